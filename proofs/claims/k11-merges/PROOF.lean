import PyProof.Rows.All
import Wide.All
import OpenK.AllK
import Wide.FinOn
import HandS.ForMost
import HandS.Flow
import HandS.IsInst
import HandS.Exc
import HandS.ExcInit
import HandS.ExcOwn
import HandS.WordsExc
import HandS.ExcIs
import HandS.ExcField
import HandS.TryMany
import HandS.CallSlots
import HandS.Defaults
import HandS.SetFor
import HandS.StrMore
import HandS.Gcd
import KE.KMathGC
import KE.KIsAll
import KE.KTryMore
import PySem.Challenge.RW_lastside_k11_merges
set_option Elab.async false
set_option linter.all false
set_option maxRecDepth 100000
set_option maxHeartbeats 4000000
namespace PySem.W
open PySem PySem.Spec PySem.Calls PyProof.Rows
section
variable {prog : Program} {w : World} {A : Around} {E : Value → Shared → Prop} {s : Shared} {K : Frag} {x D : Addr} {ox : Obj} {od : Option Obj}
theorem sy_findObj {C : Addr} {name : Str} {a g : Value} (hc : (clsIn K C).isSome = true) (ha : findIn K (.ref C) name = some (some a)) (hg : specialIn K a "__get__" = some (some g)) (ht : takesIn K a = some true) : findObj K C od name = some (.bind g a) := by
  obtain ⟨cd, hc⟩ := Option.isSome_iff_exists.mp hc
  unfold findObj
  rw [hc, Option.bind_some, ha, Option.bind_some]
  simp [hg, ht]
/-- __class__ of an own error that has its dict -/
theorem sy_classE {Q : Option Value → Shared → Prop} (hga : findIn K (.ref D) "__getattribute__" = some (some (.builtin "BaseException.__getattribute__"))) (hgt : findIn K (.ref D) "__getattr__" = some none) (hsub : subIn K (.ref D) (.type "BaseException") = some true)
    (hdct : hasDictIn K D = true) (ha : findIn K (.ref D) "__class__" = some (some (.builtin "object.__class__")))
    (hn : specialIn K (.builtin "object.__class__") "__get__" = some (some (.builtin "getset_descriptor.__get__"))) (htk : takesIn K (.builtin "object.__class__") = some true) (hm : mroIn K D (.type "object") = some true)
    (X : K.In s.heap) (I : InstAt s.heap x ox D od) (h : Q (some (.ref D)) { s with toks := s.toks + 1 }) : wpAny (model prog w) A (getAttr? (.ref x) "__class__") Q E s := by
  have hf : findObj K D od "__class__" = some (.bind (.builtin "getset_descriptor.__get__") (.builtin "object.__class__")) := sy_findObj (by obtain ⟨cd, hc, _⟩ := any_some hdct; rw [hc]; rfl) ha hn htk
  obtain ⟨hp, g, d, t, os⟩ := s
  have L0 := I.type (M := model prog w)
  have L1 := looks_findIn (M := model prog w) X hga
  have L2 := looks_findIn (M := model prog w) X hgt
  have L3 := looks_find (M := model prog w) X I hf
  have sub : Looks (model prog w) hp (isInstance (.ref x) (.type "BaseException")) true := L0.andThen (looks_subIn X hsub)
  have hx0 : (false && onTheHeap (Value.builtin "BaseException.__getattribute__")) = false := rfl
  have hx2 : (Value.builtin "BaseException.__getattribute__" == Value.builtin "object.__getattribute__") = false := by decide +kernel
  have hx1 : (onTheHeap (Value.ref D) && Value.builtin "BaseException.__getattribute__" == Value.builtin "object.__getattribute__") = false := by rw [hx2]; rfl
  unfold getAttr? getAttrBy? getAttrBy
  refine wpAny_bind (wpAny_mkText (wpAny_bind (wpAny_attempt (wpAny_holding (wpAny_bind (L0.at (wpAny_bind (L1.at ?_))))))))
  show wpAny _ _ (if (onTheHeap (Value.ref D) && Value.builtin "BaseException.__getattribute__" == Value.builtin "object.__getattribute__") = true then _ else _) _ _ _
  rw [hx1, if_neg Bool.false_ne_true]
  unfold getAttrByItsOwn hookBefore
  refine wpAny_bind ?_
  rw [if_pos (show onTheHeap (Value.ref D) = true from rfl)]
  refine L2.at ?_
  refine wpAny_bind (wpAny_attempt (wpAny_holding ?_))
  unfold callGetattribute
  rw [hx0, if_neg Bool.false_ne_true]
  unfold boundAndCalled
  rw [PySem.F.excAttr_ValueError.ga.bind (.ref x)]
  refine wpAny_bind (wpAny_pure ?_)
  show wpAny _ _ (call (.builtin "BaseException.__getattribute__") [.ref x, .str "__class__" t]) _ _ _
  refine wpAny_call (codeAny_call_builtin PySem.F.excAttr_ValueError.ga.plain PySem.F.entry_bexc_ga ?_)
  refine @check_slot (model prog w) _ _ ⟨hp, g, d, t + 1, os⟩ "BaseException.__getattribute__" "BaseException" "__getattribute__" (.ref x) [.str "__class__" t] [] _ (by decide +kernel) (by decide +kernel) sub (PySem.F.args_bexc_ga (.ref x) (.str "__class__" t)) ?_
  unfold Builtin.«object.__getattribute__»
  refine wpAny_bind (wpAny_of_eq (a := ((Value.ref x : Value), [Value.str "__class__" t])) (by first | rfl | (simp only [slotArgs]; rfl)) ?_)
  refine wpAny_bind (wpAny_pure (wpAny_bind (L0.at (wpAny_bind (L3.at ?_)))))
  show wpAny _ _ (holding [Value.builtin "object.__class__"] (call (.builtin "getset_descriptor.__get__") [.builtin "object.__class__", .ref x, .ref D]) >>= ret) _ _ _
  refine wpAny_bind (wpAny_holding (wpAny_call (class_get (s := ⟨hp, g, d, t + 1, os⟩) (ox := ox) (od := od) X I hm ?_)))
  refine wpAny_pure ?_
  show wpAny _ _ (handedOut (.ref D)) _ _ _
  rw [handedOut_of (v := .ref D) rfl]
  first
    | exact wpAny_pure (wpAny_pure h)
    | exact wpAny_pure h
    | exact wpAny_pure (wpAny_bind (wpAny_pure (wpAny_pure h)))
theorem sy_kitx (hga : findIn K (.ref D) "__getattribute__" = some (some (.builtin "BaseException.__getattribute__"))) (hgt : findIn K (.ref D) "__getattr__" = some none) (hsub : subIn K (.ref D) (.type "BaseException") = some true) (hdct : hasDictIn K D = true) (ha : findIn K (.ref D) "__class__" = some (some (.builtin "object.__class__")))
    (hn : specialIn K (.builtin "object.__class__") "__get__" = some (some (.builtin "getset_descriptor.__get__"))) (htk : takesIn K (.builtin "object.__class__") = some true) (hm : mroIn K D (.type "object") = some true) :
    KitX K (.ref x) (.ref D) (fun h => InstAt h x ox D od) where
  ty := fun _ _ _ I => I.type
  it := fun _ _ X _ => by
    obtain ⟨cdD, hcD, _⟩ := any_some hdct
    unfold clsIn at hcD
    split at hcD
    · rename_i c' d' cd' sl' ho
      intro A' Q' E' s' k q
      unfold isType loadHead
      exact wpAny_bind (wpAny_loadPart (k _ _ (X _ _ ho)) (wpAny_pure q))
    · cases hcD
  ne := fun h tp dd its n sl X htp => by
    obtain ⟨cdD, hcD, _⟩ := any_some hdct
    refine Bool.eq_false_iff.mpr fun q => ?_
    have e : D = tp := Value.ref.inj (beq_iff_eq.mp q)
    subst e
    unfold clsIn at hcD
    split at hcD
    · rename_i c' d' cd' sl' ho
      have z := (X _ _ ho).symm.trans htp
      cases z
    · cases hcD
  ca := fun X I k => sy_classE hga hgt hsub hdct ha hn htk hm X I k
end
end PySem.W
/-! A layer of our own: readings over a symbolic heap. What stands at known addresses is a written list; the rest is a frame. -/
namespace SY
open PySem L2

/-! ### the symbolic heap -/
/-- F: what stands and stays; G: the objects that are known one by one -/
structure SH where
  F : Hp
  G : List (Addr × HO)
structure Own (S : SH) (H : Hp) : Prop where
  fr : ∀ a o, S.F a = some o → H a = some o
  gs : ∀ p, p ∈ S.G → H p.1 = some p.2 ∧ S.F p.1 = none
  nd : (S.G.map (·.1)).Nodup
abbrev SH.new (S : SH) (p : Addr) (o : HO) : SH := ⟨S.F, (p, o) :: S.G⟩
abbrev SH.put (S : SH) (i : Nat) (p : Addr) (o : HO) : SH := ⟨S.F, S.G.set i (p, o)⟩
def Ext (H H' : Hp) : Prop := ∀ a o, H a = some o → H' a = some o
theorem Ext.refl (H : Hp) : Ext H H := fun _ _ h => h
theorem Ext.trans {H H1 H2 : Hp} (a : Ext H H1) (b : Ext H1 H2) : Ext H H2 := fun x o h => b x o (a x o h)
theorem Ext.new {H : Hp} {p : Addr} {o : HO} (h : H p = none) : Ext H (upd H p o) := fun a u e => by
  rw [upd_ne (ne_of_none e h)]
  exact e
theorem ext_rd {H H' : Hp} {a : Addr} {u : HO} (e : Ext H H') (h : Rd H a u) : Rd H' a u := by
  rcases h with h | ⟨o, h⟩
  · exact Or.inl (e a _ h)
  · exact Or.inr ⟨o, e a _ h⟩
theorem ext_l {K : PySem.W.Frag} {H H' : Hp} {a : Addr} {xs : List V} (e : Ext H H') (h : SqL K H a xs) : SqL K H' a xs := by
  rcases h with h | h
  · exact Or.inl (ext_rd e h)
  · exact Or.inr h
theorem ext_t {K : PySem.W.Frag} {H H' : Hp} {a : Addr} {xs : List V} (e : Ext H H') (h : SqT K H a xs) : SqT K H' a xs := by
  rcases h with h | h
  · exact Or.inl (ext_rd e h)
  · exact Or.inr h
theorem Own.ex {S : SH} {H H' : Hp} (h : Own S H) (e : Ext H H') : Own S H' := ⟨fun a o q => e a o (h.fr a o q), fun p q => ⟨e _ _ (h.gs p q).1, (h.gs p q).2⟩, h.nd⟩
theorem Own.base (H : Hp) : Own ⟨H, []⟩ H := ⟨fun _ _ q => q, fun _ q => (nomatch q), List.nodup_nil⟩
theorem Own.f_none {S : SH} {H : Hp} (h : Own S H) {p : Addr} (hp : H p = none) : S.F p = none := by
  cases e : S.F p with
  | none => rfl
  | some o => rw [h.fr p o e] at hp; cases hp
theorem Own.g_none {S : SH} {H : Hp} (h : Own S H) {p : Addr} (hp : H p = none) : p ∉ S.G.map (·.1) := fun q => by
  obtain ⟨x, hx, e⟩ := List.mem_map.mp q
  rw [← e, (h.gs x hx).1] at hp
  cases hp
/-- a new object -/
theorem Own.new {S : SH} {H H' : Hp} (h : Own S H) {p : Addr} {o : HO} (hp : H p = none) (e : Ext H H') (hp' : H' p = some o) : Own (S.new p o) H' :=
  ⟨fun a u q => e a u (h.fr a u q), fun x q => by
    cases q with
    | head => exact ⟨hp', h.f_none hp⟩
    | tail _ q => exact ⟨e _ _ (h.gs x q).1, (h.gs x q).2⟩, List.nodup_cons.mpr ⟨h.g_none hp, h.nd⟩⟩
theorem Own.newU {S : SH} {H : Hp} (h : Own S H) {p : Addr} {o : HO} (hp : H p = none) : Own (S.new p o) (upd H p o) := h.new hp (Ext.new hp) upd_same
theorem Own.g {S : SH} {H : Hp} (h : Own S H) {i : Nat} {p : Addr} {o : HO} (q : S.G[i]? = some (p, o)) : H p = some o := (h.gs (p, o) (List.mem_of_getElem? q)).1
theorem set_fst {G : List (Addr × HO)} {i : Nat} {p : Addr} {o u : HO} (q : G[i]? = some (p, o)) : (G.set i (p, u)).map (·.1) = G.map (·.1) := by
  rw [List.map_set]
  refine List.ext_getElem? fun j => ?_
  by_cases e : i = j
  · subst e
    have hi := (List.getElem?_eq_some_iff.mp q).1
    rw [List.getElem?_set_self (by simpa using hi), List.getElem?_map, q]
    rfl
  · rw [List.getElem?_set_ne e]
theorem nodup_at {α : Type} {N : List α} (hN : N.Nodup) {i j : Nat} {x : α} (a : N[i]? = some x) (b : N[j]? = some x) : i = j := by
  obtain ⟨hi, ei⟩ := List.getElem?_eq_some_iff.mp a
  obtain ⟨hj, ej⟩ := List.getElem?_eq_some_iff.mp b
  have P := List.pairwise_iff_getElem.mp hN
  rcases Nat.lt_trichotomy i j with h | h | h
  · exact absurd (ei.trans ej.symm) (P i j hi hj h)
  · exact h
  · exact absurd (ej.trans ei.symm) (P j i hj hi h)
/-- a known object becomes another -/
theorem Own.put {S : SH} {H H' : Hp} (h : Own S H) {i : Nat} {p : Addr} {o u : HO} (q : S.G[i]? = some (p, o)) (k : ∀ b x, b ≠ p → H b = some x → H' b = some x) (hp : H' p = some u) : Own (S.put i p u) H' := by
  have hf : S.F p = none := (h.gs (p, o) (List.mem_of_getElem? q)).2
  have nd := h.nd
  refine ⟨fun a x e => k a x (fun z => by rw [z, hf] at e; cases e) (h.fr a x e), fun x hx => ?_, by rw [set_fst q]; exact nd⟩
  obtain ⟨j, hj, ej⟩ := List.mem_iff_getElem.mp hx
  by_cases e : i = j
  · subst e
    have ex : x = (p, u) := by rw [← ej, List.getElem_set_self]
    subst ex
    exact ⟨hp, hf⟩
  · have hj' : j < S.G.length := by rw [List.length_set] at hj; exact hj
    rw [List.getElem_set_ne e] at ej
    have hm : x ∈ S.G := by rw [← ej]; exact List.getElem_mem hj'
    have hne : x.1 ≠ p := fun z => by
      have hi := (List.getElem?_eq_some_iff.mp q).1
      have h1 : (S.G.map (·.1))[i]? = some p := by rw [List.getElem?_map, q]; rfl
      have h2 : (S.G.map (·.1))[j]? = some p := by rw [List.getElem?_map, List.getElem?_eq_getElem hj', ej]; exact congrArg some z
      exact e (nodup_at nd h1 h2)
    exact ⟨k _ _ hne (h.gs x hm).1, (h.gs x hm).2⟩
theorem Own.putU {S : SH} {H : Hp} (h : Own S H) {i : Nat} {p : Addr} {o u : HO} (q : S.G[i]? = some (p, o)) : Own (S.put i p u) (upd H p u) :=
  h.put q (fun b x hb e => by rw [upd_ne hb]; exact e) upd_same
/-- everything that is not at a is the frame -/
def without (H : Hp) (p : Addr) : Hp := fun b => if b = p then none else H b
theorem without_ne {H : Hp} {p b : Addr} (h : b ≠ p) : without H p b = H b := if_neg h
theorem without_same {H : Hp} {p : Addr} : without H p p = none := if_pos rfl
theorem Own.only {H : Hp} {p : Addr} {o : HO} (h : H p = some o) : Own ⟨without H p, [(p, o)]⟩ H := by
  refine ⟨fun a x e => ?_, fun x q => ?_, by simp⟩
  · by_cases ha : a = p
    · subst ha
      have e' : without H a a = some x := e
      rw [without_same] at e'
      cases e'
    · have e' : without H p a = some x := e
      rw [without_ne ha] at e'
      exact e'
  · have e : x = (p, o) := List.mem_singleton.mp q
    subst e
    exact ⟨h, without_same⟩

mutual
theorem dp_ext {K : PySem.W.Frag} {H H' : Hp} (e : Ext H H') : ∀ (d : PyData) (v : V), Dp K H v d → Dp K H' v d
  | .none, _, h => by cases h; exact .non
  | .bool b, _, h => by cases h; exact .bl b
  | .int i, _, h => by cases h; exact .int i
  | .str x, _, h => by cases h; exact .str x
  | .list ds, _, h => by
    cases h with
    | lst h1 h2 => exact .lst (ext_l e h1) (dpAll_ext e ds _ h2)
  | .tuple ds, _, h => by
    cases h with
    | tup h1 h2 => exact .tup (ext_t e h1) (dpAll_ext e ds _ h2)
  | .dict _, _, h => by cases h
theorem dpAll_ext {K : PySem.W.Frag} {H H' : Hp} (e : Ext H H') : ∀ (ds : List PyData) (vs : List V), DpAll K H vs ds → DpAll K H' vs ds
  | [], _, h => by cases h; exact .nil
  | d :: ds, _, h => by
    cases h with
    | cons h1 h2 => exact .cons (dp_ext e d _ h1) (dpAll_ext e ds _ h2)
end
/-- a list (tuple) that may be read -/
def sL (K : PySem.W.Frag) (S : SH) (a : Addr) (xs : List V) : Prop := (∃ i : Nat, S.G[i]? = some (a, .lst xs)) ∨ SqL K S.F a xs
def sU (K : PySem.W.Frag) (S : SH) (a : Addr) (xs : List V) : Prop := (∃ i : Nat, S.G[i]? = some (a, .tup xs)) ∨ SqT K S.F a xs
/-- what stands at a -/
def At (S : SH) (a : Addr) (o : HO) : Prop := (∃ i : Nat, S.G[i]? = some (a, o)) ∨ S.F a = some o
theorem rd_own {S : SH} {H : Hp} (h : Own S H) {a : Addr} {u : HO} (r : Rd S.F a u) : Rd H a u := by
  rcases r with r | ⟨o, r⟩
  · exact .inl (h.fr a _ r)
  · exact .inr ⟨o, h.fr a _ r⟩
theorem Own.l {K : PySem.W.Frag} {S : SH} {H : Hp} (h : Own S H) {a : Addr} {xs : List V} (q : sL K S a xs) : SqL K H a xs := by
  rcases q with ⟨i, q⟩ | q | q
  · exact .inl (.inl (h.g q))
  · exact .inl (rd_own h q)
  · exact .inr q
theorem Own.u {K : PySem.W.Frag} {S : SH} {H : Hp} (h : Own S H) {a : Addr} {xs : List V} (q : sU K S a xs) : SqT K H a xs := by
  rcases q with ⟨i, q⟩ | q | q
  · exact .inl (.inl (h.g q))
  · exact .inl (rd_own h q)
  · exact .inr q
theorem Own.at {S : SH} {H : Hp} (h : Own S H) {a : Addr} {o : HO} (q : At S a o) : H a = some o := by
  rcases q with ⟨i, q⟩ | q
  · exact h.g q
  · exact h.fr a o q

/-! ### readings -/
/-- the wish of exceptions -/
abbrev sWX := Value → Option Addr → St → SH → Prop
abbrev sE := sWX → St → SH → (V → SH → Prop) → Prop
abbrev sT := sWX → St → SH → (Bool → SH → Prop) → Prop
abbrev sA := sWX → St → SH → (List V → SH → Prop) → Prop
abbrev s2 := V → V → SH → (V → SH → Prop) → Prop
abbrev s1 := V → SH → (V → SH → Prop) → Prop
abbrev sN := List V → SH → (V → SH → Prop) → Prop
/-- Q' over the symbolic heap gives Q -/
def Imp {α : Type} (Q' : α → SH → Prop) (Q : α → Hp → Prop) : Prop := ∀ v S H, Own S H → Q' v S → Q v H
def ImpW (W' : sWX) (W : WX) : Prop := ∀ c d σ S H, Own S H → W' c d σ S → W c d σ H
def dE (W : WX) (t : sE) : TE := fun σ H Q => ∃ S Q' W', ImpW W' W ∧ Own S H ∧ t W' σ S Q' ∧ Imp Q' Q
def dT (W : WX) (t : sT) : TT := fun σ H Q => ∃ S Q' W', ImpW W' W ∧ Own S H ∧ t W' σ S Q' ∧ Imp Q' Q
def dA (W : WX) (t : sA) : TA := fun σ H Q => ∃ S Q' W', ImpW W' W ∧ Own S H ∧ t W' σ S Q' ∧ Imp Q' Q
theorem imp_self {α : Type} {Q' : α → SH → Prop} : Imp Q' (fun v H => ∃ S, Own S H ∧ Q' v S) := fun v S H o q => ⟨S, o, q⟩
structure sEnds where
  nx : St → SH → Prop
  rt : V → SH → Prop
  bk : St → SH → Prop := fun _ _ => False
  ct : St → SH → Prop := fun _ _ => False
  ex : sWX := fun _ _ _ _ => False
abbrev sS := sEnds → St → SH → Prop
structure EImp (W : WX) (D' : sEnds) (D : Ends) : Prop where
  nx : Imp D'.nx D.nx
  rt : Imp D'.rt D.rt
  bk : Imp D'.bk D.bk
  ct : Imp D'.ct D.ct
  ex : ImpW D'.ex W
def dS (W : WX) (t : sS) : TS := fun D σ H => ∃ S D', Own S H ∧ t D' σ S ∧ EImp W D' D
theorem imp_no {α : Type} {Q : α → Hp → Prop} : Imp (fun _ _ => False) Q := fun _ _ _ _ q => q.elim

section
variable {X : Cx} {W : WX}
theorem PE.by {e : Expr} {t t' : TE} (h : PE X e t) (k : ∀ σ H Q, t' σ H Q → t σ H Q) : PE X e t' := ⟨fun pins s σ H Q I q => h.run pins s σ H Q I (k σ H Q q)⟩
theorem PT.by {e : Expr} {t t' : TT} (h : PT X e t) (k : ∀ σ H Q, t' σ H Q → t σ H Q) : PT X e t' := ⟨fun pins s σ H Q I q => h.run pins s σ H Q I (k σ H Q q)⟩
theorem PW.by {e : Expr} {t t' : TT} (h : PW X e t) (k : ∀ σ H Q, t' σ H Q → t σ H Q) : PW X e t' := ⟨fun wh pins s σ H Q I q => h.run wh pins s σ H Q I (k σ H Q q)⟩
theorem PA.by {e : List Expr} {t t' : TA} (h : PA X e t) (k : ∀ σ H Q, t' σ H Q → t σ H Q) : PA X e t' := ⟨fun pos pins s σ H Q I q => h.run pos pins s σ H Q I (k σ H Q q)⟩
theorem PK.by {e : List Keyword} {t t' : TA} (h : PK X e t) (k : ∀ σ H Q, t' σ H Q → t σ H Q) : PK X e t' := ⟨fun pos pins s σ H Q I q => h.run pos pins s σ H Q I (k σ H Q q)⟩
theorem PS.by {e : Stmt} {t t' : TS} (h : PS X e t) (k : ∀ D σ H, t' D σ H → t D σ H) : PS X e t' := ⟨fun pins s σ H Q I q => h.run pins s σ H Q I (k _ _ _ q)⟩
theorem PSs.by {e : List Stmt} {t t' : TS} (h : PSs X e t) (k : ∀ D σ H, t' D σ H → t D σ H) : PSs X e t' := ⟨fun pins s σ H Q I q => h.run pins s σ H Q I (k _ _ _ q)⟩

/-! ### names and constants -/
def sVar (i : Nat) : sE := fun _ σ S Q => match σ[i]? with
  | some (some v) => Q v S
  | _ => False
def sC (v : V) : sE := fun _ _ S Q => Q v S
theorem gVar {i : Nat} {x : Str} {pos : Pos} (hN : X.N[i]? = some x) (hv : Vis X.env.scope x) (hd : (x == ("__debug__" : Str)) = false := by decide) (hcd : (x == ("__classdict__" : Str)) = false := by decide) : PE X (.Name x pos) (dE W (sVar i)) :=
  PE.by (pe_var hN hv hd hcd) fun σ H Q ⟨S, Q', W', kw, o, h, k⟩ => by
    unfold sVar at h
    unfold tVar
    split at h
    · rename_i v e
      exact ⟨v, e, k v S H o h⟩
    · exact h.elim
theorem gC_of {e : Expr} {v : V} (h : PE X e (tC v)) : PE X e (dE W (sC v)) := PE.by h fun σ H Q ⟨S, Q', W', kw, o, h, k⟩ => k v S H o h
theorem gInt {i j pos} : PE X (.Constant (.int i) j pos) (dE W (sC (.int i))) := gC_of pe_int
theorem gBl {b j pos} : PE X (.Constant (.bool b) j pos) (dE W (sC (.bl b))) := gC_of pe_bl
theorem gNon {j pos} : PE X (.Constant .none j pos) (dE W (sC .non)) := gC_of pe_non
theorem gStr {x j pos} : PE X (.Constant (.str x) j pos) (dE W (sC (.str x))) := gC_of pe_str

/-! ### operators -/
def sOp (r : s2) (ta tb : sE) : sE := fun W σ S Q => ta W σ S fun x S1 => tb W σ S1 fun y S2 => r x y S2 Q
def Lift2 (r : s2) (R : R2) : Prop := ∀ x y S Q' H Q, Own S H → r x y S Q' → Imp Q' Q → R x y H Q
theorem lift_op {r : s2} {R : R2} (l : Lift2 r R) {ta tb : sE} : ∀ σ H Q, dE W (sOp r ta tb) σ H Q → tOp R (dE W ta) (dE W tb) σ H Q := fun σ H Q ⟨S, Q', W', kw, o, h, k⟩ =>
  ⟨S, _, W', kw, o, h, fun x S1 H1 o1 h1 => ⟨S1, _, W', kw, o1, h1, fun y S2 H2 o2 h2 => l x y S2 Q' H2 Q o2 h2 k⟩⟩
variable {a b c : Expr} {ta tb tc : sE} {pos : Pos}
theorem gOp {op : Operator} {r : s2} {R : R2} (ho : OpR X (binaryOp op) R) (l : Lift2 r R) (ha : PE X a (dE W ta)) (hb : PE X b (dE W tb)) : PE X (.BinOp a op b pos) (dE W (sOp r ta tb)) :=
  PE.by (pe_op ho ha hb) (lift_op l)
theorem gCmp {op : CmpOp} {r : s2} {R : R2} (ho : OpR X (compareOp op) R) (l : Lift2 r R) (ha : PE X a (dE W ta)) (hb : PE X b (dE W tb)) (hm : behindInMarks op b = false) : PE X (.Compare a [op] [b] pos) (dE W (sOp r ta tb)) :=
  PE.by (pe_cmpR ho ha hb hm) (lift_op l)
def s1Op (r : s1) (ta : sE) : sE := fun W σ S Q => ta W σ S fun x S1 => r x S1 Q
def Lift1 (r : s1) (R : V → Hp → VK → Prop) : Prop := ∀ x S Q' H Q, Own S H → r x S Q' → Imp Q' Q → R x H Q
theorem gUn {op : UnaryOp} {r : s1} {R : V → Hp → VK → Prop} (ho : UnR X (unaryOp op) R) (l : Lift1 r R) (ha : PE X a (dE W ta)) : PE X (.UnaryOp op a pos) (dE W (s1Op r ta)) :=
  PE.by (pe_un ho ha) fun σ H Q ⟨S, Q', W', kw, o, h, k⟩ => ⟨S, _, W', kw, o, h, fun x S1 H1 o1 h1 => l x S1 Q' H1 Q o1 h1 k⟩

/-- + -/
def oAdd : s2 := fun x y S Q => match x, y with
  | .int i, .int j => Q (.int (i + j)) S
  | .str u, .str v => u.length + v.length ≤ sizeLine ∧ Q (.str (u ++ v)) S
  | .ref p, .ref q => ∃ xs ys, At S p (.lst xs) ∧ At S q (.lst ys) ∧ xs.length + ys.length ≤ sizeLine ∧ ∀ r, Q (.ref r) (S.new r (.lst (xs ++ ys)))
  | _, _ => False
theorem lAdd : Lift2 oAdd (fun x y H Q => (rI0 fun i j => .int (i + j)) x y H Q ∨ ((fun x y H Q => ∃ i j, x = .str i ∧ y = .str j ∧ i.length + j.length ≤ sizeLine ∧ Q (.str (i ++ j)) H) x y H Q ∨ rCat x y H Q)) := by
  intro x y S Q' H Q o h k
  unfold oAdd at h
  split at h
  · exact .inl ⟨_, _, rfl, rfl, k _ _ _ o h⟩
  · exact .inr (.inl ⟨_, _, rfl, rfl, h.1, k _ _ _ o h.2⟩)
  · obtain ⟨xs, ys, h1, h2, h3, h4⟩ := h
    exact .inr (.inr ⟨_, _, xs, ys, rfl, rfl, o.at h1, o.at h2, h3, fun p hp => k _ _ _ (o.newU hp) (h4 p)⟩)
  · exact h.elim
theorem gAdd (ha : PE X a (dE W ta)) (hb : PE X b (dE W tb)) : PE X (.BinOp a .Add b pos) (dE W (sOp oAdd ta tb)) := gOp (OpR.or op_add (OpR.or op_add_str op_cat)) lAdd ha hb
def oSub : s2 := fun x y S Q => match x, y with
  | .int i, .int j => Q (.int (i - j)) S
  | _, _ => False
theorem lSub : Lift2 oSub (rI0 fun i j => .int (i - j)) := by
  intro x y S Q' H Q o h k
  unfold oSub at h
  split at h
  · exact ⟨_, _, rfl, rfl, k _ _ _ o h⟩
  · exact h.elim
theorem gSub (ha : PE X a (dE W ta)) (hb : PE X b (dE W tb)) : PE X (.BinOp a .Sub b pos) (dE W (sOp oSub ta tb)) := gOp op_sub lSub ha hb
def sm64 (i : Int) : Prop := -(2 ^ 64) < i ∧ i < 2 ^ 64
def oMul : s2 := fun x y S Q => match x, y with
  | .int i, .int j => (sm64 i ∨ sm64 j) ∧ Q (.int (i * j)) S
  | .ref p, .int k => ∃ xs, At S p (.lst xs) ∧ (-(2 ^ 63) ≤ k ∧ k < 2 ^ 63) ∧ xs.length * k.toNat ≤ sizeLine ∧ ∀ r, Q (.ref r) (S.new r (.lst (List.replicate k.toNat xs).flatten))
  | _, _ => False
theorem lMul : Lift2 oMul (fun x y H Q => (rI CMul fun i j => .int (i * j)) x y H Q ∨ rRep x y H Q) := by
  intro x y S Q' H Q o h k
  unfold oMul at h
  split at h
  · exact .inl ⟨_, _, rfl, rfl, h.1, k _ _ _ o h.2⟩
  · obtain ⟨xs, h1, h2, h3, h4⟩ := h
    exact .inr ⟨_, _, xs, rfl, rfl, o.at h1, h2.1, h2.2, h3, fun p hp => k _ _ _ (o.newU hp) (h4 p)⟩
  · exact h.elim
theorem gMul (ha : PE X a (dE W ta)) (hb : PE X b (dE W tb)) : PE X (.BinOp a .Mult b pos) (dE W (sOp oMul ta tb)) := gOp (OpR.or op_mul op_rep) lMul ha hb
/-- an operator of two ints -/
def oI (C : Int → Int → Prop) (g : Int → Int → V) : s2 := fun x y S Q => match x, y with
  | .int i, .int j => C i j ∧ Q (g i j) S
  | _, _ => False
theorem lI {C : Int → Int → Prop} {g : Int → Int → V} : Lift2 (oI C g) (rI C g) := by
  intro x y S Q' H Q o h k
  unfold oI at h
  split at h
  · exact ⟨_, _, rfl, rfl, h.1, k _ _ _ o h.2⟩
  · exact h.elim
def oFdv : s2 := oI CDiv fun i j => .int (i / j)
def oMod : s2 := oI (fun _ j => 0 < j) fun i j => .int (i % j)
def oPow : s2 := oI CPow fun i j => .int (i ^ j.toNat)
theorem gFdv (ha : PE X a (dE W ta)) (hb : PE X b (dE W tb)) : PE X (.BinOp a .FloorDiv b pos) (dE W (sOp oFdv ta tb)) := gOp op_fdiv lI ha hb
theorem gMod (ha : PE X a (dE W ta)) (hb : PE X b (dE W tb)) : PE X (.BinOp a .Mod b pos) (dE W (sOp oMod ta tb)) := gOp op_mod lI ha hb
theorem gPow (ha : PE X a (dE W ta)) (hb : PE X b (dE W tb)) : PE X (.BinOp a .Pow b pos) (dE W (sOp oPow ta tb)) := gOp op_pow lI ha hb
def oNeg : s1 := fun x S Q => match x with
  | .int i => Q (.int (-i)) S
  | _ => False
theorem lNeg : Lift1 oNeg (rU fun i => .int (-i)) := by
  intro x S Q' H Q o h k
  unfold oNeg at h
  split at h
  · exact ⟨_, rfl, k _ _ _ o h⟩
  · exact h.elim
theorem gNeg (ha : PE X a (dE W ta)) : PE X (.UnaryOp .USub a pos) (dE W (s1Op oNeg ta)) := gUn un_neg lNeg ha

/-! ### comparisons -/
/-- data that stands: by any heap -/
def sD (K : PySem.W.Frag) (S : SH) (x : V) (d : PyData) : Prop := ∀ H, Own S H → Dp K H x d
def isRef : V → Bool
  | .ref _ => true
  | _ => false
def oEq (K : PySem.W.Frag) : s2 := fun x y S Q => if scal x y then Q (.bl (decide (x = y))) S else
  ∃ d e, sD K S x d ∧ sD K S y e ∧ SeqAt.shaped d = true ∧ SeqAt.shaped e = true ∧ Q (.bl (PyData.eqv d e)) S
def oNe (K : PySem.W.Frag) : s2 := fun x y S Q => if scal x y then Q (.bl (!decide (x = y))) S else
  ∃ d e, sD K S x d ∧ sD K S y e ∧ SeqAt.shaped d = true ∧ SeqAt.shaped e = true ∧ Q (.bl (!PyData.eqv d e)) S
theorem lEq {K : PySem.W.Frag} : Lift2 (oEq K) (fun x y H Q => rEq x y H Q ∨ rEqD K x y H Q) := by
  intro x y S Q' H Q o h k
  unfold oEq at h
  split at h
  · rename_i e
    exact .inl ⟨e, k _ _ _ o h⟩
  · obtain ⟨d, e, h1, h2, h3, h4, h5⟩ := h
    exact .inr ⟨d, e, h1 H o, h2 H o, h3, h4, k _ _ _ o h5⟩
theorem lNe {K : PySem.W.Frag} : Lift2 (oNe K) (fun x y H Q => rNe x y H Q ∨ rNeD K x y H Q) := by
  intro x y S Q' H Q o h k
  unfold oNe at h
  split at h
  · rename_i e
    exact .inl ⟨e, k _ _ _ o h⟩
  · obtain ⟨d, e, h1, h2, h3, h4, h5⟩ := h
    exact .inr ⟨d, e, h1 H o, h2 H o, h3, h4, k _ _ _ o h5⟩
theorem gEq (hu : X.A.units + 64 < cLine) (ha : PE X a (dE W ta)) (hb : PE X b (dE W tb)) : PE X (.Compare a [.Eq] [b] pos) (dE W (sOp (oEq X.K) ta tb)) := gCmp (OpR.or op_eq (op_eqD hu)) lEq ha hb (nomark _)
theorem gNe (hu : X.A.units + 64 < cLine) (ha : PE X a (dE W ta)) (hb : PE X b (dE W tb)) : PE X (.Compare a [.NotEq] [b] pos) (dE W (sOp (oNe X.K) ta tb)) := gCmp (OpR.or op_ne (op_neD hu)) lNe ha hb (nomark _)
/-- an order: of ints, of texts -/
def oOrd (f : Int → Int → Bool) (g : Str → Str → Bool) : s2 := fun x y S Q => match x, y with
  | .int i, .int j => Q (.bl (f i j)) S
  | .str i, .str j => Q (.bl (g i j)) S
  | _, _ => False
theorem lOrd {f : Int → Int → Bool} {g : Str → Str → Bool} : Lift2 (oOrd f g) (fun x y H Q => (rI0 fun i j => .bl (f i j)) x y H Q ∨ (fun x y H Q => ∃ i j, x = .str i ∧ y = .str j ∧ Q (.bl (g i j)) H) x y H Q) := by
  intro x y S Q' H Q o h k
  unfold oOrd at h
  split at h
  · exact .inl ⟨_, _, rfl, rfl, k _ _ _ o h⟩
  · exact .inr ⟨_, _, rfl, rfl, k _ _ _ o h⟩
  · exact h.elim
def oLt : s2 := oOrd (fun i j => decide (i < j)) (fun i j => decide (i.cps.toList < j.cps.toList))
def oLe : s2 := oOrd (fun i j => decide (i ≤ j)) (fun i j => !decide (j.cps.toList < i.cps.toList))
def oGt : s2 := oOrd (fun i j => decide (j < i)) (fun i j => decide (j.cps.toList < i.cps.toList))
def oGe : s2 := oOrd (fun i j => decide (j ≤ i)) (fun i j => !decide (i.cps.toList < j.cps.toList))
theorem gLt (ha : PE X a (dE W ta)) (hb : PE X b (dE W tb)) : PE X (.Compare a [.Lt] [b] pos) (dE W (sOp oLt ta tb)) := gCmp (OpR.or op_lt op_lt_str) lOrd ha hb (nomark _)
theorem gLe (ha : PE X a (dE W ta)) (hb : PE X b (dE W tb)) : PE X (.Compare a [.LtE] [b] pos) (dE W (sOp oLe ta tb)) := gCmp (OpR.or op_le op_le_str) lOrd ha hb (nomark _)
theorem gGt (ha : PE X a (dE W ta)) (hb : PE X b (dE W tb)) : PE X (.Compare a [.Gt] [b] pos) (dE W (sOp oGt ta tb)) := gCmp (OpR.or op_gt op_gt_str) lOrd ha hb (nomark _)
theorem gGe (ha : PE X a (dE W ta)) (hb : PE X b (dE W tb)) : PE X (.Compare a [.GtE] [b] pos) (dE W (sOp oGe ta tb)) := gCmp (OpR.or op_ge op_ge_str) lOrd ha hb (nomark _)
/-- is None, is not None -/
def oIsN : s2 := fun x y S Q => match y with
  | .non => Q (.bl (decide (x = .non))) S
  | _ => False
def oNotN : s2 := fun x y S Q => match y with
  | .non => Q (.bl (!decide (x = .non))) S
  | _ => False
theorem lIsN : Lift2 oIsN (fun x y H Q => y = .non ∧ Q (.bl (decide (x = .non))) H) := by
  intro x y S Q' H Q o h k
  unfold oIsN at h
  split at h
  · exact ⟨rfl, k _ _ _ o h⟩
  · exact h.elim
theorem lNotN : Lift2 oNotN (fun x y H Q => y = .non ∧ Q (.bl (!decide (x = .non))) H) := by
  intro x y S Q' H Q o h k
  unfold oNotN at h
  split at h
  · exact ⟨rfl, k _ _ _ o h⟩
  · exact h.elim
theorem gIsN (ha : PE X a (dE W ta)) (hb : PE X b (dE W tb)) : PE X (.Compare a [.Is] [b] pos) (dE W (sOp oIsN ta tb)) := gCmp op_isN lIsN ha hb (nomark _)
theorem gNotN (ha : PE X a (dE W ta)) (hb : PE X b (dE W tb)) : PE X (.Compare a [.IsNot] [b] pos) (dE W (sOp oNotN ta tb)) := gCmp op_notN lNotN ha hb (nomark _)
/-- in, not in: a text in a text; a flat thing in a list, a tuple of flat things -/
def oIn (K : PySem.W.Frag) (neg : Bool) : s2 := fun x y S Q => match y with
  | .str j => match x with
    | .str i => Q (.bl (if neg then !(!(Builtin.Str.occurrences j i 0 j.length 1).isEmpty) else !(Builtin.Str.occurrences j i 0 j.length 1).isEmpty)) S
    | _ => False
  | .ref p => ∃ xs, (sL K S p xs ∨ sU K S p xs) ∧ flatV x = true ∧ xs.all flatV = true ∧ Q (.bl (if neg then !inV x xs else inV x xs)) S
  | _ => False
theorem lIn {K : PySem.W.Frag} : Lift2 (oIn K false) (fun x y H Q => (fun x y H Q => ∃ i j, x = .str i ∧ y = .str j ∧ Q (.bl (!(Builtin.Str.occurrences j i 0 j.length 1).isEmpty)) H) x y H Q ∨ rIn K false x y H Q) := by
  intro x y S Q' H Q o h k
  unfold oIn at h
  split at h
  · split at h
    · exact .inl ⟨_, _, rfl, rfl, k _ _ _ o h⟩
    · exact h.elim
  · obtain ⟨xs, h1, h2, h3, h4⟩ := h
    exact .inr ⟨_, xs, rfl, h1.elim (fun z => .inl (o.l z)) (fun z => .inr (o.u z)), h2, h3, k _ _ _ o h4⟩
  · exact h.elim
theorem lNotIn {K : PySem.W.Frag} : Lift2 (oIn K true) (fun x y H Q => (fun x y H Q => ∃ i j, x = .str i ∧ y = .str j ∧ Q (.bl (!(!(Builtin.Str.occurrences j i 0 j.length 1).isEmpty))) H) x y H Q ∨ rIn K true x y H Q) := by
  intro x y S Q' H Q o h k
  unfold oIn at h
  split at h
  · split at h
    · exact .inl ⟨_, _, rfl, rfl, k _ _ _ o h⟩
    · exact h.elim
  · obtain ⟨xs, h1, h2, h3, h4⟩ := h
    exact .inr ⟨_, xs, rfl, h1.elim (fun z => .inl (o.l z)) (fun z => .inr (o.u z)), h2, h3, k _ _ _ o h4⟩
  · exact h.elim
theorem gIn (ha : PE X a (dE W ta)) (hb : PE X b (dE W tb)) (hm : behindInMarks .In b = false) : PE X (.Compare a [.In] [b] pos) (dE W (sOp (oIn X.K false) ta tb)) := gCmp (OpR.or op_in_str op_in_seq) lIn ha hb hm
theorem gNotIn (ha : PE X a (dE W ta)) (hb : PE X b (dE W tb)) (hm : behindInMarks .NotIn b = false) : PE X (.Compare a [.NotIn] [b] pos) (dE W (sOp (oIn X.K true) ta tb)) := gCmp (OpR.or op_notin_str op_notIn_seq) lNotIn ha hb hm
/-- a < b < c -/
def sChain (r r' : s2) (ta tb tc : sE) : sE := fun W σ S Q => ta W σ S fun x S1 => tb W σ S1 fun y S2 => r x y S2 fun z S3 => match z with
  | .bl true => tc W σ S3 fun w S4 => r' y w S4 Q
  | .bl false => Q (.bl false) S3
  | _ => False
theorem gChain {op op' : CmpOp} {r r' : s2} {R R' : R2} (ho : OpR X (compareOp op) R) (ho' : OpR X (compareOp op') R') (l : Lift2 r R) (l' : Lift2 r' R') (ha : PE X a (dE W ta)) (hb : PE X b (dE W tb)) (hc : PE X c (dE W tc))
    (hm : lastMarks [op, op'] [b, c] = false := by with_unfolding_all rfl) : PE X (.Compare a [op, op'] [b, c] pos) (dE W (sChain r r' ta tb tc)) :=
  PE.by (pe_chain ho ho' ha hb hc hm) fun σ H Q ⟨S, Q', W', kw, o, h, k⟩ => ⟨S, _, W', kw, o, h, fun x S1 H1 o1 h1 => ⟨S1, _, W', kw, o1, h1, fun y S2 H2 o2 h2 => l x y S2 _ H2 _ o2 h2 fun z S3 H3 o3 h3 => by
    split at h3
    · refine ⟨true, rfl, ?_⟩
      rw [if_pos rfl]
      exact ⟨S3, _, W', kw, o3, h3, fun w S4 H4 o4 h4 => l' y w S4 Q' H4 Q o4 h4 k⟩
    · refine ⟨false, rfl, ?_⟩
      rw [if_neg Bool.false_ne_true]
      exact k _ _ _ o3 h3
    · exact h3.elim⟩⟩

/-! ### tests -/
def sTst (t : sE) : sT := fun W σ S Q => t W σ S fun x S1 => match x with
  | .bl b => Q b S1
  | _ => False
theorem gTst {e : Expr} {t : sE} (h : PE X e (dE W t)) (he : ∀ whole, isTrue e X.env whole = (do let v ← whole; standAt e.pos; holding [v] (truthy v)) := by intro _; rfl) : PT X e (dT W (sTst t)) :=
  PT.by (pt_val h he) fun σ H Q ⟨S, Q', W', kw, o, h, k⟩ => ⟨S, _, W', kw, o, h, fun x S1 H1 o1 h1 => by
    split at h1
    · exact ⟨_, rfl, k _ _ _ o1 h1⟩
    · exact h1.elim⟩
theorem gTcmp {op : CmpOp} {r : s2} {R : R2} (ho : OpR X (compareOp op) R) (l : Lift2 r R) (ha : PE X a (dE W ta)) (hb : PE X b (dE W tb)) (hm : behindInMarks op b = false) : PT X (.Compare a [op] [b] pos) (dT W (sTst (sOp r ta tb))) :=
  PT.by (pt_cmpR ho ha hb hm) fun σ H Q ⟨S, Q', W', kw, o, h, k⟩ => ⟨S, _, W', kw, o, h, fun x S1 H1 o1 h1 => ⟨S1, _, W', kw, o1, h1, fun y S2 H2 o2 h2 => l x y S2 _ H2 _ o2 h2 fun z S3 H3 o3 h3 => by
    split at h3
    · exact ⟨_, rfl, k _ _ _ o3 h3⟩
    · exact h3.elim⟩⟩
theorem gTchain {op op' : CmpOp} {r r' : s2} {R R' : R2} (ho : OpR X (compareOp op) R) (ho' : OpR X (compareOp op') R') (l : Lift2 r R) (l' : Lift2 r' R') (ha : PE X a (dE W ta)) (hb : PE X b (dE W tb)) (hc : PE X c (dE W tc))
    (hm : lastMarks [op, op'] [b, c] = false := by with_unfolding_all rfl) : PT X (.Compare a [op, op'] [b, c] pos) (dT W (sTst (sChain r r' ta tb tc))) :=
  PT.by (pt_chain ho ho' ha hb hc hm) fun σ H Q ⟨S, Q', W', kw, o, h, k⟩ => ⟨S, _, W', kw, o, h, fun x S1 H1 o1 h1 => ⟨S1, _, W', kw, o1, h1, fun y S2 H2 o2 h2 => l x y S2 _ H2 _ o2 h2 fun z S3 H3 o3 h3 => by
    split at h3
    · refine ⟨true, rfl, ?_⟩
      rw [if_pos rfl]
      exact ⟨S3, _, W', kw, o3, h3, fun w S4 H4 o4 h4 => l' y w S4 _ H4 _ o4 h4 fun z' S5 H5 o5 h5 => by
        split at h5
        · exact ⟨_, rfl, k _ _ _ o5 h5⟩
        · exact h5.elim⟩
    · refine ⟨false, rfl, ?_⟩
      rw [if_neg Bool.false_ne_true]
      exact ⟨false, rfl, k _ _ _ o3 h3⟩
    · exact h3.elim⟩⟩
theorem gTEq (hu : X.A.units + 64 < cLine) (ha : PE X a (dE W ta)) (hb : PE X b (dE W tb)) : PT X (.Compare a [.Eq] [b] pos) (dT W (sTst (sOp (oEq X.K) ta tb))) := gTcmp (OpR.or op_eq (op_eqD hu)) lEq ha hb (nomark _)
theorem gTNe (hu : X.A.units + 64 < cLine) (ha : PE X a (dE W ta)) (hb : PE X b (dE W tb)) : PT X (.Compare a [.NotEq] [b] pos) (dT W (sTst (sOp (oNe X.K) ta tb))) := gTcmp (OpR.or op_ne (op_neD hu)) lNe ha hb (nomark _)
theorem gTLt (ha : PE X a (dE W ta)) (hb : PE X b (dE W tb)) : PT X (.Compare a [.Lt] [b] pos) (dT W (sTst (sOp oLt ta tb))) := gTcmp (OpR.or op_lt op_lt_str) lOrd ha hb (nomark _)
theorem gTLe (ha : PE X a (dE W ta)) (hb : PE X b (dE W tb)) : PT X (.Compare a [.LtE] [b] pos) (dT W (sTst (sOp oLe ta tb))) := gTcmp (OpR.or op_le op_le_str) lOrd ha hb (nomark _)
theorem gTGt (ha : PE X a (dE W ta)) (hb : PE X b (dE W tb)) : PT X (.Compare a [.Gt] [b] pos) (dT W (sTst (sOp oGt ta tb))) := gTcmp (OpR.or op_gt op_gt_str) lOrd ha hb (nomark _)
theorem gTGe (ha : PE X a (dE W ta)) (hb : PE X b (dE W tb)) : PT X (.Compare a [.GtE] [b] pos) (dT W (sTst (sOp oGe ta tb))) := gTcmp (OpR.or op_ge op_ge_str) lOrd ha hb (nomark _)
theorem gTIsN (ha : PE X a (dE W ta)) (hb : PE X b (dE W tb)) : PT X (.Compare a [.Is] [b] pos) (dT W (sTst (sOp oIsN ta tb))) := gTcmp op_isN lIsN ha hb (nomark _)
theorem gTNotN (ha : PE X a (dE W ta)) (hb : PE X b (dE W tb)) : PT X (.Compare a [.IsNot] [b] pos) (dT W (sTst (sOp oNotN ta tb))) := gTcmp op_notN lNotN ha hb (nomark _)
theorem gTIn (ha : PE X a (dE W ta)) (hb : PE X b (dE W tb)) (hm : behindInMarks .In b = false) : PT X (.Compare a [.In] [b] pos) (dT W (sTst (sOp (oIn X.K false) ta tb))) := gTcmp (OpR.or op_in_str op_in_seq) lIn ha hb hm
theorem gTNotIn (ha : PE X a (dE W ta)) (hb : PE X b (dE W tb)) (hm : behindInMarks .NotIn b = false) : PT X (.Compare a [.NotIn] [b] pos) (dT W (sTst (sOp (oIn X.K true) ta tb))) := gTcmp (OpR.or op_notin_str op_notIn_seq) lNotIn ha hb hm
/-- truth of any value -/
def oTru (K : PySem.W.Frag) (x : V) (S : SH) (Q : Bool → SH → Prop) : Prop := match x with
  | .non => Q false S
  | .bl b => Q b S
  | .int i => Q (i != 0) S
  | .str y => y.length ≤ sizeLine ∧ Q ((y.length : Int) != 0) S
  | .ref p => (∃ xs, sL K S p xs ∧ Q (!xs.isEmpty) S) ∨ (∃ xs, sU K S p xs ∧ Q (!xs.isEmpty) S) ∨ ∃ kvs, At S p (.dK kvs) ∧ Q (!kvs.isEmpty) S
  | _ => False
theorem lTru {K : PySem.W.Frag} {x : V} {S : SH} {Q' : Bool → SH → Prop} {H : Hp} {Q : Bool → Hp → Prop} (o : Own S H) (h : oTru K x S Q') (k : Imp Q' Q) : ∃ b, TruV K x H b ∧ Q b H := by
  unfold oTru at h
  unfold TruV
  cases x with
  | non => exact ⟨_, rfl, k _ _ _ o h⟩
  | bl b => exact ⟨_, rfl, k _ _ _ o h⟩
  | int i => exact ⟨_, rfl, k _ _ _ o h⟩
  | str y => exact ⟨_, ⟨h.1, rfl⟩, k _ _ _ o h.2⟩
  | ref p =>
    rcases h with ⟨xs, h1, h2⟩ | ⟨xs, h1, h2⟩ | ⟨kvs, h1, h2⟩
    · exact ⟨_, .inl ⟨xs, o.l h1, rfl⟩, k _ _ _ o h2⟩
    · exact ⟨_, .inr (.inl ⟨xs, o.u h1, rfl⟩), k _ _ _ o h2⟩
    · exact ⟨_, .inr (.inr ⟨kvs, o.at h1, rfl⟩), k _ _ _ o h2⟩
  | byt y => exact h.elim
  | flt y => exact h.elim
  | ty y => exact h.elim
def sTru (K : PySem.W.Frag) (t : sE) : sT := fun W σ S Q => t W σ S fun x S1 => oTru K x S1 Q
theorem gTru {e : Expr} {t : sE} (h : PE X e (dE W t)) (he : ∀ whole, isTrue e X.env whole = (do let v ← whole; standAt e.pos; holding [v] (truthy v)) := by intro _; rfl) : PT X e (dT W (sTru X.K t)) :=
  PT.by (pt_truth h he) fun σ H Q ⟨S, Q', W', kw, o, h, k⟩ => ⟨S, _, W', kw, o, h, fun x S1 H1 o1 h1 => lTru o1 h1 k⟩
variable {tA tB : sT} {rest : List Expr}
def sAnd (t u : sT) : sT := fun W σ S Q => t W σ S fun c S1 => match c with
    | true => u W σ S1 Q
    | false => Q false S1
def sOr (t u : sT) : sT := fun W σ S Q => t W σ S fun c S1 => match c with
    | true => Q true S1
    | false => u W σ S1 Q
def sNot (t : sT) : sT := fun W σ S Q => t W σ S fun c S1 => Q (!c) S1
theorem gAnd (ha : PT X a (dT W tA)) (hb : PW X (.BoolOp .And (b :: rest) pos) (dT W tB)) : PW X (.BoolOp .And (a :: b :: rest) pos) (dT W (sAnd tA tB)) :=
  PW.by (pw_and ha hb) fun σ H Q ⟨S, Q', W', kw, o, h, k⟩ => ⟨S, _, W', kw, o, h, fun c S1 H1 o1 h1 => by
    cases c with
    | true => exact ⟨S1, Q', W', kw, o1, h1, k⟩
    | false => exact k _ _ _ o1 h1⟩
theorem gOr (ha : PT X a (dT W tA)) (hb : PW X (.BoolOp .Or (b :: rest) pos) (dT W tB)) : PW X (.BoolOp .Or (a :: b :: rest) pos) (dT W (sOr tA tB)) :=
  PW.by (pw_or ha hb) fun σ H Q ⟨S, Q', W', kw, o, h, k⟩ => ⟨S, _, W', kw, o, h, fun c S1 H1 o1 h1 => by
    cases c with
    | false => exact ⟨S1, Q', W', kw, o1, h1, k⟩
    | true => exact k _ _ _ o1 h1⟩
theorem gTNot (ha : PT X a (dT W tA)) : PT X (.UnaryOp .Not a pos) (dT W (sNot tA)) :=
  PT.by (pt_not ha) fun σ H Q ⟨S, Q', W', kw, o, h, k⟩ => ⟨S, _, W', kw, o, h, fun c S1 H1 o1 h1 => k _ _ _ o1 h1⟩
/-- and, or, not as values of truth values -/
def sAndV (ta tb : sE) : sE := fun W σ S Q => ta W σ S fun x S1 => match x with
  | .bl true => tb W σ S1 Q
  | .bl false => Q (.bl false) S1
  | _ => False
def sOrV (ta tb : sE) : sE := fun W σ S Q => ta W σ S fun x S1 => match x with
  | .bl false => tb W σ S1 Q
  | .bl true => Q (.bl true) S1
  | _ => False
def sNotV (K : PySem.W.Frag) (ta : sE) : sE := fun W σ S Q => ta W σ S fun x S1 => oTru K x S1 fun k S2 => Q (.bl (!k)) S2
theorem gAndV (ha : PE X a (dE W ta)) (hb : PE X (.BoolOp .And (b :: rest) pos) (dE W tb)) : PE X (.BoolOp .And (a :: b :: rest) pos) (dE W (sAndV ta tb)) :=
  PE.by (pe_and ha hb) fun σ H Q ⟨S, Q', W', kw, o, h, k⟩ => ⟨S, _, W', kw, o, h, fun x S1 H1 o1 h1 => by
    split at h1
    · exact ⟨true, rfl, S1, Q', W', kw, o1, h1, k⟩
    · exact ⟨false, rfl, k _ _ _ o1 h1⟩
    · exact h1.elim⟩
theorem gOrV (ha : PE X a (dE W ta)) (hb : PE X (.BoolOp .Or (b :: rest) pos) (dE W tb)) : PE X (.BoolOp .Or (a :: b :: rest) pos) (dE W (sOrV ta tb)) :=
  PE.by (pe_or ha hb) fun σ H Q ⟨S, Q', W', kw, o, h, k⟩ => ⟨S, _, W', kw, o, h, fun x S1 H1 o1 h1 => by
    split at h1
    · exact ⟨false, rfl, S1, Q', W', kw, o1, h1, k⟩
    · exact ⟨true, rfl, k _ _ _ o1 h1⟩
    · exact h1.elim⟩
theorem gNotV (ha : PE X a (dE W ta)) : PE X (.UnaryOp .Not a pos) (dE W (sNotV X.K ta)) :=
  PE.by (pe_notT ha) fun σ H Q ⟨S, Q', W', kw, o, h, k⟩ => ⟨S, _, W', kw, o, h, fun x S1 H1 o1 h1 => lTru o1 h1 fun b S2 H2 o2 h2 => k _ _ _ o2 h2⟩
def sIf (t : sT) (ta tb : sE) : sE := fun W σ S Q => t W σ S fun c S1 => match c with
    | true => ta W σ S1 Q
    | false => tb W σ S1 Q
theorem gIfE {e : Expr} (ht : PT X e (dT W tA)) (ha : PE X a (dE W ta)) (hb : PE X b (dE W tb)) : PE X (.IfExp e a b pos) (dE W (sIf tA ta tb)) :=
  PE.by (pe_ifExp ht ha hb) fun σ H Q ⟨S, Q', W', kw, o, h, k⟩ => ⟨S, _, W', kw, o, h, fun c S1 H1 o1 h1 => by
    cases c with
    | true => exact ⟨S1, Q', W', kw, o1, h1, k⟩
    | false => exact ⟨S1, Q', W', kw, o1, h1, k⟩⟩

/-! ### argument lists, displays -/
variable {es : List Expr} {tas : sA}
def sNil : sA := fun _ _ S Q => Q [] S
def sCons (t : sE) (r : sA) : sA := fun W σ S Q => t W σ S fun x S1 => r W σ S1 fun xs S2 => Q (x :: xs) S2
theorem gNil : PA X [] (dA W sNil) := PA.by pa_nil fun σ H Q ⟨S, Q', W', kw, o, h, k⟩ => k _ _ _ o h
theorem gCons (ha : PE X a (dE W ta)) (hr : PA X es (dA W tas)) (hs : starEach (a :: es) X.env = (false, eval a X.env) :: starEach es X.env := by rfl) : PA X (a :: es) (dA W (sCons ta tas)) :=
  PA.by (pa_cons ha hr hs) fun σ H Q ⟨S, Q', W', kw, o, h, k⟩ => ⟨S, _, W', kw, o, h, fun x S1 H1 o1 h1 => ⟨S1, _, W', kw, o1, h1, fun xs S2 H2 o2 h2 => k _ _ _ o2 h2⟩⟩
def sTup (t : sA) : sE := fun W σ S Q => t W σ S fun xs S1 => xs.length ≤ sizeLine ∧ ∀ p, Q (.ref p) (S1.new p (.tup xs))
def sLst (t : sA) : sE := fun W σ S Q => t W σ S fun xs S1 => xs.length ≤ sizeLine ∧ ∀ p, Q (.ref p) (S1.new p (.lst xs))
theorem gTup {x1} (h : PA X es (dA W tas)) : PE X (.Tuple es x1 pos) (dE W (sTup tas)) :=
  PE.by (pe_tup h) fun σ H Q ⟨S, Q', W', kw, o, h, k⟩ => ⟨S, _, W', kw, o, h, fun xs S1 H1 o1 h1 => ⟨h1.1, fun p hp => k _ _ _ (o1.newU hp) (h1.2 p)⟩⟩
theorem gLst (h : PA X es (dA W tas)) : PE X (.List es pos) (dE W (sLst tas)) :=
  PE.by (pe_lst h) fun σ H Q ⟨S, Q', W', kw, o, h, k⟩ => ⟨S, _, W', kw, o, h, fun xs S1 H1 o1 h1 => ⟨h1.1, fun p hp => k _ _ _ (o1.newU hp) (h1.2 p)⟩⟩
def sCall1 (r : sN) (t : sA) : sE := fun W σ S Q => t W σ S fun vs S1 => r vs S1 Q
def LiftN (r : sN) (R : List V → Hp → VK → Prop) : Prop := ∀ vs S Q' H Q, Own S H → r vs S Q' → Imp Q' Q → R vs H Q
theorem gB {id : String} {x : Str} {p : Pos} {e : Expr} {r : sN} {R : List V → Hp → VK → Prop} (hc : CallR X (.builtin id) R) (l : LiftN r R) (hg : Gl X x) (hm : X.mg x = none) (hv : bootBuiltins x = some (.builtin id)) (ha : PA X (e :: es) (dA W tas)) (hn : x ≠ "__name__" := by decide) (hdb : (x == ("__debug__" : Str)) = false := by decide)
    (he : starEach (e :: es) X.env = (false, eval e X.env) :: starEach es X.env := by rfl) (hpl : (backTo pos (starEach es X.env)).any (·.1) = false := by rfl) : PE X (.Call (.Name x p) (e :: es) [] pos) (dE W (sCall1 r tas)) :=
  PE.by (pe_callB hc hg hm hv ha hn hdb he hpl) fun σ H Q ⟨S, Q', W', kw, o, h, k⟩ => ⟨S, _, W', kw, o, h, fun vs S1 H1 o1 h1 => l vs S1 Q' H1 Q o1 h1 k⟩
theorem gTy {T : String} {x : Str} {p : Pos} {e : Expr} {r : sN} {R : List V → Hp → VK → Prop} (hc : CallR X (.type T) R) (l : LiftN r R) (hg : Gl X x) (hm : X.mg x = none) (hv : bootBuiltins x = some (.type T)) (ha : PA X (e :: es) (dA W tas)) (hn : x ≠ "__name__" := by decide) (hdb : (x == ("__debug__" : Str)) = false := by decide)
    (he : starEach (e :: es) X.env = (false, eval e X.env) :: starEach es X.env := by rfl) (hpl : (backTo pos (starEach es X.env)).any (·.1) = false := by rfl) : PE X (.Call (.Name x p) (e :: es) [] pos) (dE W (sCall1 r tas)) :=
  PE.by (pe_callTy hc hg hm hv ha hn hdb he hpl) fun σ H Q ⟨S, Q', W', kw, o, h, k⟩ => ⟨S, _, W', kw, o, h, fun vs S1 H1 o1 h1 => l vs S1 Q' H1 Q o1 h1 k⟩
/-- len -/
def nLen (K : PySem.W.Frag) : sN := fun vs S Q => match vs with
  | [.str z] => z.length ≤ sizeLine ∧ Q (.int z.length) S
  | [.ref p] => ∃ xs, (sL K S p xs ∨ sU K S p xs) ∧ Q (.int xs.length) S
  | _ => False
theorem lLen {K : PySem.W.Frag} : LiftN (nLen K) (fun xs H Q => ∃ x n, xs = [x] ∧ LenV K x H n ∧ Q (.int n) H) := by
  intro vs S Q' H Q o h k
  unfold nLen at h
  split at h
  · exact ⟨_, _, rfl, ⟨h.1, rfl⟩, k _ _ _ o h.2⟩
  · obtain ⟨xs, h1, h2⟩ := h
    rcases h1 with h1 | h1
    · exact ⟨_, xs.length, rfl, .inl ⟨xs, o.l h1, rfl⟩, k _ _ _ o h2⟩
    · exact ⟨_, xs.length, rfl, .inr ⟨xs, o.u h1, rfl⟩, k _ _ _ o h2⟩
  · exact h.elim
/-- int, abs -/
def nInt : sN := fun vs S Q => match vs with
  | [.int i] => Q (.int i) S
  | [.bl b] => Q (.int (if b then 1 else 0)) S
  | _ => False
theorem lInt : LiftN nInt (fun xs H Q => (∃ i, xs = [.int i] ∧ Q (.int i) H) ∨ ∃ k, xs = [.bl k] ∧ Q (.int (if k then 1 else 0)) H) := by
  intro vs S Q' H Q o h k
  unfold nInt at h
  split at h
  · exact .inl ⟨_, rfl, k _ _ _ o h⟩
  · exact .inr ⟨_, rfl, k _ _ _ o h⟩
  · exact h.elim
def nAbs : sN := fun vs S Q => match vs with
  | [.int i] => Q (.int (if i < 0 then -i else i)) S
  | _ => False
theorem lAbs : LiftN nAbs (fun xs H Q => ∃ i, xs = [.int i] ∧ Q (.int (if i < 0 then -i else i)) H) := by
  intro vs S Q' H Q o h k
  unfold nAbs at h
  split at h
  · exact ⟨_, rfl, k _ _ _ o h⟩
  · exact h.elim
/-- sum of a list of ints -/
def nSum (K : PySem.W.Frag) : sN := fun vs S Q => match vs with
  | [.ref p] => ∃ ns : List Int, sL K S p (ns.map V.int) ∧ Q (.int ns.sum) S
  | _ => False
theorem lSum {K : PySem.W.Frag} : LiftN (nSum K) (rSum K) := by
  intro vs S Q' H Q o h k
  unfold nSum at h
  split at h
  · obtain ⟨ns, h1, h2⟩ := h
    exact ⟨_, ns, rfl, o.l h1, k _ _ _ o h2⟩
  · exact h.elim
/-- list(xs) -/
def nList (K : PySem.W.Frag) : sN := fun vs S Q => match vs with
  | [.ref p] => ∃ xs, (sL K S p xs ∨ sU K S p xs) ∧ ∀ r, Q (.ref r) (S.new r (.lst xs))
  | _ => False
theorem lList {K : PySem.W.Frag} : LiftN (nList K) (fun xs H Q => ∃ p ys, xs = [.ref p] ∧ (SqL K H p ys ∨ SqT K H p ys) ∧ ∀ l, H l = none → Q (.ref l) (upd H l (.lst ys))) := by
  intro vs S Q' H Q o h k
  unfold nList at h
  split at h
  · obtain ⟨xs, h1, h2⟩ := h
    exact ⟨_, xs, rfl, h1.elim (fun z => .inl (o.l z)) (fun z => .inr (o.u z)), fun l hl => k _ _ _ (o.newU hl) (h2 l)⟩
  · exact h.elim

/-! ### subscripts -/
def oIx (K : PySem.W.Frag) : s2 := fun x y S Q => match x, y with
  | .ref p, .int i => ∃ xs v, (sL K S p xs ∨ sU K S p xs) ∧ atI xs i = some v ∧ Q v S
  | .str z, .int i => z.length ≤ sizeLine ∧ ∃ c, atI z.cps.toList i = some c ∧ Q (.str ⟨#[c]⟩) S
  | _, _ => False
theorem lIx {K : PySem.W.Frag} : Lift2 (oIx K) (rIx K) := by
  intro x y S Q' H Q o h k
  unfold oIx at h
  split at h
  · obtain ⟨xs, v, h1, h2, h3⟩ := h
    rcases h1 with h1 | h1
    · exact .inl ⟨_, xs, _, v, rfl, rfl, o.l h1, h2, k _ _ _ o h3⟩
    · exact .inr (.inl ⟨_, xs, _, v, rfl, rfl, o.u h1, h2, k _ _ _ o h3⟩)
  · obtain ⟨hz, c, h2, h3⟩ := h
    exact .inr (.inr ⟨_, _, c, rfl, rfl, hz, h2, k _ _ _ o h3⟩)
  · exact h.elim
theorem gIx (ha : PE X a (dE W ta)) (hb : PE X b (dE W tb)) (hs : PlainIx b := by intro _ _; rfl) : PE X (.Subscript a b pos) (dE W (sOp (oIx X.K) ta tb)) :=
  PE.by (pe_ix ix_seq ha hb hs) (lift_op lIx)
/-- a slice's part -/
abbrev sO := sWX → St → SH → (Option Int → SH → Prop) → Prop
def dO (W : WX) (t : sO) : TO := fun σ H Q => ∃ S Q' W', ImpW W' W ∧ Own S H ∧ t W' σ S Q' ∧ Imp Q' Q
theorem PO.by {e : Option Expr} {t t' : TO} (h : PO X e t) (k : ∀ σ H Q, t' σ H Q → t σ H Q) : PO X e t' := ⟨fun pins s σ H Q I q => h.run pins s σ H Q I (k σ H Q q)⟩
def sNoP : sO := fun _ _ S Q => Q none S
def sPart (t : sE) : sO := fun W σ S Q => t W σ S fun x S1 => match x with
  | .int i => Q (some i) S1
  | _ => False
theorem gNoP : PO X none (dO W sNoP) := PO.by po_none fun σ H Q ⟨S, Q', W', kw, o, h, k⟩ => k _ _ _ o h
theorem gPart {e : Expr} {t : sE} (h : PE X e (dE W t)) : PO X (some e) (dO W (sPart t)) := PO.by (po_some h) fun σ H Q ⟨S, Q', W', kw, o, h, k⟩ => ⟨S, _, W', kw, o, h, fun x S1 H1 o1 h1 => by
  split at h1
  · exact ⟨_, rfl, k _ _ _ o1 h1⟩
  · exact h1.elim⟩
def oSl (K : PySem.W.Frag) (x : V) (lo hi : Option Int) (S : SH) (Q : V → SH → Prop) : Prop := match x with
  | .str z => z.length ≤ sizeLine ∧ Q (.str (cutS z lo hi)) S
  | .ref p => (∃ xs, sL K S p xs ∧ ∀ r, Q (.ref r) (S.new r (.lst (cutV xs lo hi)))) ∨
      ∃ xs, sU K S p xs ∧ ¬ (HT.sIx xs.length 0 lo = 0 ∧ HT.sIx xs.length xs.length hi = xs.length) ∧ ∀ r, Q (.ref r) (S.new r (.tup (cutV xs lo hi)))
  | _ => False
def sSl (K : PySem.W.Frag) (te : sE) (tl th : sO) : sE := fun W σ S Q => te W σ S fun x S1 => tl W σ S1 fun l S2 => th W σ S2 fun u S3 => oSl K x l u S3 Q
theorem gSl {lo hi : Option Expr} {tl th : sO} {p2 : Pos} (he : PE X a (dE W ta)) (hl : PO X lo (dO W tl)) (hu : PO X hi (dO W th)) : PE X (.Subscript a (.Slice lo hi none p2) pos) (dE W (sSl X.K ta tl th)) :=
  PE.by (pe_slice (SlR.or sl_str (SlR.or sl_list sl_tup)) he hl hu) fun σ H Q ⟨S, Q', W', kw, o, h, k⟩ => ⟨S, _, W', kw, o, h, fun x S1 H1 o1 h1 => ⟨S1, _, W', kw, o1, h1, fun l S2 H2 o2 h2 => ⟨S2, _, W', kw, o2, h2, fun u S3 H3 o3 h3 => by
    unfold oSl at h3
    split at h3
    · exact .inl ⟨_, rfl, h3.1, k _ _ _ o3 h3.2⟩
    · rcases h3 with ⟨xs, h3, h4⟩ | ⟨xs, h3, h5, h4⟩
      · exact .inr (.inl ⟨_, xs, rfl, o3.l h3, fun r hr => k _ _ _ (o3.newU hr) (h4 r)⟩)
      · exact .inr (.inr ⟨_, xs, rfl, o3.u h3, h5, fun r hr => k _ _ _ (o3.newU hr) (h4 r)⟩)
    · exact h3.elim⟩⟩⟩

/-! ### methods of built-in types -/
/-- o.m(args): r by the receiver and the arguments -/
abbrev sM := V → List V → SH → (V → SH → Prop) → Prop
def LiftM (r : sM) (R : V → List V → Hp → VK → Prop) : Prop := ∀ x vs S Q' H Q, Own S H → r x vs S Q' → Imp Q' Q → R x vs H Q
def sTy (K : PySem.W.Frag) (T : String) (x : V) (S : SH) : Prop := match x with
  | .str _ => T = "str"
  | .int _ => T = "int"
  | .ref p => (T = "list" ∧ ∃ xs, sL K S p xs) ∨ (T = "dict" ∧ ((∃ kvs, At S p (.dK kvs)) ∨ ∃ kvs, At S p (.dT kvs))) ∨ (T = "set" ∧ ∃ f n, At S p (.set f n))
  | _ => False
theorem Own.ty {K : PySem.W.Frag} {T : String} {x : V} {S : SH} {H : Hp} (o : Own S H) (h : sTy K T x S) : tyV K T x H := by
  unfold sTy at h
  unfold tyV
  cases x with
  | str _ => exact h
  | int _ => exact h
  | ref p =>
    rcases h with ⟨e, xs, h⟩ | ⟨e, h⟩ | ⟨e, f, n, h⟩
    · exact .inl ⟨e, xs, o.l h⟩
    · exact .inr (.inr (.inl ⟨e, h.elim (fun ⟨kvs, z⟩ => .inl ⟨kvs, o.at z⟩) (fun ⟨kvs, z⟩ => .inr ⟨kvs, o.at z⟩)⟩))
    · exact .inr (.inr (.inr ⟨e, f, n, o.at h⟩))
  | non => exact h.elim
  | bl _ => exact h.elim
  | byt _ => exact h.elim
  | flt _ => exact h.elim
  | ty _ => exact h.elim
def sMt (K : PySem.W.Frag) (T : String) (r : sM) (to : sE) (t : sA) : sE := fun W σ S Q => to W σ S fun x S1 => sTy K T x S1 ∧ t W σ S1 fun vs S2 => r x vs S2 Q
section
variable {o e : Expr} {to : sE} {name : Str} {apos cpos : Pos} {T id : String} {r : sM} {R : V → List V → Hp → VK → Prop}
theorem gM0 (pa : PlainAttrs T) (slot : Slot T name id) (hty : typeOf (.builtin id) = pure (.type "method_descriptor")) (hm : MtR X id R) (l : LiftM r R) (ho : PE X o (dE W to))
    (hbase : attributeBase o name X.env (eval o X.env) = eval o X.env := by rfl) (hline : (apos.endLine == cpos.line) = true := by rfl) : PE X (.Call (.Attribute o name apos) [] [] cpos) (dE W (sMt X.K T r to sNil)) :=
  PE.by (pe_bm0 pa slot hty hm ho hbase hline) fun σ H Q ⟨S, Q', W', kw, o, h, k⟩ => ⟨S, _, W', kw, o, h, fun x S1 H1 o1 h1 => ⟨o1.ty h1.1, l x [] S1 Q' H1 Q o1 h1.2 k⟩⟩
theorem gM (pa : PlainAttrs T) (slot : Slot T name id) (hty : typeOf (.builtin id) = pure (.type "method_descriptor")) (hm : MtR X id R) (l : LiftM r R) (ho : PE X o (dE W to)) (ha : PA X (e :: es) (dA W tas))
    (hbase : attributeBase o name X.env (eval o X.env) = eval o X.env := by rfl)
    (hfew : ((backTo cpos (starEach (e :: es) X.env)).all (fun x => !x.1) && (backToKw cpos (keywordEach [] X.env)).all (fun x => x.1.isSome)
      && decide ((e :: es).length + ([] : List Keyword).length + (if ([] : List Keyword).isEmpty then 0 else 1) < 30)) = true := by rfl)
    (hline : (apos.endLine == cpos.line) = true := by rfl) (hs : starEach (e :: es) X.env = (false, eval e X.env) :: starEach es X.env := by rfl) (hplain : (backTo cpos (starEach es X.env)).any (·.1) = false := by rfl) :
    PE X (.Call (.Attribute o name apos) (e :: es) [] cpos) (dE W (sMt X.K T r to tas)) :=
  PE.by (pe_bm pa slot hty hm ho ha hbase hfew hline hs hplain) fun σ H Q ⟨S, Q', W', kw, o, h, k⟩ => ⟨S, _, W', kw, o, h, fun x S1 H1 o1 h1 => ⟨o1.ty h1.1, ⟨S1, _, W', kw, o1, h1.2, fun vs S2 H2 o2 h2 => l x vs S2 Q' H2 Q o2 h2 k⟩⟩⟩
end
def mAppend : sM := fun x vs S Q => match x, vs with
  | .ref l, [y] => ∃ i xs, S.G[i]? = some (l, .lst xs) ∧ xs.length < sizeLine ∧ Q .non (S.put i l (.lst (xs ++ [y])))
  | _, _ => False
theorem lAppend : LiftM mAppend rAppend := by
  intro x vs S Q' H Q o h k
  unfold mAppend at h
  split at h
  · obtain ⟨i, xs, h1, h2, h3⟩ := h
    exact ⟨_, xs, _, rfl, rfl, o.g h1, h2, k _ _ _ (o.putU h1) h3⟩
  · exact h.elim
def mPop : sM := fun x vs S Q => match x, vs with
  | .ref l, [] => ∃ i xs y, S.G[i]? = some (l, .lst xs) ∧ xs[xs.length - 1]? = some y ∧ Q y (S.put i l (.lst xs.dropLast))
  | _, _ => False
theorem lPop : LiftM mPop rPop := by
  intro x vs S Q' H Q o h k
  unfold mPop at h
  split at h
  · obtain ⟨i, xs, y, h1, h2, h3⟩ := h
    exact ⟨_, xs, y, rfl, rfl, o.g h1, h2, k _ _ _ (o.putU h1) h3⟩
  · exact h.elim
def mPopAt : sM := fun x vs S Q => match x, vs with
  | .ref l, [.int j] => ∃ i xs k y, S.G[i]? = some (l, .lst xs) ∧ (-(2 ^ 63) ≤ j ∧ j < 2 ^ 63) ∧ seqIndex? j xs.length = some k ∧ xs[k]? = some y ∧ Q y (S.put i l (.lst (xs.eraseIdx k)))
  | _, _ => False
theorem lPopAt : LiftM mPopAt rPopAt := by
  intro x vs S Q' H Q o h k
  unfold mPopAt at h
  split at h
  · obtain ⟨i, xs, j, y, h1, h2, h3, h4, h5⟩ := h
    exact ⟨_, xs, _, j, y, rfl, rfl, o.g h1, h2.1, h2.2, h3, h4, k _ _ _ (o.putU h1) h5⟩
  · exact h.elim
def mExtend : sM := fun x vs S Q => match x, vs with
  | .ref l, [.ref b] => ∃ i xs zs, S.G[i]? = some (l, .lst xs) ∧ At S b (.lst zs) ∧ xs.length + zs.length ≤ sizeLine ∧ Q .non (S.put i l (.lst (xs ++ zs)))
  | _, _ => False
theorem lExtend : LiftM mExtend rExtend := by
  intro x vs S Q' H Q o h k
  unfold mExtend at h
  split at h
  · obtain ⟨i, xs, zs, h1, h2, h3, h4⟩ := h
    exact ⟨_, _, xs, zs, rfl, rfl, o.g h1, o.at h2, h3, k _ _ _ (o.putU h1) h4⟩
  · exact h.elim
def mReverse : sM := fun x vs S Q => match x, vs with
  | .ref l, [] => ∃ i xs, S.G[i]? = some (l, .lst xs) ∧ Q .non (S.put i l (.lst xs.reverse))
  | _, _ => False
theorem lReverse : LiftM mReverse rReverse := by
  intro x vs S Q' H Q o h k
  unfold mReverse at h
  split at h
  · obtain ⟨i, xs, h1, h2⟩ := h
    exact ⟨_, xs, rfl, rfl, o.g h1, k _ _ _ (o.putU h1) h2⟩
  · exact h.elim
/-- a method of two texts -/
def m1S (g : Str → Str → V) (C : Str → Str → Prop) : sM := fun x vs S Q => match x, vs with
  | .str u, [.str v] => C u v ∧ Q (g u v) S
  | _, _ => False
theorem l1S {g : Str → Str → V} {C : Str → Str → Prop} : LiftM (m1S g C) (fun x xs H Q => ∃ a b, x = .str a ∧ xs = [.str b] ∧ C a b ∧ Q (g a b) H) := by
  intro x vs S Q' H Q o h k
  unfold m1S at h
  split at h
  · exact ⟨_, _, rfl, rfl, h.1, k _ _ _ o h.2⟩
  · exact h.elim
theorem l1S0 {g : Str → Str → V} : LiftM (m1S g fun _ _ => True) (fun x xs H Q => ∃ a b, x = .str a ∧ xs = [.str b] ∧ Q (g a b) H) := by
  intro x vs S Q' H Q o h k
  unfold m1S at h
  split at h
  · exact ⟨_, _, rfl, rfl, k _ _ _ o h.2⟩
  · exact h.elim

/-! ### targets -/
abbrev sG := sWX → V → St → SH → (St → SH → Prop) → Prop
abbrev sGs := sWX → List V → St → SH → (St → SH → Prop) → Prop
def dG (W : WX) (t : sG) : TG := fun v σ H Q => ∃ S Q' W', ImpW W' W ∧ Own S H ∧ t W' v σ S Q' ∧ Imp Q' Q
def dGs (W : WX) (t : sGs) : TGs := fun v σ H Q => ∃ S Q' W', ImpW W' W ∧ Own S H ∧ t W' v σ S Q' ∧ Imp Q' Q
theorem PG.by {e : Expr} {t t' : TG} (h : PG X e t) (k : ∀ v σ H Q, t' v σ H Q → t v σ H Q) : PG X e t' := ⟨fun pins s σ H v u Q I r q => h.run pins s σ H v u Q I r (k v σ H Q q)⟩
theorem PGs.by {e : List Expr} {t t' : TGs} (h : PGs X e t) (k : ∀ v σ H Q, t' v σ H Q → t v σ H Q) : PGs X e t' := ⟨fun pins s σ H v u Q I r q => h.run pins s σ H v u Q I r (k v σ H Q q)⟩
def sgName (i : Nat) : sG := fun _ v σ S Q => Q (σ.set i (some v)) S
def sgNil : sGs := fun _ vs σ S Q => match vs with
  | [] => Q σ S
  | _ => False
def sgCons (t : sG) (u : sGs) : sGs := fun W vs σ S Q => match vs with
  | v :: r => t W v σ S fun σ1 S1 => u W r σ1 S1 Q
  | [] => False
def sgTup (K : PySem.W.Frag) (n : Nat) (t : sGs) : sG := fun W v σ S Q => match v with
  | .ref p => ∃ xs, sU K S p xs ∧ xs.length = n ∧ t W xs σ S Q
  | _ => False
def sgSub (to ti : sE) : sG := fun W v σ S Q => to W σ S fun o S1 => ti W σ S1 fun i S2 => match o, i with
  | .ref p, .int k => ∃ n xs j, S2.G[n]? = some (p, .lst xs) ∧ ixN xs.length k = some j ∧ Q σ (S2.put n p (.lst (xs.set j v)))
  | _, _ => False
theorem ggName {i : Nat} {x : Str} (hN : X.N.Nodup) (hi : X.N[i]? = some x) (hx : Loc X.env.scope x) (hf : X.fn x = true ∨ X.env.scope.names.lookup x = some .local := by first | exact .inl rfl | exact .inr rfl | assumption) : PG X (.Name x pos) (dG W (sgName i)) :=
  PG.by (pg_name hN hi hx hf) fun v σ H Q ⟨S, Q', W', kw, o, h, k⟩ => k _ _ _ o h
theorem ggNil : PGs X [] (dGs W sgNil) := PGs.by pgs_nil fun v σ H Q ⟨S, Q', W', kw, o, h, k⟩ => by
  unfold sgNil at h
  split at h
  · exact ⟨rfl, k _ _ _ o h⟩
  · exact h.elim
theorem ggCons {e : Expr} {t : sG} {u : sGs} (h1 : PG X e (dG W t)) (h2 : PGs X es (dGs W u)) (hs : (assignEach (e :: es) X.env).map (·.2) = assign e X.env :: (assignEach es X.env).map (·.2) := by rfl) : PGs X (e :: es) (dGs W (sgCons t u)) :=
  PGs.by (pgs_cons h1 h2 hs) fun v σ H Q ⟨S, Q', W', kw, o, h, k⟩ => by
    unfold sgCons at h
    split at h
    · exact ⟨_, _, rfl, S, _, W', kw, o, h, fun σ1 S1 H1 o1 h1 => ⟨S1, Q', W', kw, o1, h1, k⟩⟩
    · exact h.elim
theorem ggTup {kk : Nat} {t : sGs} {n : Nat} (hc : X.calm = true) (h : PGs X es (dGs W t)) (hn : (assignEach es X.env).length = n := by rfl) (hst : (assignEach es X.env).findIdx? (·.1) = none := by rfl) : PG X (.Tuple es kk pos) (dG W (sgTup X.K n t)) :=
  PG.by (pg_tup hc h hn hst) fun v σ H Q ⟨S, Q', W', kw, o, h, k⟩ => by
    unfold sgTup at h
    split at h
    · obtain ⟨xs, h1, h2, h3⟩ := h
      exact ⟨_, xs, rfl, o.u h1, h2, S, Q', W', kw, o, h3, k⟩
    · exact h.elim
theorem ggSub {o i : Expr} {to ti : sE} (ho : PE X o (dE W to)) (hi : PE X i (dE W ti))
    (hq : ∀ v, assign (.Subscript o i pos) X.env v = (do
      let ov ← holding [v] (eval o X.env)
      let iv ← holding [v, ov] (eval i X.env)
      standAt pos
      holding [v, ov, iv] (setItem ov iv v)
      release [v, ov, iv] []) := by intro _; rfl) : PG X (.Subscript o i pos) (dG W (sgSub to ti)) :=
  PG.by (pg_sub ho hi set_list hq) fun v σ H Q ⟨S, Q', W', kw, o, h, k⟩ => ⟨S, _, W', kw, o, h, fun x S1 H1 o1 h1 => ⟨S1, _, W', kw, o1, h1, fun y S2 H2 o2 h2 => by
    split at h2
    · obtain ⟨n, xs, j, h3, h4, h5⟩ := h2
      exact ⟨_, xs, _, j, rfl, rfl, o2.g h3, h4, k _ _ _ (o2.putU h3) h5⟩
    · exact h2.elim⟩⟩

/-! ### forgetting -/
/-- what is known may be less -/
def SLe (S S0 : SH) : Prop := ∀ H, Own S H → Own S0 H
def Wk (P : SH → Prop) : SH → Prop := fun S => ∃ S0, SLe S S0 ∧ P S0
theorem SLe.refl (S : SH) : SLe S S := fun _ o => o
theorem SLe.trans {S S1 S2 : SH} (a : SLe S S1) (b : SLe S1 S2) : SLe S S2 := fun H o => b H (a H o)
theorem sle_sub {F : Hp} {G G0 : List (Addr × HO)} (h : G0.Sublist G) : SLe ⟨F, G⟩ ⟨F, G0⟩ := fun H o => ⟨o.fr, fun p q => o.gs p (h.subset q), o.nd.sublist (h.map _)⟩
theorem sle_perm {F : Hp} {G G0 : List (Addr × HO)} (h : G.Perm G0) : SLe ⟨F, G⟩ ⟨F, G0⟩ := fun H o => ⟨o.fr, fun p q => o.gs p (h.mem_iff.mpr q), (h.map _).nodup_iff.mp o.nd⟩
/-- an object goes to the frame -/
theorem sle_frz {F : Hp} {p : Addr} {u : HO} {G : List (Addr × HO)} : SLe ⟨F, (p, u) :: G⟩ ⟨upd F p u, G⟩ := fun H o => by
  have hp := o.gs (p, u) List.mem_cons_self
  have nd := List.nodup_cons.mp o.nd
  refine ⟨fun a x e => ?_, fun q hq => ⟨(o.gs q (List.mem_cons_of_mem _ hq)).1, ?_⟩, nd.2⟩
  · by_cases ha : a = p
    · subst ha
      have e' : upd F a u a = some x := e
      rw [upd_same] at e'
      cases e'
      exact hp.1
    · have e' : upd F p u a = some x := e
      rw [upd_ne ha] at e'
      exact o.fr a x e'
  · have hne : q.1 ≠ p := fun e => nd.1 (List.mem_map.mpr ⟨q, hq, e⟩)
    show upd F p u q.1 = none
    rw [upd_ne hne]
    exact (o.gs q (List.mem_cons_of_mem _ hq)).2
theorem sle_get {S : SH} {i : Nat} {p : Addr} {u : HO} (h : S.G[i]? = some (p, u)) : SLe S ⟨S.F, [(p, u)]⟩ := fun H o => by
  refine ⟨o.fr, fun q hq => ?_, by simp⟩
  have e : q = (p, u) := List.mem_singleton.mp hq
  subst e
  exact o.gs _ (List.mem_of_getElem? h)

/-! ### statements -/
section
variable {st : Stmt} {rest body orelse : List Stmt} {t u : sS}
abbrev sEnds.at (D : sEnds) (n : St → SH → Prop) : sEnds := { D with nx := n }
def sNext : sS := fun D σ S => D.nx σ S
def sSeq (t u : sS) : sS := fun D σ S => t { D with nx := u D } σ S
/-- the same, what follows shown once -/
def sCut (t u : sS) : sS := fun D σ S => ∃ M : St → SH → Prop, t { D with nx := fun σ' => Wk (M σ') } σ S ∧ ∀ σ' S', M σ' S' → u D σ' S'
theorem hNil : PSs X [] (dS W sNext) := PSs.by pss_nil fun D σ H ⟨S, D', o, h, k⟩ => k.nx _ _ _ o h
theorem hCons (h1 : PS X st (dS W t)) (h2 : PSs X rest (dS W u)) : PSs X (st :: rest) (dS W (sSeq t u)) :=
  PSs.by (pss_cons h1 h2) fun D σ H ⟨S, D', o, h, k⟩ => ⟨S, { D' with nx := u D' }, o, h, ⟨fun σ1 S1 H1 o1 h1 => ⟨S1, D', o1, h1, k⟩, k.rt, k.bk, k.ct, k.ex⟩⟩
theorem hCut (h1 : PS X st (dS W t)) (h2 : PSs X rest (dS W u)) : PSs X (st :: rest) (dS W (sCut t u)) :=
  PSs.by (pss_cons h1 h2) fun D σ H ⟨S, D', o, ⟨M, h, hm⟩, k⟩ => ⟨S, { D' with nx := fun σ' => Wk (M σ') }, o, h, ⟨fun σ1 S1 H1 o1 ⟨S0, le, h1⟩ => ⟨S0, D', le _ o1, hm _ _ h1, k⟩, k.rt, k.bk, k.ct, k.ex⟩⟩
theorem hOne (h1 : PS X st (dS W t)) : PSs X [st] (dS W t) := PSs.by (pss_one h1) fun D σ H z => z
def sBreak : sS := fun D σ S => D.bk σ S
def sCont : sS := fun D σ S => D.ct σ S
def sNever : sS := fun _ _ _ => False
theorem hPass : PS X (.Pass pos) (dS W sNext) := PS.by ps_pass fun D σ H ⟨S, D', o, h, k⟩ => k.nx _ _ _ o h
theorem hBreak : PS X (.Break pos) (dS W sBreak) := PS.by ps_break fun D σ H ⟨S, D', o, h, k⟩ => k.bk _ _ _ o h
theorem hCont : PS X (.Continue pos) (dS W sCont) := PS.by ps_continue fun D σ H ⟨S, D', o, h, k⟩ => k.ct _ _ _ o h
theorem hNever : PS X st (dS W sNever) := PS.by ps_never fun D σ H ⟨S, D', o, h, k⟩ => h.elim
theorem hDoc {x j pos pos'} : PS X (.Expr (.Constant (.str x) j pos) pos') (dS W sNext) := PS.by ps_doc fun D σ H ⟨S, D', o, h, k⟩ => k.nx _ _ _ o h
def sDrop (te : sE) : sS := fun D σ S => te D.ex σ S fun _ S1 => D.nx σ S1
theorem hExpr {e : Expr} {te : sE} (he : PE X e (dE W te)) (hs : swapsWith e none pos.line X.env = pure false := by rfl) : PS X (.Expr e pos) (dS W (sDrop te)) :=
  PS.by (ps_expr he hs) fun D σ H ⟨S, D', o, h, k⟩ => ⟨S, _, D'.ex, k.ex, o, h, fun x S1 H1 o1 h1 => k.nx _ _ _ o1 h1⟩
def sRet (te : sE) : sS := fun D σ S => te D.ex σ S D.rt
def sRetN : sS := fun D _ S => D.rt .non S
theorem hRet {e : Expr} {te : sE} (he : PE X e (dE W te)) : PS X (.Return (some e) pos) (dS W (sRet te)) :=
  PS.by (ps_ret he) fun D σ H ⟨S, D', o, h, k⟩ => ⟨S, _, D'.ex, k.ex, o, h, k.rt⟩
theorem hRetN : PS X (.Return none pos) (dS W sRetN) := PS.by ps_retN fun D σ H ⟨S, D', o, h, k⟩ => k.rt _ _ _ o h
def sIfS (c : sT) (t u : sS) : sS := fun D σ S => c D.ex σ S fun b S1 => match b with
    | true => t D σ S1
    | false => u D σ S1
theorem hIf {c : Expr} {a b : List Stmt} {tc : sT} (hc : PT X c (dT W tc)) (ha : PSs X a (dS W t)) (hb : PSs X b (dS W u)) : PS X (.If c a b pos) (dS W (sIfS tc t u)) :=
  PS.by (ps_if hc ha hb) fun D σ H ⟨S, D', o, h, k⟩ => ⟨S, _, D'.ex, k.ex, o, h, fun b S1 H1 o1 h1 => by
    cases b with
    | true => exact ⟨S1, D', o1, h1, k⟩
    | false => exact ⟨S1, D', o1, h1, k⟩⟩
def sAsg (te : sE) (g : sG) : sS := fun D σ S => te D.ex σ S fun x S1 => g D.ex x σ S1 D.nx
theorem hAsg {tg e : Expr} {te : sE} {g : sG} (he : PE X e (dE W te)) (hg : PG X tg (dG W g)) (hs : swapsWithSole [tg] e pos.line X.env = pure false := by rfl) (hw : swappedStores [tg] e X.env = pure none := by rfl)
    (h1 : (assignEach [tg] X.env).map (·.2) = [assign tg X.env] := by rfl) : PS X (.Assign [tg] e pos) (dS W (sAsg te g)) :=
  PS.by (ps_asg he hg hs hw h1) fun D σ H ⟨S, D', o, h, k⟩ => ⟨S, _, D'.ex, k.ex, o, h, fun x S1 H1 o1 h1 => ⟨S1, _, D'.ex, k.ex, o1, h1, k.nx⟩⟩
def sSet (te : sE) (i : Nat) : sS := fun D σ S => te D.ex σ S fun x S1 => D.nx (σ.set i (some x)) S1
theorem hSet {i : Nat} {x : Str} {e : Expr} {te : sE} {pos' : Pos} (hN : X.N.Nodup) (hi : X.N[i]? = some x) (hx : Loc X.env.scope x) (he : PE X e (dE W te)) (hs : swapsWith e (some (.Name x pos')) pos.line X.env = pure false := by rfl) (hf : X.fn x = true ∨ X.env.scope.names.lookup x = some .local := by first | exact .inl rfl | exact .inr rfl | assumption) :
    PS X (.Assign [.Name x pos'] e pos) (dS W (sSet te i)) :=
  PS.by (ps_set hN hi hx he hs hf) fun D σ H ⟨S, D', o, h, k⟩ => ⟨S, _, D'.ex, k.ex, o, h, fun x S1 H1 o1 h1 => k.nx _ _ _ o1 h1⟩
/-- while -/
def sWhile (c : sT) (tb : sS) : sS := fun D σ S => ∃ P : Nat → St → SH → Prop, (∃ m, P m σ S) ∧ ∀ m σ S, P m σ S →
  c D.ex σ S fun b S1 => match b with
    | true => tb { D with nx := fun σ' => Wk fun S' => ∃ m', m' < m ∧ P m' σ' S', ct := fun σ' => Wk fun S' => ∃ m', m' < m ∧ P m' σ' S', bk := D.nx } σ S1
    | false => D.nx σ S1
theorem hWhile {c : Expr} {tc : sT} {tb : sS} (hp : PassesOwn (model X.prog X.w) X.A X.env X.xe) (hc : PT X c (dT W tc)) (hb : PSs X body (dS W tb)) : PS X (.While c body [] pos) (dS W (sWhile tc tb)) :=
  PS.by (ps_while hp hc hb) fun D σ H ⟨S, D', o, ⟨P, ⟨m0, h0⟩, h⟩, k⟩ => ⟨fun m σ H => ∃ S, Own S H ∧ P m σ S, ⟨m0, S, o, h0⟩, fun m σ H ⟨S, o, p⟩ => ⟨S, _, D'.ex, k.ex, o, h m σ S p, fun b S1 H1 o1 h1 => by
    cases b with
    | false => exact k.nx _ _ _ o1 h1
    | true => exact ⟨fun σ H => ∃ m', m' < m ∧ ∃ S, Own S H ∧ P m' σ S, fun σ' H' z => z, S1, _, o1, h1, ⟨fun σ' S' H' o' ⟨S0, le, m', z1, z2⟩ => ⟨m', z1, S0, le _ o', z2⟩, k.rt, k.nx, fun σ' S' H' o' ⟨S0, le, m', z1, z2⟩ => ⟨m', z1, S0, le _ o', z2⟩, k.ex⟩⟩⟩⟩
end

/-! ### what a for walks -/
/-- a walk: its length, what must stand, what a turn yields -/
structure SIt where
  n : Nat
  ok : SH → Prop
  yld : Nat → SH → (V → SH → Prop) → Prop
structure SItOk (J : It) (s : SIt) : Prop where
  stop : ∀ S H i, Own S H → s.ok S → s.n ≤ i → J.stop i H
  go : ∀ S H i, Own S H → s.ok S → i < s.n → J.go i H
  yld : ∀ S H i x H' k, Own S H → s.ok S → i < s.n → J.yld i H x H' → s.yld i S k → ∃ S', Own S' H' ∧ k x S'
abbrev sI := sWX → St → SH → (SIt → SH → Prop) → Prop
def dI (W : WX) (t : sI) : TI := fun σ H R => ∃ S R' W', ImpW W' W ∧ Own S H ∧ t W' σ S R' ∧ ∀ s S' H' J, Own S' H' → SItOk J s → R' s S' → R J H'
theorem PI.by {tg e : Expr} {t t' : TI} (h : PI X tg e t) (k : ∀ σ H R, t' σ H R → t σ H R) : PI X tg e t' := ⟨fun pins s σ H R I q => h.run pins s σ H R I (k σ H R q)⟩
def sFor (i : sI) (g : sG) (tb : sS) : sS := fun D σ S => i D.ex σ S fun s S1 => ∃ P : Nat → St → SH → Prop, P 0 σ S1 ∧ (∀ i σ S, i ≤ s.n → P i σ S → s.ok S) ∧
  (∀ i σ S, i < s.n → P i σ S → s.yld i S fun v S' => g D.ex v σ S' fun σ2 S2 => tb { D with nx := fun σ' => Wk (P (i + 1) σ'), ct := fun σ' => Wk (P (i + 1) σ'), bk := D.nx } σ2 S2) ∧ ∀ σ S, P s.n σ S → D.nx σ S
theorem hFor {tg iter : Expr} {body : List Stmt} {ti : sI} {g : sG} {tb : sS} (hp : PassesOwn (model X.prog X.w) X.A X.env X.xe) (hc : X.calm = true) (hi : PI X tg iter (dI W ti)) (hg : PG X tg (dG W g)) (hb : PSs X body (dS W tb)) (hs : ∀ x, foldedSetIterable iter X.env x = pure x := by intro _; rfl) : PS X (.For tg iter body [] pos) (dS W (sFor ti g tb)) :=
  PS.by (ps_for hp hc hi hg hb hs) fun D σ H ⟨S, D', o, h, k⟩ => ⟨S, _, D'.ex, k.ex, o, h, fun s S1 H1 J o1 j h1 => by
    obtain ⟨P, h0, hok, hs, hd⟩ := h1
    refine ⟨fun i m σ H => m = s.n - i ∧ i ≤ s.n ∧ ∃ S, Own S H ∧ P i σ S, ⟨s.n, by simp, Nat.zero_le _, S1, o1, h0⟩, ?_⟩
    rintro i m σ H ⟨rfl, hi, S2, o2, p⟩
    by_cases hlt : i < s.n
    · refine .inr ⟨j.go S2 H i o2 (hok i σ S2 hi p) hlt, fun σ' H' => ∃ S', Own S' H' ∧ P (i + 1) σ' S', fun σ' H' p' => ⟨s.n - (i + 1), by omega, rfl, hlt, p'⟩, fun x H' y => ?_⟩
      obtain ⟨S', o', q⟩ := j.yld S2 H i x H' _ o2 (hok i σ S2 hi p) hlt y (hs i σ S2 hlt p)
      refine ⟨S', _, D'.ex, k.ex, o', q, fun σ2 S3 H3 o3 q3 => ⟨S3, _, o3, q3, ⟨fun σ4 S4 H4 o4 ⟨S0, le, q4⟩ => ⟨S0, le _ o4, q4⟩, k.rt, k.nx, fun σ4 S4 H4 o4 ⟨S0, le, q4⟩ => ⟨S0, le _ o4, q4⟩, k.ex⟩⟩⟩
    · have e : i = s.n := by omega
      subst e
      exact .inl ⟨j.stop S2 H _ o2 (hok _ σ S2 hi p) (Nat.le_refl _), k.nx _ _ _ o2 (hd σ S2 p)⟩⟩
/-- a list, a tuple -/
def itL (K : PySem.W.Frag) (a : Addr) (xs : List V) : SIt := ⟨xs.length, fun S => sL K S a xs, fun i S k => ∀ v, xs[i]? = some v → k v S⟩
def itU (K : PySem.W.Frag) (a : Addr) (xs : List V) : SIt := ⟨xs.length, fun S => sU K S a xs, fun i S k => ∀ v, xs[i]? = some v → k v S⟩
theorem itL_ok {K : PySem.W.Frag} {a : Addr} {xs : List V} : SItOk (Itl K a) (itL K a xs) :=
  ⟨fun S H i o h hi => ⟨xs, o.l h, hi⟩, fun S H i o h hi => ⟨xs, _, o.l h, List.getElem?_eq_getElem hi⟩, fun S H i x H' k o h hi ⟨e, y⟩ q => by
    subst e
    exact ⟨S, o, q x (y xs (o.l h))⟩⟩
theorem itU_ok {K : PySem.W.Frag} {a : Addr} {xs : List V} : SItOk (Itt K a) (itU K a xs) :=
  ⟨fun S H i o h hi => ⟨xs, o.u h, hi⟩, fun S H i o h hi => ⟨xs, _, o.u h, List.getElem?_eq_getElem hi⟩, fun S H i x H' k o h hi ⟨e, y⟩ q => by
    subst e
    exact ⟨S, o, q x (y xs (o.u h))⟩⟩
def siSeq (K : PySem.W.Frag) (tl : sE) : sI := fun W σ S R => tl W σ S fun x S1 => match x with
  | .ref a => (∃ xs, sL K S1 a xs ∧ R (itL K a xs) S1) ∨ ∃ xs, sU K S1 a xs ∧ R (itU K a xs) S1
  | _ => False
/-- by values: what is walked -/
theorem pi_seq {tg l : Expr} {tl : TE} (hl : PE X l tl) : PI X tg l (fun σ H R => tl σ H fun x H1 => ∃ a, x = .ref a ∧ (((∃ xs, SqL X.K H1 a xs) ∧ R (Itl X.K a) H1) ∨ ((∃ xs, SqT X.K H1 a xs) ∧ R (Itt X.K a) H1))) := by
  refine ⟨fun pins s σ H R I h => ?_⟩
  refine thn (hl.run pins s σ H _ I h) fun v s1 ⟨x, H1, I1, r1, a, e, q⟩ => ?_
  subst e
  cases r1
  rcases q with ⟨⟨xs, hq⟩, q⟩ | ⟨⟨xs, hq⟩, q⟩
  · obtain ⟨its, rv, p, hz⟩ := I1.list hq
    refine wpAny_pyIter_list p.isList ?_
    refine ⟨s1.heap.objs.size, [s1.heap.objs.size], _, _, H1, rfl, I1.kept (t' := s1.toks) fun b o e => Heap.get?_push_of_some _ e, turn_list a _, ⟨_, Heap.get?_push_size _ rfl, rfl, rfl⟩, fun b hb => ?_, q⟩
    have e : b = s1.heap.objs.size := by simpa using hb
    subst e
    exact I1.fpOk (Nat.le_refl _) (I1.hok.fresh (Nat.le_refl _))
  · obtain ⟨its, rv, p, hz⟩ := I1.tuple hq
    refine wpAny_pyIter_tuple (show s1.heap.IsTuple a its.toArray from p) ?_
    refine ⟨s1.heap.objs.size, [s1.heap.objs.size], _, _, H1, rfl, I1.kept (t' := s1.toks) fun b o e => Heap.get?_push_of_some _ e, turn_tuple a _, ⟨_, Heap.get?_push_size _ rfl, rfl, rfl⟩, fun b hb => ?_, q⟩
    have e : b = s1.heap.objs.size := by simpa using hb
    subst e
    exact I1.fpOk (Nat.le_refl _) (I1.hok.fresh (Nat.le_refl _))
theorem iSeq {tg l : Expr} {tl : sE} (hl : PE X l (dE W tl)) : PI X tg l (dI W (siSeq X.K tl)) :=
  PI.by (pi_seq hl) fun σ H R ⟨S, R', W', kw, o, h, k⟩ => ⟨S, _, W', kw, o, h, fun x S1 H1 o1 h1 => by
    split at h1
    · rename_i a
      refine ⟨a, rfl, ?_⟩
      rcases h1 with ⟨xs, h1, h2⟩ | ⟨xs, h1, h2⟩
      · exact .inl ⟨⟨xs, o1.l h1⟩, k _ _ _ _ o1 itL_ok h2⟩
      · exact .inr ⟨⟨xs, o1.u h1⟩, k _ _ _ _ o1 itU_ok h2⟩
    · exact h1.elim⟩
/-- a range -/
def itR (lo : Int) (n : Nat) : SIt := ⟨n, fun _ => True, fun i S k => k (.int (lo + (i : Nat))) S⟩
theorem itR_ok {lo : Int} {n : Nat} : SItOk (Itr lo n) (itR lo n) :=
  ⟨fun S H i o h hi => hi, fun S H i o h hi => hi, fun S H i x H' k o h hi ⟨e, y⟩ q => by
    subst e
    subst y
    exact ⟨S, o, q⟩⟩
def rngOk (i : Int) : Prop := -(2 ^ 62) ≤ i ∧ i < 2 ^ 62
def siR1 (ta : sA) : sI := fun W σ S R => ta W σ S fun vs S1 => match vs with
  | [.int j] => rngOk j ∧ R (itR 0 j.toNat) S1
  | _ => False
def siR2 (ta : sA) : sI := fun W σ S R => ta W σ S fun vs S1 => match vs with
  | [.int i, .int j] => rngOk i ∧ rngOk j ∧ R (itR i (j - i).toNat) S1
  | _ => False
theorem iR1 {tg a : Expr} {ta : sA} {p pos : Pos} (hg : Gl X "range") (hm : X.mg "range" = none) (ha : PA X [a] (dA W ta)) (hs : starEach [a] X.env = [(false, eval a X.env)] := by rfl) : PI X tg (.Call (.Name "range" p) [a] [] pos) (dI W (siR1 ta)) :=
  PI.by (pi_range1 hg hm ha hs) fun σ H R ⟨S, R', W', kw, o, h, k⟩ => ⟨S, _, W', kw, o, h, fun vs S1 H1 o1 h1 => by
    split at h1
    · exact ⟨_, rfl, h1.1.1, h1.1.2, k _ _ _ _ o1 itR_ok h1.2⟩
    · exact h1.elim⟩
theorem iR2 {tg a b : Expr} {ta : sA} {p pos : Pos} (hg : Gl X "range") (hm : X.mg "range" = none) (ha : PA X [a, b] (dA W ta)) (hs : starEach [a, b] X.env = [(false, eval a X.env), (false, eval b X.env)] := by rfl) (hs2 : starEach [b] X.env = [(false, eval b X.env)] := by rfl) :
    PI X tg (.Call (.Name "range" p) [a, b] [] pos) (dI W (siR2 ta)) :=
  PI.by (pi_range2 hg hm ha hs hs2) fun σ H R ⟨S, R', W', kw, o, h, k⟩ => ⟨S, _, W', kw, o, h, fun vs S1 H1 o1 h1 => by
    split at h1
    · exact ⟨_, _, rfl, ⟨h1.1.1, h1.1.2, h1.2.1.1, h1.2.1.2⟩, k _ _ _ _ o1 itR_ok h1.2.2⟩
    · exact h1.elim⟩

/-! ### list comprehensions -/
/-- nothing may be let out -/
def noW : sWX := fun _ _ _ _ => False
abbrev NoW : WX := fun _ _ _ _ => False
theorem noW_imp {W : WX} : ImpW noW W := fun _ _ _ _ _ _ q => q.elim
def sLc (i : sI) (g : sG) (tt : sT) (te : sE) (vs : List Nat) : sE := fun W σ S Q => i W σ S fun s S1 => ∀ D, ∃ P : Nat → SH → Prop, P 0 (S1.new D (.lst [])) ∧ (∀ i S, i ≤ s.n → P i S → s.ok S) ∧
  (∀ i S, i < s.n → P i S → s.yld i S fun v S' => g noW v (wipe σ vs) S' fun σ2 S2 => wipe σ2 vs = wipe σ vs ∧ tt noW σ2 S2 fun b S3 =>
    match b with
    | true => te noW σ2 S3 fun y S4 => ∃ k acc, S4.G[k]? = some (D, .lst acc) ∧ acc.length < sizeLine ∧ Wk (P (i + 1)) (S4.put k D (.lst (acc ++ [y])))
    | false => Wk (P (i + 1)) S3) ∧ ∀ S, P s.n S → Q (.ref D) S
def sYes : sT := fun _ _ S Q => Q true S
structure sTs (X : Cx) (W : WX) (ifs : List Expr) (t : sT) : Prop where
  to : PTs X ifs (dT W t)
theorem gNoIf : sTs X W [] sYes := ⟨⟨fun pins s σ H Q I ⟨S, Q', W', kw, o, h, k⟩ => pts_nil.run pins s σ H Q I (k _ _ _ o h)⟩⟩
theorem gOneIf {c : Expr} {t : sT} (h : PT X c (dT W t)) : sTs X W [c] t := ⟨pts_one h⟩
theorem lift_lc {ti : sI} {g : sG} {tt : sT} {te : sE} {vs : List Nat} : ∀ σ H Q, dE W (sLc ti g tt te vs) σ H Q → tLc (dI W ti) (dG NoW g) (dT NoW tt) (dE NoW te) vs σ H Q := fun σ H Q ⟨S, Q', W', kw, o, h, k⟩ =>
  ⟨S, _, W', kw, o, h, fun s S1 H1 J o1 j h1 => by
    intro D hD
    obtain ⟨P, h0, hok, hs, hd⟩ := h1 D
    refine ⟨fun i m H => m = s.n - i ∧ i ≤ s.n ∧ ∃ S, Own S H ∧ P i S, ⟨s.n, by simp, Nat.zero_le _, _, o1.newU hD, h0⟩, ?_⟩
    rintro i m H ⟨rfl, hi, S2, o2, p⟩
    by_cases hlt : i < s.n
    · refine .inr ⟨j.go S2 H i o2 (hok i S2 hi p) hlt, fun H' => ∃ S', Own S' H' ∧ P (i + 1) S', fun H' p' => ⟨s.n - (i + 1), by omega, rfl, hlt, p'⟩, fun x H' y => ?_⟩
      obtain ⟨S', o', q⟩ := j.yld S2 H i x H' _ o2 (hok i S2 hi p) hlt y (hs i S2 hlt p)
      refine ⟨S', _, noW, noW_imp, o', q, fun σ2 S3 H3 o3 q3 => ⟨q3.1, S3, _, noW, noW_imp, o3, q3.2, fun b S4 H4 o4 q4 => ?_⟩⟩
      cases b with
      | false =>
        obtain ⟨S0, le, q4⟩ := q4
        exact ⟨S0, le _ o4, q4⟩
      | true =>
        refine ⟨S4, _, noW, noW_imp, o4, q4, fun y S5 H5 o5 q5 => ?_⟩
        obtain ⟨kk, acc, z1, z2, S0, le, z3⟩ := q5
        exact ⟨acc, o5.g z1, z2, _, le _ (o5.putU z1), z3⟩
    · have e : i = s.n := by omega
      subst e
      exact .inl ⟨j.stop S2 H _ o2 (hok _ S2 hi p) (Nat.le_refl _), k _ _ _ o2 (hd S2 p)⟩⟩
theorem gLc {elt tg iter : Expr} {ifs : List Expr} {scope : Scope} {own : List (Str × Nat)} {ti : sI} {g : sG} {tt : sT} {te : sE} (hc : X.calm = true) (hN : X.N.Nodup) (hi : PI X tg iter (dI W ti)) (ok : BlkOk X.N X.env.scope scope own)
    (hg : ∀ (s : Shared) (H : Hp) (C : Addr) (cl : List (Str × Addr)) (fp : List Addr), PG (X.blk s H scope (compEnvC scope cl C X.env) fp) tg (dG NoW g)) (ht : ∀ (s : Shared) (H : Hp) (C : Addr) (cl : List (Str × Addr)) (fp : List Addr), sTs (X.blk s H scope (compEnvC scope cl C X.env) fp) NoW ifs tt)
    (he : ∀ (s : Shared) (H : Hp) (C : Addr) (cl : List (Str × Addr)) (fp : List Addr), PE (X.blk s H scope (compEnvC scope cl C X.env) fp) elt (dE NoW te)) (hs : ∀ x, foldedSetIterable iter X.env x = pure x := by intro _; rfl) :
    PE X (.ListComp elt [⟨tg, iter, ifs, 0⟩] scope pos) (dE W (sLc ti g tt te (own.map (·.2)))) :=
  PE.by (pe_lc hc hN hi ok hg (fun s H C cl fp => (ht s H C cl fp).to) he hs) lift_lc
theorem hSetLc {i : Nat} {y : Str} {py : Pos} {elt tg iter : Expr} {ifs : List Expr} {scope : Scope} {own : List (Str × Nat)} {pos spos : Pos} {ti : sI} {g : sG} {tt : sT} {te : sE} (hc : X.calm = true) (hN : X.N.Nodup) (hy : X.N[i]? = some y) (hyl : X.env.scope.names.lookup y = some .local)
    (hsw : swapsWith (.ListComp elt [⟨tg, iter, ifs, 0⟩] scope pos) (some (.Name y py)) spos.line X.env = pure true) (hi : PI X tg iter (dI W ti)) (ok : BlkOk X.N X.env.scope scope own)
    (hg : ∀ (s : Shared) (H : Hp) (C : Addr) (cl : List (Str × Addr)) (fp : List Addr), PG (X.blk s H scope (compEnvC scope cl C X.env) fp) tg (dG NoW g)) (ht : ∀ (s : Shared) (H : Hp) (C : Addr) (cl : List (Str × Addr)) (fp : List Addr), sTs (X.blk s H scope (compEnvC scope cl C X.env) fp) NoW ifs tt)
    (he : ∀ (s : Shared) (H : Hp) (C : Addr) (cl : List (Str × Addr)) (fp : List Addr), PE (X.blk s H scope (compEnvC scope cl C X.env) fp) elt (dE NoW te)) (hs : ∀ x, foldedSetIterable iter X.env x = pure x := by intro _; rfl) :
    PS X (.Assign [.Name y py] (.ListComp elt [⟨tg, iter, ifs, 0⟩] scope pos) spos) (dS W (sSet (sLc ti g tt te (own.map (·.2))) i)) :=
  PS.by (ps_setLc hc hN hy hyl hsw hi ok hg (fun s H C cl fp => (ht s H C cl fp).to) he hs) fun D σ H ⟨S, D', o, h, k⟩ => lift_lc σ H _ ⟨S, _, D'.ex, k.ex, o, h, fun x S1 H1 o1 h1 => k.nx _ _ _ o1 h1⟩

/-! ### calls of own defs -/
/-- sp, from the symbolic heap -/
def sSp (sp : Sp) : sWX → List V → St → SH → (V → SH → Prop) → Prop := fun W vs σ S Q => ∀ H, Own S H → sp vs H (fun v H' => ∃ S', Own S' H' ∧ Q v S') (fun c d H' => ∃ S', Own S' H' ∧ W c d σ S')
/-- sp stands a weaker wish -/
def SpMono (sp : Sp) : Prop := ∀ vs H Q Q' E E', (∀ v H', Q v H' → Q' v H') → (∀ c d H', E c d H' → E' c d H') → sp vs H Q E → sp vs H Q' E'
def sCall (sp : Sp) (t : sA) : sE := fun W σ S Q => t W σ S fun vs S1 => sSp sp W vs σ S1 Q
section
variable {k : Nat} {f : Addr} {fd : FuncData} {ps : List Str} {sp : Sp} {x : Str} {p : Pos} {e : Expr}
theorem lift_sp (m : SpMono sp) {vs : List V} {σ : St} {S : SH} {H : Hp} {W' : sWX} {Q' : V → SH → Prop} {Q : VK} (kw : ImpW W' W) (o : Own S H) (h : sSp sp W' vs σ S Q') (k : Imp Q' Q) : sp vs H Q (WE W σ) :=
  m _ _ _ _ _ _ (fun v H' ⟨S', o', q⟩ => k v S' H' o' q) (fun c d H' ⟨S', o', q⟩ => kw c d σ S' H' o' q) (h H o)
theorem gCall (m : SpMono sp) (F : FnOk X.prog X.w X.K X.mg X.base (L2.CX X.prog X.w) k f fd ps sp) (hr : Room k X.A) (hg : Gl X x) (hm : X.mg x = some (.ref f)) (hk : PySem.W.keepIn X.K (.ref f) = true) (hb : Binds X.K fd ps []) (tk : Takes X W) (ha : PA X (e :: es) (dA W tas))
    (hdb : (x == ("__debug__" : Str)) = false := by decide) (he : starEach (e :: es) X.env = (false, eval e X.env) :: starEach es X.env := by rfl) (hpl : (backTo pos (starEach es X.env)).any (·.1) = false := by rfl) :
    PE X (.Call (.Name x p) (e :: es) [] pos) (dE W (sCall sp tas)) :=
  PE.by (pe_callS F hr hg hm hk hb (fun σ => passAt tk σ) ha hdb he hpl) fun σ H Q ⟨S, Q', W', kw, o, h, k⟩ => ⟨S, _, W', kw, o, h, fun vs S1 H1 o1 h1 => lift_sp m kw o1 h1 k⟩
end

/-! ### contracts -/
/-- of values alone: a value, or an error with one field -/
inductive Ot where
  | ok (v : V)
  | er (C : Addr) (f : Str) (v : V)
def spV (f : List V → Option Ot) : Sp := fun vs H Q E => match f vs with
  | some (.ok v) => ∀ H', Ext H H' → Q v H'
  | some (.er C n v) => ∀ H' d, Ext H H' → H d = none → H' d = some (.xd [(n, v)]) → E (.ref C) (some d) H'
  | none => False
theorem spV_mono {f : List V → Option Ot} : SpMono (spV f) := fun vs H Q Q' E E' kq ke h => by
  unfold spV at h ⊢
  split at h
  · exact fun H' e => kq _ _ (h H' e)
  · exact fun H' d e h1 h2 => ke _ _ _ (h H' d e h1 h2)
  · exact h.elim
/-- with ghosts α: what must hold ahead, what holds behind -/
structure Ct (α : Type) where
  pre : α → List V → Hp → Prop
  post : α → Hp → V → Hp → Prop
  exn : α → Hp → Value → Option Addr → Hp → Prop := fun _ _ _ _ _ => False
def spC {α : Type} (c : Ct α) : Sp := fun vs H Q E => ∃ g, c.pre g vs H ∧ (∀ v H', c.post g H v H' → Q v H') ∧ ∀ x d H', c.exn g H x d H' → E x d H'
theorem spC_mono {α : Type} {c : Ct α} : SpMono (spC c) := fun vs H Q Q' E E' kq ke ⟨g, h1, h2, h3⟩ => ⟨g, h1, fun v H' q => kq _ _ (h2 v H' q), fun x d H' q => ke _ _ _ (h3 x d H' q)⟩
def sCallV (f : List V → Option Ot) (t : sA) : sE := fun W σ S Q => t W σ S fun vs S1 => match f vs with
  | some (.ok v) => Q v S1
  | some (.er C n v) => ∀ d, W (.ref C) (some d) σ (S1.new d (.xd [(n, v)]))
  | none => False
def sCallC {α : Type} (c : Ct α) (t : sA) : sE := fun W σ S Q => t W σ S fun vs S1 => ∃ g, (∀ H, Own S1 H → c.pre g vs H) ∧ (∀ H v H', Own S1 H → c.post g H v H' → ∃ S', Own S' H' ∧ Q v S') ∧ ∀ H x d H', Own S1 H → c.exn g H x d H' → ∃ S', Own S' H' ∧ W x d σ S'
theorem lift_V {f : List V → Option Ot} {vs : List V} {σ : St} {S : SH} {W : sWX} {Q : V → SH → Prop} (h : match f vs with
  | some (.ok v) => Q v S
  | some (.er C n v) => ∀ d, W (.ref C) (some d) σ (S.new d (.xd [(n, v)]))
  | none => False) : sSp (spV f) W vs σ S Q := fun H o => by
  unfold spV
  split at h
  · exact fun H' e => ⟨S, o.ex e, h⟩
  · exact fun H' d e h1 h2 => ⟨_, o.new h1 e h2, h d⟩
  · exact h.elim
theorem lift_C {α : Type} {c : Ct α} {vs : List V} {σ : St} {S : SH} {W : sWX} {Q : V → SH → Prop} (h : ∃ g, (∀ H, Own S H → c.pre g vs H) ∧ (∀ H v H', Own S H → c.post g H v H' → ∃ S', Own S' H' ∧ Q v S') ∧ ∀ H x d H', Own S H → c.exn g H x d H' → ∃ S', Own S' H' ∧ W x d σ S') :
    sSp (spC c) W vs σ S Q := fun H o => by
  obtain ⟨g, h1, h2, h3⟩ := h
  exact ⟨g, h1 H o, fun v H' q => h2 H v H' o q, fun x d H' q => h3 H x d H' o q⟩
section
variable {k : Nat} {f : Addr} {fd : FuncData} {ps ks : List Str} {x : Str} {p : Pos} {e : Expr} {fv : List V → Option Ot} {α : Type} {ct : Ct α}
theorem gCallV (F : FnOk X.prog X.w X.K X.mg X.base (L2.CX X.prog X.w) k f fd ps (spV fv)) (hr : Room k X.A) (hg : Gl X x) (hm : X.mg x = some (.ref f)) (hk : PySem.W.keepIn X.K (.ref f) = true) (hb : Binds X.K fd ps []) (tk : Takes X W) (ha : PA X (e :: es) (dA W tas))
    (hdb : (x == ("__debug__" : Str)) = false := by decide) (he : starEach (e :: es) X.env = (false, eval e X.env) :: starEach es X.env := by rfl) (hpl : (backTo pos (starEach es X.env)).any (·.1) = false := by rfl) :
    PE X (.Call (.Name x p) (e :: es) [] pos) (dE W (sCallV fv tas)) :=
  PE.by (pe_callS F hr hg hm hk hb (fun σ => passAt tk σ) ha hdb he hpl) fun σ H Q ⟨S, Q', W', kw, o, h, k⟩ => ⟨S, _, W', kw, o, h, fun vs S1 H1 o1 h1 => lift_sp spV_mono kw o1 (lift_V h1) k⟩
theorem gCallC (F : FnOk X.prog X.w X.K X.mg X.base (L2.CX X.prog X.w) k f fd ps (spC ct)) (hr : Room k X.A) (hg : Gl X x) (hm : X.mg x = some (.ref f)) (hk : PySem.W.keepIn X.K (.ref f) = true) (hb : Binds X.K fd ps []) (tk : Takes X W) (ha : PA X (e :: es) (dA W tas))
    (hdb : (x == ("__debug__" : Str)) = false := by decide) (he : starEach (e :: es) X.env = (false, eval e X.env) :: starEach es X.env := by rfl) (hpl : (backTo pos (starEach es X.env)).any (·.1) = false := by rfl) :
    PE X (.Call (.Name x p) (e :: es) [] pos) (dE W (sCallC ct tas)) :=
  PE.by (pe_callS F hr hg hm hk hb (fun σ => passAt tk σ) ha hdb he hpl) fun σ H Q ⟨S, Q', W', kw, o, h, k⟩ => ⟨S, _, W', kw, o, h, fun vs S1 H1 o1 h1 => lift_sp spC_mono kw o1 (lift_C h1) k⟩
/-- with defaults that fill up, and keywords: gV puts them in order -/
def sKw (gV : List V → List V → List V) (t tk : sA) : sA := fun W σ S Q => t W σ S fun vs S1 => tk W σ S1 fun zs S2 => Q (gV vs zs) S2
def dK (W : WX) (t : sA) : TA := dA W t
theorem gKNil : PK X [] (dA W sNil) := PK.by pk_nil fun σ H Q ⟨S, Q', W', kw, o, h, k⟩ => k _ _ _ o h
theorem gKCons {nm : Option Str} {kpos : Pos} {kws : List Keyword} (ha : PE X a (dE W ta)) (hr : PK X kws (dA W tas)) : PK X (⟨nm, a, kpos⟩ :: kws) (dA W (sCons ta tas)) :=
  PK.by (pk_cons ha hr) fun σ H Q ⟨S, Q', W', kw, o, h, k⟩ => ⟨S, _, W', kw, o, h, fun x S1 H1 o1 h1 => ⟨S1, _, W', kw, o1, h1, fun xs S2 H2 o2 h2 => k _ _ _ o2 h2⟩⟩
theorem passE {E : XK} (tk : Takes X (fun c d _ H => E c d H)) : Passes (L2.CX X.prog X.w) X E := fun pins σ H s e s' I c => passAt tk σ pins H s e s' I c
end
/-! ### isinstance -/
/-- the built-in classes that we ask for -/
inductive TY where
  | non | bool | int | str | list | tuple | dict
  deriving DecidableEq
def TY.nm : TY → String
  | .non => "NoneType" | .bool => "bool" | .int => "int" | .str => "str" | .list => "list" | .tuple => "tuple" | .dict => "dict"
def TY.sub : TY → TY → Bool
  | .non, .non => true | .bool, .bool => true | .bool, .int => true | .int, .int => true | .str, .str => true | .list, .list => true | .tuple, .tuple => true | .dict, .dict => true
  | _, _ => false
theorem kit_sub : ∀ a n : TY, n ≠ .non → kitB a.nm n.nm = some (a.sub n) := by
  intro a n h
  cases a <;> cases n <;> first | exact absurd rfl h | decide +kernel
def isiTy (K : PySem.W.Frag) (x : V) (S : SH) (t : TY) : Prop := match x with
  | .non => t = .non
  | .bl _ => t = .bool
  | .int _ => t = .int
  | .str _ => t = .str
  | .ref p => (t = .list ∧ ∃ xs, sL K S p xs) ∨ (t = .tuple ∧ ∃ xs, sU K S p xs) ∨ (t = .dict ∧ ((∃ kvs, At S p (.dK kvs)) ∨ ∃ kvs, At S p (.dT kvs)))
  | _ => False
theorem Own.isi {K : PySem.W.Frag} {x : V} {S : SH} {H : Hp} {t : TY} (o : Own S H) (h : isiTy K x S t) : TyX K H x (.type t.nm) := by
  unfold isiTy at h
  cases x with
  | non => cases h; exact .base .non
  | bl b => cases h; exact .base (.bl b)
  | int b => cases h; exact .base (.int b)
  | str b => cases h; exact .base (.str b)
  | byt b => exact h.elim
  | flt b => exact h.elim
  | ty b => exact h.elim
  | ref p =>
    rcases h with ⟨rfl, xs, h⟩ | ⟨rfl, xs, h⟩ | ⟨rfl, ⟨kvs, h⟩ | ⟨kvs, h⟩⟩
    · rcases o.l h with (q | ⟨ob, q⟩) | ⟨ob, its, n, q1, q2, _⟩
      · exact .base (.lst q)
      · exact .base (.frz q)
      · exact .kList q1 q2
    · rcases o.u h with (q | ⟨ob, q⟩) | ⟨ob, its, n, q1, q2, _⟩
      · exact .base (.tup q)
      · exact .fTuple q
      · exact .kTuple q1 q2
    · exact .base (.dK (o.at h))
    · exact .base (.dT (o.at h))
/-- the same over a plain heap -/
def Ty0 (K : PySem.W.Frag) (H : Hp) (x : V) (t : TY) : Prop := isiTy K x ⟨H, []⟩ t
theorem At.ex {S : SH} {H : Hp} {p : Addr} {o : HO} (w : Own S H) (h : At S p o) : At ⟨H, []⟩ p o := .inr (w.at h)
theorem Own.ty0 {K : PySem.W.Frag} {x : V} {S : SH} {H : Hp} {t : TY} (o : Own S H) (h : isiTy K x S t) : Ty0 K H x t := by
  unfold Ty0
  unfold isiTy at h ⊢
  cases x with
  | ref p =>
    rcases h with ⟨rfl, xs, h⟩ | ⟨rfl, xs, h⟩ | ⟨rfl, ⟨kvs, h⟩ | ⟨kvs, h⟩⟩
    · exact .inl ⟨rfl, xs, .inr (o.l h)⟩
    · exact .inr (.inl ⟨rfl, xs, .inr (o.u h)⟩)
    · exact .inr (.inr ⟨rfl, .inl ⟨kvs, h.ex o⟩⟩)
    · exact .inr (.inr ⟨rfl, .inr ⟨kvs, h.ex o⟩⟩)
  | _ => exact h
theorem Ty0.ex {K : PySem.W.Frag} {x : V} {H H' : Hp} {t : TY} (h : Ty0 K H x t) (e : Ext H H') : Ty0 K H' x t := ((Own.base H).ex e).ty0 h
/-- isinstance(x, a built-in class) -/
def sIsi (K : PySem.W.Frag) (n : TY) (tx : sE) : sE := fun W σ S Q => tx W σ S fun x S1 => match x with
  | .non => Q (.bl (TY.sub .non n)) S1
  | .bl _ => Q (.bl (TY.sub .bool n)) S1
  | .int _ => Q (.bl (TY.sub .int n)) S1
  | .str _ => Q (.bl (TY.sub .str n)) S1
  | .ref p => ∃ t, isiTy K (.ref p) S1 t ∧ Q (.bl (TY.sub t n)) S1
  | _ => False
theorem gIsi {x : Expr} {tx : sE} {n : TY} {nm : Str} {p p2 : Pos} {pos : Pos} (hg : Gl X "isinstance") (hm : X.mg "isinstance" = none) (hx : PE X x (dE W tx)) (hn : n ≠ .non) (hg2 : Gl X nm) (hm2 : X.mg nm = none) (hv2 : bootBuiltins nm = some (.type n.nm)) (hn2 : nm ≠ "__name__" := by decide) (hd2 : (nm == ("__debug__" : Str)) = false := by decide)
    (he : starEach (x :: [.Name nm p2]) X.env = (false, eval x X.env) :: starEach [.Name nm p2] X.env := by rfl) (he2 : starEach [.Name nm p2] X.env = (false, eval (.Name nm p2) X.env) :: starEach [] X.env := by rfl) (hpl : (backTo pos (starEach [.Name nm p2] X.env)).any (·.1) = false := by rfl) :
    PE X (.Call (.Name "isinstance" p) [x, .Name nm p2] [] pos) (dE W (sIsi X.K n tx)) :=
  PE.by (pe_callB call_isi hg hm (by decide +kernel) (pa_cons hx (pa_cons (pe_bltn (v := .ty n.nm) hg2 hm2 hv2 rfl hn2 hd2) pa_nil he2) he) (by decide) (by decide) he hpl) fun σ H Q ⟨S, Q', W', kw, o, h, k⟩ => ⟨S, _, W', kw, o, h, fun x S1 H1 o1 h1 => by
    have fin : ∀ {t : TY}, isiTy X.K x S1 t → Q' (.bl (TY.sub t n)) S1 → rIsi X.K [x, .ty n.nm] H1 Q := fun {t} ht q =>
      ⟨x, .ty n.nm, _, _, _, rfl, .ty n.nm, o1.isi ht, kit_ty (kit_sub t n hn), k _ _ _ o1 q⟩
    show rIsi X.K [x, .ty n.nm] H1 Q
    split at h1
    · exact fin (t := .non) rfl h1
    · exact fin (t := .bool) rfl h1
    · exact fin (t := .int) rfl h1
    · exact fin (t := .str) rfl h1
    · obtain ⟨t, h2, h3⟩ := h1
      exact fin h2 h3
    · exact h1.elim⟩

/-! ### own errors: raised, caught -/
/-- __init__ of an own error with one field f -/
def spErr (C : Addr) (f : Str) : Sp := fun vs H Q _ => ∃ a v, vs = [.ref a, v] ∧ H a = some (exo a C none) ∧ ∀ dx, H dx = none → dx ≠ a → Q .non (upd (upd H dx (exd dx [(f, v)])) a (exo a C (some dx)))
/-- what the written part says of the error class x, with the one field f -/
structure ErrC (P : Program) (w : World) (K : PySem.W.Frag) (mg : Str → Option Value) (base : Heap) (x f : Str) (C : Addr) : Prop where
  oex : OexC K C
  xf : XfC K C
  isc : ExcC K C
  no : PySem.W.findIn K (.ref C) f = some none
  gC : mg x = some (.ref C)
  ini : ∃ fI fd, PySem.W.findIn K (.ref C) "__init__" = some (some (.ref fI)) ∧ PySem.W.typeIn K (.ref fI) = some (.type "function") ∧ FnOk P w K mg base (L2.CX P w) 1 fI fd ["self", f] (spErr C f) ∧ Binds K fd ["self", f] []
def sRaise (C : Addr) (f : Str) (ta : sE) : sS := fun D σ S => ta D.ex σ S fun v S1 => ∀ d, D.ex (.ref C) (some d) σ (S1.new d (.xd [(f, v)]))
theorem hRaise {x f : Str} {C : Addr} {a : Expr} {ta : sE} {p pos pos2 : Pos} {k : Nat} (hc : X.calm = true) (tk : Takes X W) (T : ErrC X.prog X.w X.K X.mg X.base x f C) (hr : Room (k + 2) X.A) (hg : Gl X x) (ha : PE X a (dE W ta))
    (hdb : (x == ("__debug__" : Str)) = false := by decide) (hs : starEach (a :: []) X.env = (false, eval a X.env) :: starEach [] X.env := by rfl) (hpl : (backTo pos (starEach [] X.env)).any (·.1) = false := by rfl) :
    PS X (.Raise (some (.Call (.Name x p) [a] [] pos)) none pos2) (dS W (sRaise C f ta)) := by
  obtain ⟨fI, fd, h1, h2, F, hb⟩ := T.ini
  refine PS.by (ps_raise hc tk (pmk_oex T.oex h1 h2 F (hr.mono (by omega)) hb .nil passL hg T.gC (pa_cons ha pa_nil hs) hdb hs hpl)) fun D σ H ⟨S, D', o, h, k⟩ => ⟨S, _, D'.ex, k.ex, o, h, fun v S1 H1 o1 h1 => ?_⟩
  refine ⟨by simp, fun e he => ⟨e, v, rfl, upd_same, fun dx hdx hne => ⟨rfl, dx, [(f, v)], upd_same, ?_, ?_, ?_⟩⟩⟩
  · rw [upd_ne hne, upd_same]
  · rw [upd_ne hne] at hdx
    exact hdx
  · rw [upd_ne hne] at hdx
    refine k.ex _ _ _ _ _ (o1.new hdx (fun b u hb => ?_) upd_same) (h1 dx)
    have n1 : b ≠ e := ne_of_none hb he
    have n2 : b ≠ dx := ne_of_none hb hdx
    rw [upd_ne n2, del_ne n1, upd_ne n1, upd_ne n2, upd_ne n1]
    exact hb
/-- try: body except x as n: suite -/
def sTryAs (K : PySem.W.Frag) (c : Value) (i : Nat) (tb : sS) (ts : Addr → Value → Option Addr → sS) : sS := fun D σ S => tb { D with ex := fun cls d σ' S' => ∃ b, PySem.W.exmOne K cls c = some b ∧
  (b = true → ∀ a, ts a cls d { nx := fun σ2 S2 => D.nx (σ2.set i none) S2, rt := D.rt, bk := fun σ2 S2 => D.bk (σ2.set i none) S2, ct := fun σ2 S2 => D.ct (σ2.set i none) S2, ex := noW } (σ'.set i (some (.ref a))) S') ∧ (b = false → D.ex cls d σ' S') } σ S
theorem hTryAs {x n : Str} {c : Value} {i : Nat} {body suite : List Stmt} {b₀ : Stmt} {np pos pos' : Pos} {tb : sS} {ts : Addr → Value → Option Addr → sS}
    (hs : X.stack = X.env :: X.outer) (hf : X.env.frame = some X.env.locals) (hN : X.N.Nodup) (hi : X.N[i]? = some n) (hln : X.env.kindOf n = some .local) (hc : Names X x c) (tk : Takes X W)
    (hb : ∀ (W : WX) (pn : List (Addr × Obj)) (xe : Value → Shared → Prop), Takes (X.tr pn xe) W → PassesOwn (model X.prog X.w) X.A X.env xe → PSs (X.tr pn xe) body (dS W tb))
    (hsu : ∀ (a : Addr) (oe : Obj) (cls : Value) (d : Option Addr) (pn : List (Addr × Obj)), Zc cls d oe → (∃ vs, oe.data = .fields vs) → PSs (X.suite a ((a, oe) :: pn)) (b₀ :: suite) (dS NoW (ts a cls d))) :
    PS X (.Try body [.ExceptHandler (some (.Name x np)) (some n) (b₀ :: suite) pos'] [] [] pos) (dS W (sTryAs X.K c i tb ts)) :=
  PS.by (ps_try_as (tb := fun W => dS W tb) (ts := fun a cls d => dS NoW (ts a cls d)) hs hf hN hi hln hc tk hb hsu) fun D σ H ⟨S, D', o, h, k⟩ => ⟨S, _, o, h, ⟨k.nx, k.rt, k.bk, k.ct, fun cls d σ' S' H' o' ⟨b, e, y, n⟩ =>
    ⟨b, e, fun hb a _ => ⟨S', _, o', y hb a, ⟨fun σ2 S2 H2 o2 q => k.nx _ _ _ o2 q, k.rt, fun σ2 S2 H2 o2 q => k.bk _ _ _ o2 q, fun σ2 S2 H2 o2 q => k.ct _ _ _ o2 q, noW_imp⟩⟩, fun hb => k.ex cls d σ' S' H' o' (n hb)⟩⟩⟩
/-- e.f of the error that the suite holds -/
def sXf (a : Addr) (cls : Value) (d : Option Addr) (C : Addr) (f : Str) (te : sE) : sE := fun W σ S Q => te W σ S fun x S1 => x = .ref a ∧ cls = .ref C ∧ ∃ (dd : Addr) (fs : List (Str × V)) (v : V), d = some dd ∧ At S1 dd (.xd fs) ∧ fs.lookup f = some v ∧ Q v S1
theorem gXf {a C : Addr} {oe : Obj} {cls : Value} {d : Option Addr} {pn : List (Addr × Obj)} {e : Expr} {te : sE} {pos : Pos} {n : Str} (T : XfC X.K C) (hno : PySem.W.findIn X.K (.ref C) n = some none)
    (hz : Zc cls d oe) (hf : ∃ vs, oe.data = .fields vs) (he : PE (X.suite a ((a, oe) :: pn)) e (dE W te)) (hb : attributeBase e n X.env (eval e X.env) = eval e X.env := by rfl) :
    PE (X.suite a ((a, oe) :: pn)) (.Attribute e n pos) (dE W (sXf a cls d C n te)) :=
  PE.by (pe_xf T hno hz hf he hb) fun σ H Q ⟨S, Q', W', kw, o, h, k⟩ => ⟨S, _, W', kw, o, h, fun x S1 H1 o1 ⟨e1, e2, dd, fs, v, e3, h3, h4, h5⟩ => ⟨e1, e2, dd, fs, v, e3, o1.at h3, h4, k _ _ _ o1 h5⟩⟩
/-- isinstance(e, c), e the error that the suite holds, with its dict -/
def rIsX (K : PySem.W.Frag) (D a : Addr) (d : Addr) : List V → Hp → VK → Prop := fun xs H Q => ∃ (c : V) (cv : Value) (b : Bool) (fs : List (Str × V)), xs = [.ref a, c] ∧ H d = some (.xd fs) ∧ (∀ u, RelV c u → u = cv) ∧ PySem.W.kitOne K (.ref D) cv = some b ∧ Q (.bl b) H
theorem call_isX {a D d : Addr} {oe : Obj} {pn : List (Addr × Obj)} (C : ExcC X.K D) (hz : Zc (.ref D) (some d) oe) (hf : ∃ vs, oe.data = .fields vs) : CallR (X.suite a ((a, oe) :: pn)) (.builtin "isinstance") (rIsX X.K D a d) := by
  intro pins s σ H xs us Q I r h
  obtain ⟨c, cv, b, fs, rfl, hd, hcv, e, q⟩ := h
  cases r with
  | cons rx rr =>
    cases rr with
    | cons rt rr =>
      cases rr
      cases rx
      have ec := hcv _ rt
      subst ec
      obtain ⟨hget, _⟩ := I.pin (a, oe) (List.mem_append.mpr (.inl List.mem_cons_self))
      obtain ⟨vs, hv⟩ := hf
      have hx : ObjOk X.prog X.w H s.heap d (.xd fs) := I.hok d _ hd
      obtain ⟨mA, hns, hr⟩ := hx
      obtain ⟨od, ho, hl⟩ := lookIn_ns hns
      have J : PySem.W.InstAt s.heap a oe D (some od) := ⟨hget, hz.1, by unfold PySem.W.notCls; rw [hv] <;> rfl, by rw [hz.2]; exact ho⟩
      exact PySem.W.kia_one (PySem.W.sy_kitx C.hg C.hk C.hs C.hd C.ha C.hn C.ht C.hm) I.kIn J e (fun z => nomatch z) fun tk => ⟨.bl b, H, I.kept (t' := tk) fun _ _ z => z, rfl, q⟩
/-- class c of an isinstance of an error of the class at D: what it is, the answer -/
def rIsY (K : PySem.W.Frag) (a : Addr) (cls : Value) (d : Option Addr) : List V → Hp → VK → Prop := fun xs H Q => ∃ (D dd : Addr), cls = .ref D ∧ d = some dd ∧ ExcC K D ∧ rIsX K D a dd xs H Q
theorem call_isY {a : Addr} {cls : Value} {d : Option Addr} {oe : Obj} {pn : List (Addr × Obj)} (hz : Zc cls d oe) (hf : ∃ vs, oe.data = .fields vs) : CallR (X.suite a ((a, oe) :: pn)) (.builtin "isinstance") (rIsY X.K a cls d) := by
  intro pins s σ H xs us Q I r ⟨D, dd, e1, e2, C, h⟩
  subst e1
  subst e2
  exact call_isX C hz hf pins s σ H xs us Q I r h
def nIsY (K : PySem.W.Frag) (a : Addr) (cls : Value) (d : Option Addr) : sN := fun vs S Q => match vs with
  | [.ref p, c] => p = a ∧ ∃ (D dd : Addr) (cv : Value) (b : Bool) (fs : List (Str × V)), cls = .ref D ∧ d = some dd ∧ ExcC K D ∧ At S dd (.xd fs) ∧ (∀ u, RelV c u → u = cv) ∧ PySem.W.kitOne K (.ref D) cv = some b ∧ Q (.bl b) S
  | _ => False
theorem lIsY {K : PySem.W.Frag} {a : Addr} {cls : Value} {d : Option Addr} : LiftN (nIsY K a cls d) (rIsY K a cls d) := by
  intro vs S Q' H Q o h k
  unfold nIsY at h
  split at h
  · obtain ⟨rfl, D, dd, cv, b, fs, h1, h2, h3, h4, h5, h6, h7⟩ := h
    exact ⟨D, dd, h1, h2, h3, _, cv, b, fs, rfl, o.at h4, h5, h6, k _ _ _ o h7⟩
  · exact h.elim
theorem gIsY {a : Addr} {cls : Value} {d : Option Addr} {oe : Obj} {pn : List (Addr × Obj)} (hz : Zc cls d oe) (hf : ∃ vs, oe.data = .fields vs) {x : Expr} {p : Pos} {es : List Expr} {tas : sA} {pos : Pos} (hg : Gl (X.suite a ((a, oe) :: pn)) "isinstance") (hm : X.mg "isinstance" = none) (ha : PA (X.suite a ((a, oe) :: pn)) (x :: es) (dA W tas))
    (he : starEach (x :: es) X.env = (false, eval x X.env) :: starEach es X.env := by rfl) (hpl : (backTo pos (starEach es X.env)).any (·.1) = false := by rfl) :
    PE (X.suite a ((a, oe) :: pn)) (.Call (.Name "isinstance" p) (x :: es) [] pos) (dE W (sCall1 (nIsY X.K a cls d) tas)) := gB (X := X.suite a ((a, oe) :: pn)) (call_isY hz hf) lIsY hg hm (by decide +kernel) ha (by decide) (by decide) he hpl
/-! ### more calls -/
section
variable {k : Nat} {f : Addr} {fd : FuncData} {ps ks : List Str} {x : Str} {p : Pos} {e : Expr} {sp : Sp}
/-- a promise and its reading -/
structure Ctr (sp : Sp) (r : sWX → List V → St → SH → (V → SH → Prop) → Prop) : Prop where
  mono : SpMono sp
  lift : ∀ W vs σ S Q, r W vs σ S Q → sSp sp W vs σ S Q
def rV (f : List V → Option Ot) : sWX → List V → St → SH → (V → SH → Prop) → Prop := fun W vs σ S Q => match f vs with
  | some (.ok v) => Q v S
  | some (.er C n v) => ∀ d, W (.ref C) (some d) σ (S.new d (.xd [(n, v)]))
  | none => False
def rC {α : Type} (c : Ct α) : sWX → List V → St → SH → (V → SH → Prop) → Prop := fun W vs σ S Q => ∃ g, (∀ H, Own S H → c.pre g vs H) ∧ (∀ H v H', Own S H → c.post g H v H' → ∃ S', Own S' H' ∧ Q v S') ∧ ∀ H x d H', Own S H → c.exn g H x d H' → ∃ S', Own S' H' ∧ W x d σ S'
theorem ctrV {f : List V → Option Ot} : Ctr (spV f) (rV f) := ⟨spV_mono, fun W vs σ S Q h => lift_V h⟩
theorem ctrC {α : Type} {c : Ct α} : Ctr (spC c) (rC c) := ⟨spC_mono, fun W vs σ S Q h => lift_C h⟩
variable {r : sWX → List V → St → SH → (V → SH → Prop) → Prop}
def sCallR (r : sWX → List V → St → SH → (V → SH → Prop) → Prop) (t : sA) : sE := fun W σ S Q => t W σ S fun vs S1 => r W vs σ S1 Q
def sCallD (r : sWX → List V → St → SH → (V → SH → Prop) → Prop) (ds : List V) (t : sA) : sE := fun W σ S Q => t W σ S fun vs S1 => r W (vs ++ ds) σ S1 Q
def sCallKw (r : sWX → List V → St → SH → (V → SH → Prop) → Prop) (gV : List V → List V → List V) (t tk : sA) : sE := fun W σ S Q => t W σ S fun vs S1 => tk W σ S1 fun zs S2 => r W (gV vs zs) σ S2 Q
theorem gCallR (c : Ctr sp r) (F : FnOk X.prog X.w X.K X.mg X.base (L2.CX X.prog X.w) k f fd ps sp) (hr : Room k X.A) (hg : Gl X x) (hm : X.mg x = some (.ref f)) (hk : PySem.W.keepIn X.K (.ref f) = true) (hb : Binds X.K fd ps []) (tk : Takes X W) (ha : PA X (e :: es) (dA W tas))
    (hdb : (x == ("__debug__" : Str)) = false := by decide) (he : starEach (e :: es) X.env = (false, eval e X.env) :: starEach es X.env := by rfl) (hpl : (backTo pos (starEach es X.env)).any (·.1) = false := by rfl) :
    PE X (.Call (.Name x p) (e :: es) [] pos) (dE W (sCallR r tas)) :=
  PE.by (pe_callS F hr hg hm hk hb (fun σ => passAt tk σ) ha hdb he hpl) fun σ H Q ⟨S, Q', W', kw, o, h, k⟩ => ⟨S, _, W', kw, o, h, fun vs S1 H1 o1 h1 => lift_sp c.mono kw o1 (c.lift _ _ _ _ _ h1) k⟩
theorem gCallD {ds : List V} {dus : List Value} (c : Ctr sp r) (F : FnOk X.prog X.w X.K X.mg X.base (L2.CX X.prog X.w) k f fd ps sp) (hr : Room k X.A) (hg : Gl X x) (hm : X.mg x = some (.ref f)) (hk : PySem.W.keepIn X.K (.ref f) = true) (hb : Binds X.K fd ps dus) (hd : Vals ds dus) (tk : Takes X W) (ha : PA X (e :: es) (dA W tas))
    (hdb : (x == ("__debug__" : Str)) = false := by decide) (he : starEach (e :: es) X.env = (false, eval e X.env) :: starEach es X.env := by rfl) (hpl : (backTo pos (starEach es X.env)).any (·.1) = false := by rfl) :
    PE X (.Call (.Name x p) (e :: es) [] pos) (dE W (sCallD r ds tas)) :=
  PE.by (pe_callSD F hr hg hm hk hb hd (fun σ => passAt tk σ) ha hdb he hpl) fun σ H Q ⟨S, Q', W', kw, o, h, k⟩ => ⟨S, _, W', kw, o, h, fun vs S1 H1 o1 h1 => lift_sp c.mono kw o1 (c.lift _ _ _ _ _ h1) k⟩
/-- the callee runs, called with keywords -/
theorem run_fnkS {CX : CXT} {pins : List (Addr × Obj)} {σ : St} {H : Hp} {s : Shared} {Q : VK} {us ws : List Value} {vs zs : List V} {E : St → XK} {g : List Value → List Value → List Value} {gV : List V → List V → List V} (F : FnOk X.prog X.w X.K X.mg X.base CX k f fd ps sp) (hr : Room k X.A) (hb : KBinds X.K fd ps ks g gV) (hx : PassesAt CX X σ (E σ))
    (I : Inv X pins σ H s) (r : Vals vs us) (rz : Vals zs ws) (h : sp (gV vs zs) H Q (E σ)) : wpAny (model X.prog X.w) X.A (call (.ref f) us (ks.zip ws)) (EP X pins σ Q) X.xe s := by
  have r2 := hb.rel r rz
  have hl : (g us ws).length = ps.length := by rw [← r2.length]; exact F.len _ _ _ _ h
  refine wpAny_call (codeAny_mono (F.run X.A X.stack s H ⟨us, ks.zip ws⟩ (g us ws) (gV vs zs) Q (E σ) hr I.env0 (hb.to s us ws I.kIn hl) r2 h) fun r s' hq => ?_)
  cases r with
  | error e => exact hx pins H s e s' I hq
  | ok fl =>
    cases fl with
    | ret u => exact I.after hq
    | next => exact False.elim hq
    | brk => exact False.elim hq
    | cont => exact False.elim hq
def tCallKS (sp : Sp) (gV : List V → List V → List V) (E : St → XK) (t tk : TA) : TE := fun σ H Q => t σ H fun vs H1 => tk σ H1 fun zs H2 => sp (gV vs zs) H2 Q (E σ)
theorem pe_callKS {CX : CXT} {kws : List Keyword} {t tk : TA} {E : St → XK} {g : List Value → List Value → List Value} {gV : List V → List V → List V} (F : FnOk X.prog X.w X.K X.mg X.base CX k f fd ps sp) (hr : Room k X.A) (hg : Gl X x) (hm : X.mg x = some (.ref f)) (hk : PySem.W.keepIn X.K (.ref f) = true) (hb : KBinds X.K fd ps ks g gV) (hx : ∀ σ, PassesAt CX X σ (E σ))
    (ha : PA X (e :: es) t) (hkw : PK X kws tk) (hall : (backToKw pos (keywordEach kws X.env)).all (·.1.isSome) = true := by rfl) (hks : (backToKw pos (keywordEach kws X.env)).filterMap (·.1) = ks := by rfl)
    (hdb : (x == ("__debug__" : Str)) = false := by decide) (he : starEach (e :: es) X.env = (false, eval e X.env) :: starEach es X.env := by rfl)
    (hpl : ((backTo pos (starEach (e :: es) X.env)).any (·.1) || (backToKw pos (keywordEach kws X.env)).any (·.1.isNone)) = false := by rfl) :
    PE X (.Call (.Name x p) (e :: es) kws pos) (tCallKS sp gV E t tk) := by
  refine ⟨fun pins s σ H Q I h => ?_⟩
  refine wpAny_Call_Name_kw (ld_glob I hg hm ?_ hdb)
  refine PySem.W.callWith_KW (h₀ := X.base) I.ok.mod.kin hk hall (thn (ha.run pos pins s σ H _ I h) fun us s1 ⟨vs, H1, I1, r, q⟩ => ?_) hpl he
  refine thn (hkw.run pos pins s1 σ H1 _ I1 q) fun ws s2 ⟨zs, H2, I2, rz, q2⟩ => ⟨I2.kIn, ?_⟩
  rw [hks]
  exact run_fnkS F hr hb (hx σ) I2 r rz q2
theorem run_fnNS {CX : CXT} {n : Nat} {pins : List (Addr × Obj)} {σ : St} {H : Hp} {s : Shared} {Q : VK} {us ws : List Value} {vs zs : List V} {E : St → XK} {g : List Value → List Value → List Value} {gV : List V → List V → List V} (F : FnOk X.prog X.w X.K X.mg X.base CX k f fd ps sp) (hr : Room k X.A) (hb : KBn X.K fd ps n ks g gV) (hx : PassesAt CX X σ (E σ))
    (I : Inv X pins σ H s) (r : Vals vs us) (rz : Vals zs ws) (l1 : vs.length = n) (l2 : zs.length = ks.length) (h : sp (gV vs zs) H Q (E σ)) : wpAny (model X.prog X.w) X.A (call (.ref f) us (ks.zip ws)) (EP X pins σ Q) X.xe s := by
  have r2 := hb.rel r rz
  refine wpAny_call (codeAny_mono (F.run X.A X.stack s H ⟨us, ks.zip ws⟩ (g us ws) (gV vs zs) Q (E σ) hr I.env0 (hb.to s us ws I.kIn (r.length.symm.trans l1) (rz.length.symm.trans l2)) r2 h) fun r s' hq => ?_)
  cases r with
  | error e => exact hx pins H s e s' I hq
  | ok fl =>
    cases fl with
    | ret u => exact I.after hq
    | next => exact False.elim hq
    | brk => exact False.elim hq
    | cont => exact False.elim hq
def tCallNS (n m : Nat) (sp : Sp) (gV : List V → List V → List V) (E : St → XK) (t tk : TA) : TE := fun σ H Q => t σ H fun vs H1 => tk σ H1 fun zs H2 => vs.length = n ∧ zs.length = m ∧ sp (gV vs zs) H2 Q (E σ)
theorem pe_callNS {CX : CXT} {n : Nat} {kws : List Keyword} {t tk : TA} {E : St → XK} {g : List Value → List Value → List Value} {gV : List V → List V → List V} (F : FnOk X.prog X.w X.K X.mg X.base CX k f fd ps sp) (hr : Room k X.A) (hg : Gl X x) (hm : X.mg x = some (.ref f)) (hk : PySem.W.keepIn X.K (.ref f) = true) (hb : KBn X.K fd ps n ks g gV) (hx : ∀ σ, PassesAt CX X σ (E σ))
    (ha : PA X (e :: es) t) (hkw : PK X kws tk) (hall : (backToKw pos (keywordEach kws X.env)).all (·.1.isSome) = true := by rfl) (hks : (backToKw pos (keywordEach kws X.env)).filterMap (·.1) = ks := by rfl)
    (hdb : (x == ("__debug__" : Str)) = false := by decide) (he : starEach (e :: es) X.env = (false, eval e X.env) :: starEach es X.env := by rfl)
    (hpl : ((backTo pos (starEach (e :: es) X.env)).any (·.1) || (backToKw pos (keywordEach kws X.env)).any (·.1.isNone)) = false := by rfl) :
    PE X (.Call (.Name x p) (e :: es) kws pos) (tCallNS n ks.length sp gV E t tk) := by
  refine ⟨fun pins s σ H Q I h => ?_⟩
  refine wpAny_Call_Name_kw (ld_glob I hg hm ?_ hdb)
  refine PySem.W.callWith_KW (h₀ := X.base) I.ok.mod.kin hk hall (thn (ha.run pos pins s σ H _ I h) fun us s1 ⟨vs, H1, I1, r, q⟩ => ?_) hpl he
  refine thn (hkw.run pos pins s1 σ H1 _ I1 q) fun ws s2 ⟨zs, H2, I2, rz, l1, l2, q2⟩ => ⟨I2.kIn, ?_⟩
  rw [hks]
  exact run_fnNS F hr hb (hx σ) I2 r rz l1 l2 q2
/-- a def of the module by its name: what it promises; the last ds.length parameters are left to their defaults ds -/
structure DefC (P : Program) (w : World) (K : PySem.W.Frag) (mg : Str → Option Value) (base : Heap) (x : Str) (ps : List Str) (k : Nat) (ds : List V) (sp : Sp) : Prop where
  ex : ∃ (f : Addr) (fd : FuncData) (dus : List Value), mg x = some (.ref f) ∧ PySem.W.keepIn K (.ref f) = true ∧ FnOk P w K mg base (L2.CX P w) k f fd ps sp ∧ Vals ds dus ∧ Binds K fd ps dus
/-- .. called with n positional values and the keywords ks -/
structure DefN (P : Program) (w : World) (K : PySem.W.Frag) (mg : Str → Option Value) (base : Heap) (x : Str) (ps : List Str) (k n : Nat) (ks : List Str) (gV : List V → List V → List V) (sp : Sp) : Prop where
  ex : ∃ (f : Addr) (fd : FuncData) (g : List Value → List Value → List Value), mg x = some (.ref f) ∧ PySem.W.keepIn K (.ref f) = true ∧ FnOk P w K mg base (L2.CX P w) k f fd ps sp ∧ KBn K fd ps n ks g gV
theorem gCall1 {j : Nat} {ds : List V} (c : Ctr sp r) (T : DefC X.prog X.w X.K X.mg X.base x ps k ds sp) (hr : Room j X.A) (hj : k ≤ j) (hg : Gl X x) (tk : Takes X W) (ha : PA X (e :: es) (dA W tas))
    (hdb : (x == ("__debug__" : Str)) = false := by decide) (he : starEach (e :: es) X.env = (false, eval e X.env) :: starEach es X.env := by rfl) (hpl : (backTo pos (starEach es X.env)).any (·.1) = false := by rfl) :
    PE X (.Call (.Name x p) (e :: es) [] pos) (dE W (sCallD r ds tas)) := by
  obtain ⟨f, fd, dus, hm, hk, F, hd, hb⟩ := T.ex
  exact gCallD c F (hr.mono hj) hg hm hk hb hd tk ha hdb he hpl
def sCallN (r : sWX → List V → St → SH → (V → SH → Prop) → Prop) (n m : Nat) (gV : List V → List V → List V) (t tk : sA) : sE := fun W σ S Q => t W σ S fun vs S1 => tk W σ S1 fun zs S2 => vs.length = n ∧ zs.length = m ∧ r W (gV vs zs) σ S2 Q
theorem gCall2 {j n m : Nat} {kws : List Keyword} {tks : sA} {gV : List V → List V → List V} (c : Ctr sp r) (T : DefN X.prog X.w X.K X.mg X.base x ps k n ks gV sp) (hr : Room j X.A) (hj : k ≤ j) (hg : Gl X x) (tk : Takes X W) (ha : PA X (e :: es) (dA W tas)) (hkw : PK X kws (dA W tks)) (hm : ks.length = m)
    (hall : (backToKw pos (keywordEach kws X.env)).all (·.1.isSome) = true := by rfl) (hks : (backToKw pos (keywordEach kws X.env)).filterMap (·.1) = ks := by rfl)
    (hdb : (x == ("__debug__" : Str)) = false := by decide) (he : starEach (e :: es) X.env = (false, eval e X.env) :: starEach es X.env := by rfl)
    (hpl : ((backTo pos (starEach (e :: es) X.env)).any (·.1) || (backToKw pos (keywordEach kws X.env)).any (·.1.isNone)) = false := by rfl) :
    PE X (.Call (.Name x p) (e :: es) kws pos) (dE W (sCallN r n m gV tas tks)) := by
  obtain ⟨f, fd, g, hmg, hk, F, hb⟩ := T.ex
  subst hm
  exact PE.by (pe_callNS F (hr.mono hj) hg hmg hk hb (fun σ => passAt tk σ) ha hkw hall hks hdb he hpl) fun σ H Q ⟨S, Q', W', kw, o, h, k⟩ => ⟨S, _, W', kw, o, h, fun vs S1 H1 o1 h1 => ⟨S1, _, W', kw, o1, h1, fun zs S2 H2 o2 ⟨l1, l2, h2⟩ => ⟨l1, l2, lift_sp c.mono kw o2 (c.lift _ _ _ _ _ h2) k⟩⟩⟩
end
/-- a built-in function that a module's name holds (from m import f) -/
theorem gBf {id : String} {x : Str} {p : Pos} {e : Expr} {r : sN} {R : List V → Hp → VK → Prop} (hc : CallR X (.builtin id) R) (l : LiftN r R) (hg : Gl X x) (hm : X.mg x = some (.builtin id)) (ha : PA X (e :: es) (dA W tas)) (hdb : (x == ("__debug__" : Str)) = false := by decide)
    (he : starEach (e :: es) X.env = (false, eval e X.env) :: starEach es X.env := by rfl) (hpl : (backTo pos (starEach es X.env)).any (·.1) = false := by rfl) : PE X (.Call (.Name x p) (e :: es) [] pos) (dE W (sCall1 r tas)) :=
  PE.by (pe_callBfun hc hg hm ha hdb he hpl) fun σ H Q ⟨S, Q', W', kw, o, h, k⟩ => ⟨S, _, W', kw, o, h, fun vs S1 H1 o1 h1 => l vs S1 Q' H1 Q o1 h1 k⟩

/-! ### xs.count(x), flat -/
def rCntF (K : PySem.W.Frag) : V → List V → Hp → VK → Prop := fun x vs H Q => ∃ (p : Addr) (xs : List V) (y : V), x = .ref p ∧ vs = [y] ∧ SqL K H p xs ∧ flatV y = true ∧ xs.all flatV = true ∧ Q (.int (xs.countP fun z => eqV z y : Nat)) H
theorem count_eqU {x : V} : ∀ {xs : List V} {us : List Value}, Vals xs us → xs.all flatV = true → us.countP (eqU x) = xs.countP fun y => eqV y x
  | _, _, .nil, _ => rfl
  | y :: xs, u :: us, .cons r t, f => by
    rw [List.all_cons, Bool.and_eq_true] at f
    rw [List.countP_cons, List.countP_cons, eqU_of r f.1, count_eqU t f.2]
theorem mt_lcountF : MtR X "list.count" (rCntF X.K) := by
  intro pins s σ H x xs v us Q I rx rxs h
  obtain ⟨p, ys, y, rfl, rfl, hs, f1, f2, q⟩ := h
  cases rx
  obtain ⟨u, rfl, ru⟩ := rxs.one
  obtain ⟨its, rv, ⟨⟨cls, dd, data, sl⟩, n, ho, hc, hdn, hd⟩, hlen⟩ := I.list hs
  simp only at hc hd
  subst hc hd
  refine call_meets PySem.F.slot_list_count ⟨_, ho, rfl⟩ PySem.F.entry_list_count (PySem.F.args_list_count_2 _ _)
    (SeqAt.list_countAt p its.toArray n dd sl u (eqU y)) ⟨ho, fun z hz => mem_eqAt ru f1 rv f2 z (by simpa using hz), ?_⟩
  refine ⟨.int (ys.countP fun z => eqV z y : Nat), H, I.tok _, ⟨s.toks, ?_⟩, q⟩
  show Value.int ((its.toArray.toList.countP (eqU y) : Nat) : Int) s.toks = Value.int ((ys.countP fun z => eqV z y : Nat) : Int) s.toks
  have e : its.toArray.toList = its := by simp
  rw [e, count_eqU rv f2]
def mCnt (K : PySem.W.Frag) : sM := fun x vs S Q => match x, vs with
  | .ref p, [y] => ∃ xs, sL K S p xs ∧ flatV y = true ∧ xs.all flatV = true ∧ Q (.int (xs.countP fun z => eqV z y : Nat)) S
  | _, _ => False
theorem lCnt {K : PySem.W.Frag} : LiftM (mCnt K) (rCntF K) := by
  intro x vs S Q' H Q o h k
  unfold mCnt at h
  split at h
  · obtain ⟨xs, h1, h2, h3, h4⟩ := h
    exact ⟨_, xs, _, rfl, rfl, o.l h1, h2, h3, k _ _ _ o h4⟩
  · exact h.elim

/-! ### math.comb -/
def rComb : List V → Hp → VK → Prop := fun vs H Q => ∃ a b : Int, vs = [.int a, .int b] ∧ 0 ≤ a ∧ 0 ≤ b ∧ a ≤ 18000 ∧ Q (.int (PySem.W.mcComb a b)) H
theorem cr_comb : CallR X (.builtin "math.comb") rComb := by
  intro pins s σ H vs us Q I r h
  obtain ⟨a, b, rfl, h1, h2, h3, q⟩ := h
  obtain ⟨t, u, rfl⟩ := Vals.int2 r
  exact PySem.W.mc_comb h1 h2 (by omega) (.inr h3) fun _ => ⟨.int _, H, I.tok _, ⟨_, rfl⟩, q⟩
def nComb : sN := fun vs S Q => match vs with
  | [.int a, .int b] => 0 ≤ a ∧ 0 ≤ b ∧ a ≤ 18000 ∧ Q (.int (PySem.W.mcComb a b)) S
  | _ => False
theorem lComb : LiftN nComb rComb := by
  intro vs S Q' H Q o h k
  unfold nComb at h
  split at h
  · exact ⟨_, _, rfl, h.1, h.2.1, h.2.2.1, k _ _ _ o h.2.2.2⟩
  · exact h.elim
/-! ### in short -/
theorem gv (i : Nat) {x : Str} {pos : Pos} (hN : X.N[i]? = some x := by rfl) (hv : Vis X.env.scope x := by first | exact Or.inl rfl | exact Or.inr (Or.inl rfl) | exact Or.inr (Or.inr rfl)) (hd : (x == ("__debug__" : Str)) = false := by decide)
    (hcd : (x == ("__classdict__" : Str)) = false := by decide) : PE X (.Name x pos) (dE W (sVar i)) := gVar hN hv hd hcd
theorem gOneV {a : Expr} {ta : sE} {op : BoolOp} {pos : Pos} (h : PE X a (dE W ta)) : PE X (.BoolOp op [a] pos) (dE W ta) := pe_one h
theorem gAnd1 {a : Expr} {ta : sT} {pos : Pos} (h : PT X a (dT W ta)) : PW X (.BoolOp .And [a] pos) (dT W ta) := pw_and1 h
theorem gOr1 {a : Expr} {ta : sT} {pos : Pos} (h : PT X a (dT W ta)) : PW X (.BoolOp .Or [a] pos) (dT W ta) := pw_or1 h
/-- a built-in class, an own class, a module's constant as a value -/
theorem gTyV {x : Str} {T : String} {pos : Pos} (hg : Gl X x) (hm : X.mg x = none) (hv : bootBuiltins x = some (.type T)) (hn : x ≠ "__name__" := by decide) (hd : (x == ("__debug__" : Str)) = false := by decide) : PE X (.Name x pos) (dE W (sC (.ty T))) := gC_of (pe_bltn hg hm hv rfl hn hd)
theorem gClV {x : Str} {C : Addr} {pos : Pos} (hg : Gl X x) (hm : X.mg x = some (.ref C)) (hd : (x == ("__debug__" : Str)) = false := by decide) : PE X (.Name x pos) (dE W (sC (.ref C))) := gC_of (pe_glob hg hm rfl hd)
theorem gCnV {x : Str} {i : Int} {t : Tok} {pos : Pos} (hg : Gl X x) (hm : X.mg x = some (.int i t)) (hd : (x == ("__debug__" : Str)) = false := by decide) : PE X (.Name x pos) (dE W (sC (.int i))) := gC_of (pe_glob hg hm ⟨t, rfl⟩ hd)
/-! ### a def's body -/
theorem start_body {W : WX} {t : sS} {D : Ends} {σ : St} {H : Hp} (S : SH) (o : Own S H)
    (h : t { nx := fun σ' S' => ∀ H', Own S' H' → D.nx σ' H', rt := fun v S' => ∀ H', Own S' H' → D.rt v H', ex := fun c d σ' S' => ∀ H', Own S' H' → W c d σ' H' } σ S) (hb : ∀ σ H, D.bk σ H ↔ False) (hc : ∀ σ H, D.ct σ H ↔ False) : dS W t D σ H :=
  ⟨S, _, o, h, ⟨fun σ' S' H' o' q => q H' o', fun v S' H' o' q => q H' o', fun _ _ _ _ q => q.elim, fun _ _ _ _ q => q.elim, fun c d σ' S' H' o' q => q H' o'⟩⟩
/-- what a body must show, by a contract -/
abbrev endsC {α : Type} (ct : Ct α) (g : α) (H : Hp) : sEnds := ⟨fun _ S' => ∀ H', Own S' H' → ct.post g H .non H', fun v S' => ∀ H', Own S' H' → ct.post g H v H', fun _ _ => False, fun _ _ => False, fun c d _ S' => ∀ H', Own S' H' → ct.exn g H c d H'⟩
theorem body_C {α : Type} {ct : Ct α} {t : sS} {σ : St} {vs : List V} {H : Hp} {Q : VK} {E : XK} (h : spC ct vs H Q E) (hv : ∀ g, ct.pre g vs H → ∃ S, Own S H ∧ t (endsC ct g H) σ S) :
    dS (fun c d _ H => E c d H) t { nx := fun _ H' => Q .non H', rt := Q } σ H := by
  obtain ⟨g, h1, h2, h3⟩ := h
  obtain ⟨S, o, q⟩ := hv g h1
  exact ⟨S, _, o, q, ⟨fun _ S' H' o' q => h2 _ _ (q H' o'), fun v S' H' o' q => h2 _ _ (q H' o'), fun _ _ _ _ q => q.elim, fun _ _ _ _ q => q.elim, fun c d σ' S' H' o' q => h3 _ _ _ (q H' o')⟩⟩
abbrev endsV (o : Ot) (H : Hp) : sEnds := ⟨fun _ S' => match o with | .ok v => v = .non ∧ (∀ a u, H a = some u → S'.F a = some u) | .er _ _ _ => False, fun v' S' => match o with | .ok v => v' = v ∧ (∀ a u, H a = some u → S'.F a = some u) | .er _ _ _ => False, fun _ _ => False, fun _ _ => False,
  fun c d _ S' => match o with | .ok _ => False | .er C n v => c = .ref C ∧ ∃ dd, d = some dd ∧ S'.F = H ∧ (∃ i : Nat, S'.G[i]? = some (dd, .xd [(n, v)]))⟩
theorem body_V {f : List V → Option Ot} {t : sS} {σ : St} {vs : List V} {H : Hp} {Q : VK} {E : XK} (h : spV f vs H Q E) (hv : ∀ o, f vs = some o → t (endsV o H) σ ⟨H, []⟩) :
    dS (fun c d _ H => E c d H) t { nx := fun _ H' => Q .non H', rt := Q } σ H := by
  unfold spV at h
  split at h
  · rename_i v e
    refine ⟨⟨H, []⟩, _, Own.base H, hv _ e, ⟨fun _ S' H' o' q => ?_, fun v S' H' o' q => ?_, fun _ _ _ _ q => q.elim, fun _ _ _ _ q => q.elim, fun c d σ' S' H' o' q => q.elim⟩⟩
    · obtain ⟨rfl, q⟩ := q
      exact h H' fun a u e => o'.fr a u (q a u e)
    · obtain ⟨rfl, q⟩ := q
      exact h H' fun a u e => o'.fr a u (q a u e)
  · rename_i C n v e
    refine ⟨⟨H, []⟩, _, Own.base H, hv _ e, ⟨fun _ S' H' o' q => q.elim, fun v S' H' o' q => q.elim, fun _ _ _ _ q => q.elim, fun _ _ _ _ q => q.elim, fun c d σ' S' H' o' q => ?_⟩⟩
    obtain ⟨rfl, dd, rfl, q1, i, q2⟩ := q
    refine h H' dd (fun a u e => o'.fr a u (by rw [q1]; exact e)) ?_ (o'.g q2)
    rw [← q1]
    exact (o'.gs _ (List.mem_of_getElem? q2)).2
  · exact h.elim
end
end SY
namespace LW
open PySem PySem.Spec PyProof.Rows L2 SY
/-! ### the text -/
def topS (i : Nat) : Stmt := PySem.Challenge.pw_lastside_k11_merges.main.body.getD i (.Pass ⟨0, 0, 0, 0⟩)
abbrev s_InvalidFlags_init : Stmt := inClass (topS 3) 0
abbrev N_InvalidFlags_init : List Str := ["self", "flags"]
theorem sc_InvalidFlags_init : FnScope N_InvalidFlags_init ["self", "flags"] (defScope s_InvalidFlags_init) := ⟨rfl, rfl, rfl, by decide +kernel, rfl, by decide +kernel, by decide +kernel⟩
abbrev s_InvalidSlot_init : Stmt := inClass (topS 4) 0
abbrev N_InvalidSlot_init : List Str := ["self", "slot"]
theorem sc_InvalidSlot_init : FnScope N_InvalidSlot_init ["self", "slot"] (defScope s_InvalidSlot_init) := ⟨rfl, rfl, rfl, by decide +kernel, rfl, by decide +kernel, by decide +kernel⟩
abbrev s_InvalidLine_init : Stmt := inClass (topS 5) 0
abbrev N_InvalidLine_init : List Str := ["self", "index"]
theorem sc_InvalidLine_init : FnScope N_InvalidLine_init ["self", "index"] (defScope s_InvalidLine_init) := ⟨rfl, rfl, rfl, by decide +kernel, rfl, by decide +kernel, by decide +kernel⟩
abbrev s_InvalidRow_init : Stmt := inClass (topS 6) 0
abbrev N_InvalidRow_init : List Str := ["self", "index"]
theorem sc_InvalidRow_init : FnScope N_InvalidRow_init ["self", "index"] (defScope s_InvalidRow_init) := ⟨rfl, rfl, rfl, by decide +kernel, rfl, by decide +kernel, by decide +kernel⟩
abbrev s_InvalidNumber_init : Stmt := inClass (topS 7) 0
abbrev N_InvalidNumber_init : List Str := ["self", "number"]
theorem sc_InvalidNumber_init : FnScope N_InvalidNumber_init ["self", "number"] (defScope s_InvalidNumber_init) := ⟨rfl, rfl, rfl, by decide +kernel, rfl, by decide +kernel, by decide +kernel⟩
abbrev s_InvalidText_init : Stmt := inClass (topS 8) 0
abbrev N_InvalidText_init : List Str := ["self", "index"]
theorem sc_InvalidText_init : FnScope N_InvalidText_init ["self", "index"] (defScope s_InvalidText_init) := ⟨rfl, rfl, rfl, by decide +kernel, rfl, by decide +kernel, by decide +kernel⟩
abbrev s_TooMany_init : Stmt := inClass (topS 9) 0
abbrev N_TooMany_init : List Str := ["self", "most"]
theorem sc_TooMany_init : FnScope N_TooMany_init ["self", "most"] (defScope s_TooMany_init) := ⟨rfl, rfl, rfl, by decide +kernel, rfl, by decide +kernel, by decide +kernel⟩
abbrev s_is_integer : Stmt := topS 12
abbrev N_is_integer : List Str := ["value"]
theorem sc_is_integer : FnScope N_is_integer ["value"] (defScope s_is_integer) := ⟨rfl, rfl, rfl, by decide +kernel, rfl, by decide +kernel, by decide +kernel⟩
abbrev s_checked_number : Stmt := topS 13
abbrev N_checked_number : List Str := ["number", "least", "most"]
theorem sc_checked_number : FnScope N_checked_number ["number", "least", "most"] (defScope s_checked_number) := ⟨rfl, rfl, rfl, by decide +kernel, rfl, by decide +kernel, by decide +kernel⟩
abbrev s_choose : Stmt := topS 15
abbrev N_choose : List Str := ["total", "part"]
theorem sc_choose : FnScope N_choose ["total", "part"] (defScope s_choose) := ⟨rfl, rfl, rfl, by decide +kernel, rfl, by decide +kernel, by decide +kernel⟩
abbrev s_check_row : Stmt := topS 16
abbrev N_check_row : List Str := ["row"]
theorem sc_check_row : FnScope N_check_row ["row"] (defScope s_check_row) := ⟨rfl, rfl, rfl, by decide +kernel, rfl, by decide +kernel, by decide +kernel⟩
abbrev s_least : Stmt := topS 17
abbrev N_least : List Str := ["row"]
theorem sc_least : FnScope N_least ["row"] (defScope s_least) := ⟨rfl, rfl, rfl, by decide +kernel, rfl, by decide +kernel, by decide +kernel⟩
abbrev s_cut_count : Stmt := topS 18
abbrev N_cut_count : List Str := ["row", "blocks", "least"]
theorem sc_cut_count : FnScope N_cut_count ["row", "blocks"] (defScope s_cut_count) := ⟨rfl, rfl, rfl, by decide +kernel, rfl, by decide +kernel, by decide +kernel⟩
abbrev s_merge_ways : Stmt := topS 19
abbrev N_merge_ways : List Str := ["length", "least", "other_length", "other_least", "same", "total"]
theorem sc_merge_ways : FnScope N_merge_ways ["length", "least", "other_length", "other_least", "same"] (defScope s_merge_ways) := ⟨rfl, rfl, rfl, by decide +kernel, rfl, by decide +kernel, by decide +kernel⟩
abbrev s_merges : Stmt := topS 20
abbrev N_merges : List Str := ["length", "least", "other_length", "other_least", "same"]
theorem sc_merges : FnScope N_merges ["length", "least", "other_length", "other_least", "same"] (defScope s_merges) := ⟨rfl, rfl, rfl, by decide +kernel, rfl, by decide +kernel, by decide +kernel⟩
abbrev s_l_cell : Stmt := topS 22
abbrev N_l_cell : List Str := ["_law_script", "_law_k"]
theorem sc_l_cell : FnScope N_l_cell ["_law_script", "_law_k"] (defScope s_l_cell) := ⟨rfl, rfl, rfl, by decide +kernel, rfl, by decide +kernel, by decide +kernel⟩
abbrev s_l_box : Stmt := topS 23
abbrev N_l_box : List Str := ["_law_script", "_law_k"]
theorem sc_l_box : FnScope N_l_box ["_law_script", "_law_k"] (defScope s_l_box) := ⟨rfl, rfl, rfl, by decide +kernel, rfl, by decide +kernel, by decide +kernel⟩
abbrev s_l_take : Stmt := topS 24
abbrev N_l_take : List Str := ["_law_box_here", "_law_size", "_law_digit", "_law_mixed"]
theorem sc_l_take : FnScope N_l_take ["_law_box_here", "_law_size"] (defScope s_l_take) := ⟨rfl, rfl, rfl, by decide +kernel, rfl, by decide +kernel, by decide +kernel⟩
abbrev s_l_row : Stmt := topS 25
abbrev N_l_row : List Str := ["_law_box_here", "_law_letters", "_law_way", "_law_row_here", "_law_k", "_law_load"]
theorem sc_l_row : FnScope N_l_row ["_law_box_here", "_law_letters", "_law_way"] (defScope s_l_row) := ⟨rfl, rfl, rfl, by decide +kernel, rfl, by decide +kernel, by decide +kernel⟩
abbrev s_l_least : Stmt := topS 26
abbrev N_l_least : List Str := ["_law_row_here"]
theorem sc_l_least : FnScope N_l_least ["_law_row_here"] (defScope s_l_least) := ⟨rfl, rfl, rfl, by decide +kernel, rfl, by decide +kernel, by decide +kernel⟩
abbrev s_l_talks : Stmt := topS 27
abbrev N_l_talks : List Str := ["_law_one", "_law_other", "_law_on_x", "_law_on_y", "_law_used", "_law_spent", "_law_ways", "_law_k"]
theorem sc_l_talks : FnScope N_l_talks ["_law_one", "_law_other"] (defScope s_l_talks) := ⟨rfl, rfl, rfl, by decide +kernel, rfl, by decide +kernel, by decide +kernel⟩
abbrev s_l_choose : Stmt := topS 28
abbrev N_l_choose : List Str := ["_law_total", "_law_part", "_law_ways", "_law_k"]
theorem sc_l_choose : FnScope N_l_choose ["_law_total", "_law_part"] (defScope s_l_choose) := ⟨rfl, rfl, rfl, by decide +kernel, rfl, by decide +kernel, by decide +kernel⟩
abbrev s_l_formula : Stmt := topS 29
abbrev N_l_formula : List Str := ["_law_numbers", "_law_on_x", "_law_spare"]
theorem sc_l_formula : FnScope N_l_formula ["_law_numbers", "_law_on_x"] (defScope s_l_formula) := ⟨rfl, rfl, rfl, by decide +kernel, rfl, by decide +kernel, by decide +kernel⟩
abbrev s_l_is_number : Stmt := topS 30
abbrev N_l_is_number : List Str := ["_law_actual", "_law_due"]
theorem sc_l_is_number : FnScope N_l_is_number ["_law_actual", "_law_due"] (defScope s_l_is_number) := ⟨rfl, rfl, rfl, by decide +kernel, rfl, by decide +kernel, by decide +kernel⟩
abbrev s_l_sum : Stmt := topS 31
abbrev N_l_sum : List Str := ["_law_one", "_law_other", "_law_more", "_law_total", "_law_blocks"]
theorem sc_l_sum : FnScope N_l_sum ["_law_one", "_law_other", "_law_more"] (defScope s_l_sum) := ⟨rfl, rfl, rfl, by decide +kernel, rfl, by decide +kernel, by decide +kernel⟩
abbrev s_l_rows_merged : Stmt := topS 32
abbrev N_l_rows_merged : List Str := ["_law_one", "_law_other", "_law_any_least", "_law_least_here", "_law_other_least", "_law_due", "_law_actual"]
theorem sc_l_rows_merged : FnScope N_l_rows_merged ["_law_one", "_law_other", "_law_any_least"] (defScope s_l_rows_merged) := ⟨rfl, rfl, rfl, by decide +kernel, rfl, by decide +kernel, by decide +kernel⟩
abbrev s_l_any_numbers : Stmt := topS 33
abbrev N_l_any_numbers : List Str := ["_law_box_here", "_law_wide", "_law_numbers"]
theorem sc_l_any_numbers : FnScope N_l_any_numbers ["_law_box_here"] (defScope s_l_any_numbers) := ⟨rfl, rfl, rfl, by decide +kernel, rfl, by decide +kernel, by decide +kernel⟩
abbrev s_l_wrong_number : Stmt := topS 34
abbrev N_l_wrong_number : List Str := ["_law_box_here", "_law_place", "_law_pick", "_law_values"]
theorem sc_l_wrong_number : FnScope N_l_wrong_number ["_law_box_here", "_law_place"] (defScope s_l_wrong_number) := ⟨rfl, rfl, rfl, by decide +kernel, rfl, by decide +kernel, by decide +kernel⟩
abbrev s_l_refusal : Stmt := topS 35
abbrev N_l_refusal : List Str := ["_law_numbers", "_law_on_x", "e", "_law_kinds"]
theorem sc_l_refusal : FnScope N_l_refusal ["_law_numbers", "_law_on_x"] (defScope s_l_refusal) := ⟨rfl, rfl, rfl, by decide +kernel, rfl, by decide +kernel, by decide +kernel⟩
abbrev s_l_same : Stmt := topS 36
abbrev N_l_same : List Str := ["_law_actual", "_law_due"]
theorem sc_l_same : FnScope N_l_same ["_law_actual", "_law_due"] (defScope s_l_same) := ⟨rfl, rfl, rfl, by decide +kernel, rfl, by decide +kernel, by decide +kernel⟩
abbrev s_l_refused : Stmt := topS 37
abbrev N_l_refused : List Str := ["_law_box_here", "_law_numbers", "_law_first", "_law_bent", "_law_place", "_law_wrong", "_law_actual"]
theorem sc_l_refused : FnScope N_l_refused ["_law_box_here", "_law_numbers"] (defScope s_l_refused) := ⟨rfl, rfl, rfl, by decide +kernel, rfl, by decide +kernel, by decide +kernel⟩
abbrev s_law : Stmt := topS 38
abbrev N_law : List Str := ["_law_script", "_law_box_here", "_law_sizes", "_law_ways", "_law_one", "_law_other", "_law_numbers", "_law_on_x", "_law_actual"]
theorem sc_law : FnScope N_law ["_law_script"] (defScope s_law) := ⟨rfl, rfl, rfl, by decide +kernel, rfl, by decide +kernel, by decide +kernel⟩
/-- where the text's classes stand -/
structure Ads where
  CacheError : Addr
  InvalidFlags : Addr
  InvalidSlot : Addr
  InvalidLine : Addr
  InvalidRow : Addr
  InvalidNumber : Addr
  InvalidText : Addr
  TooMany : Addr
  Refused : Addr
/-- what the module's names hold -/
structure Env (P : Program) (w : World) (K : PySem.W.Frag) (mg : Str → Option Value) (base : Heap) (a : Ads) : Prop where
  n_ValueError : mg "ValueError" = none
  n_abs : mg "abs" = none
  n_bool : mg "bool" = none
  n_int : mg "int" = none
  n_isinstance : mg "isinstance" = none
  n_len : mg "len" = none
  n_list : mg "list" = none
  n_range : mg "range" = none
  n_str : mg "str" = none
  n_sum : mg "sum" = none
  g_CacheError : mg "CacheError" = some (.ref a.CacheError)
  g_InvalidFlags : mg "InvalidFlags" = some (.ref a.InvalidFlags)
  g_InvalidLine : mg "InvalidLine" = some (.ref a.InvalidLine)
  g_InvalidNumber : mg "InvalidNumber" = some (.ref a.InvalidNumber)
  g_InvalidRow : mg "InvalidRow" = some (.ref a.InvalidRow)
  g_InvalidSlot : mg "InvalidSlot" = some (.ref a.InvalidSlot)
  g_InvalidText : mg "InvalidText" = some (.ref a.InvalidText)
  g_Refused : mg "Refused" = some (.ref a.Refused)
  g_TooMany : mg "TooMany" = some (.ref a.TooMany)
  i_comb : mg "comb" = some (.builtin "math.comb")
  e_InvalidNumber : ErrC P w K mg base "InvalidNumber" "number" a.InvalidNumber
  e_InvalidRow : ErrC P w K mg base "InvalidRow" "index" a.InvalidRow
section
variable {P : Program} {w : World} {K : PySem.W.Frag} {mg : Str → Option Value} {base : Heap}
theorem ini_InvalidFlags {C fI : Addr} {fd : FuncData} (T : OexC K C) (hno : PySem.W.findIn K (.ref C) "flags" = some none) (F : Fun K "__init__" "InvalidFlags.__init__" s_InvalidFlags_init fI fd) : FnOk P w K mg base (L2.CX P w) 1 fI fd ["self", "flags"] (spErr C "flags") := by
  refine F.okX sc_InvalidFlags_init (fun vs H Q E h => ?_) (fun cdv A outer s H vs Q E hr h => ⟨_, pss_one (ps_ost (pv 0) (pv 1)), ?_⟩)
  · obtain ⟨a, v, rfl, _⟩ := h
    rfl
  · obtain ⟨a, v, rfl, h1, h2⟩ := h
    exact ⟨v, rfl, .ref a, rfl, a, C, rfl, T, hno, .inl ⟨h1, fun dx n1 n2 => h2 dx n1 n2⟩⟩
theorem ini_InvalidSlot {C fI : Addr} {fd : FuncData} (T : OexC K C) (hno : PySem.W.findIn K (.ref C) "slot" = some none) (F : Fun K "__init__" "InvalidSlot.__init__" s_InvalidSlot_init fI fd) : FnOk P w K mg base (L2.CX P w) 1 fI fd ["self", "slot"] (spErr C "slot") := by
  refine F.okX sc_InvalidSlot_init (fun vs H Q E h => ?_) (fun cdv A outer s H vs Q E hr h => ⟨_, pss_one (ps_ost (pv 0) (pv 1)), ?_⟩)
  · obtain ⟨a, v, rfl, _⟩ := h
    rfl
  · obtain ⟨a, v, rfl, h1, h2⟩ := h
    exact ⟨v, rfl, .ref a, rfl, a, C, rfl, T, hno, .inl ⟨h1, fun dx n1 n2 => h2 dx n1 n2⟩⟩
theorem ini_InvalidLine {C fI : Addr} {fd : FuncData} (T : OexC K C) (hno : PySem.W.findIn K (.ref C) "index" = some none) (F : Fun K "__init__" "InvalidLine.__init__" s_InvalidLine_init fI fd) : FnOk P w K mg base (L2.CX P w) 1 fI fd ["self", "index"] (spErr C "index") := by
  refine F.okX sc_InvalidLine_init (fun vs H Q E h => ?_) (fun cdv A outer s H vs Q E hr h => ⟨_, pss_one (ps_ost (pv 0) (pv 1)), ?_⟩)
  · obtain ⟨a, v, rfl, _⟩ := h
    rfl
  · obtain ⟨a, v, rfl, h1, h2⟩ := h
    exact ⟨v, rfl, .ref a, rfl, a, C, rfl, T, hno, .inl ⟨h1, fun dx n1 n2 => h2 dx n1 n2⟩⟩
theorem ini_InvalidRow {C fI : Addr} {fd : FuncData} (T : OexC K C) (hno : PySem.W.findIn K (.ref C) "index" = some none) (F : Fun K "__init__" "InvalidRow.__init__" s_InvalidRow_init fI fd) : FnOk P w K mg base (L2.CX P w) 1 fI fd ["self", "index"] (spErr C "index") := by
  refine F.okX sc_InvalidRow_init (fun vs H Q E h => ?_) (fun cdv A outer s H vs Q E hr h => ⟨_, pss_one (ps_ost (pv 0) (pv 1)), ?_⟩)
  · obtain ⟨a, v, rfl, _⟩ := h
    rfl
  · obtain ⟨a, v, rfl, h1, h2⟩ := h
    exact ⟨v, rfl, .ref a, rfl, a, C, rfl, T, hno, .inl ⟨h1, fun dx n1 n2 => h2 dx n1 n2⟩⟩
theorem ini_InvalidNumber {C fI : Addr} {fd : FuncData} (T : OexC K C) (hno : PySem.W.findIn K (.ref C) "number" = some none) (F : Fun K "__init__" "InvalidNumber.__init__" s_InvalidNumber_init fI fd) : FnOk P w K mg base (L2.CX P w) 1 fI fd ["self", "number"] (spErr C "number") := by
  refine F.okX sc_InvalidNumber_init (fun vs H Q E h => ?_) (fun cdv A outer s H vs Q E hr h => ⟨_, pss_one (ps_ost (pv 0) (pv 1)), ?_⟩)
  · obtain ⟨a, v, rfl, _⟩ := h
    rfl
  · obtain ⟨a, v, rfl, h1, h2⟩ := h
    exact ⟨v, rfl, .ref a, rfl, a, C, rfl, T, hno, .inl ⟨h1, fun dx n1 n2 => h2 dx n1 n2⟩⟩
theorem ini_InvalidText {C fI : Addr} {fd : FuncData} (T : OexC K C) (hno : PySem.W.findIn K (.ref C) "index" = some none) (F : Fun K "__init__" "InvalidText.__init__" s_InvalidText_init fI fd) : FnOk P w K mg base (L2.CX P w) 1 fI fd ["self", "index"] (spErr C "index") := by
  refine F.okX sc_InvalidText_init (fun vs H Q E h => ?_) (fun cdv A outer s H vs Q E hr h => ⟨_, pss_one (ps_ost (pv 0) (pv 1)), ?_⟩)
  · obtain ⟨a, v, rfl, _⟩ := h
    rfl
  · obtain ⟨a, v, rfl, h1, h2⟩ := h
    exact ⟨v, rfl, .ref a, rfl, a, C, rfl, T, hno, .inl ⟨h1, fun dx n1 n2 => h2 dx n1 n2⟩⟩
theorem ini_TooMany {C fI : Addr} {fd : FuncData} (T : OexC K C) (hno : PySem.W.findIn K (.ref C) "most" = some none) (F : Fun K "__init__" "TooMany.__init__" s_TooMany_init fI fd) : FnOk P w K mg base (L2.CX P w) 1 fI fd ["self", "most"] (spErr C "most") := by
  refine F.okX sc_TooMany_init (fun vs H Q E h => ?_) (fun cdv A outer s H vs Q E hr h => ⟨_, pss_one (ps_ost (pv 0) (pv 1)), ?_⟩)
  · obtain ⟨a, v, rfl, _⟩ := h
    rfl
  · obtain ⟨a, v, rfl, h1, h2⟩ := h
    exact ⟨v, rfl, .ref a, rfl, a, C, rfl, T, hno, .inl ⟨h1, fun dx n1 n2 => h2 dx n1 n2⟩⟩
end
/-! ### levels -/
abbrev l_is_integer : Nat := 1
abbrev l_checked_number : Nat := 3
abbrev l_choose : Nat := 1
abbrev l_check_row : Nat := 3
abbrev l_least : Nat := 1
abbrev l_cut_count : Nat := 4
abbrev l_merge_ways : Nat := 2
abbrev l_merges : Nat := 4
abbrev l_l_cell : Nat := 1
abbrev l_l_box : Nat := 2
abbrev l_l_take : Nat := 1
abbrev l_l_row : Nat := 2
abbrev l_l_least : Nat := 1
abbrev l_l_talks : Nat := 1
abbrev l_l_choose : Nat := 1
abbrev l_l_formula : Nat := 2
abbrev l_l_is_number : Nat := 1
abbrev l_l_sum : Nat := 5
abbrev l_l_rows_merged : Nat := 6
abbrev l_l_any_numbers : Nat := 2
abbrev l_l_wrong_number : Nat := 2
abbrev l_l_refusal : Nat := 5
abbrev l_l_same : Nat := 1
abbrev l_l_refused : Nat := 6
abbrev l_law : Nat := 7
/-! ### what each def promises -/
def isInt : V → Bool
  | .int _ => true
  | _ => false
def ct_is_integer (K : PySem.W.Frag) : Ct (V × TY) where
  pre g vs H := vs = [g.1] ∧ Ty0 K H g.1 g.2
  post g H v H' := v = .bl (isInt g.1) ∧ Ext H H'
abbrev p_is_integer (K : PySem.W.Frag) (a : Ads) : Sp := spC (ct_is_integer K)
abbrev q_is_integer (K : PySem.W.Frag) (a : Ads) := rC (ct_is_integer K)
theorem c_is_integer {K : PySem.W.Frag} {a : Ads} : Ctr (p_is_integer K a) (q_is_integer K a) := ctrC
def optV : Option Int → V
  | none => .non
  | some m => .int m
def okN (x : V) (l : Int) (m : Option Int) : Bool := match x with
  | .int i => decide (l ≤ i) && (match m with | none => true | some m => decide (i ≤ m))
  | _ => false
def ct_checked_number (K : PySem.W.Frag) (a : Ads) : Ct (V × TY × Int × Option Int) where
  pre g vs H := vs = [g.1, .int g.2.2.1, optV g.2.2.2] ∧ Ty0 K H g.1 g.2.1
  post g H v H' := okN g.1 g.2.2.1 g.2.2.2 = true ∧ v = g.1 ∧ Ext H H'
  exn g H c d H' := okN g.1 g.2.2.1 g.2.2.2 = false ∧ c = .ref a.InvalidNumber ∧ ∃ dd, d = some dd ∧ H dd = none ∧ Ext H H' ∧ H' dd = some (.xd [("number", g.1)])
abbrev p_checked_number (K : PySem.W.Frag) (a : Ads) : Sp := spC (ct_checked_number K a)
abbrev q_checked_number (K : PySem.W.Frag) (a : Ads) := rC (ct_checked_number K a)
theorem c_checked_number {K : PySem.W.Frag} {a : Ads} : Ctr (p_checked_number K a) (q_checked_number K a) := ctrC
def chz (t p : Int) : Int := if p < 0 ∨ p > t then 0 else PySem.W.mcComb t p
def f_choose : List V → Option Ot
  | [.int t, .int p] => if t ≤ 18000 then some (.ok (.int (chz t p))) else none
  | _ => none
abbrev p_choose (K : PySem.W.Frag) (a : Ads) : Sp := spV f_choose
abbrev q_choose (K : PySem.W.Frag) (a : Ads) := rV f_choose
theorem c_choose {K : PySem.W.Frag} {a : Ads} : Ctr (p_choose K a) (q_choose K a) := ctrV
/-- a row: true is a load -/
def rowS (bs : List Bool) : Str := ⟨(bs.map fun b => if b then 108 else 104).toArray⟩
def leastB (bs : List Bool) : Int := (bs.count true : Nat) + (if bs.head? = some false then 1 else 0)
def ct_row (f : List Bool → V) : Ct (List Bool) where
  pre bs vs H := vs = [.str (rowS bs)] ∧ bs.length ≤ 1000
  post bs H v H' := v = f bs ∧ Ext H H'
abbrev p_check_row (K : PySem.W.Frag) (a : Ads) : Sp := spC (ct_row fun _ => .non)
abbrev q_check_row (K : PySem.W.Frag) (a : Ads) := rC (ct_row fun _ => .non)
theorem c_check_row {K : PySem.W.Frag} {a : Ads} : Ctr (p_check_row K a) (q_check_row K a) := ctrC
abbrev p_least (K : PySem.W.Frag) (a : Ads) : Sp := spC (ct_row fun bs => .int (leastB bs))
abbrev q_least (K : PySem.W.Frag) (a : Ads) := rC (ct_row fun bs => .int (leastB bs))
theorem c_least {K : PySem.W.Frag} {a : Ads} : Ctr (p_least K a) (q_least K a) := ctrC
abbrev p_l_least (K : PySem.W.Frag) (a : Ads) : Sp := spC (ct_row fun bs => .int (leastB bs))
abbrev q_l_least (K : PySem.W.Frag) (a : Ads) := rC (ct_row fun bs => .int (leastB bs))
theorem c_l_least {K : PySem.W.Frag} {a : Ads} : Ctr (p_l_least K a) (q_l_least K a) := ctrC
def cutN (bs : List Bool) (b : Int) : Int := chz ((bs.length : Int) - leastB bs) (b - leastB bs)
def ct_cut_count : Ct (List Bool × Int) where
  pre g vs H := vs = [.str (rowS g.1), .int g.2] ∧ g.1.length ≤ 1000 ∧ 0 ≤ g.2
  post g H v H' := v = .int (cutN g.1 g.2) ∧ Ext H H'
abbrev p_cut_count (K : PySem.W.Frag) (a : Ads) : Sp := spC ct_cut_count
abbrev q_cut_count (K : PySem.W.Frag) (a : Ads) := rC ct_cut_count
theorem c_cut_count {K : PySem.W.Frag} {a : Ads} : Ctr (p_cut_count K a) (q_cut_count K a) := ctrC
def mw (n q n' q' : Int) (s : Bool) : Int := if n' = 0 then (if s ∧ q = 1 then 1 else 0) else chz (n - q + n' - q') (if s then n - q' - 1 else n - q')
def f_merge_ways : List V → Option Ot
  | [.int n, .int q, .int n', .int q', .bl s] => if n - q + n' - q' ≤ 18000 then some (.ok (.int (mw n q n' q' s))) else none
  | _ => none
abbrev p_merge_ways (K : PySem.W.Frag) (a : Ads) : Sp := spV f_merge_ways
abbrev q_merge_ways (K : PySem.W.Frag) (a : Ads) := rV f_merge_ways
theorem c_merge_ways {K : PySem.W.Frag} {a : Ads} : Ctr (p_merge_ways K a) (q_merge_ways K a) := ctrV
/-- the four numbers with their types -/
structure Four where
  x : V × TY
  y : V × TY
  z : V × TY
  u : V × TY
def Four.bad (g : Four) : Option V := if okN g.x.1 1 none = false then some g.x.1 else if okN g.y.1 0 none = false then some g.y.1 else if okN g.z.1 0 none = false then some g.z.1 else if okN g.u.1 0 none = false then some g.u.1 else none
def Four.ty (K : PySem.W.Frag) (g : Four) (H : Hp) : Prop := Ty0 K H g.x.1 g.x.2 ∧ Ty0 K H g.y.1 g.y.2 ∧ Ty0 K H g.z.1 g.z.2 ∧ Ty0 K H g.u.1 g.u.2
def Four.val (g : Four) (s : Bool) (v : V) : Prop := ∃ n q n' q' : Int, g.x.1 = .int n ∧ g.y.1 = .int q ∧ g.z.1 = .int n' ∧ g.u.1 = .int q' ∧ v = .int (mw n q n' q' s)
def ct_merges (K : PySem.W.Frag) (a : Ads) : Ct (Four × Bool) where
  pre g vs H := vs = [g.1.x.1, g.1.y.1, g.1.z.1, g.1.u.1, .bl g.2] ∧ g.1.ty K H ∧ (∀ n q n' q' : Int, g.1.x.1 = .int n → g.1.y.1 = .int q → g.1.z.1 = .int n' → g.1.u.1 = .int q' → 0 ≤ q → 0 ≤ q' → n - q + n' - q' ≤ 18000)
  post g H v H' := g.1.bad = none ∧ g.1.val g.2 v ∧ Ext H H'
  exn g H c d H' := ∃ y, g.1.bad = some y ∧ c = .ref a.InvalidNumber ∧ ∃ dd, d = some dd ∧ H dd = none ∧ Ext H H' ∧ H' dd = some (.xd [("number", y)])
abbrev p_merges (K : PySem.W.Frag) (a : Ads) : Sp := spC (ct_merges K a)
abbrev q_merges (K : PySem.W.Frag) (a : Ads) := rC (ct_merges K a)
theorem c_merges {K : PySem.W.Frag} {a : Ads} : Ctr (p_merges K a) (q_merges K a) := ctrC
abbrev k_merges_same : List V → List V → List V := fun vs zs => vs ++ zs
/-! the law's -/
def ct_l_cell (K : PySem.W.Frag) : Ct (Addr × List Int × Int) where
  pre g vs H := vs = [.ref g.1, .int g.2.2] ∧ SqL K H g.1 (g.2.1.map V.int) ∧ 0 ≤ g.2.2 ∧ g.2.2 ≤ 100
  post g H v H' := (∃ i : Int, v = .int i ∧ 0 ≤ i) ∧ Ext H H'
abbrev p_l_cell (K : PySem.W.Frag) (a : Ads) : Sp := spC (ct_l_cell K)
abbrev q_l_cell (K : PySem.W.Frag) (a : Ads) := rC (ct_l_cell K)
theorem c_l_cell {K : PySem.W.Frag} {a : Ads} : Ctr (p_l_cell K a) (q_l_cell K a) := ctrC
/-- a box: a list of two numbers -/
def boxO (u t : Int) : HO := .lst [.int u, .int t]
def IsBox (H : Hp) (b : Addr) : Prop := ∃ u t : Int, H b = some (boxO u t) ∧ 0 ≤ u ∧ 0 ≤ t
def Rest (b : Addr) (H H' : Hp) : Prop := ∀ c o, c ≠ b → H c = some o → H' c = some o
def ct_l_box (K : PySem.W.Frag) : Ct (Addr × List Int × Int) where
  pre g vs H := vs = [.ref g.1, .int g.2.2] ∧ SqL K H g.1 (g.2.1.map V.int) ∧ 0 ≤ g.2.2 ∧ g.2.2 ≤ 100
  post g H v H' := ∃ b, v = .ref b ∧ H b = none ∧ IsBox H' b ∧ Ext H H'
abbrev p_l_box (K : PySem.W.Frag) (a : Ads) : Sp := spC (ct_l_box K)
abbrev q_l_box (K : PySem.W.Frag) (a : Ads) := rC (ct_l_box K)
theorem c_l_box {K : PySem.W.Frag} {a : Ads} : Ctr (p_l_box K a) (q_l_box K a) := ctrC
/-- a def that draws from the box at b, and hands back v -/
def ct_draw {α : Type} (args : α → List V) (res : α → Hp → V → Hp → Prop) (ok : α → Hp → Prop) : Ct (Addr × α) where
  pre g vs H := vs = .ref g.1 :: args g.2 ∧ IsBox H g.1 ∧ ok g.2 H
  post g H v H' := res g.2 H v H' ∧ IsBox H' g.1 ∧ Rest g.1 H H'
def ct_l_take : Ct (Addr × Int) := ct_draw (fun size => [.int size]) (fun size _ v _ => ∃ r : Int, v = .int r ∧ 0 ≤ r ∧ r < size) (fun size _ => 0 < size ∧ size < 1073741824)
abbrev p_l_take (K : PySem.W.Frag) (a : Ads) : Sp := spC ct_l_take
abbrev q_l_take (K : PySem.W.Frag) (a : Ads) := rC ct_l_take
theorem c_l_take {K : PySem.W.Frag} {a : Ads} : Ctr (p_l_take K a) (q_l_take K a) := ctrC
def ct_l_row : Ct (Addr × Int × Int) := ct_draw (fun g => [.int g.1, .int g.2]) (fun g _ v _ => ∃ bs, v = .str (rowS bs) ∧ (bs.length : Int) = g.1) (fun g _ => 0 ≤ g.1 ∧ g.1 ≤ 100 ∧ 0 ≤ g.2 ∧ g.2 < 5)
abbrev p_l_row (K : PySem.W.Frag) (a : Ads) : Sp := spC ct_l_row
abbrev q_l_row (K : PySem.W.Frag) (a : Ads) := rC ct_l_row
theorem c_l_row {K : PySem.W.Frag} {a : Ads} : Ctr (p_l_row K a) (q_l_row K a) := ctrC
/-- the two numbers of talks, as the table reckons them -/
def talkXY (bs cs : List Bool) : Int × Int := (mw bs.length (leastB bs) cs.length (leastB cs) false, mw bs.length (leastB bs) cs.length (leastB cs) true)
def ct_l_talks : Ct (List Bool × List Bool) where
  pre g vs H := vs = [.str (rowS g.1), .str (rowS g.2)] ∧ 1 ≤ g.1.length ∧ g.1.length ≤ 100 ∧ g.2.length ≤ 100
  post g H v H' := ∃ p, v = .ref p ∧ H p = none ∧ H' p = some (.lst [.int (talkXY g.1 g.2).1, .int (talkXY g.1 g.2).2]) ∧ Ext H H'
abbrev p_l_talks (K : PySem.W.Frag) (a : Ads) : Sp := spC ct_l_talks
abbrev q_l_talks (K : PySem.W.Frag) (a : Ads) := rC ct_l_talks
theorem c_l_talks {K : PySem.W.Frag} {a : Ads} : Ctr (p_l_talks K a) (q_l_talks K a) := ctrC
abbrev p_l_choose (K : PySem.W.Frag) (a : Ads) : Sp := spV f_choose
abbrev q_l_choose (K : PySem.W.Frag) (a : Ads) := rV f_choose
theorem c_l_choose {K : PySem.W.Frag} {a : Ads} : Ctr (p_l_choose K a) (q_l_choose K a) := ctrV
structure Nums where
  n : Int
  q : Int
  n' : Int
  q' : Int
def Nums.vs (g : Nums) : List V := [.int g.n, .int g.q, .int g.n', .int g.q']
def Nums.ok (g : Nums) : Prop := 1 ≤ g.n ∧ g.n ≤ 200 ∧ 0 ≤ g.q ∧ g.q ≤ 220 ∧ 0 ≤ g.n' ∧ g.n' ≤ 200 ∧ 0 ≤ g.q' ∧ g.q' ≤ 220
def ct_l_formula (K : PySem.W.Frag) : Ct (Addr × Nums × Bool) where
  pre g vs H := vs = [.ref g.1, .bl g.2.2] ∧ SqL K H g.1 g.2.1.vs ∧ g.2.1.ok
  post g H v H' := v = .int (mw g.2.1.n g.2.1.q g.2.1.n' g.2.1.q' g.2.2) ∧ Ext H H'
abbrev p_l_formula (K : PySem.W.Frag) (a : Ads) : Sp := spC (ct_l_formula K)
abbrev q_l_formula (K : PySem.W.Frag) (a : Ads) := rC (ct_l_formula K)
theorem c_l_formula {K : PySem.W.Frag} {a : Ads} : Ctr (p_l_formula K a) (q_l_formula K a) := ctrC
def f_l_is_number : List V → Option Ot
  | [.int x, .int y] => some (.ok (.bl (decide (V.int x = V.int y))))
  | _ => none
abbrev p_l_is_number (K : PySem.W.Frag) (a : Ads) : Sp := spV f_l_is_number
abbrev q_l_is_number (K : PySem.W.Frag) (a : Ads) := rV f_l_is_number
theorem c_l_is_number {K : PySem.W.Frag} {a : Ads} : Ctr (p_l_is_number K a) (q_l_is_number K a) := ctrV
/-- the sum of the products -/
def sumTo (bs cs : List Bool) (more : Int) : Nat → Int
  | 0 => 0
  | k + 1 => sumTo bs cs more k + cutN bs ((k : Int) + more) * cutN cs (k : Int)
def ct_l_sum : Ct (List Bool × List Bool × Int) where
  pre g vs H := vs = [.str (rowS g.1), .str (rowS g.2.1), .int g.2.2] ∧ g.1.length ≤ 9 ∧ g.2.1.length ≤ 9 ∧ 0 ≤ g.2.2 ∧ g.2.2 ≤ 1
  post g H v H' := v = .int (sumTo g.1 g.2.1 g.2.2 (g.2.1.length + 1)) ∧ Ext H H'
abbrev p_l_sum (K : PySem.W.Frag) (a : Ads) : Sp := spC ct_l_sum
abbrev q_l_sum (K : PySem.W.Frag) (a : Ads) := rC ct_l_sum
theorem c_l_sum {K : PySem.W.Frag} {a : Ads} : Ctr (p_l_sum K a) (q_l_sum K a) := ctrC
def ct_l_rows_merged : Ct (List Bool × List Bool × Int) where
  pre g vs H := vs = [.str (rowS g.1), .str (rowS g.2.1), .int g.2.2] ∧ 1 ≤ g.1.length ∧ g.1.length ≤ 100 ∧ g.2.1.length ≤ 100 ∧ 0 ≤ g.2.2
  post g H v H' := v = .bl true ∧ Ext H H'
abbrev p_l_rows_merged (K : PySem.W.Frag) (a : Ads) : Sp := spC ct_l_rows_merged
abbrev q_l_rows_merged (K : PySem.W.Frag) (a : Ads) := rC ct_l_rows_merged
theorem c_l_rows_merged {K : PySem.W.Frag} {a : Ads} : Ctr (p_l_rows_merged K a) (q_l_rows_merged K a) := ctrC
def ct_l_any_numbers : Ct (Addr × Unit) := ct_draw (fun _ => []) (fun _ H v H' => ∃ p g, v = .ref p ∧ H p = none ∧ H' p = some (.lst (Nums.vs g)) ∧ g.ok) (fun _ _ => True)
abbrev p_l_any_numbers (K : PySem.W.Frag) (a : Ads) : Sp := spC ct_l_any_numbers
abbrev q_l_any_numbers (K : PySem.W.Frag) (a : Ads) := rC ct_l_any_numbers
theorem c_l_any_numbers {K : PySem.W.Frag} {a : Ads} : Ctr (p_l_any_numbers K a) (q_l_any_numbers K a) := ctrC
/-- a value whose type and data are known -/
def Known (K : PySem.W.Frag) (H : Hp) (x : V) (t : TY) : Prop := Ty0 K H x t ∧ ∃ d : PyData, Dp K H x d ∧ SeqAt.shaped d = true ∧ d.canLay0 = true
def WrongV (v : V) (H H' : Hp) : Prop := v = .non ∨ (∃ b, v = .bl b) ∨ v = .str "1" ∨ (∃ i, v = .int i ∧ i ≤ 0) ∨ (∃ p, v = .ref p ∧ H p = none ∧ H' p = some (.lst [.int 1])) ∨ ∃ p, v = .ref p ∧ H p = none ∧ H' p = some (.tup [.int 1])
def ct_l_wrong_number (K : PySem.W.Frag) : Ct (Addr × Int) := ct_draw (fun place => [.int place]) (fun place H v H' => WrongV v H H' ∧ okN v (if place = 0 then 1 else 0) none = false) (fun place _ => 0 ≤ place)
abbrev p_l_wrong_number (K : PySem.W.Frag) (a : Ads) : Sp := spC (ct_l_wrong_number K)
abbrev q_l_wrong_number (K : PySem.W.Frag) (a : Ads) := rC (ct_l_wrong_number K)
theorem c_l_wrong_number {K : PySem.W.Frag} {a : Ads} : Ctr (p_l_wrong_number K a) (q_l_wrong_number K a) := ctrC
def ct_l_refusal (K : PySem.W.Frag) : Ct (Addr × Four × Bool × V) where
  pre g vs H := vs = [.ref g.1, .bl g.2.2.1] ∧ SqL K H g.1 [g.2.1.x.1, g.2.1.y.1, g.2.1.z.1, g.2.1.u.1] ∧ g.2.1.ty K H ∧ g.2.1.bad = some g.2.2.2 ∧ (∀ n q n' q' : Int, g.2.1.x.1 = .int n → g.2.1.y.1 = .int q → g.2.1.z.1 = .int n' → g.2.1.u.1 = .int q' → 0 ≤ q → 0 ≤ q' → n - q + n' - q' ≤ 18000)
  post g H v H' := ∃ p, v = .ref p ∧ H p = none ∧ H' p = some (.tup [.str "number", g.2.2.2]) ∧ Ext H H'
abbrev p_l_refusal (K : PySem.W.Frag) (a : Ads) : Sp := spC (ct_l_refusal K)
abbrev q_l_refusal (K : PySem.W.Frag) (a : Ads) := rC (ct_l_refusal K)
theorem c_l_refusal {K : PySem.W.Frag} {a : Ads} : Ctr (p_l_refusal K a) (q_l_refusal K a) := ctrC
def ct_l_same (K : PySem.W.Frag) : Ct (V × TY) where
  pre g vs H := vs = [g.1, g.1] ∧ Known K H g.1 g.2
  post g H v H' := v = .bl true ∧ Ext H H'
abbrev p_l_same (K : PySem.W.Frag) (a : Ads) : Sp := spC (ct_l_same K)
abbrev q_l_same (K : PySem.W.Frag) (a : Ads) := rC (ct_l_same K)
theorem c_l_same {K : PySem.W.Frag} {a : Ads} : Ctr (p_l_same K a) (q_l_same K a) := ctrC
def ct_l_refused (K : PySem.W.Frag) : Ct (Addr × Addr × Nums) := ct_draw (fun g => [.ref g.1]) (fun g H v H' => v = .bl true) (fun g H => H g.1 = some (.lst g.2.vs) ∧ g.2.ok)
abbrev p_l_refused (K : PySem.W.Frag) (a : Ads) : Sp := spC (ct_l_refused K)
abbrev q_l_refused (K : PySem.W.Frag) (a : Ads) := rC (ct_l_refused K)
theorem c_l_refused {K : PySem.W.Frag} {a : Ads} : Ctr (p_l_refused K a) (q_l_refused K a) := ctrC
def ct_law (K : PySem.W.Frag) : Ct (Addr × List Int) where
  pre g vs H := vs = [.ref g.1] ∧ SqL K H g.1 (g.2.map V.int)
  post g H v H' := v = .bl true
abbrev p_law (K : PySem.W.Frag) (a : Ads) : Sp := spC (ct_law K)
abbrev q_law (K : PySem.W.Frag) (a : Ads) := rC (ct_law K)
theorem c_law {K : PySem.W.Frag} {a : Ads} : Ctr (p_law K a) (q_law K a) := ctrC
/-! ### readings and derivations (printed by gen.py) -/
def r_is_integer (K : PySem.W.Frag) (a : Ads) : sS := sRet (sAndV (sIsi K .int (sVar 0)) (sNotV K (sIsi K .bool (sVar 0))))
def r_checked_number (K : PySem.W.Frag) (a : Ads) : sS := sSeq (sIfS (sOr (sNot (sTru K (sCallD (q_is_integer K a) [] (sCons (sVar 0) (sNil))))) (sTst (sOp oLt (sVar 0) (sVar 1)))) (sRaise a.InvalidNumber ("number" : Str) (sVar 0)) (sNext)) (sSeq (sIfS (sAnd (sTst (sOp oNotN (sVar 2) (sC .non))) (sTst (sOp oGt (sVar 0) (sVar 2)))) (sRaise a.InvalidNumber ("number" : Str) (sVar 0)) (sNext)) (sRet (sVar 0)))
def r_choose (K : PySem.W.Frag) (a : Ads) : sS := sSeq (sIfS (sOr (sTst (sOp oLt (sVar 1) (sC (.int 0)))) (sTst (sOp oGt (sVar 1) (sVar 0)))) (sRet (sC (.int 0))) (sNext)) (sRet (sCall1 nComb (sCons (sVar 0) (sCons (sVar 1) (sNil)))))
def r_check_row (K : PySem.W.Frag) (a : Ads) : sS := sIfS (sOr (sNot (sTru K (sIsi K .str (sVar 0)))) (sTst (sOp (oNe K) (sMt K "str" (m1S (fun u v => .str (Txt.stripChars u v)) fun u _ => u.length ≤ sizeLine) (sVar 0) (sCons (sC (.str ("hl" : Str))) (sNil))) (sC (.str ("" : Str)))))) (sRaise a.InvalidRow ("index" : Str) (sC (.int 0))) (sNext)
def r_least (K : PySem.W.Frag) (a : Ads) : sS := sRet (sOp oAdd (sMt K "str" (m1S (fun u v => .int (Txt.count u v)) fun _ _ => True) (sVar 0) (sCons (sC (.str ("l" : Str))) (sNil))) (sIf (sTru K (sMt K "str" (m1S (fun u v => .bl (Txt.startswith u v)) fun _ _ => True) (sVar 0) (sCons (sC (.str ("h" : Str))) (sNil)))) (sC (.int 1)) (sC (.int 0))))
def r_cut_count (K : PySem.W.Frag) (a : Ads) : sS := sSeq (sDrop (sCallD (q_check_row K a) [] (sCons (sVar 0) (sNil)))) (sSeq (sDrop (sCallD (q_checked_number K a) [.non] (sCons (sVar 1) (sCons (sC (.int 0)) (sNil))))) (sSeq (sSet (sCallD (q_least K a) [] (sCons (sVar 0) (sNil))) 2) (sRet (sCallD (q_choose K a) [] (sCons (sOp oSub (sCall1 (nLen K) (sCons (sVar 0) (sNil))) (sVar 2)) (sCons (sOp oSub (sVar 1) (sVar 2)) (sNil)))))))
def r_merge_ways (K : PySem.W.Frag) (a : Ads) : sS := sSeq (sIfS (sTst (sOp (oEq K) (sVar 2) (sC (.int 0)))) (sRet (sIf (sAnd (sTru K (sVar 4)) (sTst (sOp (oEq K) (sVar 1) (sC (.int 1))))) (sC (.int 1)) (sC (.int 0)))) (sNext)) (sSeq (sSet (sOp oSub (sOp oAdd (sOp oSub (sVar 0) (sVar 1)) (sVar 2)) (sVar 3)) 5) (sSeq (sIfS (sTru K (sVar 4)) (sRet (sCallD (q_choose K a) [] (sCons (sVar 5) (sCons (sOp oSub (sOp oSub (sVar 0) (sVar 3)) (sC (.int 1))) (sNil))))) (sNext)) (sRet (sCallD (q_choose K a) [] (sCons (sVar 5) (sCons (sOp oSub (sVar 0) (sVar 3)) (sNil)))))))
def r_merges (K : PySem.W.Frag) (a : Ads) : sS := sSeq (sDrop (sCallD (q_checked_number K a) [.non] (sCons (sVar 0) (sCons (sC (.int 1)) (sNil))))) (sSeq (sDrop (sCallD (q_checked_number K a) [.non] (sCons (sVar 1) (sCons (sC (.int 0)) (sNil))))) (sSeq (sDrop (sCallD (q_checked_number K a) [.non] (sCons (sVar 2) (sCons (sC (.int 0)) (sNil))))) (sSeq (sDrop (sCallD (q_checked_number K a) [.non] (sCons (sVar 3) (sCons (sC (.int 0)) (sNil))))) (sRet (sCallD (q_merge_ways K a) [] (sCons (sVar 0) (sCons (sVar 1) (sCons (sVar 2) (sCons (sVar 3) (sCons (sVar 4) (sNil)))))))))))
def r_l_cell (K : PySem.W.Frag) (a : Ads) : sS := sSeq (sIfS (sTst (sOp oLt (sVar 1) (sCall1 (nLen K) (sCons (sVar 0) (sNil))))) (sRet (sCall1 nAbs (sCons (sOp (oIx K) (sVar 0) (sVar 1)) (sNil)))) (sNext)) (sRet (sOp oAdd (sOp oMul (sC (.int 7919)) (sOp oAdd (sVar 1) (sC (.int 1)))) (sOp oMod (sCall1 nInt (sCons (sCall1 (nSum K) (sCons (sVar 0) (sNil))) (sNil))) (sC (.int 1000003)))))
def r_l_box (K : PySem.W.Frag) (a : Ads) : sS := sRet (sLst (sCons (sCallD (q_l_cell K a) [] (sCons (sVar 0) (sCons (sVar 1) (sNil)))) (sCons (sC (.int 0)) (sNil))))
def r_l_take (K : PySem.W.Frag) (a : Ads) : sS := sSeq (sIfS (sTst (sOp oGe (sOp (oIx K) (sVar 0) (sC (.int 0))) (sOp oPow (sC (.int 10)) (sC (.int 18))))) (sSeq (sSet (sOp oMod (sCall1 nInt (sCons (sOp (oIx K) (sVar 0) (sC (.int 0))) (sNil))) (sVar 1)) 2) (sSeq (sAsg (sOp oFdv (sOp (oIx K) (sVar 0) (sC (.int 0))) (sVar 1)) (sgSub (sVar 0) (sC (.int 0)))) (sRet (sVar 2)))) (sNext)) (sSeq (sAsg (sOp oAdd (sOp (oIx K) (sVar 0) (sC (.int 1))) (sC (.int 1))) (sgSub (sVar 0) (sC (.int 1)))) (sSeq (sSet (sOp oMod (sCall1 nInt (sCons (sOp oAdd (sOp oMul (sOp (oIx K) (sVar 0) (sC (.int 0))) (sC (.int 48271))) (sOp oMul (sOp (oIx K) (sVar 0) (sC (.int 1))) (sC (.int 7368787)))) (sNil))) (sC (.int 2147483647))) 3) (sSeq (sSet (sOp oMod (sCall1 nInt (sCons (sOp oAdd (sOp oAdd (sOp oMul (sVar 3) (sVar 3)) (sOp oFdv (sVar 3) (sC (.int 127)))) (sOp (oIx K) (sVar 0) (sC (.int 1)))) (sNil))) (sC (.int 2147483629))) 3) (sRet (sOp oMod (sOp oFdv (sOp oMod (sCall1 nInt (sCons (sOp oAdd (sOp oMul (sVar 3) (sC (.int 69621))) (sOp oFdv (sVar 3) (sC (.int 8191)))) (sNil))) (sC (.int 2147483587))) (sC (.int 11))) (sVar 1))))))
def r_l_row (K : PySem.W.Frag) (a : Ads) : sS := sSeq (sSet (sC (.str ("" : Str))) 3) (sSeq (sFor (siR1 (sCons (sVar 1) (sNil))) (sgName 4) (sSeq (sSet (sOp (oEq K) (sCallD (q_l_take K a) [] (sCons (sVar 0) (sCons (sOp (oIx K) (sLst (sCons (sC (.int 2)) (sCons (sC (.int 3)) (sCons (sC (.int 5)) (sCons (sC (.int 8)) (sCons (sC (.int 2)) (sNil))))))) (sVar 2)) (sNil)))) (sC (.int 0))) 5) (sSet (sOp oAdd (sVar 3) (sIf (sAnd (sTru K (sVar 5)) (sTst (sOp oLt (sVar 2) (sC (.int 4))))) (sC (.str ("l" : Str))) (sC (.str ("h" : Str))))) 3))) (sRet (sVar 3)))
def r_l_least (K : PySem.W.Frag) (a : Ads) : sS := sSeq (sIfS (sTst (sOp (oEq K) (sVar 0) (sC (.str ("" : Str))))) (sRet (sC (.int 0))) (sNext)) (sRet (sOp oAdd (sMt K "str" (m1S (fun u v => .int (Txt.count u v)) fun _ _ => True) (sVar 0) (sCons (sC (.str ("l" : Str))) (sNil))) (sCall1 nInt (sCons (sOp (oEq K) (sOp (oIx K) (sVar 0) (sC (.int 0))) (sC (.str ("h" : Str)))) (sNil)))))
def r_l_talks (K : PySem.W.Frag) (a : Ads) : sS := sSeq (sSet (sLc (siR1 (sCons (sOp oAdd (sCall1 (nLen K) (sCons (sVar 0) (sNil))) (sC (.int 1))) (sNil))) (sgName 7) (sYes) (sOp oMul (sLst (sCons (sC (.int 0)) (sNil))) (sOp oAdd (sCall1 (nLen K) (sCons (sVar 1) (sNil))) (sC (.int 1)))) [7]) 2) (sSeq (sSet (sLc (siR1 (sCons (sOp oAdd (sCall1 (nLen K) (sCons (sVar 0) (sNil))) (sC (.int 1))) (sNil))) (sgName 7) (sYes) (sOp oMul (sLst (sCons (sC (.int 0)) (sNil))) (sOp oAdd (sCall1 (nLen K) (sCons (sVar 1) (sNil))) (sC (.int 1)))) [7]) 3) (sSeq (sAsg (sC (.int 1)) (sgSub (sOp (oIx K) (sVar 2) (sC (.int 1))) (sC (.int 0)))) (sSeq (sFor (siR2 (sCons (sC (.int 1)) (sCons (sOp oAdd (sCall1 (nLen K) (sCons (sVar 0) (sNil))) (sC (.int 1))) (sNil)))) (sgName 4) (sFor (siR1 (sCons (sOp oAdd (sCall1 (nLen K) (sCons (sVar 1) (sNil))) (sC (.int 1))) (sNil))) (sgName 5) (sSeq (sSet (sC (.int 0)) 6) (sCut (sIfS (sTst (sOp oGt (sVar 4) (sC (.int 1)))) (sSeq (sSet (sOp (oIx K) (sOp (oIx K) (sVar 3) (sOp oSub (sVar 4) (sC (.int 1)))) (sVar 5)) 6) (sCut (sIfS (sTst (sOp (oEq K) (sOp (oIx K) (sVar 0) (sOp oSub (sVar 4) (sC (.int 1)))) (sC (.str ("h" : Str))))) (sSet (sOp oAdd (sVar 6) (sOp (oIx K) (sOp (oIx K) (sVar 2) (sOp oSub (sVar 4) (sC (.int 1)))) (sVar 5))) 6) (sNext)) (sAsg (sVar 6) (sgSub (sOp (oIx K) (sVar 2) (sVar 4)) (sVar 5))))) (sNext)) (sIfS (sTst (sOp oGt (sVar 5) (sC (.int 0)))) (sSeq (sSet (sOp (oIx K) (sOp (oIx K) (sVar 2) (sVar 4)) (sOp oSub (sVar 5) (sC (.int 1)))) 6) (sCut (sIfS (sTst (sOp (oEq K) (sOp (oIx K) (sVar 1) (sOp oSub (sVar 5) (sC (.int 1)))) (sC (.str ("h" : Str))))) (sSet (sOp oAdd (sVar 6) (sOp (oIx K) (sOp (oIx K) (sVar 3) (sVar 4)) (sOp oSub (sVar 5) (sC (.int 1))))) 6) (sNext)) (sAsg (sVar 6) (sgSub (sOp (oIx K) (sVar 3) (sVar 4)) (sVar 5))))) (sNext)))))) (sRet (sLst (sCons (sOp (oIx K) (sOp (oIx K) (sVar 3) (sCall1 (nLen K) (sCons (sVar 0) (sNil)))) (sCall1 (nLen K) (sCons (sVar 1) (sNil)))) (sCons (sOp (oIx K) (sOp (oIx K) (sVar 2) (sCall1 (nLen K) (sCons (sVar 0) (sNil)))) (sCall1 (nLen K) (sCons (sVar 1) (sNil)))) (sNil))))))))
def r_l_choose (K : PySem.W.Frag) (a : Ads) : sS := sSeq (sIfS (sOr (sTst (sOp oLt (sVar 1) (sC (.int 0)))) (sTst (sOp oGt (sVar 1) (sVar 0)))) (sRet (sC (.int 0))) (sNext)) (sSeq (sSet (sC (.int 1)) 2) (sSeq (sFor (siR1 (sCons (sVar 1) (sNil))) (sgName 3) (sSet (sOp oFdv (sOp oMul (sVar 2) (sOp oSub (sVar 0) (sVar 3))) (sOp oAdd (sVar 3) (sC (.int 1)))) 2)) (sRet (sVar 2))))
def r_l_formula (K : PySem.W.Frag) (a : Ads) : sS := sSeq (sIfS (sTst (sOp (oEq K) (sOp (oIx K) (sVar 0) (sC (.int 2))) (sC (.int 0)))) (sRet (sCall1 nInt (sCons (sAndV (sVar 1) (sOp (oEq K) (sOp (oIx K) (sVar 0) (sC (.int 1))) (sC (.int 1)))) (sNil)))) (sNext)) (sSeq (sSet (sOp oSub (sOp oAdd (sOp oSub (sOp (oIx K) (sVar 0) (sC (.int 0))) (sOp (oIx K) (sVar 0) (sC (.int 1)))) (sOp (oIx K) (sVar 0) (sC (.int 2)))) (sOp (oIx K) (sVar 0) (sC (.int 3)))) 2) (sRet (sCallD (q_l_choose K a) [] (sCons (sVar 2) (sCons (sOp oSub (sOp oSub (sOp (oIx K) (sVar 0) (sC (.int 0))) (sOp (oIx K) (sVar 0) (sC (.int 3)))) (sCall1 nInt (sCons (sVar 1) (sNil)))) (sNil))))))
def r_l_is_number (K : PySem.W.Frag) (a : Ads) : sS := sRet (sAndV (sIsi K .int (sVar 0)) (sAndV (sNotV K (sIsi K .bool (sVar 0))) (sOp (oEq K) (sVar 0) (sVar 1))))
def r_l_sum (K : PySem.W.Frag) (a : Ads) : sS := sSeq (sSet (sC (.int 0)) 3) (sSeq (sFor (siR1 (sCons (sOp oAdd (sCall1 (nLen K) (sCons (sVar 1) (sNil))) (sC (.int 1))) (sNil))) (sgName 4) (sSet (sOp oAdd (sVar 3) (sOp oMul (sCallD (q_cut_count K a) [] (sCons (sVar 0) (sCons (sOp oAdd (sVar 4) (sVar 2)) (sNil)))) (sCallD (q_cut_count K a) [] (sCons (sVar 1) (sCons (sVar 4) (sNil)))))) 3)) (sRet (sVar 3)))
def r_l_rows_merged (K : PySem.W.Frag) (a : Ads) : sS := sSeq (sSet (sCallD (q_l_least K a) [] (sCons (sVar 0) (sNil))) 3) (sSeq (sSet (sCallD (q_l_least K a) [] (sCons (sVar 1) (sNil))) 4) (sSeq (sSet (sCallD (q_l_talks K a) [] (sCons (sVar 0) (sCons (sVar 1) (sNil)))) 5) (sSeq (sSet (sCallN (q_merges K a) 4 1 k_merges_same (sCons (sCall1 (nLen K) (sCons (sVar 0) (sNil))) (sCons (sVar 3) (sCons (sCall1 (nLen K) (sCons (sVar 1) (sNil))) (sCons (sVar 4) (sNil))))) (sCons (sC (.bl false)) (sNil))) 6) (sSeq (sIfS (sNot (sTru K (sCallD (q_l_is_number K a) [] (sCons (sVar 6) (sCons (sOp (oIx K) (sVar 5) (sC (.int 0))) (sNil)))))) (sRet (sC (.bl false))) (sNext)) (sSeq (sSet (sCallN (q_merges K a) 4 1 k_merges_same (sCons (sCall1 (nLen K) (sCons (sVar 0) (sNil))) (sCons (sVar 3) (sCons (sCall1 (nLen K) (sCons (sVar 1) (sNil))) (sCons (sVar 4) (sNil))))) (sCons (sC (.bl true)) (sNil))) 6) (sSeq (sIfS (sNot (sTru K (sCallD (q_l_is_number K a) [] (sCons (sVar 6) (sCons (sOp (oIx K) (sVar 5) (sC (.int 1))) (sNil)))))) (sRet (sC (.bl false))) (sNext)) (sSeq (sIfS (sNot (sTru K (sCallD (q_l_is_number K a) [] (sCons (sCallN (q_merges K a) 4 1 k_merges_same (sCons (sCall1 (nLen K) (sCons (sVar 0) (sNil))) (sCons (sVar 3) (sCons (sC (.int 0)) (sCons (sVar 2) (sNil))))) (sCons (sC (.bl true)) (sNil))) (sCons (sCall1 nInt (sCons (sOp (oEq K) (sVar 3) (sC (.int 1))) (sNil))) (sNil)))))) (sRet (sC (.bl false))) (sNext)) (sSeq (sIfS (sNot (sTru K (sCallD (q_l_is_number K a) [] (sCons (sCallN (q_merges K a) 4 1 k_merges_same (sCons (sCall1 (nLen K) (sCons (sVar 0) (sNil))) (sCons (sVar 3) (sCons (sC (.int 0)) (sCons (sVar 2) (sNil))))) (sCons (sC (.bl false)) (sNil))) (sCons (sC (.int 0)) (sNil)))))) (sRet (sC (.bl false))) (sNext)) (sSeq (sIfS (sOr (sTst (sOp oGt (sCall1 (nLen K) (sCons (sVar 0) (sNil))) (sC (.int 9)))) (sTst (sOp oGt (sCall1 (nLen K) (sCons (sVar 1) (sNil))) (sC (.int 9))))) (sRet (sC (.bl true))) (sNext)) (sRet (sAndV (sOp (oEq K) (sCallD (q_l_sum K a) [] (sCons (sVar 0) (sCons (sVar 1) (sCons (sC (.int 0)) (sNil))))) (sOp (oIx K) (sVar 5) (sC (.int 0)))) (sOp (oEq K) (sCallD (q_l_sum K a) [] (sCons (sVar 0) (sCons (sVar 1) (sCons (sC (.int 1)) (sNil))))) (sOp (oIx K) (sVar 5) (sC (.int 1)))))))))))))))
def r_l_any_numbers (K : PySem.W.Frag) (a : Ads) : sS := sSeq (sSet (sOp (oEq K) (sCallD (q_l_take K a) [] (sCons (sVar 0) (sCons (sC (.int 8)) (sNil)))) (sC (.int 0))) 1) (sSeq (sSet (sLst (sCons (sOp oAdd (sC (.int 1)) (sCallD (q_l_take K a) [] (sCons (sVar 0) (sCons (sC (.int 12)) (sNil))))) (sCons (sCallD (q_l_take K a) [] (sCons (sVar 0) (sCons (sC (.int 16)) (sNil)))) (sCons (sCallD (q_l_take K a) [] (sCons (sVar 0) (sCons (sC (.int 13)) (sNil)))) (sCons (sCallD (q_l_take K a) [] (sCons (sVar 0) (sCons (sC (.int 16)) (sNil)))) (sNil)))))) 2) (sCut (sIfS (sTru K (sVar 1)) (sSet (sLst (sCons (sOp oAdd (sC (.int 1)) (sCallD (q_l_take K a) [] (sCons (sVar 0) (sCons (sC (.int 200)) (sNil))))) (sCons (sCallD (q_l_take K a) [] (sCons (sVar 0) (sCons (sC (.int 221)) (sNil)))) (sCons (sCallD (q_l_take K a) [] (sCons (sVar 0) (sCons (sC (.int 201)) (sNil)))) (sCons (sCallD (q_l_take K a) [] (sCons (sVar 0) (sCons (sC (.int 221)) (sNil)))) (sNil)))))) 2) (sNext)) (sRet (sVar 2))))
def r_l_wrong_number (K : PySem.W.Frag) (a : Ads) : sS := sSeq (sSet (sCallD (q_l_take K a) [] (sCons (sVar 0) (sCons (sC (.int 9)) (sNil)))) 2) (sSeq (sSet (sLst (sCons (sC (.bl true)) (sCons (sC (.bl false)) (sCons (sC .non) (sCons (sC (.str ("1" : Str))) (sCons (sLst (sCons (sC (.int 1)) (sNil))) (sCons (sTup (sCons (sC (.int 1)) (sNil))) (sNil)))))))) 3) (sSeq (sIfS (sTst (sOp oLt (sVar 2) (sC (.int 6)))) (sRet (sOp (oIx K) (sVar 3) (sVar 2))) (sNext)) (sSeq (sIfS (sAnd (sTst (sOp (oEq K) (sVar 2) (sC (.int 6)))) (sTst (sOp (oEq K) (sVar 1) (sC (.int 0))))) (sRet (sC (.int 0))) (sNext)) (sSeq (sIfS (sTst (sOp oLt (sVar 2) (sC (.int 8)))) (sRet (s1Op oNeg (sC (.int 1)))) (sNext)) (sRet (sOp oSub (s1Op oNeg (sC (.int 2))) (sOp oMul (sCallD (q_l_take K a) [] (sCons (sVar 0) (sCons (sC (.int 1000000)) (sNil)))) (sOp oPow (sC (.int 10)) (sC (.int 30))))))))))
def r_l_refusal (K : PySem.W.Frag) (a : Ads) : sS := sCut (sTryAs K (.ref a.CacheError) 2 (sDrop (sCallN (q_merges K a) 4 1 k_merges_same (sCons (sOp (oIx K) (sVar 0) (sC (.int 0))) (sCons (sOp (oIx K) (sVar 0) (sC (.int 1))) (sCons (sOp (oIx K) (sVar 0) (sC (.int 2))) (sCons (sOp (oIx K) (sVar 0) (sC (.int 3))) (sNil))))) (sCons (sVar 1) (sNil)))) (fun ea cls ed => sSeq (sSet (sLst (sCons (sCall1 (nIsY K ea cls ed) (sCons (sVar 2) (sCons (sC (.ref a.InvalidNumber)) (sNil)))) (sCons (sCall1 (nIsY K ea cls ed) (sCons (sVar 2) (sCons (sC (.ref a.InvalidRow)) (sNil)))) (sCons (sCall1 (nIsY K ea cls ed) (sCons (sVar 2) (sCons (sC (.ref a.InvalidFlags)) (sNil)))) (sNil))))) 3) (sSeq (sSet (sOp oAdd (sVar 3) (sLst (sCons (sCall1 (nIsY K ea cls ed) (sCons (sVar 2) (sCons (sC (.ref a.InvalidLine)) (sNil)))) (sCons (sCall1 (nIsY K ea cls ed) (sCons (sVar 2) (sCons (sC (.ref a.InvalidSlot)) (sNil)))) (sCons (sCall1 (nIsY K ea cls ed) (sCons (sVar 2) (sCons (sC (.ref a.InvalidText)) (sNil)))) (sNil)))))) 3) (sSeq (sSet (sOp oAdd (sVar 3) (sLst (sCons (sCall1 (nIsY K ea cls ed) (sCons (sVar 2) (sCons (sC (.ref a.Refused)) (sNil)))) (sCons (sCall1 (nIsY K ea cls ed) (sCons (sVar 2) (sCons (sC (.ref a.TooMany)) (sNil)))) (sNil))))) 3) (sSeq (sIfS (sOr (sNot (sTru K (sCall1 (nIsY K ea cls ed) (sCons (sVar 2) (sCons (sC (.ty "ValueError")) (sNil)))))) (sTst (sOp (oNe K) (sMt K "list" (mCnt K) (sVar 3) (sCons (sC (.bl true)) (sNil))) (sC (.int 1))))) (sRet (sTup (sCons (sC (.str ("several classes" : Str))) (sCons (sC (.int 0)) (sNil))))) (sNext)) (sSeq (sIfS (sTru K (sOp (oIx K) (sVar 3) (sC (.int 0)))) (sRet (sTup (sCons (sC (.str ("number" : Str))) (sCons (sXf ea cls ed a.InvalidNumber ("number" : Str) (sVar 2)) (sNil))))) (sNext)) (sRet (sTup (sCons (sC (.str ("another class" : Str))) (sCons (sC (.int 0)) (sNil))))))))))) (sRet (sTup (sCons (sC (.str ("no error" : Str))) (sCons (sC (.int 0)) (sNil)))))
def r_l_same (K : PySem.W.Frag) (a : Ads) : sS := sRet (sAndV (sOp (oEq K) (sIsi K .bool (sVar 0)) (sIsi K .bool (sVar 1))) (sOp (oEq K) (sVar 0) (sVar 1)))
def r_l_refused (K : PySem.W.Frag) (a : Ads) : sS := sSeq (sSet (sCallD (q_l_take K a) [] (sCons (sVar 0) (sCons (sC (.int 4)) (sNil)))) 2) (sSeq (sSet (sCall1 (nList K) (sCons (sVar 1) (sNil))) 3) (sSeq (sFor (siR2 (sCons (sVar 2) (sCons (sC (.int 4)) (sNil)))) (sgName 4) (sSeq (sSet (sCallD (q_l_wrong_number K a) [] (sCons (sVar 0) (sCons (sVar 4) (sNil)))) 5) (sIfS (sOr (sTst (sOp (oEq K) (sVar 4) (sVar 2))) (sTst (sOp (oEq K) (sCallD (q_l_take K a) [] (sCons (sVar 0) (sCons (sC (.int 3)) (sNil)))) (sC (.int 0))))) (sAsg (sVar 5) (sgSub (sVar 3) (sVar 4))) (sNext)))) (sSeq (sSet (sCallD (q_l_refusal K a) [] (sCons (sVar 3) (sCons (sOp (oEq K) (sCallD (q_l_take K a) [] (sCons (sVar 0) (sCons (sC (.int 2)) (sNil)))) (sC (.int 0))) (sNil)))) 6) (sRet (sAndV (sOp (oEq K) (sOp (oIx K) (sVar 6) (sC (.int 0))) (sC (.str ("number" : Str)))) (sCallD (q_l_same K a) [] (sCons (sOp (oIx K) (sVar 6) (sC (.int 1))) (sCons (sOp (oIx K) (sVar 3) (sVar 2)) (sNil)))))))))
def r_law (K : PySem.W.Frag) (a : Ads) : sS := sSeq (sSet (sCallD (q_l_box K a) [] (sCons (sVar 0) (sCons (sC (.int 0)) (sNil)))) 1) (sSeq (sSet (sLst (sCons (sOp oAdd (sC (.int 1)) (sCallD (q_l_take K a) [] (sCons (sVar 1) (sCons (sC (.int 9)) (sNil))))) (sCons (sCallD (q_l_take K a) [] (sCons (sVar 1) (sCons (sC (.int 10)) (sNil)))) (sNil)))) 2) (sCut (sIfS (sTst (sOp (oEq K) (sCallD (q_l_take K a) [] (sCons (sVar 1) (sCons (sC (.int 8)) (sNil)))) (sC (.int 0)))) (sSet (sLst (sCons (sOp oAdd (sC (.int 1)) (sCallD (q_l_take K a) [] (sCons (sVar 1) (sCons (sC (.int 30)) (sNil))))) (sCons (sCallD (q_l_take K a) [] (sCons (sVar 1) (sCons (sC (.int 31)) (sNil)))) (sNil)))) 2) (sNext)) (sSeq (sSet (sLst (sCons (sCallD (q_l_take K a) [] (sCons (sVar 1) (sCons (sC (.int 5)) (sNil)))) (sCons (sCallD (q_l_take K a) [] (sCons (sVar 1) (sCons (sC (.int 5)) (sNil)))) (sNil)))) 3) (sSeq (sSet (sCallD (q_l_row K a) [] (sCons (sCallD (q_l_box K a) [] (sCons (sVar 0) (sCons (sC (.int 1)) (sNil)))) (sCons (sOp (oIx K) (sVar 2) (sC (.int 0))) (sCons (sOp (oIx K) (sVar 3) (sC (.int 0))) (sNil))))) 4) (sSeq (sSet (sCallD (q_l_row K a) [] (sCons (sCallD (q_l_box K a) [] (sCons (sVar 0) (sCons (sC (.int 2)) (sNil)))) (sCons (sOp (oIx K) (sVar 2) (sC (.int 1))) (sCons (sOp (oIx K) (sVar 3) (sC (.int 1))) (sNil))))) 5) (sSeq (sIfS (sNot (sTru K (sCallD (q_l_rows_merged K a) [] (sCons (sVar 4) (sCons (sVar 5) (sCons (sCallD (q_l_take K a) [] (sCons (sVar 1) (sCons (sC (.int 9)) (sNil)))) (sNil))))))) (sRet (sC (.bl false))) (sNext)) (sSeq (sSet (sCallD (q_l_any_numbers K a) [] (sCons (sCallD (q_l_box K a) [] (sCons (sVar 0) (sCons (sC (.int 3)) (sNil)))) (sNil))) 6) (sSeq (sFor (siSeq K (sTup (sCons (sC (.bl false)) (sCons (sC (.bl true)) (sNil))))) (sgName 7) (sSeq (sSet (sCallN (q_merges K a) 4 1 k_merges_same (sCons (sOp (oIx K) (sVar 6) (sC (.int 0))) (sCons (sOp (oIx K) (sVar 6) (sC (.int 1))) (sCons (sOp (oIx K) (sVar 6) (sC (.int 2))) (sCons (sOp (oIx K) (sVar 6) (sC (.int 3))) (sNil))))) (sCons (sVar 7) (sNil))) 8) (sIfS (sNot (sTru K (sCallD (q_l_is_number K a) [] (sCons (sVar 8) (sCons (sCallD (q_l_formula K a) [] (sCons (sVar 6) (sCons (sVar 7) (sNil)))) (sNil)))))) (sRet (sC (.bl false))) (sNext)))) (sRet (sCallD (q_l_refused K a) [] (sCons (sCallD (q_l_box K a) [] (sCons (sVar 0) (sCons (sC (.int 4)) (sNil)))) (sCons (sVar 6) (sNil)))))))))))))
section
variable {P : Program} {w : World} {K : PySem.W.Frag} {mg : Str → Option Value} {base : Heap} {a : Ads}
theorem d_is_integer (G : Env P w K mg base a)  {f : Addr} {cdv : Value} {A : Around} {outer : List PySem.Env} {s : Shared} {H : Hp} {E : XK} (hr : Room (l_is_integer - 1) (A.deeper (envOfC "is_integer" (defScope s_is_integer) s.heap.objs.size f cdv))) :
    PSs (cxOf (L2.CX P w) P w K mg base N_is_integer "is_integer" (defScope s_is_integer) f cdv A outer s H E) (defBody s_is_integer) (dS (fun c d _ H => E c d H) (r_is_integer K a)) := by
  have tk : Takes (cxOf (L2.CX P w) P w K mg base N_is_integer "is_integer" (defScope s_is_integer) f cdv A outer s H E) (fun c d _ H => E c d H) := takes_of rfl rfl rfl rfl
  have hp : PassesOwn (model P w) (cxOf (L2.CX P w) P w K mg base N_is_integer "is_integer" (defScope s_is_integer) f cdv A outer s H E).A (cxOf (L2.CX P w) P w K mg base N_is_integer "is_integer" (defScope s_is_integer) f cdv A outer s H E).env (cxOf (L2.CX P w) P w K mg base N_is_integer "is_integer" (defScope s_is_integer) f cdv A outer s H E).xe := passes_of rfl
  exact (hOne (hRet (gAndV (gIsi (by rfl) G.n_isinstance (gv 0) (by decide) (by rfl) G.n_int (by decide +kernel)) (gOneV (gNotV (gIsi (by rfl) G.n_isinstance (gv 0) (by decide) (by rfl) G.n_bool (by decide +kernel)))))))
theorem d_checked_number (G : Env P w K mg base a) (T_is_integer : DefC P w K mg base "is_integer" ["value"] l_is_integer [] (p_is_integer K a)) {f : Addr} {cdv : Value} {A : Around} {outer : List PySem.Env} {s : Shared} {H : Hp} {E : XK} (hr : Room (l_checked_number - 1) (A.deeper (envOfC "checked_number" (defScope s_checked_number) s.heap.objs.size f cdv))) :
    PSs (cxOf (L2.CX P w) P w K mg base N_checked_number "checked_number" (defScope s_checked_number) f cdv A outer s H E) (defBody s_checked_number) (dS (fun c d _ H => E c d H) (r_checked_number K a)) := by
  have tk : Takes (cxOf (L2.CX P w) P w K mg base N_checked_number "checked_number" (defScope s_checked_number) f cdv A outer s H E) (fun c d _ H => E c d H) := takes_of rfl rfl rfl rfl
  have hp : PassesOwn (model P w) (cxOf (L2.CX P w) P w K mg base N_checked_number "checked_number" (defScope s_checked_number) f cdv A outer s H E).A (cxOf (L2.CX P w) P w K mg base N_checked_number "checked_number" (defScope s_checked_number) f cdv A outer s H E).env (cxOf (L2.CX P w) P w K mg base N_checked_number "checked_number" (defScope s_checked_number) f cdv A outer s H E).xe := passes_of rfl
  exact (hCons (hIf (PW.pt (gOr (gTNot (gTru (gCall1 c_is_integer T_is_integer hr (by decide) (by rfl) tk (gCons (gv 0) gNil)))) (gOr1 (gTLt (gv 0) (gv 1))))) (hOne (hRaise (k := 0) rfl tk G.e_InvalidNumber (hr.mono (by decide)) (by rfl) (gv 0))) hNil) (hCons (hIf (PW.pt (gAnd (gTNotN (gv 2) gNon) (gAnd1 (gTGt (gv 0) (gv 2))))) (hOne (hRaise (k := 0) rfl tk G.e_InvalidNumber (hr.mono (by decide)) (by rfl) (gv 0))) hNil) (hOne (hRet (gv 0)))))
theorem d_choose (G : Env P w K mg base a)  {f : Addr} {cdv : Value} {A : Around} {outer : List PySem.Env} {s : Shared} {H : Hp} {E : XK} (hr : Room (l_choose - 1) (A.deeper (envOfC "choose" (defScope s_choose) s.heap.objs.size f cdv))) :
    PSs (cxOf (L2.CX P w) P w K mg base N_choose "choose" (defScope s_choose) f cdv A outer s H E) (defBody s_choose) (dS (fun c d _ H => E c d H) (r_choose K a)) := by
  have tk : Takes (cxOf (L2.CX P w) P w K mg base N_choose "choose" (defScope s_choose) f cdv A outer s H E) (fun c d _ H => E c d H) := takes_of rfl rfl rfl rfl
  have hp : PassesOwn (model P w) (cxOf (L2.CX P w) P w K mg base N_choose "choose" (defScope s_choose) f cdv A outer s H E).A (cxOf (L2.CX P w) P w K mg base N_choose "choose" (defScope s_choose) f cdv A outer s H E).env (cxOf (L2.CX P w) P w K mg base N_choose "choose" (defScope s_choose) f cdv A outer s H E).xe := passes_of rfl
  exact (hCons (hIf (PW.pt (gOr (gTLt (gv 1) gInt) (gOr1 (gTGt (gv 1) (gv 0))))) (hOne (hRet gInt)) hNil) (hOne (hRet (gBf cr_comb lComb (by rfl) G.i_comb (gCons (gv 0) (gCons (gv 1) gNil))))))
theorem d_check_row (G : Env P w K mg base a)  {f : Addr} {cdv : Value} {A : Around} {outer : List PySem.Env} {s : Shared} {H : Hp} {E : XK} (hr : Room (l_check_row - 1) (A.deeper (envOfC "_check_row" (defScope s_check_row) s.heap.objs.size f cdv))) :
    PSs (cxOf (L2.CX P w) P w K mg base N_check_row "_check_row" (defScope s_check_row) f cdv A outer s H E) (defBody s_check_row) (dS (fun c d _ H => E c d H) (r_check_row K a)) := by
  have tk : Takes (cxOf (L2.CX P w) P w K mg base N_check_row "_check_row" (defScope s_check_row) f cdv A outer s H E) (fun c d _ H => E c d H) := takes_of rfl rfl rfl rfl
  have hp : PassesOwn (model P w) (cxOf (L2.CX P w) P w K mg base N_check_row "_check_row" (defScope s_check_row) f cdv A outer s H E).A (cxOf (L2.CX P w) P w K mg base N_check_row "_check_row" (defScope s_check_row) f cdv A outer s H E).env (cxOf (L2.CX P w) P w K mg base N_check_row "_check_row" (defScope s_check_row) f cdv A outer s H E).xe := passes_of rfl
  exact (hOne (hIf (PW.pt (gOr (gTNot (gTru (gIsi (by rfl) G.n_isinstance (gv 0) (by decide) (by rfl) G.n_str (by decide +kernel)))) (gOr1 (gTNe hr.units (gM PySem.F.plainAttrs_str PySem.F.slot_str_strip PySem.F.type_str_strip mt_stripChars l1S (gv 0) (gCons gStr gNil)) gStr)))) (hOne (hRaise (k := 0) rfl tk G.e_InvalidRow (hr.mono (by decide)) (by rfl) gInt)) hNil))
theorem d_least (G : Env P w K mg base a)  {f : Addr} {cdv : Value} {A : Around} {outer : List PySem.Env} {s : Shared} {H : Hp} {E : XK} (hr : Room (l_least - 1) (A.deeper (envOfC "_least" (defScope s_least) s.heap.objs.size f cdv))) :
    PSs (cxOf (L2.CX P w) P w K mg base N_least "_least" (defScope s_least) f cdv A outer s H E) (defBody s_least) (dS (fun c d _ H => E c d H) (r_least K a)) := by
  have tk : Takes (cxOf (L2.CX P w) P w K mg base N_least "_least" (defScope s_least) f cdv A outer s H E) (fun c d _ H => E c d H) := takes_of rfl rfl rfl rfl
  have hp : PassesOwn (model P w) (cxOf (L2.CX P w) P w K mg base N_least "_least" (defScope s_least) f cdv A outer s H E).A (cxOf (L2.CX P w) P w K mg base N_least "_least" (defScope s_least) f cdv A outer s H E).env (cxOf (L2.CX P w) P w K mg base N_least "_least" (defScope s_least) f cdv A outer s H E).xe := passes_of rfl
  exact (hOne (hRet (gAdd (gM PySem.F.plainAttrs_str PySem.F.slot_str_count PySem.F.type_str_count mt_count l1S0 (gv 0) (gCons gStr gNil)) (gIfE (gTru (gM PySem.F.plainAttrs_str PySem.F.slot_str_startswith PySem.F.type_str_startswith mt_startswith l1S0 (gv 0) (gCons gStr gNil))) gInt gInt))))
theorem d_cut_count (G : Env P w K mg base a) (T_check_row : DefC P w K mg base "_check_row" ["row"] l_check_row [] (p_check_row K a)) (T_least : DefC P w K mg base "_least" ["row"] l_least [] (p_least K a)) (T_checked_number_d1 : DefC P w K mg base "checked_number" ["number", "least", "most"] l_checked_number [.non] (p_checked_number K a)) (T_choose : DefC P w K mg base "choose" ["total", "part"] l_choose [] (p_choose K a)) {f : Addr} {cdv : Value} {A : Around} {outer : List PySem.Env} {s : Shared} {H : Hp} {E : XK} (hr : Room (l_cut_count - 1) (A.deeper (envOfC "cut_count" (defScope s_cut_count) s.heap.objs.size f cdv))) :
    PSs (cxOf (L2.CX P w) P w K mg base N_cut_count "cut_count" (defScope s_cut_count) f cdv A outer s H E) (defBody s_cut_count) (dS (fun c d _ H => E c d H) (r_cut_count K a)) := by
  have tk : Takes (cxOf (L2.CX P w) P w K mg base N_cut_count "cut_count" (defScope s_cut_count) f cdv A outer s H E) (fun c d _ H => E c d H) := takes_of rfl rfl rfl rfl
  have hp : PassesOwn (model P w) (cxOf (L2.CX P w) P w K mg base N_cut_count "cut_count" (defScope s_cut_count) f cdv A outer s H E).A (cxOf (L2.CX P w) P w K mg base N_cut_count "cut_count" (defScope s_cut_count) f cdv A outer s H E).env (cxOf (L2.CX P w) P w K mg base N_cut_count "cut_count" (defScope s_cut_count) f cdv A outer s H E).xe := passes_of rfl
  exact (hCons (hExpr (gCall1 c_check_row T_check_row hr (by decide) (by rfl) tk (gCons (gv 0) gNil))) (hCons (hExpr (gCall1 c_checked_number T_checked_number_d1 hr (by decide) (by rfl) tk (gCons (gv 1) (gCons gInt gNil)))) (hCons (hSet (i := 2) sc_cut_count.nd rfl (.inl rfl) (gCall1 c_least T_least hr (by decide) (by rfl) tk (gCons (gv 0) gNil))) (hOne (hRet (gCall1 c_choose T_choose hr (by decide) (by rfl) tk (gCons (gSub (gB call_len lLen (by rfl) G.n_len (by decide +kernel) (gCons (gv 0) gNil)) (gv 2)) (gCons (gSub (gv 1) (gv 2)) gNil))))))))
theorem d_merge_ways (G : Env P w K mg base a) (T_choose : DefC P w K mg base "choose" ["total", "part"] l_choose [] (p_choose K a)) {f : Addr} {cdv : Value} {A : Around} {outer : List PySem.Env} {s : Shared} {H : Hp} {E : XK} (hr : Room (l_merge_ways - 1) (A.deeper (envOfC "merge_ways" (defScope s_merge_ways) s.heap.objs.size f cdv))) :
    PSs (cxOf (L2.CX P w) P w K mg base N_merge_ways "merge_ways" (defScope s_merge_ways) f cdv A outer s H E) (defBody s_merge_ways) (dS (fun c d _ H => E c d H) (r_merge_ways K a)) := by
  have tk : Takes (cxOf (L2.CX P w) P w K mg base N_merge_ways "merge_ways" (defScope s_merge_ways) f cdv A outer s H E) (fun c d _ H => E c d H) := takes_of rfl rfl rfl rfl
  have hp : PassesOwn (model P w) (cxOf (L2.CX P w) P w K mg base N_merge_ways "merge_ways" (defScope s_merge_ways) f cdv A outer s H E).A (cxOf (L2.CX P w) P w K mg base N_merge_ways "merge_ways" (defScope s_merge_ways) f cdv A outer s H E).env (cxOf (L2.CX P w) P w K mg base N_merge_ways "merge_ways" (defScope s_merge_ways) f cdv A outer s H E).xe := passes_of rfl
  exact (hCons (hIf (gTEq hr.units (gv 2) gInt) (hOne (hRet (gIfE (PW.pt (gAnd (gTru (gv 4)) (gAnd1 (gTEq hr.units (gv 1) gInt)))) gInt gInt))) hNil) (hCons (hSet (i := 5) sc_merge_ways.nd rfl (.inl rfl) (gSub (gAdd (gSub (gv 0) (gv 1)) (gv 2)) (gv 3))) (hCons (hIf (gTru (gv 4)) (hOne (hRet (gCall1 c_choose T_choose hr (by decide) (by rfl) tk (gCons (gv 5) (gCons (gSub (gSub (gv 0) (gv 3)) gInt) gNil))))) hNil) (hOne (hRet (gCall1 c_choose T_choose hr (by decide) (by rfl) tk (gCons (gv 5) (gCons (gSub (gv 0) (gv 3)) gNil))))))))
theorem d_merges (G : Env P w K mg base a) (T_checked_number_d1 : DefC P w K mg base "checked_number" ["number", "least", "most"] l_checked_number [.non] (p_checked_number K a)) (T_merge_ways : DefC P w K mg base "merge_ways" ["length", "least", "other_length", "other_least", "same"] l_merge_ways [] (p_merge_ways K a)) {f : Addr} {cdv : Value} {A : Around} {outer : List PySem.Env} {s : Shared} {H : Hp} {E : XK} (hr : Room (l_merges - 1) (A.deeper (envOfC "merges" (defScope s_merges) s.heap.objs.size f cdv))) :
    PSs (cxOf (L2.CX P w) P w K mg base N_merges "merges" (defScope s_merges) f cdv A outer s H E) (defBody s_merges) (dS (fun c d _ H => E c d H) (r_merges K a)) := by
  have tk : Takes (cxOf (L2.CX P w) P w K mg base N_merges "merges" (defScope s_merges) f cdv A outer s H E) (fun c d _ H => E c d H) := takes_of rfl rfl rfl rfl
  have hp : PassesOwn (model P w) (cxOf (L2.CX P w) P w K mg base N_merges "merges" (defScope s_merges) f cdv A outer s H E).A (cxOf (L2.CX P w) P w K mg base N_merges "merges" (defScope s_merges) f cdv A outer s H E).env (cxOf (L2.CX P w) P w K mg base N_merges "merges" (defScope s_merges) f cdv A outer s H E).xe := passes_of rfl
  exact (hCons (hExpr (gCall1 c_checked_number T_checked_number_d1 hr (by decide) (by rfl) tk (gCons (gv 0) (gCons gInt gNil)))) (hCons (hExpr (gCall1 c_checked_number T_checked_number_d1 hr (by decide) (by rfl) tk (gCons (gv 1) (gCons gInt gNil)))) (hCons (hExpr (gCall1 c_checked_number T_checked_number_d1 hr (by decide) (by rfl) tk (gCons (gv 2) (gCons gInt gNil)))) (hCons (hExpr (gCall1 c_checked_number T_checked_number_d1 hr (by decide) (by rfl) tk (gCons (gv 3) (gCons gInt gNil)))) (hOne (hRet (gCall1 c_merge_ways T_merge_ways hr (by decide) (by rfl) tk (gCons (gv 0) (gCons (gv 1) (gCons (gv 2) (gCons (gv 3) (gCons (gv 4) gNil))))))))))))
theorem d_l_cell (G : Env P w K mg base a)  {f : Addr} {cdv : Value} {A : Around} {outer : List PySem.Env} {s : Shared} {H : Hp} {E : XK} (hr : Room (l_l_cell - 1) (A.deeper (envOfC "_law_cell" (defScope s_l_cell) s.heap.objs.size f cdv))) :
    PSs (cxOf (L2.CX P w) P w K mg base N_l_cell "_law_cell" (defScope s_l_cell) f cdv A outer s H E) (defBody s_l_cell) (dS (fun c d _ H => E c d H) (r_l_cell K a)) := by
  have tk : Takes (cxOf (L2.CX P w) P w K mg base N_l_cell "_law_cell" (defScope s_l_cell) f cdv A outer s H E) (fun c d _ H => E c d H) := takes_of rfl rfl rfl rfl
  have hp : PassesOwn (model P w) (cxOf (L2.CX P w) P w K mg base N_l_cell "_law_cell" (defScope s_l_cell) f cdv A outer s H E).A (cxOf (L2.CX P w) P w K mg base N_l_cell "_law_cell" (defScope s_l_cell) f cdv A outer s H E).env (cxOf (L2.CX P w) P w K mg base N_l_cell "_law_cell" (defScope s_l_cell) f cdv A outer s H E).xe := passes_of rfl
  exact (hCons (hIf (gTLt (gv 1) (gB call_len lLen (by rfl) G.n_len (by decide +kernel) (gCons (gv 0) gNil))) (hOne (hRet (gB call_abs lAbs (by rfl) G.n_abs (by decide +kernel) (gCons (gIx (gv 0) (gv 1) (by intro _ _; rfl)) gNil)))) hNil) (hOne (hRet (gAdd (gMul gInt (gAdd (gv 1) gInt)) (gMod (gTy call_int1 lInt (by rfl) G.n_int (by decide +kernel) (gCons (gB (cr_sum rfl) lSum (by rfl) G.n_sum (by decide +kernel) (gCons (gv 0) gNil)) gNil)) gInt)))))
theorem d_l_box (G : Env P w K mg base a) (T_l_cell : DefC P w K mg base "_law_cell" ["_law_script", "_law_k"] l_l_cell [] (p_l_cell K a)) {f : Addr} {cdv : Value} {A : Around} {outer : List PySem.Env} {s : Shared} {H : Hp} {E : XK} (hr : Room (l_l_box - 1) (A.deeper (envOfC "_law_box" (defScope s_l_box) s.heap.objs.size f cdv))) :
    PSs (cxOf (L2.CX P w) P w K mg base N_l_box "_law_box" (defScope s_l_box) f cdv A outer s H E) (defBody s_l_box) (dS (fun c d _ H => E c d H) (r_l_box K a)) := by
  have tk : Takes (cxOf (L2.CX P w) P w K mg base N_l_box "_law_box" (defScope s_l_box) f cdv A outer s H E) (fun c d _ H => E c d H) := takes_of rfl rfl rfl rfl
  have hp : PassesOwn (model P w) (cxOf (L2.CX P w) P w K mg base N_l_box "_law_box" (defScope s_l_box) f cdv A outer s H E).A (cxOf (L2.CX P w) P w K mg base N_l_box "_law_box" (defScope s_l_box) f cdv A outer s H E).env (cxOf (L2.CX P w) P w K mg base N_l_box "_law_box" (defScope s_l_box) f cdv A outer s H E).xe := passes_of rfl
  exact (hOne (hRet (gLst (gCons (gCall1 c_l_cell T_l_cell hr (by decide) (by rfl) tk (gCons (gv 0) (gCons (gv 1) gNil))) (gCons gInt gNil)))))
theorem d_l_take (G : Env P w K mg base a)  {f : Addr} {cdv : Value} {A : Around} {outer : List PySem.Env} {s : Shared} {H : Hp} {E : XK} (hr : Room (l_l_take - 1) (A.deeper (envOfC "_law_take" (defScope s_l_take) s.heap.objs.size f cdv))) :
    PSs (cxOf (L2.CX P w) P w K mg base N_l_take "_law_take" (defScope s_l_take) f cdv A outer s H E) (defBody s_l_take) (dS (fun c d _ H => E c d H) (r_l_take K a)) := by
  have tk : Takes (cxOf (L2.CX P w) P w K mg base N_l_take "_law_take" (defScope s_l_take) f cdv A outer s H E) (fun c d _ H => E c d H) := takes_of rfl rfl rfl rfl
  have hp : PassesOwn (model P w) (cxOf (L2.CX P w) P w K mg base N_l_take "_law_take" (defScope s_l_take) f cdv A outer s H E).A (cxOf (L2.CX P w) P w K mg base N_l_take "_law_take" (defScope s_l_take) f cdv A outer s H E).env (cxOf (L2.CX P w) P w K mg base N_l_take "_law_take" (defScope s_l_take) f cdv A outer s H E).xe := passes_of rfl
  exact (hCons (hIf (gTGe (gIx (gv 0) gInt (by intro _ _; rfl)) (gPow gInt gInt)) (hCons (hSet (i := 2) sc_l_take.nd rfl (.inl rfl) (gMod (gTy call_int1 lInt (by rfl) G.n_int (by decide +kernel) (gCons (gIx (gv 0) gInt (by intro _ _; rfl)) gNil)) (gv 1))) (hCons (hAsg (gFdv (gIx (gv 0) gInt (by intro _ _; rfl)) (gv 1)) (ggSub (gv 0) gInt)) (hOne (hRet (gv 2))))) hNil) (hCons (hAsg (gAdd (gIx (gv 0) gInt (by intro _ _; rfl)) gInt) (ggSub (gv 0) gInt)) (hCons (hSet (i := 3) sc_l_take.nd rfl (.inl rfl) (gMod (gTy call_int1 lInt (by rfl) G.n_int (by decide +kernel) (gCons (gAdd (gMul (gIx (gv 0) gInt (by intro _ _; rfl)) gInt) (gMul (gIx (gv 0) gInt (by intro _ _; rfl)) gInt)) gNil)) gInt)) (hCons (hSet (i := 3) sc_l_take.nd rfl (.inl rfl) (gMod (gTy call_int1 lInt (by rfl) G.n_int (by decide +kernel) (gCons (gAdd (gAdd (gMul (gv 3) (gv 3)) (gFdv (gv 3) gInt)) (gIx (gv 0) gInt (by intro _ _; rfl))) gNil)) gInt)) (hOne (hRet (gMod (gFdv (gMod (gTy call_int1 lInt (by rfl) G.n_int (by decide +kernel) (gCons (gAdd (gMul (gv 3) gInt) (gFdv (gv 3) gInt)) gNil)) gInt) gInt) (gv 1))))))))
theorem d_l_row (G : Env P w K mg base a) (T_l_take : DefC P w K mg base "_law_take" ["_law_box_here", "_law_size"] l_l_take [] (p_l_take K a)) {f : Addr} {cdv : Value} {A : Around} {outer : List PySem.Env} {s : Shared} {H : Hp} {E : XK} (hr : Room (l_l_row - 1) (A.deeper (envOfC "_law_row" (defScope s_l_row) s.heap.objs.size f cdv))) :
    PSs (cxOf (L2.CX P w) P w K mg base N_l_row "_law_row" (defScope s_l_row) f cdv A outer s H E) (defBody s_l_row) (dS (fun c d _ H => E c d H) (r_l_row K a)) := by
  have tk : Takes (cxOf (L2.CX P w) P w K mg base N_l_row "_law_row" (defScope s_l_row) f cdv A outer s H E) (fun c d _ H => E c d H) := takes_of rfl rfl rfl rfl
  have hp : PassesOwn (model P w) (cxOf (L2.CX P w) P w K mg base N_l_row "_law_row" (defScope s_l_row) f cdv A outer s H E).A (cxOf (L2.CX P w) P w K mg base N_l_row "_law_row" (defScope s_l_row) f cdv A outer s H E).env (cxOf (L2.CX P w) P w K mg base N_l_row "_law_row" (defScope s_l_row) f cdv A outer s H E).xe := passes_of rfl
  exact (hCons (hSet (i := 3) sc_l_row.nd rfl (.inl rfl) gStr) (hCons (hFor hp rfl (iR1 (by rfl) G.n_range (gCons (gv 1) gNil)) (ggName (i := 4) sc_l_row.nd rfl (.inl rfl)) (hCons (hSet (i := 5) sc_l_row.nd rfl (.inl rfl) (gEq hr.units (gCall1 c_l_take T_l_take hr (by decide) (by rfl) tk (gCons (gv 0) (gCons (gIx (gLst (gCons gInt (gCons gInt (gCons gInt (gCons gInt (gCons gInt gNil)))))) (gv 2) (by intro _ _; rfl)) gNil))) gInt)) (hOne (hSet (i := 3) sc_l_row.nd rfl (.inl rfl) (gAdd (gv 3) (gIfE (PW.pt (gAnd (gTru (gv 5)) (gAnd1 (gTLt (gv 2) gInt)))) gStr gStr)))))) (hOne (hRet (gv 3)))))
theorem d_l_least (G : Env P w K mg base a)  {f : Addr} {cdv : Value} {A : Around} {outer : List PySem.Env} {s : Shared} {H : Hp} {E : XK} (hr : Room (l_l_least - 1) (A.deeper (envOfC "_law_least" (defScope s_l_least) s.heap.objs.size f cdv))) :
    PSs (cxOf (L2.CX P w) P w K mg base N_l_least "_law_least" (defScope s_l_least) f cdv A outer s H E) (defBody s_l_least) (dS (fun c d _ H => E c d H) (r_l_least K a)) := by
  have tk : Takes (cxOf (L2.CX P w) P w K mg base N_l_least "_law_least" (defScope s_l_least) f cdv A outer s H E) (fun c d _ H => E c d H) := takes_of rfl rfl rfl rfl
  have hp : PassesOwn (model P w) (cxOf (L2.CX P w) P w K mg base N_l_least "_law_least" (defScope s_l_least) f cdv A outer s H E).A (cxOf (L2.CX P w) P w K mg base N_l_least "_law_least" (defScope s_l_least) f cdv A outer s H E).env (cxOf (L2.CX P w) P w K mg base N_l_least "_law_least" (defScope s_l_least) f cdv A outer s H E).xe := passes_of rfl
  exact (hCons (hIf (gTEq hr.units (gv 0) gStr) (hOne (hRet gInt)) hNil) (hOne (hRet (gAdd (gM PySem.F.plainAttrs_str PySem.F.slot_str_count PySem.F.type_str_count mt_count l1S0 (gv 0) (gCons gStr gNil)) (gTy call_int1 lInt (by rfl) G.n_int (by decide +kernel) (gCons (gEq hr.units (gIx (gv 0) gInt (by intro _ _; rfl)) gStr) gNil))))))
theorem d_l_talks (G : Env P w K mg base a)  {f : Addr} {cdv : Value} {A : Around} {outer : List PySem.Env} {s : Shared} {H : Hp} {E : XK} (hr : Room (l_l_talks - 1) (A.deeper (envOfC "_law_talks" (defScope s_l_talks) s.heap.objs.size f cdv))) :
    PSs (cxOf (L2.CX P w) P w K mg base N_l_talks "_law_talks" (defScope s_l_talks) f cdv A outer s H E) (defBody s_l_talks) (dS (fun c d _ H => E c d H) (r_l_talks K a)) := by
  have tk : Takes (cxOf (L2.CX P w) P w K mg base N_l_talks "_law_talks" (defScope s_l_talks) f cdv A outer s H E) (fun c d _ H => E c d H) := takes_of rfl rfl rfl rfl
  have hp : PassesOwn (model P w) (cxOf (L2.CX P w) P w K mg base N_l_talks "_law_talks" (defScope s_l_talks) f cdv A outer s H E).A (cxOf (L2.CX P w) P w K mg base N_l_talks "_law_talks" (defScope s_l_talks) f cdv A outer s H E).env (cxOf (L2.CX P w) P w K mg base N_l_talks "_law_talks" (defScope s_l_talks) f cdv A outer s H E).xe := passes_of rfl
  exact (hCons (hSetLc (i := 2) (own := [("_law_k", 7)]) rfl sc_l_talks.nd rfl rfl (sw_true rfl rfl rfl (by decide +kernel)) (iR1 (by rfl) G.n_range (gCons (gAdd (gB call_len lLen (by rfl) G.n_len (by decide +kernel) (gCons (gv 0) gNil)) gInt) gNil)) (blkOk_by (own := [("_law_k", 7)]) (N := N_l_talks) (sc := defScope s_l_talks) (by decide +kernel)) (fun _ _ _ _ _ => (ggName (i := 7) sc_l_talks.nd rfl (.inl rfl))) (fun _ _ _ _ _ => gNoIf) (fun _ _ _ _ _ => (gMul (gLst (gCons gInt gNil)) (gAdd (gB call_len lLen (by rfl) G.n_len (by decide +kernel) (gCons (gv 1) gNil)) gInt)))) (hCons (hSetLc (i := 3) (own := [("_law_k", 7)]) rfl sc_l_talks.nd rfl rfl (sw_true rfl rfl rfl (by decide +kernel)) (iR1 (by rfl) G.n_range (gCons (gAdd (gB call_len lLen (by rfl) G.n_len (by decide +kernel) (gCons (gv 0) gNil)) gInt) gNil)) (blkOk_by (own := [("_law_k", 7)]) (N := N_l_talks) (sc := defScope s_l_talks) (by decide +kernel)) (fun _ _ _ _ _ => (ggName (i := 7) sc_l_talks.nd rfl (.inl rfl))) (fun _ _ _ _ _ => gNoIf) (fun _ _ _ _ _ => (gMul (gLst (gCons gInt gNil)) (gAdd (gB call_len lLen (by rfl) G.n_len (by decide +kernel) (gCons (gv 1) gNil)) gInt)))) (hCons (hAsg gInt (ggSub (gIx (gv 2) gInt (by intro _ _; rfl)) gInt)) (hCons (hFor hp rfl (iR2 (by rfl) G.n_range (gCons gInt (gCons (gAdd (gB call_len lLen (by rfl) G.n_len (by decide +kernel) (gCons (gv 0) gNil)) gInt) gNil))) (ggName (i := 4) sc_l_talks.nd rfl (.inl rfl)) (hOne (hFor hp rfl (iR1 (by rfl) G.n_range (gCons (gAdd (gB call_len lLen (by rfl) G.n_len (by decide +kernel) (gCons (gv 1) gNil)) gInt) gNil)) (ggName (i := 5) sc_l_talks.nd rfl (.inl rfl)) (hCons (hSet (i := 6) sc_l_talks.nd rfl (.inl rfl) gInt) (hCut (hIf (gTGt (gv 4) gInt) (hCons (hSet (i := 6) sc_l_talks.nd rfl (.inl rfl) (gIx (gIx (gv 3) (gSub (gv 4) gInt) (by intro _ _; rfl)) (gv 5) (by intro _ _; rfl))) (hCut (hIf (gTEq hr.units (gIx (gv 0) (gSub (gv 4) gInt) (by intro _ _; rfl)) gStr) (hOne (hSet (i := 6) sc_l_talks.nd rfl (.inl rfl) (gAdd (gv 6) (gIx (gIx (gv 2) (gSub (gv 4) gInt) (by intro _ _; rfl)) (gv 5) (by intro _ _; rfl))))) hNil) (hOne (hAsg (gv 6) (ggSub (gIx (gv 2) (gv 4) (by intro _ _; rfl)) (gv 5)))))) hNil) (hOne (hIf (gTGt (gv 5) gInt) (hCons (hSet (i := 6) sc_l_talks.nd rfl (.inl rfl) (gIx (gIx (gv 2) (gv 4) (by intro _ _; rfl)) (gSub (gv 5) gInt) (by intro _ _; rfl))) (hCut (hIf (gTEq hr.units (gIx (gv 1) (gSub (gv 5) gInt) (by intro _ _; rfl)) gStr) (hOne (hSet (i := 6) sc_l_talks.nd rfl (.inl rfl) (gAdd (gv 6) (gIx (gIx (gv 3) (gv 4) (by intro _ _; rfl)) (gSub (gv 5) gInt) (by intro _ _; rfl))))) hNil) (hOne (hAsg (gv 6) (ggSub (gIx (gv 3) (gv 4) (by intro _ _; rfl)) (gv 5)))))) hNil))))))) (hOne (hRet (gLst (gCons (gIx (gIx (gv 3) (gB call_len lLen (by rfl) G.n_len (by decide +kernel) (gCons (gv 0) gNil)) (by intro _ _; rfl)) (gB call_len lLen (by rfl) G.n_len (by decide +kernel) (gCons (gv 1) gNil)) (by intro _ _; rfl)) (gCons (gIx (gIx (gv 2) (gB call_len lLen (by rfl) G.n_len (by decide +kernel) (gCons (gv 0) gNil)) (by intro _ _; rfl)) (gB call_len lLen (by rfl) G.n_len (by decide +kernel) (gCons (gv 1) gNil)) (by intro _ _; rfl)) gNil)))))))))
theorem d_l_choose (G : Env P w K mg base a)  {f : Addr} {cdv : Value} {A : Around} {outer : List PySem.Env} {s : Shared} {H : Hp} {E : XK} (hr : Room (l_l_choose - 1) (A.deeper (envOfC "_law_choose" (defScope s_l_choose) s.heap.objs.size f cdv))) :
    PSs (cxOf (L2.CX P w) P w K mg base N_l_choose "_law_choose" (defScope s_l_choose) f cdv A outer s H E) (defBody s_l_choose) (dS (fun c d _ H => E c d H) (r_l_choose K a)) := by
  have tk : Takes (cxOf (L2.CX P w) P w K mg base N_l_choose "_law_choose" (defScope s_l_choose) f cdv A outer s H E) (fun c d _ H => E c d H) := takes_of rfl rfl rfl rfl
  have hp : PassesOwn (model P w) (cxOf (L2.CX P w) P w K mg base N_l_choose "_law_choose" (defScope s_l_choose) f cdv A outer s H E).A (cxOf (L2.CX P w) P w K mg base N_l_choose "_law_choose" (defScope s_l_choose) f cdv A outer s H E).env (cxOf (L2.CX P w) P w K mg base N_l_choose "_law_choose" (defScope s_l_choose) f cdv A outer s H E).xe := passes_of rfl
  exact (hCons (hIf (PW.pt (gOr (gTLt (gv 1) gInt) (gOr1 (gTGt (gv 1) (gv 0))))) (hOne (hRet gInt)) hNil) (hCons (hSet (i := 2) sc_l_choose.nd rfl (.inl rfl) gInt) (hCons (hFor hp rfl (iR1 (by rfl) G.n_range (gCons (gv 1) gNil)) (ggName (i := 3) sc_l_choose.nd rfl (.inl rfl)) (hOne (hSet (i := 2) sc_l_choose.nd rfl (.inl rfl) (gFdv (gMul (gv 2) (gSub (gv 0) (gv 3))) (gAdd (gv 3) gInt))))) (hOne (hRet (gv 2))))))
theorem d_l_formula (G : Env P w K mg base a) (T_l_choose : DefC P w K mg base "_law_choose" ["_law_total", "_law_part"] l_l_choose [] (p_l_choose K a)) {f : Addr} {cdv : Value} {A : Around} {outer : List PySem.Env} {s : Shared} {H : Hp} {E : XK} (hr : Room (l_l_formula - 1) (A.deeper (envOfC "_law_formula" (defScope s_l_formula) s.heap.objs.size f cdv))) :
    PSs (cxOf (L2.CX P w) P w K mg base N_l_formula "_law_formula" (defScope s_l_formula) f cdv A outer s H E) (defBody s_l_formula) (dS (fun c d _ H => E c d H) (r_l_formula K a)) := by
  have tk : Takes (cxOf (L2.CX P w) P w K mg base N_l_formula "_law_formula" (defScope s_l_formula) f cdv A outer s H E) (fun c d _ H => E c d H) := takes_of rfl rfl rfl rfl
  have hp : PassesOwn (model P w) (cxOf (L2.CX P w) P w K mg base N_l_formula "_law_formula" (defScope s_l_formula) f cdv A outer s H E).A (cxOf (L2.CX P w) P w K mg base N_l_formula "_law_formula" (defScope s_l_formula) f cdv A outer s H E).env (cxOf (L2.CX P w) P w K mg base N_l_formula "_law_formula" (defScope s_l_formula) f cdv A outer s H E).xe := passes_of rfl
  exact (hCons (hIf (gTEq hr.units (gIx (gv 0) gInt (by intro _ _; rfl)) gInt) (hOne (hRet (gTy call_int1 lInt (by rfl) G.n_int (by decide +kernel) (gCons (gAndV (gv 1) (gOneV (gEq hr.units (gIx (gv 0) gInt (by intro _ _; rfl)) gInt))) gNil)))) hNil) (hCons (hSet (i := 2) sc_l_formula.nd rfl (.inl rfl) (gSub (gAdd (gSub (gIx (gv 0) gInt (by intro _ _; rfl)) (gIx (gv 0) gInt (by intro _ _; rfl))) (gIx (gv 0) gInt (by intro _ _; rfl))) (gIx (gv 0) gInt (by intro _ _; rfl)))) (hOne (hRet (gCall1 c_l_choose T_l_choose hr (by decide) (by rfl) tk (gCons (gv 2) (gCons (gSub (gSub (gIx (gv 0) gInt (by intro _ _; rfl)) (gIx (gv 0) gInt (by intro _ _; rfl))) (gTy call_int1 lInt (by rfl) G.n_int (by decide +kernel) (gCons (gv 1) gNil))) gNil)))))))
theorem d_l_is_number (G : Env P w K mg base a)  {f : Addr} {cdv : Value} {A : Around} {outer : List PySem.Env} {s : Shared} {H : Hp} {E : XK} (hr : Room (l_l_is_number - 1) (A.deeper (envOfC "_law_is_number" (defScope s_l_is_number) s.heap.objs.size f cdv))) :
    PSs (cxOf (L2.CX P w) P w K mg base N_l_is_number "_law_is_number" (defScope s_l_is_number) f cdv A outer s H E) (defBody s_l_is_number) (dS (fun c d _ H => E c d H) (r_l_is_number K a)) := by
  have tk : Takes (cxOf (L2.CX P w) P w K mg base N_l_is_number "_law_is_number" (defScope s_l_is_number) f cdv A outer s H E) (fun c d _ H => E c d H) := takes_of rfl rfl rfl rfl
  have hp : PassesOwn (model P w) (cxOf (L2.CX P w) P w K mg base N_l_is_number "_law_is_number" (defScope s_l_is_number) f cdv A outer s H E).A (cxOf (L2.CX P w) P w K mg base N_l_is_number "_law_is_number" (defScope s_l_is_number) f cdv A outer s H E).env (cxOf (L2.CX P w) P w K mg base N_l_is_number "_law_is_number" (defScope s_l_is_number) f cdv A outer s H E).xe := passes_of rfl
  exact (hOne (hRet (gAndV (gIsi (by rfl) G.n_isinstance (gv 0) (by decide) (by rfl) G.n_int (by decide +kernel)) (gAndV (gNotV (gIsi (by rfl) G.n_isinstance (gv 0) (by decide) (by rfl) G.n_bool (by decide +kernel))) (gOneV (gEq hr.units (gv 0) (gv 1)))))))
theorem d_l_sum (G : Env P w K mg base a) (T_cut_count : DefC P w K mg base "cut_count" ["row", "blocks"] l_cut_count [] (p_cut_count K a)) {f : Addr} {cdv : Value} {A : Around} {outer : List PySem.Env} {s : Shared} {H : Hp} {E : XK} (hr : Room (l_l_sum - 1) (A.deeper (envOfC "_law_sum" (defScope s_l_sum) s.heap.objs.size f cdv))) :
    PSs (cxOf (L2.CX P w) P w K mg base N_l_sum "_law_sum" (defScope s_l_sum) f cdv A outer s H E) (defBody s_l_sum) (dS (fun c d _ H => E c d H) (r_l_sum K a)) := by
  have tk : Takes (cxOf (L2.CX P w) P w K mg base N_l_sum "_law_sum" (defScope s_l_sum) f cdv A outer s H E) (fun c d _ H => E c d H) := takes_of rfl rfl rfl rfl
  have hp : PassesOwn (model P w) (cxOf (L2.CX P w) P w K mg base N_l_sum "_law_sum" (defScope s_l_sum) f cdv A outer s H E).A (cxOf (L2.CX P w) P w K mg base N_l_sum "_law_sum" (defScope s_l_sum) f cdv A outer s H E).env (cxOf (L2.CX P w) P w K mg base N_l_sum "_law_sum" (defScope s_l_sum) f cdv A outer s H E).xe := passes_of rfl
  exact (hCons (hSet (i := 3) sc_l_sum.nd rfl (.inl rfl) gInt) (hCons (hFor hp rfl (iR1 (by rfl) G.n_range (gCons (gAdd (gB call_len lLen (by rfl) G.n_len (by decide +kernel) (gCons (gv 1) gNil)) gInt) gNil)) (ggName (i := 4) sc_l_sum.nd rfl (.inl rfl)) (hOne (hSet (i := 3) sc_l_sum.nd rfl (.inl rfl) (gAdd (gv 3) (gMul (gCall1 c_cut_count T_cut_count hr (by decide) (by rfl) tk (gCons (gv 0) (gCons (gAdd (gv 4) (gv 2)) gNil))) (gCall1 c_cut_count T_cut_count hr (by decide) (by rfl) tk (gCons (gv 1) (gCons (gv 4) gNil)))))))) (hOne (hRet (gv 3)))))
theorem d_l_rows_merged (G : Env P w K mg base a) (T_l_is_number : DefC P w K mg base "_law_is_number" ["_law_actual", "_law_due"] l_l_is_number [] (p_l_is_number K a)) (T_l_least : DefC P w K mg base "_law_least" ["_law_row_here"] l_l_least [] (p_l_least K a)) (T_l_sum : DefC P w K mg base "_law_sum" ["_law_one", "_law_other", "_law_more"] l_l_sum [] (p_l_sum K a)) (T_l_talks : DefC P w K mg base "_law_talks" ["_law_one", "_law_other"] l_l_talks [] (p_l_talks K a)) (T_merges_same : DefN P w K mg base "merges" ["length", "least", "other_length", "other_least", "same"] l_merges 4 ["same"] k_merges_same (p_merges K a)) {f : Addr} {cdv : Value} {A : Around} {outer : List PySem.Env} {s : Shared} {H : Hp} {E : XK} (hr : Room (l_l_rows_merged - 1) (A.deeper (envOfC "_law_rows_merged" (defScope s_l_rows_merged) s.heap.objs.size f cdv))) :
    PSs (cxOf (L2.CX P w) P w K mg base N_l_rows_merged "_law_rows_merged" (defScope s_l_rows_merged) f cdv A outer s H E) (defBody s_l_rows_merged) (dS (fun c d _ H => E c d H) (r_l_rows_merged K a)) := by
  have tk : Takes (cxOf (L2.CX P w) P w K mg base N_l_rows_merged "_law_rows_merged" (defScope s_l_rows_merged) f cdv A outer s H E) (fun c d _ H => E c d H) := takes_of rfl rfl rfl rfl
  have hp : PassesOwn (model P w) (cxOf (L2.CX P w) P w K mg base N_l_rows_merged "_law_rows_merged" (defScope s_l_rows_merged) f cdv A outer s H E).A (cxOf (L2.CX P w) P w K mg base N_l_rows_merged "_law_rows_merged" (defScope s_l_rows_merged) f cdv A outer s H E).env (cxOf (L2.CX P w) P w K mg base N_l_rows_merged "_law_rows_merged" (defScope s_l_rows_merged) f cdv A outer s H E).xe := passes_of rfl
  exact (hCons (hSet (i := 3) sc_l_rows_merged.nd rfl (.inl rfl) (gCall1 c_l_least T_l_least hr (by decide) (by rfl) tk (gCons (gv 0) gNil))) (hCons (hSet (i := 4) sc_l_rows_merged.nd rfl (.inl rfl) (gCall1 c_l_least T_l_least hr (by decide) (by rfl) tk (gCons (gv 1) gNil))) (hCons (hSet (i := 5) sc_l_rows_merged.nd rfl (.inl rfl) (gCall1 c_l_talks T_l_talks hr (by decide) (by rfl) tk (gCons (gv 0) (gCons (gv 1) gNil)))) (hCons (hSet (i := 6) sc_l_rows_merged.nd rfl (.inl rfl) (gCall2 c_merges T_merges_same hr (by decide) (by rfl) tk (gCons (gB call_len lLen (by rfl) G.n_len (by decide +kernel) (gCons (gv 0) gNil)) (gCons (gv 3) (gCons (gB call_len lLen (by rfl) G.n_len (by decide +kernel) (gCons (gv 1) gNil)) (gCons (gv 4) gNil)))) (gKCons gBl gKNil) rfl)) (hCons (hIf (gTNot (gTru (gCall1 c_l_is_number T_l_is_number hr (by decide) (by rfl) tk (gCons (gv 6) (gCons (gIx (gv 5) gInt (by intro _ _; rfl)) gNil))))) (hOne (hRet gBl)) hNil) (hCons (hSet (i := 6) sc_l_rows_merged.nd rfl (.inl rfl) (gCall2 c_merges T_merges_same hr (by decide) (by rfl) tk (gCons (gB call_len lLen (by rfl) G.n_len (by decide +kernel) (gCons (gv 0) gNil)) (gCons (gv 3) (gCons (gB call_len lLen (by rfl) G.n_len (by decide +kernel) (gCons (gv 1) gNil)) (gCons (gv 4) gNil)))) (gKCons gBl gKNil) rfl)) (hCons (hIf (gTNot (gTru (gCall1 c_l_is_number T_l_is_number hr (by decide) (by rfl) tk (gCons (gv 6) (gCons (gIx (gv 5) gInt (by intro _ _; rfl)) gNil))))) (hOne (hRet gBl)) hNil) (hCons (hIf (gTNot (gTru (gCall1 c_l_is_number T_l_is_number hr (by decide) (by rfl) tk (gCons (gCall2 c_merges T_merges_same hr (by decide) (by rfl) tk (gCons (gB call_len lLen (by rfl) G.n_len (by decide +kernel) (gCons (gv 0) gNil)) (gCons (gv 3) (gCons gInt (gCons (gv 2) gNil)))) (gKCons gBl gKNil) rfl) (gCons (gTy call_int1 lInt (by rfl) G.n_int (by decide +kernel) (gCons (gEq hr.units (gv 3) gInt) gNil)) gNil))))) (hOne (hRet gBl)) hNil) (hCons (hIf (gTNot (gTru (gCall1 c_l_is_number T_l_is_number hr (by decide) (by rfl) tk (gCons (gCall2 c_merges T_merges_same hr (by decide) (by rfl) tk (gCons (gB call_len lLen (by rfl) G.n_len (by decide +kernel) (gCons (gv 0) gNil)) (gCons (gv 3) (gCons gInt (gCons (gv 2) gNil)))) (gKCons gBl gKNil) rfl) (gCons gInt gNil))))) (hOne (hRet gBl)) hNil) (hCons (hIf (PW.pt (gOr (gTGt (gB call_len lLen (by rfl) G.n_len (by decide +kernel) (gCons (gv 0) gNil)) gInt) (gOr1 (gTGt (gB call_len lLen (by rfl) G.n_len (by decide +kernel) (gCons (gv 1) gNil)) gInt)))) (hOne (hRet gBl)) hNil) (hOne (hRet (gAndV (gEq hr.units (gCall1 c_l_sum T_l_sum hr (by decide) (by rfl) tk (gCons (gv 0) (gCons (gv 1) (gCons gInt gNil)))) (gIx (gv 5) gInt (by intro _ _; rfl))) (gOneV (gEq hr.units (gCall1 c_l_sum T_l_sum hr (by decide) (by rfl) tk (gCons (gv 0) (gCons (gv 1) (gCons gInt gNil)))) (gIx (gv 5) gInt (by intro _ _; rfl)))))))))))))))))
theorem d_l_any_numbers (G : Env P w K mg base a) (T_l_take : DefC P w K mg base "_law_take" ["_law_box_here", "_law_size"] l_l_take [] (p_l_take K a)) {f : Addr} {cdv : Value} {A : Around} {outer : List PySem.Env} {s : Shared} {H : Hp} {E : XK} (hr : Room (l_l_any_numbers - 1) (A.deeper (envOfC "_law_any_numbers" (defScope s_l_any_numbers) s.heap.objs.size f cdv))) :
    PSs (cxOf (L2.CX P w) P w K mg base N_l_any_numbers "_law_any_numbers" (defScope s_l_any_numbers) f cdv A outer s H E) (defBody s_l_any_numbers) (dS (fun c d _ H => E c d H) (r_l_any_numbers K a)) := by
  have tk : Takes (cxOf (L2.CX P w) P w K mg base N_l_any_numbers "_law_any_numbers" (defScope s_l_any_numbers) f cdv A outer s H E) (fun c d _ H => E c d H) := takes_of rfl rfl rfl rfl
  have hp : PassesOwn (model P w) (cxOf (L2.CX P w) P w K mg base N_l_any_numbers "_law_any_numbers" (defScope s_l_any_numbers) f cdv A outer s H E).A (cxOf (L2.CX P w) P w K mg base N_l_any_numbers "_law_any_numbers" (defScope s_l_any_numbers) f cdv A outer s H E).env (cxOf (L2.CX P w) P w K mg base N_l_any_numbers "_law_any_numbers" (defScope s_l_any_numbers) f cdv A outer s H E).xe := passes_of rfl
  exact (hCons (hSet (i := 1) sc_l_any_numbers.nd rfl (.inl rfl) (gEq hr.units (gCall1 c_l_take T_l_take hr (by decide) (by rfl) tk (gCons (gv 0) (gCons gInt gNil))) gInt)) (hCons (hSet (i := 2) sc_l_any_numbers.nd rfl (.inl rfl) (gLst (gCons (gAdd gInt (gCall1 c_l_take T_l_take hr (by decide) (by rfl) tk (gCons (gv 0) (gCons gInt gNil)))) (gCons (gCall1 c_l_take T_l_take hr (by decide) (by rfl) tk (gCons (gv 0) (gCons gInt gNil))) (gCons (gCall1 c_l_take T_l_take hr (by decide) (by rfl) tk (gCons (gv 0) (gCons gInt gNil))) (gCons (gCall1 c_l_take T_l_take hr (by decide) (by rfl) tk (gCons (gv 0) (gCons gInt gNil))) gNil)))))) (hCut (hIf (gTru (gv 1)) (hOne (hSet (i := 2) sc_l_any_numbers.nd rfl (.inl rfl) (gLst (gCons (gAdd gInt (gCall1 c_l_take T_l_take hr (by decide) (by rfl) tk (gCons (gv 0) (gCons gInt gNil)))) (gCons (gCall1 c_l_take T_l_take hr (by decide) (by rfl) tk (gCons (gv 0) (gCons gInt gNil))) (gCons (gCall1 c_l_take T_l_take hr (by decide) (by rfl) tk (gCons (gv 0) (gCons gInt gNil))) (gCons (gCall1 c_l_take T_l_take hr (by decide) (by rfl) tk (gCons (gv 0) (gCons gInt gNil))) gNil))))))) hNil) (hOne (hRet (gv 2))))))
theorem d_l_wrong_number (G : Env P w K mg base a) (T_l_take : DefC P w K mg base "_law_take" ["_law_box_here", "_law_size"] l_l_take [] (p_l_take K a)) {f : Addr} {cdv : Value} {A : Around} {outer : List PySem.Env} {s : Shared} {H : Hp} {E : XK} (hr : Room (l_l_wrong_number - 1) (A.deeper (envOfC "_law_wrong_number" (defScope s_l_wrong_number) s.heap.objs.size f cdv))) :
    PSs (cxOf (L2.CX P w) P w K mg base N_l_wrong_number "_law_wrong_number" (defScope s_l_wrong_number) f cdv A outer s H E) (defBody s_l_wrong_number) (dS (fun c d _ H => E c d H) (r_l_wrong_number K a)) := by
  have tk : Takes (cxOf (L2.CX P w) P w K mg base N_l_wrong_number "_law_wrong_number" (defScope s_l_wrong_number) f cdv A outer s H E) (fun c d _ H => E c d H) := takes_of rfl rfl rfl rfl
  have hp : PassesOwn (model P w) (cxOf (L2.CX P w) P w K mg base N_l_wrong_number "_law_wrong_number" (defScope s_l_wrong_number) f cdv A outer s H E).A (cxOf (L2.CX P w) P w K mg base N_l_wrong_number "_law_wrong_number" (defScope s_l_wrong_number) f cdv A outer s H E).env (cxOf (L2.CX P w) P w K mg base N_l_wrong_number "_law_wrong_number" (defScope s_l_wrong_number) f cdv A outer s H E).xe := passes_of rfl
  exact (hCons (hSet (i := 2) sc_l_wrong_number.nd rfl (.inl rfl) (gCall1 c_l_take T_l_take hr (by decide) (by rfl) tk (gCons (gv 0) (gCons gInt gNil)))) (hCons (hSet (i := 3) sc_l_wrong_number.nd rfl (.inl rfl) (gLst (gCons gBl (gCons gBl (gCons gNon (gCons gStr (gCons (gLst (gCons gInt gNil)) (gCons (gTup (gCons gInt gNil)) gNil)))))))) (hCons (hIf (gTLt (gv 2) gInt) (hOne (hRet (gIx (gv 3) (gv 2) (by intro _ _; rfl)))) hNil) (hCons (hIf (PW.pt (gAnd (gTEq hr.units (gv 2) gInt) (gAnd1 (gTEq hr.units (gv 1) gInt)))) (hOne (hRet gInt)) hNil) (hCons (hIf (gTLt (gv 2) gInt) (hOne (hRet (gNeg gInt))) hNil) (hOne (hRet (gSub (gNeg gInt) (gMul (gCall1 c_l_take T_l_take hr (by decide) (by rfl) tk (gCons (gv 0) (gCons gInt gNil))) (gPow gInt gInt))))))))))
theorem d_l_refusal (G : Env P w K mg base a) (T_merges_same : DefN P w K mg base "merges" ["length", "least", "other_length", "other_least", "same"] l_merges 4 ["same"] k_merges_same (p_merges K a)) {f : Addr} {cdv : Value} {A : Around} {outer : List PySem.Env} {s : Shared} {H : Hp} {E : XK} (hr : Room (l_l_refusal - 1) (A.deeper (envOfC "_law_refusal" (defScope s_l_refusal) s.heap.objs.size f cdv))) :
    PSs (cxOf (L2.CX P w) P w K mg base N_l_refusal "_law_refusal" (defScope s_l_refusal) f cdv A outer s H E) (defBody s_l_refusal) (dS (fun c d _ H => E c d H) (r_l_refusal K a)) := by
  have tk : Takes (cxOf (L2.CX P w) P w K mg base N_l_refusal "_law_refusal" (defScope s_l_refusal) f cdv A outer s H E) (fun c d _ H => E c d H) := takes_of rfl rfl rfl rfl
  have hp : PassesOwn (model P w) (cxOf (L2.CX P w) P w K mg base N_l_refusal "_law_refusal" (defScope s_l_refusal) f cdv A outer s H E).A (cxOf (L2.CX P w) P w K mg base N_l_refusal "_law_refusal" (defScope s_l_refusal) f cdv A outer s H E).env (cxOf (L2.CX P w) P w K mg base N_l_refusal "_law_refusal" (defScope s_l_refusal) f cdv A outer s H E).xe := passes_of rfl
  exact (hCut (hTryAs (i := 2) rfl rfl sc_l_refusal.nd rfl rfl ⟨by rfl, by decide, .inl G.g_CacheError⟩ tk (fun W1 pn xe tk1 hp1 => (hOne (hExpr (gCall2 c_merges T_merges_same hr (by decide) (by rfl) tk1 (gCons (gIx (gv 0) gInt (by intro _ _; rfl)) (gCons (gIx (gv 0) gInt (by intro _ _; rfl)) (gCons (gIx (gv 0) gInt (by intro _ _; rfl)) (gCons (gIx (gv 0) gInt (by intro _ _; rfl)) gNil)))) (gKCons (gv 1) gKNil) rfl)))) (fun ea oe cls ed pn hz hf => (hCons (hSet (i := 3) sc_l_refusal.nd rfl (.inl rfl) (gLst (gCons (gIsY hz hf (by rfl) G.n_isinstance (gCons (gv 2) (gCons (gClV (by rfl) G.g_InvalidNumber) gNil))) (gCons (gIsY hz hf (by rfl) G.n_isinstance (gCons (gv 2) (gCons (gClV (by rfl) G.g_InvalidRow) gNil))) (gCons (gIsY hz hf (by rfl) G.n_isinstance (gCons (gv 2) (gCons (gClV (by rfl) G.g_InvalidFlags) gNil))) gNil))))) (hCons (hSet (i := 3) sc_l_refusal.nd rfl (.inl rfl) (gAdd (gv 3) (gLst (gCons (gIsY hz hf (by rfl) G.n_isinstance (gCons (gv 2) (gCons (gClV (by rfl) G.g_InvalidLine) gNil))) (gCons (gIsY hz hf (by rfl) G.n_isinstance (gCons (gv 2) (gCons (gClV (by rfl) G.g_InvalidSlot) gNil))) (gCons (gIsY hz hf (by rfl) G.n_isinstance (gCons (gv 2) (gCons (gClV (by rfl) G.g_InvalidText) gNil))) gNil)))))) (hCons (hSet (i := 3) sc_l_refusal.nd rfl (.inl rfl) (gAdd (gv 3) (gLst (gCons (gIsY hz hf (by rfl) G.n_isinstance (gCons (gv 2) (gCons (gClV (by rfl) G.g_Refused) gNil))) (gCons (gIsY hz hf (by rfl) G.n_isinstance (gCons (gv 2) (gCons (gClV (by rfl) G.g_TooMany) gNil))) gNil))))) (hCons (hIf (PW.pt (gOr (gTNot (gTru (gIsY hz hf (by rfl) G.n_isinstance (gCons (gv 2) (gCons (gTyV (by rfl) G.n_ValueError (by decide +kernel)) gNil))))) (gOr1 (gTNe hr.units (gM PySem.F.plainAttrs_list PySem.F.slot_list_count PySem.F.type_list_count mt_lcountF lCnt (gv 3) (gCons gBl gNil)) gInt)))) (hOne (hRet (gTup (gCons gStr (gCons gInt gNil))))) hNil) (hCons (hIf (gTru (gIx (gv 3) gInt (by intro _ _; rfl))) (hOne (hRet (gTup (gCons gStr (gCons (gXf G.e_InvalidNumber.xf G.e_InvalidNumber.no hz hf (gv 2)) gNil))))) hNil) (hOne (hRet (gTup (gCons gStr (gCons gInt gNil)))))))))))) (hOne (hRet (gTup (gCons gStr (gCons gInt gNil))))))
theorem d_l_same (G : Env P w K mg base a)  {f : Addr} {cdv : Value} {A : Around} {outer : List PySem.Env} {s : Shared} {H : Hp} {E : XK} (hr : Room (l_l_same - 1) (A.deeper (envOfC "_law_same" (defScope s_l_same) s.heap.objs.size f cdv))) :
    PSs (cxOf (L2.CX P w) P w K mg base N_l_same "_law_same" (defScope s_l_same) f cdv A outer s H E) (defBody s_l_same) (dS (fun c d _ H => E c d H) (r_l_same K a)) := by
  have tk : Takes (cxOf (L2.CX P w) P w K mg base N_l_same "_law_same" (defScope s_l_same) f cdv A outer s H E) (fun c d _ H => E c d H) := takes_of rfl rfl rfl rfl
  have hp : PassesOwn (model P w) (cxOf (L2.CX P w) P w K mg base N_l_same "_law_same" (defScope s_l_same) f cdv A outer s H E).A (cxOf (L2.CX P w) P w K mg base N_l_same "_law_same" (defScope s_l_same) f cdv A outer s H E).env (cxOf (L2.CX P w) P w K mg base N_l_same "_law_same" (defScope s_l_same) f cdv A outer s H E).xe := passes_of rfl
  exact (hOne (hRet (gAndV (gEq hr.units (gIsi (by rfl) G.n_isinstance (gv 0) (by decide) (by rfl) G.n_bool (by decide +kernel)) (gIsi (by rfl) G.n_isinstance (gv 1) (by decide) (by rfl) G.n_bool (by decide +kernel))) (gOneV (gEq hr.units (gv 0) (gv 1))))))
theorem d_l_refused (G : Env P w K mg base a) (T_l_refusal : DefC P w K mg base "_law_refusal" ["_law_numbers", "_law_on_x"] l_l_refusal [] (p_l_refusal K a)) (T_l_same : DefC P w K mg base "_law_same" ["_law_actual", "_law_due"] l_l_same [] (p_l_same K a)) (T_l_take : DefC P w K mg base "_law_take" ["_law_box_here", "_law_size"] l_l_take [] (p_l_take K a)) (T_l_wrong_number : DefC P w K mg base "_law_wrong_number" ["_law_box_here", "_law_place"] l_l_wrong_number [] (p_l_wrong_number K a)) {f : Addr} {cdv : Value} {A : Around} {outer : List PySem.Env} {s : Shared} {H : Hp} {E : XK} (hr : Room (l_l_refused - 1) (A.deeper (envOfC "_law_refused" (defScope s_l_refused) s.heap.objs.size f cdv))) :
    PSs (cxOf (L2.CX P w) P w K mg base N_l_refused "_law_refused" (defScope s_l_refused) f cdv A outer s H E) (defBody s_l_refused) (dS (fun c d _ H => E c d H) (r_l_refused K a)) := by
  have tk : Takes (cxOf (L2.CX P w) P w K mg base N_l_refused "_law_refused" (defScope s_l_refused) f cdv A outer s H E) (fun c d _ H => E c d H) := takes_of rfl rfl rfl rfl
  have hp : PassesOwn (model P w) (cxOf (L2.CX P w) P w K mg base N_l_refused "_law_refused" (defScope s_l_refused) f cdv A outer s H E).A (cxOf (L2.CX P w) P w K mg base N_l_refused "_law_refused" (defScope s_l_refused) f cdv A outer s H E).env (cxOf (L2.CX P w) P w K mg base N_l_refused "_law_refused" (defScope s_l_refused) f cdv A outer s H E).xe := passes_of rfl
  exact (hCons (hSet (i := 2) sc_l_refused.nd rfl (.inl rfl) (gCall1 c_l_take T_l_take hr (by decide) (by rfl) tk (gCons (gv 0) (gCons gInt gNil)))) (hCons (hSet (i := 3) sc_l_refused.nd rfl (.inl rfl) (gTy call_list_of lList (by rfl) G.n_list (by decide +kernel) (gCons (gv 1) gNil))) (hCons (hFor hp rfl (iR2 (by rfl) G.n_range (gCons (gv 2) (gCons gInt gNil))) (ggName (i := 4) sc_l_refused.nd rfl (.inl rfl)) (hCons (hSet (i := 5) sc_l_refused.nd rfl (.inl rfl) (gCall1 c_l_wrong_number T_l_wrong_number hr (by decide) (by rfl) tk (gCons (gv 0) (gCons (gv 4) gNil)))) (hOne (hIf (PW.pt (gOr (gTEq hr.units (gv 4) (gv 2)) (gOr1 (gTEq hr.units (gCall1 c_l_take T_l_take hr (by decide) (by rfl) tk (gCons (gv 0) (gCons gInt gNil))) gInt)))) (hOne (hAsg (gv 5) (ggSub (gv 3) (gv 4)))) hNil)))) (hCons (hSet (i := 6) sc_l_refused.nd rfl (.inl rfl) (gCall1 c_l_refusal T_l_refusal hr (by decide) (by rfl) tk (gCons (gv 3) (gCons (gEq hr.units (gCall1 c_l_take T_l_take hr (by decide) (by rfl) tk (gCons (gv 0) (gCons gInt gNil))) gInt) gNil)))) (hOne (hRet (gAndV (gEq hr.units (gIx (gv 6) gInt (by intro _ _; rfl)) gStr) (gOneV (gCall1 c_l_same T_l_same hr (by decide) (by rfl) tk (gCons (gIx (gv 6) gInt (by intro _ _; rfl)) (gCons (gIx (gv 3) (gv 2) (by intro _ _; rfl)) gNil)))))))))))
theorem d_law (G : Env P w K mg base a) (T_l_any_numbers : DefC P w K mg base "_law_any_numbers" ["_law_box_here"] l_l_any_numbers [] (p_l_any_numbers K a)) (T_l_box : DefC P w K mg base "_law_box" ["_law_script", "_law_k"] l_l_box [] (p_l_box K a)) (T_l_formula : DefC P w K mg base "_law_formula" ["_law_numbers", "_law_on_x"] l_l_formula [] (p_l_formula K a)) (T_l_is_number : DefC P w K mg base "_law_is_number" ["_law_actual", "_law_due"] l_l_is_number [] (p_l_is_number K a)) (T_l_refused : DefC P w K mg base "_law_refused" ["_law_box_here", "_law_numbers"] l_l_refused [] (p_l_refused K a)) (T_l_row : DefC P w K mg base "_law_row" ["_law_box_here", "_law_letters", "_law_way"] l_l_row [] (p_l_row K a)) (T_l_rows_merged : DefC P w K mg base "_law_rows_merged" ["_law_one", "_law_other", "_law_any_least"] l_l_rows_merged [] (p_l_rows_merged K a)) (T_l_take : DefC P w K mg base "_law_take" ["_law_box_here", "_law_size"] l_l_take [] (p_l_take K a)) (T_merges_same : DefN P w K mg base "merges" ["length", "least", "other_length", "other_least", "same"] l_merges 4 ["same"] k_merges_same (p_merges K a)) {f : Addr} {cdv : Value} {A : Around} {outer : List PySem.Env} {s : Shared} {H : Hp} {E : XK} (hr : Room (l_law - 1) (A.deeper (envOfC "law" (defScope s_law) s.heap.objs.size f cdv))) :
    PSs (cxOf (L2.CX P w) P w K mg base N_law "law" (defScope s_law) f cdv A outer s H E) (defBody s_law) (dS (fun c d _ H => E c d H) (r_law K a)) := by
  have tk : Takes (cxOf (L2.CX P w) P w K mg base N_law "law" (defScope s_law) f cdv A outer s H E) (fun c d _ H => E c d H) := takes_of rfl rfl rfl rfl
  have hp : PassesOwn (model P w) (cxOf (L2.CX P w) P w K mg base N_law "law" (defScope s_law) f cdv A outer s H E).A (cxOf (L2.CX P w) P w K mg base N_law "law" (defScope s_law) f cdv A outer s H E).env (cxOf (L2.CX P w) P w K mg base N_law "law" (defScope s_law) f cdv A outer s H E).xe := passes_of rfl
  exact (hCons (hSet (i := 1) sc_law.nd rfl (.inl rfl) (gCall1 c_l_box T_l_box hr (by decide) (by rfl) tk (gCons (gv 0) (gCons gInt gNil)))) (hCons (hSet (i := 2) sc_law.nd rfl (.inl rfl) (gLst (gCons (gAdd gInt (gCall1 c_l_take T_l_take hr (by decide) (by rfl) tk (gCons (gv 1) (gCons gInt gNil)))) (gCons (gCall1 c_l_take T_l_take hr (by decide) (by rfl) tk (gCons (gv 1) (gCons gInt gNil))) gNil)))) (hCut (hIf (gTEq hr.units (gCall1 c_l_take T_l_take hr (by decide) (by rfl) tk (gCons (gv 1) (gCons gInt gNil))) gInt) (hOne (hSet (i := 2) sc_law.nd rfl (.inl rfl) (gLst (gCons (gAdd gInt (gCall1 c_l_take T_l_take hr (by decide) (by rfl) tk (gCons (gv 1) (gCons gInt gNil)))) (gCons (gCall1 c_l_take T_l_take hr (by decide) (by rfl) tk (gCons (gv 1) (gCons gInt gNil))) gNil))))) hNil) (hCons (hSet (i := 3) sc_law.nd rfl (.inl rfl) (gLst (gCons (gCall1 c_l_take T_l_take hr (by decide) (by rfl) tk (gCons (gv 1) (gCons gInt gNil))) (gCons (gCall1 c_l_take T_l_take hr (by decide) (by rfl) tk (gCons (gv 1) (gCons gInt gNil))) gNil)))) (hCons (hSet (i := 4) sc_law.nd rfl (.inl rfl) (gCall1 c_l_row T_l_row hr (by decide) (by rfl) tk (gCons (gCall1 c_l_box T_l_box hr (by decide) (by rfl) tk (gCons (gv 0) (gCons gInt gNil))) (gCons (gIx (gv 2) gInt (by intro _ _; rfl)) (gCons (gIx (gv 3) gInt (by intro _ _; rfl)) gNil))))) (hCons (hSet (i := 5) sc_law.nd rfl (.inl rfl) (gCall1 c_l_row T_l_row hr (by decide) (by rfl) tk (gCons (gCall1 c_l_box T_l_box hr (by decide) (by rfl) tk (gCons (gv 0) (gCons gInt gNil))) (gCons (gIx (gv 2) gInt (by intro _ _; rfl)) (gCons (gIx (gv 3) gInt (by intro _ _; rfl)) gNil))))) (hCons (hIf (gTNot (gTru (gCall1 c_l_rows_merged T_l_rows_merged hr (by decide) (by rfl) tk (gCons (gv 4) (gCons (gv 5) (gCons (gCall1 c_l_take T_l_take hr (by decide) (by rfl) tk (gCons (gv 1) (gCons gInt gNil))) gNil)))))) (hOne (hRet gBl)) hNil) (hCons (hSet (i := 6) sc_law.nd rfl (.inl rfl) (gCall1 c_l_any_numbers T_l_any_numbers hr (by decide) (by rfl) tk (gCons (gCall1 c_l_box T_l_box hr (by decide) (by rfl) tk (gCons (gv 0) (gCons gInt gNil))) gNil))) (hCons (hFor hp rfl (iSeq (gTup (gCons gBl (gCons gBl gNil)))) (ggName (i := 7) sc_law.nd rfl (.inl rfl)) (hCons (hSet (i := 8) sc_law.nd rfl (.inl rfl) (gCall2 c_merges T_merges_same hr (by decide) (by rfl) tk (gCons (gIx (gv 6) gInt (by intro _ _; rfl)) (gCons (gIx (gv 6) gInt (by intro _ _; rfl)) (gCons (gIx (gv 6) gInt (by intro _ _; rfl)) (gCons (gIx (gv 6) gInt (by intro _ _; rfl)) gNil)))) (gKCons (gv 7) gKNil) rfl)) (hOne (hIf (gTNot (gTru (gCall1 c_l_is_number T_l_is_number hr (by decide) (by rfl) tk (gCons (gv 8) (gCons (gCall1 c_l_formula T_l_formula hr (by decide) (by rfl) tk (gCons (gv 6) (gCons (gv 7) gNil))) gNil))))) (hOne (hRet gBl)) hNil)))) (hOne (hRet (gCall1 c_l_refused T_l_refused hr (by decide) (by rfl) tk (gCons (gCall1 c_l_box T_l_box hr (by decide) (by rfl) tk (gCons (gv 0) (gCons gInt gNil))) (gCons (gv 6) gNil))))))))))))))
end
local macro_rules | `(tactic| walk_at "w") => `(tactic| conv => whnf)
local macro_rules | `(tactic| walk_at "b") => `(tactic| ((conv => whnf); split <;> (rename_i hb; simp only [decide_eq_true_eq, decide_eq_false_iff_not, Bool.not_eq_true', Bool.not_eq_false', Int.not_lt, Int.not_le, bne_iff_ne, ne_eq, Bool.not_eq_true, V.int.injEq, beq_iff_eq, reduceCtorEq] at hb)))
local macro_rules | `(tactic| walk_at "p") => `(tactic| (show (0 : Int) < _; decide))
local macro_rules | `(tactic| walk_at "z") => `(tactic| (show _ ≤ sizeLine; simp only [List.length_cons, List.length_nil]; decide))
/-! ### the bodies -/
section
variable {K : PySem.W.Frag} {a : Ads}
theorem vc_is_integer {vs : List V} {H : Hp} (g : V × TY) (h : (ct_is_integer K).pre g vs H) : ∃ S, Own S H ∧ r_is_integer K a (endsC (ct_is_integer K) g H) (start N_is_integer vs) S := by
  obtain ⟨x, t⟩ := g
  obtain ⟨rfl, ht⟩ := h
  refine ⟨⟨H, []⟩, Own.base H, ?_⟩
  have fin : ∀ H', Own ⟨H, []⟩ H' → Ext H H' := fun H' o a u e => o.fr a u e
  cases x with
  | non => exact fun H' o => ⟨rfl, fin H' o⟩
  | bl b => exact fun H' o => ⟨rfl, fin H' o⟩
  | int b => exact fun H' o => ⟨rfl, fin H' o⟩
  | str b => exact fun H' o => ⟨rfl, fin H' o⟩
  | ref p =>
    have ht' : isiTy K (.ref p) ⟨H, []⟩ t := ht
    refine ⟨t, ht', ?_⟩
    rcases ht' with ⟨rfl, _⟩ | ⟨rfl, _⟩ | ⟨rfl, _⟩
    · exact fun H' o => ⟨rfl, fin H' o⟩
    · exact fun H' o => ⟨rfl, fin H' o⟩
    · exact fun H' o => ⟨rfl, fin H' o⟩
  | byt b => exact ht.elim
  | flt b => exact ht.elim
  | ty b => exact ht.elim
theorem isInt_false {x : V} (h : isInt x = false) (l : Int) (m : Option Int) : okN x l m = false := by
  cases x <;> first | rfl | cases h
theorem vc_checked_number {vs : List V} {H : Hp} (g : V × TY × Int × Option Int) (h : (ct_checked_number K a).pre g vs H) : ∃ S, Own S H ∧ r_checked_number K a (endsC (ct_checked_number K a) g H) (start N_checked_number vs) S := by
  obtain ⟨x, t, l, m⟩ := g
  obtain ⟨rfl, ht⟩ := h
  refine ⟨⟨H, []⟩, Own.base H, ?_⟩
  have fin : ∀ H', Own ⟨H, []⟩ H' → Ext H H' := fun H' o a u e => o.fr a u e
  refine ⟨(x, t), fun H' o => ⟨rfl, ht.ex (fin H' o)⟩, fun H1 v H2 o ⟨e, ex⟩ => ⟨⟨H, []⟩, o.ex ex, ?_⟩, fun _ _ _ _ _ q => q.elim⟩
  subst e
  have bad : okN x l m = false → ∀ d H', Own (SH.new ⟨H, []⟩ d (.xd [("number", x)])) H' → (ct_checked_number K a).exn (x, t, l, m) H (.ref a.InvalidNumber) (some d) H' := fun e d H' o =>
    ⟨e, rfl, d, rfl, (o.gs (d, .xd [("number", x)]) List.mem_cons_self).2, fun a u e => o.fr a u e, (o.gs (d, .xd [("number", x)]) List.mem_cons_self).1⟩
  cases hx : isInt x with
  | false => exact bad (isInt_false hx l m)
  | true =>
    cases x with
    | int i =>
      walk_at "b"
      · rename_i hb
        refine bad ?_
        show (decide (l ≤ i) && _) = false
        rw [decide_eq_false (by omega), Bool.false_and]
      · cases m with
        | none =>
          refine fun H' o => ⟨?_, rfl, fin H' o⟩
          show (decide (l ≤ i) && true) = true
          rw [decide_eq_true (by omega)]
          rfl
        | some m =>
          rename_i h1
          walk_at "b"
          · rename_i hb
            refine bad ?_
            show (decide (l ≤ i) && decide (i ≤ m)) = false
            rw [decide_eq_false (p := i ≤ m) (by omega), Bool.and_false]
          · refine fun H' o => ⟨?_, rfl, fin H' o⟩
            show (decide (l ≤ i) && decide (i ≤ m)) = true
            rw [decide_eq_true (by omega), decide_eq_true (by omega)]
            rfl
    | _ => cases hx
theorem vc_choose {vs : List V} {H : Hp} (o : Ot) (h : f_choose vs = some o) : r_choose K a (endsV o H) (start N_choose vs) ⟨H, []⟩ := by
  unfold f_choose at h
  split at h
  · rename_i t p
    split at h
    · cases h
      have z : p < 0 ∨ p > t → chz t p = 0 := fun e => if_pos e
      walk_at "b"
      · rename_i hb
        exact ⟨by rw [z (.inl hb)], fun _ _ e => e⟩
      · rename_i h0
        walk_at "b"
        · rename_i hb
          exact ⟨by rw [z (.inr hb)], fun _ _ e => e⟩
        · have e : chz t p = PySem.W.mcComb t p := if_neg (by omega)
          exact ⟨by omega, by omega, by omega, by rw [e], fun _ _ e => e⟩
    · cases h
  · cases h
theorem vc_merge_ways {vs : List V} {H : Hp} (o : Ot) (h : f_merge_ways vs = some o) : r_merge_ways K a (endsV o H) (start N_merge_ways vs) ⟨H, []⟩ := by
  unfold f_merge_ways at h
  split at h
  · rename_i n q n' q' s
    split at h
    · rename_i hz
      cases h
      walk_at "b"
      · rename_i hb
        subst hb
        cases s with
        | false => exact ⟨rfl, fun _ _ e => e⟩
        | true =>
          walk_at "b"
          · rename_i hb
            subst hb
            exact ⟨rfl, fun _ _ e => e⟩
          · rename_i hb
            refine ⟨?_, fun _ _ e => e⟩
            unfold mw
            rw [if_pos rfl, if_neg (by simp [hb])]
      · rename_i hb
        cases s with
        | false =>
          walk_at "w"
          simp only [f_choose, List.cons_append, List.nil_append, hz, if_true]
          refine ⟨?_, fun _ _ e => e⟩
          unfold mw
          rw [if_neg hb]
          rfl
        | true =>
          walk_at "w"
          simp only [f_choose, List.cons_append, List.nil_append, hz, if_true]
          refine ⟨?_, fun _ _ e => e⟩
          unfold mw
          rw [if_neg hb]
          rfl
    · cases h
  · cases h
theorem vc_l_is_number {vs : List V} {H : Hp} (o : Ot) (h : f_l_is_number vs = some o) : r_l_is_number K a (endsV o H) (start N_l_is_number vs) ⟨H, []⟩ := by
  unfold f_l_is_number at h
  split at h
  · cases h
    exact ⟨rfl, fun _ _ e => e⟩
  · cases h
end
/-! ### rows as texts -/
section
open PySem.Builtin PySem.Builtin.Str
def code (b : Bool) : Nat := if b then 108 else 104
theorem rowS_list (bs : List Bool) : (rowS bs).cps.toList = bs.map code := by
  show ((bs.map fun b => if b then 108 else 104).toArray).toList = _
  rw [List.toList_toArray]
  rfl
theorem rowS_size (bs : List Bool) : (rowS bs).cps.size = bs.length := by
  show ((bs.map fun b => if b then 108 else 104).toArray).size = _
  rw [List.size_toArray, List.length_map]
theorem rowS_len (bs : List Bool) : (rowS bs).length = bs.length := rowS_size bs
theorem str_l : ("l" : Str) = ⟨#[108]⟩ := by decide +kernel
theorem str_h : ("h" : Str) = ⟨#[104]⟩ := by decide +kernel
theorem str_e : ("" : Str) = ⟨#[]⟩ := by decide +kernel
theorem cnt_rows : ∀ bs : List Bool, cnt 108 (bs.map code) = (bs.count true : Nat)
  | [] => rfl
  | b :: r => by
    rw [List.map_cons, cnt_cons, cnt_rows r, List.count_cons]
    cases b
    · rw [if_neg (by decide), if_neg (by decide)]
      omega
    · rw [if_pos (by decide), if_pos (by decide)]
      omega
theorem count_rows (bs : List Bool) : PySem.Txt.count (rowS bs) "l" = (bs.count true : Nat) := by
  rw [str_l, count_cnt, rowS_list, cnt_rows]
theorem starts_rows (bs : List Bool) : PySem.Txt.startswith (rowS bs) "h" = decide (bs.head? = some false) := by
  rw [str_h, Bool.eq_iff_iff, decide_eq_true_eq]
  show (decide (0 + 1 ≤ (rowS bs).length) && subAt (rowS bs) ⟨#[104]⟩ 0) = true ↔ _
  rw [Bool.and_eq_true, decide_eq_true_eq]
  refine (StrLaws.subAt_one (rowS bs) 104 0).trans ?_
  rw [rowS_list]
  cases bs with
  | nil => simp
  | cons b r => cases b <;> simp [code]
theorem strip_rows (bs : List Bool) : PySem.Txt.stripChars (rowS bs) "hl" = "" := by
  have all : ∀ k, k < (rowS bs).length → (("hl" : Str).cps.contains) ((rowS bs).cps.getD k 0) = true := by
    intro k hk
    rw [← getD_list, rowS_list]
    rw [rowS_len] at hk
    have e : (bs.map code).getD k 0 = code bs[k] := by
      rw [List.getD, List.getElem?_map, List.getElem?_eq_getElem hk]
      rfl
    rw [e]
    cases bs[k] <;> decide +kernel
  unfold PySem.Txt.stripChars
  rw [stripBy_eq]
  obtain ⟨h1, _, h3⟩ := lo_facts (("hl" : Str).cps.contains) (rowS bs)
  have e1 : stripLo (("hl" : Str).cps.contains) true (rowS bs) = (rowS bs).length := by
    rcases h3 with h3 | h3
    · exact h3
    · by_cases hl : stripLo (("hl" : Str).cps.contains) true (rowS bs) < (rowS bs).length
      · rw [all _ hl] at h3
        cases h3
      · omega
  obtain ⟨g1, g2, _⟩ := hi_facts (("hl" : Str).cps.contains) (rowS bs) _ h1
  rw [e1] at g1 g2 ⊢
  have e2 : stripHi (("hl" : Str).cps.contains) true (rowS bs) (rowS bs).length = (rowS bs).length := by omega
  rw [e2, str_e]
  refine ext_toList ?_
  rw [StrLaws.strSub_toList, Nat.sub_self, List.take_zero]
theorem rowS_empty (bs : List Bool) : (rowS bs = ("" : Str)) ↔ bs = [] := by
  rw [str_e]
  constructor
  · intro h
    have e := congrArg (fun z : Str => z.cps.size) h
    have e2 : bs.length = 0 := (rowS_size bs).symm.trans e
    exact List.length_eq_zero_iff.mp e2
  · intro h
    subst h
    rfl
theorem rowS_at {bs : List Bool} {i : Nat} {b : Bool} (h : bs[i]? = some b) : atI (rowS bs).cps.toList (i : Int) = some (code b) := by
  rw [rowS_list]
  have hi := (List.getElem?_eq_some_iff.mp h).1
  unfold atI ixN
  rw [if_pos (by omega), if_pos (by rw [List.length_map]; omega), Option.bind_some, Int.toNat_natCast, List.getElem?_map, h]
  rfl
theorem code_h (b : Bool) : decide (V.str ⟨#[code b]⟩ = V.str ("h" : Str)) = !b := by
  cases b <;> decide +kernel
theorem rowS_snoc (bs : List Bool) (b : Bool) : rowS bs ++ (⟨#[code b]⟩ : Str) = rowS (bs ++ [b]) := by
  refine ext_toList ?_
  rw [rowS_list, List.map_append, ← rowS_list]
  show ((rowS bs).cps ++ #[code b]).toList = _
  rw [Array.toList_append]
  rfl
theorem small_line {n : Nat} (h : n ≤ 100000) : n ≤ sizeLine := Nat.le_trans h (by decide)
end
section
variable {K : PySem.W.Frag} {a : Ads}
theorem ext0 {H H' : Hp} (o : Own ⟨H, []⟩ H') : Ext H H' := fun a u e => o.fr a u e
theorem vc_check_row {vs : List V} {H : Hp} (g : List Bool) (h : (ct_row fun _ => V.non).pre g vs H) : ∃ S, Own S H ∧ r_check_row K a (endsC (ct_row fun _ => V.non) g H) (start N_check_row vs) S := by
  obtain ⟨rfl, hl⟩ := h
  refine ⟨⟨H, []⟩, Own.base H, ?_⟩
  refine ⟨rfl, small_line (by rw [rowS_len]; omega), ?_⟩
  dsimp only
  rw [strip_rows]
  exact fun H' o => ⟨rfl, ext0 o⟩
theorem vc_least {vs : List V} {H : Hp} (g : List Bool) (h : (ct_row fun bs => V.int (leastB bs)).pre g vs H) : ∃ S, Own S H ∧ r_least K a (endsC (ct_row fun bs => V.int (leastB bs)) g H) (start N_least vs) S := by
  obtain ⟨rfl, hl⟩ := h
  refine ⟨⟨H, []⟩, Own.base H, ?_⟩
  refine ⟨rfl, trivial, ?_⟩
  refine ⟨rfl, trivial, ?_⟩
  dsimp only
  rw [count_rows, starts_rows]
  walk_at "b"
  · rename_i hb
    refine fun H' o => ⟨?_, ext0 o⟩
    show V.int _ = V.int (leastB g)
    unfold leastB
    rw [if_pos hb]
  · rename_i hb
    refine fun H' o => ⟨?_, ext0 o⟩
    show V.int _ = V.int (leastB g)
    unfold leastB
    rw [if_neg hb]
theorem vc_l_least {vs : List V} {H : Hp} (g : List Bool) (h : (ct_row fun bs => V.int (leastB bs)).pre g vs H) : ∃ S, Own S H ∧ r_l_least K a (endsC (ct_row fun bs => V.int (leastB bs)) g H) (start N_l_least vs) S := by
  obtain ⟨rfl, hl⟩ := h
  refine ⟨⟨H, []⟩, Own.base H, ?_⟩
  walk_at "b"
  · rename_i hb
    have e := (rowS_empty g).mp (V.str.inj hb)
    subst e
    exact fun H' o => ⟨rfl, ext0 o⟩
  · rename_i hb
    cases g with
    | nil => exact absurd (congrArg V.str ((rowS_empty []).mpr rfl)) hb
    | cons b r =>
      refine ⟨rfl, trivial, ?_⟩
      refine ⟨small_line (by rw [rowS_len]; exact Nat.le_trans hl (by decide)), code b, rowS_at (i := 0) rfl, ?_⟩
      dsimp only
      rw [count_rows]
      walk_at "w"
      rw [code_h]
      refine fun H' o => ⟨?_, ext0 o⟩
      show V.int _ = V.int (leastB (b :: r))
      unfold leastB
      cases b <;> rfl
theorem vc_cut_count {vs : List V} {H : Hp} (g : List Bool × Int) (h : ct_cut_count.pre g vs H) : ∃ S, Own S H ∧ r_cut_count K a (endsC ct_cut_count g H) (start N_cut_count vs) S := by
  obtain ⟨bs, b⟩ := g
  obtain ⟨rfl, hl, hb⟩ := h
  refine ⟨⟨H, []⟩, Own.base H, ?_⟩
  refine ⟨bs, fun H' o => ⟨rfl, hl⟩, fun H1 v H2 o q => ⟨⟨H, []⟩, o.ex q.2, ?_⟩, fun _ _ _ _ _ q => q.elim⟩
  refine ⟨(.int b, .int, 0, none), fun H' o => ⟨rfl, rfl⟩, fun H1 v H2 o q => ⟨⟨H, []⟩, o.ex q.2.2, ?_⟩, fun H1 c d H2 o q => ?_⟩
  · refine ⟨bs, fun H' o => ⟨rfl, hl⟩, fun H1 v H2 o q => ?_, fun _ _ _ _ _ q => q.elim⟩
    obtain ⟨rfl, q⟩ := q
    refine ⟨⟨H, []⟩, o.ex q, ?_⟩
    walk_at "w"
    refine ⟨small_line (by rw [rowS_len]; exact Nat.le_trans hl (by decide)), ?_⟩
    rw [rowS_len]
    have hz : (bs.length : Int) - leastB bs ≤ 18000 := by
      have : 0 ≤ leastB bs := by
        unfold leastB
        split <;> omega
      have : bs.length ≤ 1000 := hl
      omega
    walk_at "w"
    simp only [f_choose, List.cons_append, List.nil_append, hz, if_true]
    exact fun H' o => ⟨rfl, ext0 o⟩
  · have e : okN (.int b) 0 none = true := by
      show (decide (0 ≤ b) && true) = true
      rw [decide_eq_true hb]
      rfl
    exact absurd (e.symm.trans q.1) (by decide)
end
section
variable {K : PySem.W.Frag} {a : Ads}
/-- a draw, from the symbolic heap -/
theorem use_draw {α : Type} {args : α → List V} {res : α → Hp → V → Hp → Prop} {ok : α → Hp → Prop} {W : sWX} {vs : List V} {σ : L2.St} {S : SH} {Q : V → SH → Prop} (g : α) (i : Nat) {b : Addr} {u t : Int} (hi : S.G[i]? = some (b, boxO u t)) (hu : 0 ≤ u) (ht : 0 ≤ t) (e : vs = .ref b :: args g) (hok : ∀ H, Own S H → ok g H)
    (k : ∀ H v H' u' t', 0 ≤ u' → 0 ≤ t' → Own S H → Own (S.put i b (boxO u' t')) H' → res g H v H' → ∃ S', Own S' H' ∧ Q v S') : rC (ct_draw args res ok) W vs σ S Q := by
  refine ⟨(b, g), fun H o => ⟨e, ⟨u, t, o.g hi, hu, ht⟩, hok H o⟩, fun H v H' o q => ?_, fun _ _ _ _ _ q => q.elim⟩
  obtain ⟨q1, ⟨u', t', q2, q3, q4⟩, q5⟩ := q
  exact k H v H' u' t' q3 q4 o (o.put hi (fun c x hc hx => q5 c x hc hx) q2) q1
theorem use_take {W : sWX} {vs : List V} {σ : L2.St} {S : SH} {Q : V → SH → Prop} (i : Nat) {b : Addr} {u t size : Int} (hi : S.G[i]? = some (b, boxO u t)) (hu : 0 ≤ u) (ht : 0 ≤ t) (e : vs = [.ref b, .int size]) (hs : 0 < size ∧ size < 1073741824)
    (k : ∀ r u' t', 0 ≤ r → r < size → 0 ≤ u' → 0 ≤ t' → Q (.int r) (S.put i b (boxO u' t'))) : rC ct_l_take W vs σ S Q :=
  use_draw size i hi hu ht e (fun _ _ => hs) fun H v H' u' t' h1 h2 o o' ⟨r, e, h3, h4⟩ => ⟨_, o', by subst e; exact k r u' t' h3 h4 h1 h2⟩
/-- a body that draws -/
theorem body_draw {H : Hp} {b : Addr} (h : IsBox H b) : ∃ u t, 0 ≤ u ∧ 0 ≤ t ∧ Own ⟨without H b, [(b, boxO u t)]⟩ H := by
  obtain ⟨u, t, h1, h2, h3⟩ := h
  exact ⟨u, t, h2, h3, Own.only h1⟩
theorem end_draw {H H' : Hp} {S : SH} {b : Addr} {u t : Int} (i : Nat) (o : Own S H') (hi : S.G[i]? = some (b, boxO u t)) (hF : S.F = without H b) (hu : 0 ≤ u) (ht : 0 ≤ t) : IsBox H' b ∧ Rest b H H' :=
  ⟨⟨u, t, o.g hi, hu, ht⟩, fun c x hc hx => o.fr c x (by rw [hF, without_ne hc]; exact hx)⟩
theorem vc_l_cell {vs : List V} {H : Hp} (g : Addr × List Int × Int) (h : (ct_l_cell K).pre g vs H) : ∃ S, Own S H ∧ r_l_cell K a (endsC (ct_l_cell K) g H) (start N_l_cell vs) S := by
  obtain ⟨p, ns, k⟩ := g
  obtain ⟨rfl, hs, h0, h1⟩ := h
  have h0 : 0 ≤ k := h0
  have h1 : k ≤ 100 := h1
  refine ⟨⟨H, []⟩, Own.base H, ?_⟩
  refine ⟨ns.map V.int, .inl (.inr hs), ?_⟩
  rw [List.length_map]
  walk_at "b"
  · rename_i hb
    have hk : k.toNat < ns.length := by omega
    refine ⟨ns.map V.int, .int ns[k.toNat], .inl (.inr hs), ?_, ?_⟩
    · unfold atI ixN
      rw [List.length_map, if_pos h0, if_pos hb, Option.bind_some, List.getElem?_map, List.getElem?_eq_getElem hk]
      rfl
    · refine fun H' o => ⟨⟨_, rfl, ?_⟩, ext0 o⟩
      split <;> omega
  · refine ⟨.inl (by unfold sm64; omega), ?_⟩
    refine ⟨ns, .inr hs, ?_⟩
    refine ⟨(by walk_at "p"), ?_⟩
    refine fun H' o => ⟨⟨_, rfl, ?_⟩, ext0 o⟩
    have := Int.emod_nonneg ns.sum (show (1000003 : Int) ≠ 0 by decide)
    have : 0 ≤ 7919 * (k + 1) := by omega
    omega
theorem vc_l_box {vs : List V} {H : Hp} (g : Addr × List Int × Int) (h : (ct_l_box K).pre g vs H) : ∃ S, Own S H ∧ r_l_box K a (endsC (ct_l_box K) g H) (start N_l_box vs) S := by
  obtain ⟨p, ns, k⟩ := g
  obtain ⟨rfl, hs, h0, h1⟩ := h
  refine ⟨⟨H, []⟩, Own.base H, ?_⟩
  refine ⟨(p, ns, k), fun H' o => ⟨rfl, o.l (.inr hs), h0, h1⟩, fun H1 v H2 o q => ⟨⟨H, []⟩, o.ex q.2, ?_⟩, fun _ _ _ _ _ q => q.elim⟩
  obtain ⟨⟨i, rfl, hi⟩, q⟩ := q
  refine ⟨(by walk_at "z"), fun b => ?_⟩
  intro H' o
  exact ⟨b, rfl, (o.gs _ List.mem_cons_self).2, ⟨i, 0, o.g (i := 0) rfl, hi, by decide⟩, fun a u e => o.fr a u e⟩
theorem vc_l_take {vs : List V} {H : Hp} (g : Addr × Int) (h : ct_l_take.pre g vs H) : ∃ S, Own S H ∧ r_l_take K a (endsC ct_l_take g H) (start N_l_take vs) S := by
  obtain ⟨b, size⟩ := g
  obtain ⟨rfl, hbx, hs1, hs2⟩ := h
  obtain ⟨u, t, hu, ht, o⟩ := body_draw hbx
  refine ⟨_, o, ?_⟩
  have hs1 : (0 : Int) < size := hs1
  have hs2 : size < (1073741824 : Int) := hs2
  refine ⟨[.int u, .int t], .int u, .inl (.inl ⟨0, rfl⟩), rfl, ?_⟩
  refine ⟨⟨by decide, by decide, by decide⟩, ?_⟩
  walk_at "b"
  · refine ⟨[.int u, .int t], .int u, .inl (.inl ⟨0, rfl⟩), rfl, ?_⟩
    refine ⟨hs1, ?_⟩
    refine ⟨[.int u, .int t], .int u, .inl (.inl ⟨0, rfl⟩), rfl, ?_⟩
    refine ⟨⟨hs1, hs2⟩, ?_⟩
    refine ⟨0, [.int u, .int t], 0, rfl, rfl, ?_⟩
    intro H' o'
    exact ⟨⟨_, rfl, Int.emod_nonneg _ (by omega), Int.emod_lt_of_pos _ hs1⟩, end_draw (u := u / size) (t := t) 0 o' rfl rfl (Int.ediv_nonneg hu (by omega)) ht⟩
  · rename_i hb
    have hb : u < 10 ^ 18 := hb
    refine ⟨[.int u, .int t], .int t, .inl (.inl ⟨0, rfl⟩), rfl, ?_⟩
    refine ⟨0, [.int u, .int t], 1, rfl, rfl, ?_⟩
    refine ⟨[.int u, .int (t + 1)], .int u, .inl (.inl ⟨0, rfl⟩), rfl, ?_⟩
    refine ⟨.inr (by unfold sm64; omega), ?_⟩
    refine ⟨[.int u, .int (t + 1)], .int (t + 1), .inl (.inl ⟨0, rfl⟩), rfl, ?_⟩
    refine ⟨.inr (by unfold sm64; omega), ?_⟩
    refine ⟨(by walk_at "p"), ?_⟩
    generalize hm : (u * 48271 + (t + 1) * 7368787) % 2147483647 = m
    have m0 : 0 ≤ m := by rw [← hm]; exact Int.emod_nonneg _ (by decide)
    have m1 : m < 2147483647 := by rw [← hm]; exact Int.emod_lt_of_pos _ (by decide)
    refine ⟨.inl (by unfold sm64; omega), ?_⟩
    refine ⟨⟨by decide, by decide⟩, ?_⟩
    refine ⟨[.int u, .int (t + 1)], .int (t + 1), .inl (.inl ⟨0, rfl⟩), rfl, ?_⟩
    refine ⟨(by walk_at "p"), ?_⟩
    generalize (m * m + m / 127 + (t + 1)) % 2147483629 = m2
    refine ⟨.inr (by unfold sm64; omega), ?_⟩
    refine ⟨⟨by decide, by decide⟩, ?_⟩
    refine ⟨(by walk_at "p"), ?_⟩
    refine ⟨⟨by decide, by decide⟩, ?_⟩
    refine ⟨hs1, ?_⟩
    intro H' o'
    exact ⟨⟨_, rfl, Int.emod_nonneg _ (by omega), Int.emod_lt_of_pos _ hs1⟩, end_draw (u := u) (t := t + 1) 0 o' rfl rfl hu (by omega)⟩
/-- the n loads' measures -/
theorem waysAt {w : Int} (h0 : 0 ≤ w) (h5 : w < 5) : ∃ m : Int, atI [V.int 2, V.int 3, V.int 5, V.int 8, V.int 2] w = some (.int m) ∧ 0 < m ∧ m < 1073741824 := by
  have : w = 0 ∨ w = 1 ∨ w = 2 ∨ w = 3 ∨ w = 4 := by omega
  rcases this with rfl | rfl | rfl | rfl | rfl
  · exact ⟨2, rfl, by decide, by decide⟩
  · exact ⟨3, rfl, by decide, by decide⟩
  · exact ⟨5, rfl, by decide, by decide⟩
  · exact ⟨8, rfl, by decide, by decide⟩
  · exact ⟨2, rfl, by decide, by decide⟩
theorem vc_l_row {vs : List V} {H : Hp} (g : Addr × Int × Int) (h : ct_l_row.pre g vs H) : ∃ S, Own S H ∧ r_l_row K a (endsC ct_l_row g H) (start N_l_row vs) S := by
  obtain ⟨b, n, w⟩ := g
  obtain ⟨rfl, hbx, hn, hn2, hw, hw2⟩ := h
  obtain ⟨u, t, hu, ht, o⟩ := body_draw hbx
  have hn : (0 : Int) ≤ n := hn
  have hn2 : n ≤ (100 : Int) := hn2
  refine ⟨_, o, ?_⟩
  refine ⟨by unfold rngOk; omega, ?_⟩
  refine ⟨fun i σ S => ∃ (bs : List Bool) (u t : Int) (y z : Option V), bs.length = i ∧ σ = [some (.ref b), some (.int n), some (.int w), some (.str (rowS bs)), y, z] ∧ 0 ≤ u ∧ 0 ≤ t ∧ S = ⟨without H b, [(b, boxO u t)]⟩, ?_, ?_, ?_, ?_⟩
  · exact ⟨[], u, t, none, none, rfl, rfl, hu, ht, rfl⟩
  · intro i σ S _ _
    trivial
  · rintro i σ S hi ⟨bs, u, t, y, z, hl, rfl, hu, ht, rfl⟩
    have hi : i < n.toNat := hi
    refine ⟨(by walk_at "z"), fun p => ?_⟩
    obtain ⟨m, hm, hm0, hm1⟩ := waysAt hw hw2
    refine ⟨[.int 2, .int 3, .int 5, .int 8, .int 2], .int m, .inl (.inl ⟨0, rfl⟩), hm, ?_⟩
    refine use_take (u := u) (t := t) (size := m) 1 (by rfl) hu ht (by rfl) ⟨hm0, hm1⟩ fun r u' t' hr hr2 hu' ht' => ?_
    have fin : ∀ x : Bool, rowS bs ++ (⟨#[code x]⟩ : Str) = rowS (bs ++ [x]) := rowS_snoc bs
    have hz : (rowS bs).length + 1 ≤ sizeLine := small_line (by rw [rowS_len]; omega)
    walk_at "b"
    · walk_at "b"
      · refine ⟨hz, _, sle_sub (.cons _ (.refl _)), bs ++ [true], u', t', some (.int (0 + (i : Int))), some (.bl (decide (V.int r = V.int 0))), by simp [hl], ?_, hu', ht', rfl⟩
        rw [str_l, ← fin true]
        rfl
      · refine ⟨hz, _, sle_sub (.cons _ (.refl _)), bs ++ [false], u', t', some (.int (0 + (i : Int))), some (.bl (decide (V.int r = V.int 0))), by simp [hl], ?_, hu', ht', rfl⟩
        rw [str_h, ← fin false]
        rfl
    · refine ⟨hz, _, sle_sub (.cons _ (.refl _)), bs ++ [false], u', t', some (.int (0 + (i : Int))), some (.bl (decide (V.int r = V.int 0))), by simp [hl], ?_, hu', ht', rfl⟩
      rw [str_h, ← fin false]
      rfl
  · rintro σ S ⟨bs, u, t, y, z, hl, rfl, hu, ht, rfl⟩
    intro H' o'
    have hl : bs.length = n.toNat := hl
    exact ⟨⟨bs, rfl, by show (bs.length : Int) = n; omega⟩, end_draw (u := u) (t := t) 0 o' rfl rfl hu ht⟩
end
/-! ### binomials -/
section
def bin : Nat → Nat → Nat
  | _, 0 => 1
  | 0, _ + 1 => 0
  | n + 1, k + 1 => bin n k + bin n (k + 1)
theorem bin_zero (n : Nat) : bin n 0 = 1 := by cases n <;> rfl
theorem bin_succ (n k : Nat) : bin (n + 1) (k + 1) = bin n k + bin n (k + 1) := rfl
theorem bin_over : ∀ (n k : Nat), n < k → bin n k = 0
  | 0, 0, h => absurd h (by decide)
  | 0, k + 1, _ => rfl
  | n + 1, 0, h => absurd h (by omega)
  | n + 1, k + 1, h => by rw [bin_succ, bin_over n k (by omega), bin_over n (k + 1) (by omega)]
theorem bin_self : ∀ n : Nat, bin n n = 1
  | 0 => rfl
  | n + 1 => by rw [bin_succ, bin_self n, bin_over n (n + 1) (by omega)]
theorem bin_sym : ∀ (n k : Nat), k ≤ n → bin n (n - k) = bin n k
  | n, 0, _ => by rw [Nat.sub_zero, bin_self, bin_zero]
  | 0, k + 1, h => absurd h (by omega)
  | n + 1, k + 1, h => by
    rw [bin_succ]
    by_cases e : k = n
    · subst e
      rw [Nat.sub_self, bin_zero, bin_self, bin_over k (k + 1) (by omega)]
    · have e1 : n + 1 - (k + 1) = (n - (k + 1)) + 1 := by omega
      have e2 : n - (k + 1) + 1 = n - k := by omega
      rw [e1, bin_succ, e2, bin_sym n k (by omega), bin_sym n (k + 1) (by omega)]
      omega
theorem bin_step : ∀ (n k : Nat), (bin n (k + 1) : Int) * ((k : Int) + 1) = (bin n k : Int) * ((n : Int) - (k : Int))
  | 0, 0 => by decide
  | 0, k + 1 => by
    show ((0 : Nat) : Int) * _ = ((0 : Nat) : Int) * _
    simp
  | n + 1, 0 => by
    have ih := bin_step n 0
    rw [bin_succ, bin_zero, bin_zero]
    rw [bin_zero] at ih
    push_cast at ih ⊢
    omega
  | n + 1, k + 1 => by
    have ih1 := bin_step n k
    have ih2 := bin_step n (k + 1)
    rw [bin_succ n (k + 1), bin_succ n k]
    push_cast at ih1 ih2 ⊢
    grind
def fct : Nat → Int
  | 0 => 1
  | k + 1 => fct k * ((k : Int) + 1)
theorem fct_pos : ∀ k, 0 < fct k
  | 0 => by decide
  | k + 1 => Int.mul_pos (fct_pos k) (by omega)
theorem fp_bin (n : Nat) : ∀ k : Nat, Builtin.Math.fallingProduct (n : Int) k = (bin n k : Int) * fct k
  | 0 => by rw [PySem.W.mc_fp_zero, bin_zero]; rfl
  | k + 1 => by
    rw [PySem.W.mc_fp_succ, fp_bin n k]
    have h := bin_step n k
    show _ = (bin n (k + 1) : Int) * (fct k * ((k : Int) + 1))
    grind
theorem mc_bin (n k : Nat) (h : k ≤ n) : PySem.W.mcComb (n : Int) (k : Int) = (bin n k : Int) := by
  have hm : min (k : Int) ((n : Int) - (k : Int)) = ((min k (n - k) : Nat) : Int) := by omega
  rw [PySem.W.mcComb_at (by omega) (by omega) rfl, hm, Int.toNat_natCast, fp_bin, fp_bin, bin_self]
  have hf := fct_pos (min k (n - k))
  have e1 : ((1 : Nat) : Int) * fct (min k (n - k)) = fct (min k (n - k)) := by simp
  rw [e1, Int.mul_ediv_cancel _ (by omega)]
  rcases Nat.le_total k (n - k) with h1 | h1
  · rw [Nat.min_eq_left h1]
  · rw [Nat.min_eq_right h1, bin_sym n k h]
theorem chz_nat (n : Nat) (p : Int) : chz (n : Int) p = if p < 0 then 0 else (bin n p.toNat : Int) := by
  unfold chz
  by_cases h : p < 0
  · rw [if_pos (.inl h), if_pos h]
  · rw [if_neg h]
    by_cases h2 : p > n
    · rw [if_pos (.inr h2), bin_over n p.toNat (by omega)]
      rfl
    · rw [if_neg (by omega)]
      obtain ⟨k, rfl⟩ : ∃ k : Nat, p = k := ⟨p.toNat, by omega⟩
      rw [mc_bin n k (by omega), Int.toNat_natCast]
theorem chz_neg (t : Int) {p : Int} (h : p < 0) : chz t p = 0 := if_pos (.inl h)
theorem chz_low {t : Int} (h : t < 0) (p : Int) : chz t p = 0 := if_pos (by omega)
theorem chz_pascal {t : Int} (h : 0 ≤ t) (p : Int) : chz (t + 1) p = chz t p + chz t (p - 1) := by
  obtain ⟨n, rfl⟩ : ∃ n : Nat, t = n := ⟨t.toNat, by omega⟩
  have e : ((n : Int) + 1) = ((n + 1 : Nat) : Int) := by omega
  rw [e, chz_nat, chz_nat, chz_nat]
  by_cases h1 : p < 0
  · rw [if_pos h1, if_pos h1, if_pos (by omega)]
    rfl
  · rw [if_neg h1, if_neg h1]
    by_cases h2 : p - 1 < 0
    · have e0 : p = 0 := by omega
      subst e0
      rw [if_pos (by decide)]
      show ((bin (n + 1) 0 : Nat) : Int) = ((bin n 0 : Nat) : Int) + 0
      rw [bin_zero, bin_zero]
      rfl
    · rw [if_neg h2]
      have e1 : p.toNat = (p - 1).toNat + 1 := by omega
      rw [e1, bin_succ]
      omega
theorem chz_zero {t : Int} (h : 0 ≤ t) : chz t 0 = 1 := by
  obtain ⟨n, rfl⟩ : ∃ n : Nat, t = n := ⟨t.toNat, by omega⟩
  rw [chz_nat, if_neg (by decide)]
  show ((bin n 0 : Nat) : Int) = 1
  rw [bin_zero]
  rfl
theorem chz_sym {t : Int} (p : Int) : chz t (t - p) = chz t p := by
  by_cases h : t < 0
  · rw [chz_low h, chz_low h]
  · by_cases h1 : p < 0 ∨ p > t
    · unfold chz
      rw [if_pos h1, if_pos (by omega)]
    · obtain ⟨n, rfl⟩ : ∃ n : Nat, t = n := ⟨t.toNat, by omega⟩
      rw [chz_nat, chz_nat, if_neg (by omega), if_neg (by omega)]
      have e : ((n : Int) - p).toNat = n - p.toNat := by omega
      rw [e, bin_sym n p.toNat (by omega)]
theorem chz_self {t : Int} (h : 0 ≤ t) : chz t t = 1 := by
  have e := chz_sym (t := t) 0
  rw [Int.sub_zero] at e
  rw [e, chz_zero h]
/-! ### sums -/
def sumF : Nat → (Nat → Int) → Int
  | 0, _ => 0
  | n + 1, f => sumF n f + f n
theorem sumF_congr {f g : Nat → Int} : ∀ n : Nat, (∀ j, j < n → f j = g j) → sumF n f = sumF n g
  | 0, _ => rfl
  | n + 1, h => by
    show sumF n f + f n = sumF n g + g n
    rw [sumF_congr n fun j hj => h j (by omega), h n (by omega)]
theorem sumF_zero {f : Nat → Int} : ∀ n : Nat, (∀ j, j < n → f j = 0) → sumF n f = 0
  | 0, _ => rfl
  | n + 1, h => by
    show sumF n f + f n = 0
    rw [sumF_zero n fun j hj => h j (by omega), h n (by omega)]
    rfl
theorem sumF_shift (f : Nat → Int) (q : Nat) : ∀ n : Nat, (∀ j, j < q → f j = 0) → sumF (q + n) f = sumF n fun j => f (q + j)
  | 0, h => sumF_zero q h
  | n + 1, h => by
    show sumF (q + n) f + f (q + n) = _
    rw [sumF_shift f q n h]
    rfl
theorem sum_bin (B : Nat) (g : Nat → Int) : ∀ n : Nat, sumF (n + 1) (fun j => (bin (B + 1) j : Int) * g j) = sumF (n + 1) (fun j => (bin B j : Int) * g j) + sumF n (fun j => (bin B j : Int) * g (j + 1))
  | 0 => by
    show (0 : Int) + (bin (B + 1) 0 : Int) * g 0 = (0 + (bin B 0 : Int) * g 0) + 0
    rw [bin_zero, bin_zero]
    omega
  | n + 1 => by
    have ih := sum_bin B g n
    show sumF (n + 1) (fun j => (bin (B + 1) j : Int) * g j) + (bin (B + 1) (n + 1) : Int) * g (n + 1) = (sumF (n + 1) (fun j => (bin B j : Int) * g j) + (bin B (n + 1) : Int) * g (n + 1)) + (sumF n (fun j => (bin B j : Int) * g (j + 1)) + (bin B n : Int) * g (n + 1))
    rw [ih, bin_succ]
    push_cast
    grind
theorem vander {A : Int} (hA : 0 ≤ A) : ∀ (B : Nat) (r : Int), sumF (B + 1) (fun j => (bin B j : Int) * chz A (r - (j : Int))) = chz (A + (B : Int)) r
  | 0, r => by
    show (0 : Int) + (bin 0 0 : Int) * chz A (r - ((0 : Nat) : Int)) = _
    rw [bin_zero]
    simp
  | B + 1, r => by
    have h1 := vander hA B r
    have h2 := vander hA B (r - 1)
    have e : A + ((B + 1 : Nat) : Int) = (A + (B : Int)) + 1 := by omega
    rw [e, chz_pascal (by omega), ← h1, ← h2]
    rw [sum_bin B (fun j => chz A (r - (j : Int))) (B + 1)]
    have e2 : sumF (B + 1 + 1) (fun j => (bin B j : Int) * chz A (r - (j : Int))) = sumF (B + 1) (fun j => (bin B j : Int) * chz A (r - (j : Int))) := by
      show sumF (B + 1) (fun j => (bin B j : Int) * chz A (r - (j : Int))) + (bin B (B + 1) : Int) * chz A (r - ((B + 1 : Nat) : Int)) = _
      rw [bin_over B (B + 1) (by omega)]
      simp
    rw [e2]
    congr 1
    refine sumF_congr _ fun j _ => ?_
    have e3 : r - ((j + 1 : Nat) : Int) = r - 1 - (j : Int) := by omega
    rw [e3]
end
/-! ### the law's own formulas -/
section
theorem leastB_nil : leastB [] = 0 := rfl
theorem leastB_one (b : Bool) : leastB [b] = 1 := by cases b <;> rfl
theorem leastB_snoc {bs : List Bool} (h : bs ≠ []) (b : Bool) : leastB (bs ++ [b]) = leastB bs + (if b then 1 else 0) := by
  cases bs with
  | nil => exact absurd rfl h
  | cons c r =>
    unfold leastB
    rw [List.count_append]
    show ((List.count true (c :: r) + List.count true [b] : Nat) : Int) + (if some c = some false then 1 else 0) = _
    cases b
    · show ((List.count true (c :: r) + 0 : Nat) : Int) + (if some c = some false then 1 else 0) = ((List.count true (c :: r) : Nat) : Int) + (if some c = some false then 1 else 0) + 0
      omega
    · show ((List.count true (c :: r) + 1 : Nat) : Int) + (if some c = some false then 1 else 0) = ((List.count true (c :: r) : Nat) : Int) + (if some c = some false then 1 else 0) + 1
      omega
theorem leastB_cons (c : Bool) (r : List Bool) : leastB (c :: r) = (r.count true : Nat) + 1 := by
  unfold leastB
  rw [List.count_cons]
  cases c
  · show ((r.count true + 0 : Nat) : Int) + (if some false = some false then 1 else 0) = _
    rw [if_pos rfl]
    rfl
  · show ((r.count true + 1 : Nat) : Int) + (if some true = some false then 1 else 0) = _
    rw [if_neg (by decide)]
    omega
theorem leastB_bounds (bs : List Bool) : 0 ≤ leastB bs ∧ leastB bs ≤ bs.length ∧ (bs ≠ [] → 1 ≤ leastB bs) := by
  cases bs with
  | nil => exact ⟨by decide, by decide, fun h => absurd rfl h⟩
  | cons c r =>
    rw [leastB_cons, List.length_cons]
    have := List.count_le_length (a := true) (l := r)
    exact ⟨by omega, by omega, fun _ => by omega⟩
theorem mw_y0 (n q q' : Int) : mw n q 0 q' false = 0 := by
  unfold mw
  rw [if_pos rfl, if_neg (by simp)]
theorem mw_x0 (n q q' : Int) : mw n q 0 q' true = if q = 1 then 1 else 0 := by
  unfold mw
  rw [if_pos rfl]
  simp
/-- a hit more on X -/
theorem mw_xh {n q s q' : Int} (h1 : q ≤ n) (hs : 0 ≤ s) (h2 : q' ≤ s) : mw (n + 1) q s q' true = mw n q s q' false + mw n q s q' true := by
  by_cases e : s = 0
  · subst e
    rw [mw_x0, mw_x0, mw_y0]
    omega
  · unfold mw
    rw [if_neg e, if_neg e, if_neg e]
    simp only [if_true, Bool.false_eq_true, if_false]
    have e1 : n + 1 - q + s - q' = (n - q + s - q') + 1 := by omega
    have e2 : n + 1 - q' - 1 = n - q' := by omega
    rw [e1, e2, chz_pascal (by omega)]
/-- a load more on X -/
theorem mw_xl {n q s q' : Int} (hq : 1 ≤ q) : mw (n + 1) (q + 1) s q' true = mw n q s q' false := by
  by_cases e : s = 0
  · subst e
    rw [mw_x0, mw_y0, if_neg (by omega)]
  · unfold mw
    rw [if_neg e, if_neg e]
    simp only [if_true, Bool.false_eq_true, if_false]
    have e1 : n + 1 - (q + 1) + s - q' = n - q + s - q' := by omega
    have e2 : n + 1 - q' - 1 = n - q' := by omega
    rw [e1, e2]
theorem mw_yh {n q s q' : Int} (h1 : q ≤ n) (hs : 1 ≤ s) (h2 : q' ≤ s) : mw n q (s + 1) q' false = mw n q s q' true + mw n q s q' false := by
  unfold mw
  rw [if_neg (show ¬ s + 1 = 0 by omega), if_neg (show ¬ s = 0 by omega), if_neg (show ¬ s = 0 by omega)]
  simp only [if_true, Bool.false_eq_true, if_false]
  have e1 : n - q + (s + 1) - q' = (n - q + s - q') + 1 := by omega
  rw [e1, chz_pascal (by omega)]
  omega
theorem mw_yl {n q s q' : Int} (hs : 1 ≤ s) : mw n q (s + 1) (q' + 1) false = mw n q s q' true := by
  unfold mw
  rw [if_neg (show ¬ s + 1 = 0 by omega), if_neg (show ¬ s = 0 by omega)]
  simp only [if_true, Bool.false_eq_true, if_false]
  have e1 : n - q + (s + 1) - (q' + 1) = n - q + s - q' := by omega
  have e2 : n - (q' + 1) = n - q' - 1 := by omega
  rw [e1, e2]
theorem mw_y1 {n q : Int} (hq : 1 ≤ q) (h : q ≤ n) : mw n q 1 1 false = if q = 1 then 1 else 0 := by
  unfold mw
  rw [if_neg (by omega)]
  simp only [Bool.false_eq_true, if_false]
  by_cases e : q = 1
  · subst e
    have e1 : n - 1 + 1 - 1 = n - 1 := by omega
    rw [if_pos rfl, e1, chz_self (by omega)]
  · rw [if_neg e]
    have e1 : n - q + 1 - 1 = n - q := by omega
    rw [e1]
    unfold chz
    rw [if_pos (by omega)]
theorem mw_x1 {s q' : Int} (hs : 1 ≤ s) (hq : 1 ≤ q') : mw 1 1 s q' true = 0 := by
  unfold mw
  rw [if_neg (by omega)]
  simp only [if_true]
  exact chz_neg _ (by omega)
/-- the table's entries: u lines of X, s of Y -/
def tX (bs cs : List Bool) (u s : Nat) : Int := if u = 0 then 0 else mw u (leastB (bs.take u)) s (leastB (cs.take s)) true
def tY (bs cs : List Bool) (u s : Nat) : Int := if u = 0 then 0 else mw u (leastB (bs.take u)) s (leastB (cs.take s)) false
theorem take_snoc {α : Type} {l : List α} {i : Nat} {x : α} (h : l[i]? = some x) : l.take (i + 1) = l.take i ++ [x] := by
  rw [List.take_add_one, h]
  rfl
theorem tX_step {bs cs : List Bool} {u s : Nat} {b : Bool} (hb : bs[u]? = some b) (hu : 1 ≤ u) (hs : s ≤ cs.length) : tX bs cs (u + 1) s = tY bs cs u s + (if b then 0 else tX bs cs u s) := by
  have hul : u < bs.length := (List.getElem?_eq_some_iff.mp hb).1
  have l1 : (bs.take u).length = u := by rw [List.length_take]; omega
  have l2 : (cs.take s).length = s := by rw [List.length_take]; omega
  have n1 : bs.take u ≠ [] := fun e => by rw [e] at l1; simp at l1; omega
  obtain ⟨_, b2, b3⟩ := leastB_bounds (bs.take u)
  obtain ⟨_, c2, _⟩ := leastB_bounds (cs.take s)
  have b3 := b3 n1
  unfold tX tY
  rw [if_neg (show ¬ u + 1 = 0 by omega), if_neg (show ¬ u = 0 by omega), if_neg (show ¬ u = 0 by omega), take_snoc hb, leastB_snoc n1]
  push_cast
  cases b
  · simp only [Bool.false_eq_true, if_false, Int.add_zero]
    exact mw_xh (by omega) (by omega) (by omega)
  · simp only [if_true, Int.add_zero]
    exact mw_xl b3
theorem tX_one {bs cs : List Bool} {s : Nat} (hb : bs ≠ []) (hs : s ≤ cs.length) : tX bs cs 1 s = if s = 0 then 1 else 0 := by
  cases bs with
  | nil => exact absurd rfl hb
  | cons b r =>
    unfold tX
    rw [if_neg (by decide)]
    show mw ((1 : Nat) : Int) (leastB [b]) s _ true = _
    rw [leastB_one]
    by_cases h : s = 0
    · subst h
      rw [if_pos rfl]
      exact (mw_x0 _ _ _).trans (if_pos rfl)
    · rw [if_neg h]
      have l2 : (cs.take s).length = s := by rw [List.length_take]; omega
      have n1 : cs.take s ≠ [] := fun e => by rw [e] at l2; simp at l2; omega
      exact mw_x1 (by omega) ((leastB_bounds _).2.2 n1)
theorem tY_zero (bs cs : List Bool) (u : Nat) : tY bs cs u 0 = 0 := by
  unfold tY
  split
  · rfl
  · exact mw_y0 _ _ _
theorem tY_step {bs cs : List Bool} {u s : Nat} {c : Bool} (hc : cs[s]? = some c) (hu : 1 ≤ u) (hl : u ≤ bs.length) : tY bs cs u (s + 1) = tX bs cs u s + (if c then 0 else tY bs cs u s) := by
  have hsl : s < cs.length := (List.getElem?_eq_some_iff.mp hc).1
  have l1 : (bs.take u).length = u := by rw [List.length_take]; omega
  have l2 : (cs.take s).length = s := by rw [List.length_take]; omega
  have n1 : bs.take u ≠ [] := fun e => by rw [e] at l1; simp at l1; omega
  obtain ⟨_, b2, b3⟩ := leastB_bounds (bs.take u)
  have b3 := b3 n1
  unfold tX tY
  rw [if_neg (show ¬ u = 0 by omega), if_neg (show ¬ u = 0 by omega), if_neg (show ¬ u = 0 by omega), take_snoc hc]
  by_cases h : s = 0
  · subst h
    have e0 : cs.take 0 ++ [c] = [c] := rfl
    have e1 : ((0 + 1 : Nat) : Int) = 1 := rfl
    have e2 : ((0 : Nat) : Int) = 0 := rfl
    rw [e0, e1, e2, leastB_one, mw_x0, mw_y0]
    have e := mw_y1 (n := u) b3 (by omega)
    cases c <;> simp only [Bool.false_eq_true, if_false, if_true, Int.add_zero] <;> exact e
  · have n2 : cs.take s ≠ [] := fun e => by rw [e] at l2; simp at l2; omega
    obtain ⟨_, c2, c3⟩ := leastB_bounds (cs.take s)
    rw [leastB_snoc n2]
    push_cast
    cases c
    · simp only [Bool.false_eq_true, if_false, Int.add_zero]
      exact mw_yh (by omega) (by omega) (by omega)
    · simp only [if_true, Int.add_zero]
      exact mw_yl (by omega)
theorem tXY_end {bs cs : List Bool} (h : bs ≠ []) : tX bs cs bs.length cs.length = (talkXY bs cs).2 ∧ tY bs cs bs.length cs.length = (talkXY bs cs).1 := by
  have hl : bs.length ≠ 0 := fun e => h (List.length_eq_zero_iff.mp e)
  unfold tX tY talkXY
  rw [if_neg hl, if_neg hl, List.take_length, List.take_length]
  exact ⟨rfl, rfl⟩
/-! the sum of the products -/
theorem sumTo_F (bs cs : List Bool) (m : Int) : ∀ k : Nat, sumTo bs cs m k = sumF k fun j => cutN bs ((j : Int) + m) * cutN cs (j : Int)
  | 0 => rfl
  | k + 1 => by
    show sumTo bs cs m k + _ = sumF k _ + _
    rw [sumTo_F bs cs m k]
theorem sum_is {bs cs : List Bool} (hb : bs ≠ []) (m : Int) (s : Bool) (hm : m = if s then 1 else 0) : sumTo bs cs m (cs.length + 1) = mw bs.length (leastB bs) cs.length (leastB cs) s := by
  obtain ⟨b1, b2, b3⟩ := leastB_bounds bs
  have b3 := b3 hb
  obtain ⟨c1, c2, c3⟩ := leastB_bounds cs
  rw [sumTo_F]
  generalize hn : (bs.length : Int) = n at *
  generalize hq : leastB bs = q at *
  obtain ⟨Q, hQ⟩ : ∃ Q : Nat, leastB cs = Q := ⟨(leastB cs).toNat, by omega⟩
  have hcn : ∀ x : Int, cutN bs x = chz (n - q) (x - q) := fun x => by unfold cutN; rw [hn, hq]
  have hcm : ∀ x : Int, cutN cs x = chz ((cs.length : Int) - Q) (x - Q) := fun x => by unfold cutN; rw [hQ]
  obtain ⟨B, hB⟩ : ∃ B : Nat, cs.length = Q + B := ⟨cs.length - Q, by omega⟩
  have eA : ((cs.length : Int) - (Q : Int)) = (B : Int) := by omega
  have e0 : cs.length + 1 = Q + (B + 1) := by omega
  rw [e0, sumF_shift]
  · have e1 : sumF (B + 1) (fun j => cutN bs (((Q + j : Nat) : Int) + m) * cutN cs ((Q + j : Nat) : Int)) = sumF (B + 1) (fun j => (bin B j : Int) * chz (n - q) ((n - Q - m) - (j : Int))) := by
      refine sumF_congr _ fun j _ => ?_
      rw [hcn, hcm, eA]
      have e2 : ((Q + j : Nat) : Int) - (Q : Int) = (j : Int) := by omega
      rw [e2, chz_nat, if_neg (by omega), Int.toNat_natCast, Int.mul_comm]
      congr 1
      rw [← chz_sym]
      congr 1
      omega
    rw [e1, vander (by omega)]
    unfold mw
    rw [hQ]
    by_cases hz : (cs.length : Int) = 0
    · rw [if_pos hz]
      have eB : B = 0 := by omega
      have eQ : Q = 0 := by omega
      subst eB
      subst eQ
      cases s
      · rw [if_neg (by simp)]
        have em : m = 0 := hm
        subst em
        unfold chz
        rw [if_pos (by omega)]
      · have em : m = 1 := hm
        subst em
        by_cases h1 : q = 1
        · subst h1
          rw [if_pos ⟨rfl, rfl⟩]
          have e5 : n - 1 + ((0 : Nat) : Int) = n - 1 := by omega
          have e6 : n - ((0 : Nat) : Int) - 1 = n - 1 := by omega
          rw [e5, e6, chz_self (by omega)]
        · rw [if_neg (fun z => h1 z.2)]
          unfold chz
          rw [if_pos (by omega)]
    · rw [if_neg hz]
      have e3 : n - q + (cs.length : Int) - (Q : Int) = n - q + (B : Int) := by omega
      rw [e3]
      cases s
      · have em : m = 0 := hm
        subst em
        simp only [Bool.false_eq_true, if_false, Int.sub_zero]
      · have em : m = 1 := hm
        subst em
        simp only [if_true]
  · intro j hj
    rw [hcm, chz_neg _ (by omega), Int.mul_zero]
end
section
variable {K : PySem.W.Frag} {a : Ads}
theorem use_check {W : sWX} {σ : L2.St} {S : SH} {Q : V → SH → Prop} {vs : List V} {x : V} {l : Int} {m : Option Int} (t : TY) (e : vs = [x, .int l, optV m]) (ht : ∀ H, Own S H → Ty0 K H x t) (h1 : okN x l m = true → Q x S) (h2 : okN x l m = false → ∀ d, W (.ref a.InvalidNumber) (some d) σ (S.new d (.xd [("number", x)]))) :
    rC (ct_checked_number K a) W vs σ S Q := by
  refine ⟨(x, t, l, m), fun H o => ⟨e, ht H o⟩, fun H v H' o q => ?_, fun H c d H' o q => ?_⟩
  · obtain ⟨q1, rfl, q2⟩ := q
    exact ⟨S, o.ex q2, h1 q1⟩
  · obtain ⟨q1, rfl, dd, rfl, q2, q3, q4⟩ := q
    exact ⟨_, o.new q2 q3 q4, h2 q1 dd⟩
theorem use_V {f : List V → Option Ot} {W : sWX} {σ : L2.St} {S : SH} {Q : V → SH → Prop} {vs : List V} (v : V) (e : f vs = some (.ok v)) (h : Q v S) : rV f W vs σ S Q := by
  unfold rV
  rw [e]
  exact h
/-- a def of rows alone -/
theorem use_row {f : List Bool → V} {W : sWX} {σ : L2.St} {S : SH} {Q : V → SH → Prop} {vs : List V} (bs : List Bool) (e : vs = [.str (rowS bs)]) (hl : bs.length ≤ 1000) (h : Q (f bs) S) : rC (ct_row f) W vs σ S Q :=
  ⟨bs, fun _ _ => ⟨e, hl⟩, fun H v H' o q => ⟨S, o.ex q.2, by rw [q.1]; exact h⟩, fun _ _ _ _ _ q => q.elim⟩
theorem vc_l_choose {vs : List V} {H : Hp} (o : Ot) (h : f_choose vs = some o) : r_l_choose K a (endsV o H) (start N_l_choose vs) ⟨H, []⟩ := by
  unfold f_choose at h
  split at h
  · rename_i t p
    split at h
    · rename_i ht
      cases h
      have z : p < 0 ∨ p > t → chz t p = 0 := fun e => if_pos e
      walk_at "b"
      · rename_i hb
        exact ⟨by rw [z (.inl hb)], fun _ _ e => e⟩
      · rename_i h0
        walk_at "b"
        · rename_i hb
          exact ⟨by rw [z (.inr hb)], fun _ _ e => e⟩
        · rename_i hb
          refine ⟨by unfold rngOk; omega, ?_⟩
          refine ⟨fun i σ S => ∃ y, σ = [some (.int t), some (.int p), some (.int (chz t i)), y] ∧ S = ⟨H, []⟩, ?_, ?_, ?_, ?_⟩
          · refine ⟨none, ?_, rfl⟩
            rw [show chz t ((0 : Nat) : Int) = 1 from chz_zero (by omega)]
            rfl
          · intro i σ S _ _
            trivial
          · rintro i σ S hi ⟨y, rfl, rfl⟩
            have hi : i < p.toNat := hi
            refine ⟨.inr (by unfold sm64; omega), ?_⟩
            refine ⟨⟨by omega, by omega⟩, ?_⟩
            refine ⟨_, SLe.refl _, some (.int (0 + (i : Int))), ?_, rfl⟩
            obtain ⟨n, rfl⟩ : ∃ n : Nat, t = n := ⟨t.toNat, by omega⟩
            have e : chz (n : Int) (i : Int) * ((n : Int) - (0 + (i : Int))) / (0 + (i : Int) + 1) = chz (n : Int) ((i + 1 : Nat) : Int) := by
              rw [chz_nat, chz_nat, if_neg (by omega), if_neg (by omega), Int.toNat_natCast, Int.toNat_natCast, Int.zero_add, ← bin_step, Int.mul_ediv_cancel _ (by omega)]
            rw [← e]
            rfl
          · rintro σ S ⟨y, rfl, rfl⟩
            refine ⟨?_, fun _ _ e => e⟩
            show V.int (chz t ((p.toNat : Nat) : Int)) = V.int (chz t p)
            rw [Int.toNat_of_nonneg h0]
    · cases h
  · cases h
theorem vc_l_formula {vs : List V} {H : Hp} (g : Addr × Nums × Bool) (h : (ct_l_formula K).pre g vs H) : ∃ S, Own S H ∧ r_l_formula K a (endsC (ct_l_formula K) g H) (start N_l_formula vs) S := by
  obtain ⟨p, ⟨n, q, n', q'⟩, s⟩ := g
  obtain ⟨rfl, hs, h1, h2, h3, h4, h5, h6, h7, h8⟩ := h
  have h1 : 1 ≤ n := h1
  have h2 : n ≤ 200 := h2
  have h3 : 0 ≤ q := h3
  have h6 : n' ≤ 200 := h6
  have h7 : 0 ≤ q' := h7
  refine ⟨⟨H, []⟩, Own.base H, ?_⟩
  have hs' : sL K ⟨H, []⟩ p [.int n, .int q, .int n', .int q'] := .inr hs
  refine ⟨_, .int n', .inl hs', rfl, ?_⟩
  walk_at "b"
  · rename_i hb
    subst hb
    cases s with
    | false => exact fun H' o => ⟨rfl, ext0 o⟩
    | true =>
      refine ⟨_, .int q, .inl hs', rfl, ?_⟩
      refine fun H' o => ⟨?_, ext0 o⟩
      show V.int _ = V.int (mw n q 0 q' true)
      rw [mw_x0]
      by_cases e : q = 1
      · subst e
        rfl
      · rw [decide_eq_false (by simpa using e), if_neg e]
        rfl
  · rename_i hb
    refine ⟨_, .int n, .inl hs', rfl, ?_⟩
    refine ⟨_, .int q, .inl hs', rfl, ?_⟩
    refine ⟨_, .int n', .inl hs', rfl, ?_⟩
    refine ⟨_, .int q', .inl hs', rfl, ?_⟩
    refine ⟨_, .int n, .inl hs', rfl, ?_⟩
    refine ⟨_, .int q', .inl hs', rfl, ?_⟩
    have hz : n - q + n' - q' ≤ 18000 := by omega
    refine use_V (.int (chz (n - q + n' - q') (n - q' - (if s = true then 1 else 0)))) ?_ ?_
    · show f_choose [V.int (n - q + n' - q'), V.int (n - q' - (if s = true then 1 else 0))] = _
      exact if_pos hz
    · refine fun H' o => ⟨?_, ext0 o⟩
      show V.int _ = V.int (mw n q n' q' s)
      unfold mw
      rw [if_neg hb]
      cases s
      · simp only [Bool.false_eq_true, if_false, Int.sub_zero]
      · simp only [if_true]
theorem bin_le : ∀ n k : Nat, bin n k ≤ 2 ^ n
  | n, 0 => by rw [bin_zero]; exact Nat.one_le_two_pow
  | 0, k + 1 => by show 0 ≤ _; omega
  | n + 1, k + 1 => by
    have h1 := bin_le n k
    have h2 := bin_le n (k + 1)
    rw [bin_succ, Nat.pow_succ]
    omega
theorem cutN_small {bs : List Bool} (h : bs.length ≤ 9) (x : Int) : sm64 (cutN bs x) := by
  obtain ⟨b1, b2, _⟩ := leastB_bounds bs
  obtain ⟨n, hn⟩ : ∃ n : Nat, (bs.length : Int) - leastB bs = n := ⟨((bs.length : Int) - leastB bs).toNat, by omega⟩
  unfold cutN sm64
  rw [hn, chz_nat]
  split
  · omega
  · have h1 := bin_le n (x - leastB bs).toNat
    have h2 : 2 ^ n ≤ 2 ^ 9 := Nat.pow_le_pow_right (by decide) (by omega)
    have h3 : (2 : Nat) ^ 9 = 512 := by decide
    omega
theorem use_cut {W : sWX} {σ : L2.St} {S : SH} {Q : V → SH → Prop} {vs : List V} (bs : List Bool) (b : Int) (e : vs = [.str (rowS bs), .int b]) (hl : bs.length ≤ 1000) (hb : 0 ≤ b) (h : Q (.int (cutN bs b)) S) : rC ct_cut_count W vs σ S Q :=
  ⟨(bs, b), fun _ _ => ⟨e, hl, hb⟩, fun H v H' o q => ⟨S, o.ex q.2, by rw [q.1]; exact h⟩, fun _ _ _ _ _ q => q.elim⟩
theorem vc_l_sum {vs : List V} {H : Hp} (g : List Bool × List Bool × Int) (h : ct_l_sum.pre g vs H) : ∃ S, Own S H ∧ r_l_sum K a (endsC ct_l_sum g H) (start N_l_sum vs) S := by
  obtain ⟨bs, cs, m⟩ := g
  obtain ⟨rfl, h1, h2, h3, h4⟩ := h
  have h1 : bs.length ≤ 9 := h1
  have h2 : cs.length ≤ 9 := h2
  have h3 : 0 ≤ m := h3
  refine ⟨⟨H, []⟩, Own.base H, ?_⟩
  refine ⟨small_line (by rw [rowS_len]; omega), ?_⟩
  rw [rowS_len]
  refine ⟨by unfold rngOk; omega, ?_⟩
  refine ⟨fun i σ S => ∃ y, σ = [some (.str (rowS bs)), some (.str (rowS cs)), some (.int m), some (.int (sumTo bs cs m i)), y] ∧ S = ⟨H, []⟩, ?_, ?_, ?_, ?_⟩
  · exact ⟨none, rfl, rfl⟩
  · intro i σ S _ _
    trivial
  · rintro i σ S hi ⟨y, rfl, rfl⟩
    have hi : i < ((cs.length : Int) + 1).toNat := hi
    refine use_cut bs ((0 + (i : Int)) + m) rfl (by omega) (by omega) ?_
    refine use_cut cs (0 + (i : Int)) rfl (by omega) (by omega) ?_
    refine ⟨.inl (cutN_small h1 _), ?_⟩
    refine ⟨_, SLe.refl _, some (.int (0 + (i : Int))), ?_, rfl⟩
    have e : sumTo bs cs m (i + 1) = sumTo bs cs m i + cutN bs (0 + (i : Int) + m) * cutN cs (0 + (i : Int)) := by
      rw [Int.zero_add]
      rfl
    rw [e]
    rfl
  · rintro σ S ⟨y, rfl, rfl⟩
    refine fun H' o => ⟨?_, ext0 o⟩
    show V.int (sumTo bs cs m ((cs.length : Int) + 1).toNat) = V.int (sumTo bs cs m (cs.length + 1))
    rw [show ((cs.length : Int) + 1).toNat = cs.length + 1 by omega]
theorem vc_l_same {vs : List V} {H : Hp} (g : V × TY) (h : (ct_l_same K).pre g vs H) : ∃ S, Own S H ∧ r_l_same K a (endsC (ct_l_same K) g H) (start N_l_same vs) S := by
  obtain ⟨x, t⟩ := g
  obtain ⟨rfl, ht, d, hd, hsh, hcl⟩ := h
  refine ⟨⟨H, []⟩, Own.base H, ?_⟩
  have hd : Dp K H x d := hd
  have ht : isiTy K x ⟨H, []⟩ t := ht
  cases x with
  | non => exact fun H' o => ⟨rfl, ext0 o⟩
  | bl b =>
    refine fun H' o => ⟨?_, ext0 o⟩
    show V.bl (decide (V.bl b = V.bl b)) = V.bl true
    rw [decide_eq_true rfl]
  | int b =>
    refine fun H' o => ⟨?_, ext0 o⟩
    show V.bl (decide (V.int b = V.int b)) = V.bl true
    rw [decide_eq_true rfl]
  | str b =>
    refine fun H' o => ⟨?_, ext0 o⟩
    show V.bl (decide (V.str b = V.str b)) = V.bl true
    rw [decide_eq_true rfl]
  | ref p =>
    refine ⟨t, ht, t, ht, ?_⟩
    have e : decide (V.bl (t.sub .bool) = V.bl (t.sub .bool)) = true := decide_eq_true rfl
    walk_at "w"
    rw [e]
    refine ⟨d, d, fun H' o => dp_ext (ext0 o) d _ hd, fun H' o => dp_ext (ext0 o) d _ hd, hsh, hsh, ?_⟩
    refine fun H' o => ⟨?_, ext0 o⟩
    show V.bl (PyData.eqv d d) = V.bl true
    rw [SeqAt.eqv_refl d hcl]
  | byt b => exact ht.elim
  | flt b => exact ht.elim
  | ty b => exact ht.elim
end
section
variable {K : PySem.W.Frag} {a : Ads}
theorem Four.bad_none {g : Four} (h : g.bad = none) : okN g.x.1 1 none = true ∧ okN g.y.1 0 none = true ∧ okN g.z.1 0 none = true ∧ okN g.u.1 0 none = true := by
  unfold Four.bad at h
  split at h
  · cases h
  · split at h
    · cases h
    · split at h
      · cases h
      · split at h
        · cases h
        · rename_i h1 h2 h3 h4
          simp only [Bool.not_eq_false] at h1 h2 h3 h4
          exact ⟨h1, h2, h3, h4⟩
theorem okN_int {x : V} {l : Int} (h : okN x l none = true) : ∃ i, x = .int i ∧ l ≤ i := by
  cases x with
  | int i =>
    have h' : (decide (l ≤ i) && true) = true := h
    rw [Bool.and_true, decide_eq_true_eq] at h'
    exact ⟨i, rfl, h'⟩
  | _ => cases h
theorem okN_of {i l : Int} (h : l ≤ i) : okN (.int i) l none = true := by
  show (decide (l ≤ i) && true) = true
  rw [decide_eq_true h]
  rfl
theorem vc_merges {vs : List V} {H : Hp} (g : Four × Bool) (h : (ct_merges K a).pre g vs H) : ∃ S, Own S H ∧ r_merges K a (endsC (ct_merges K a) g H) (start N_merges vs) S := by
  obtain ⟨⟨x, y, z, u⟩, s⟩ := g
  obtain ⟨rfl, ⟨hx, hy, hz, hu⟩, hb⟩ := h
  refine ⟨⟨H, []⟩, Own.base H, ?_⟩
  have bad : ∀ (w : V), Four.bad ⟨x, y, z, u⟩ = some w → ∀ d H', Own (SH.new ⟨H, []⟩ d (.xd [("number", w)])) H' → (ct_merges K a).exn (⟨x, y, z, u⟩, s) H (.ref a.InvalidNumber) (some d) H' := fun w e d H' o =>
    ⟨w, e, rfl, d, rfl, (o.gs (d, .xd [("number", w)]) List.mem_cons_self).2, fun a u e => o.fr a u e, (o.gs (d, .xd [("number", w)]) List.mem_cons_self).1⟩
  refine use_check (m := none) x.2 rfl (fun H' o => hx.ex (ext0 o)) (fun ox => ?_) (fun ox => bad x.1 (if_pos ox))
  have nx : ¬ okN x.1 1 none = false := by rw [ox]; decide
  refine use_check (m := none) y.2 rfl (fun H' o => hy.ex (ext0 o)) (fun oy => ?_) (fun oy => bad y.1 ((if_neg nx).trans (if_pos oy)))
  have ny : ¬ okN y.1 0 none = false := by rw [oy]; decide
  refine use_check (m := none) z.2 rfl (fun H' o => hz.ex (ext0 o)) (fun oz => ?_) (fun oz => bad z.1 ((if_neg nx).trans ((if_neg ny).trans (if_pos oz))))
  have nz : ¬ okN z.1 0 none = false := by rw [oz]; decide
  refine use_check (m := none) u.2 rfl (fun H' o => hu.ex (ext0 o)) (fun ou => ?_) (fun ou => bad u.1 ((if_neg nx).trans ((if_neg ny).trans ((if_neg nz).trans (if_pos ou)))))
  have nu : ¬ okN u.1 0 none = false := by rw [ou]; decide
  obtain ⟨x, tx⟩ := x
  obtain ⟨y, ty⟩ := y
  obtain ⟨z, tz⟩ := z
  obtain ⟨u, tu⟩ := u
  obtain ⟨n, rfl, h1⟩ := okN_int ox
  obtain ⟨q, rfl, h2⟩ := okN_int oy
  obtain ⟨n', rfl, h3⟩ := okN_int oz
  obtain ⟨q', rfl, h4⟩ := okN_int ou
  have hz := hb n q n' q' rfl rfl rfl rfl h2 h4
  refine use_V (.int (mw n q n' q' s)) ?_ ?_
  · show f_merge_ways [V.int n, V.int q, V.int n', V.int q', V.bl s] = _
    exact if_pos hz
  · exact fun H' o => ⟨(if_neg nx).trans ((if_neg ny).trans ((if_neg nz).trans (if_neg nu))), ⟨n, q, n', q', rfl, rfl, rfl, rfl, rfl⟩, ext0 o⟩
theorem vc_l_any_numbers {vs : List V} {H : Hp} (g : Addr × Unit) (h : ct_l_any_numbers.pre g vs H) : ∃ S, Own S H ∧ r_l_any_numbers K a (endsC ct_l_any_numbers g H) (start N_l_any_numbers vs) S := by
  obtain ⟨b, _⟩ := g
  obtain ⟨rfl, hbx, _⟩ := h
  obtain ⟨u, t, hu, ht, o⟩ := body_draw hbx
  refine ⟨_, o, ?_⟩
  refine use_take (u := u) (t := t) (size := 8) 0 (by rfl) hu ht (by rfl) ⟨by decide, by decide⟩ fun r u t hr hr2 hu ht => ?_
  refine use_take (u := u) (t := t) (size := 12) 0 (by rfl) hu ht (by rfl) ⟨by decide, by decide⟩ fun r1 u t hr1 hr1b hu ht => ?_
  refine use_take (u := u) (t := t) (size := 16) 0 (by rfl) hu ht (by rfl) ⟨by decide, by decide⟩ fun r2 u t hr2' hr2b hu ht => ?_
  refine use_take (u := u) (t := t) (size := 13) 0 (by rfl) hu ht (by rfl) ⟨by decide, by decide⟩ fun r3 u t hr3 hr3b hu ht => ?_
  refine use_take (u := u) (t := t) (size := 16) 0 (by rfl) hu ht (by rfl) ⟨by decide, by decide⟩ fun r4 u t hr4 hr4b hu ht => ?_
  refine ⟨(by walk_at "z"), fun p => ?_⟩
  refine ⟨fun σ S => ∃ (u t : Int) (p : Addr) (g : Nums) (w : Option V), 0 ≤ u ∧ 0 ≤ t ∧ g.ok ∧ σ = [some (.ref b), w, some (.ref p)] ∧ S = ⟨without H b, [(p, .lst g.vs), (b, boxO u t)]⟩, ?_, ?_⟩
  · walk_at "b"
    · refine use_take (u := u) (t := t) (size := 200) 1 (by rfl) hu ht (by rfl) ⟨by decide, by decide⟩ fun r5 u t hr5 hr5b hu ht => ?_
      refine use_take (u := u) (t := t) (size := 221) 1 (by rfl) hu ht (by rfl) ⟨by decide, by decide⟩ fun r6 u t hr6 hr6b hu ht => ?_
      refine use_take (u := u) (t := t) (size := 201) 1 (by rfl) hu ht (by rfl) ⟨by decide, by decide⟩ fun r7 u t hr7 hr7b hu ht => ?_
      refine use_take (u := u) (t := t) (size := 221) 1 (by rfl) hu ht (by rfl) ⟨by decide, by decide⟩ fun r8 u t hr8 hr8b hu ht => ?_
      refine ⟨(by walk_at "z"), fun p' => ?_⟩
      exact ⟨_, sle_sub (.cons₂ _ (.cons _ (.refl _))), u, t, p', ⟨1 + r5, r6, r7, r8⟩, some (.bl (decide (V.int r = V.int 0))), hu, ht, ⟨by show 1 ≤ 1 + r5; omega, by show 1 + r5 ≤ 200; omega, hr6, by show r6 ≤ 220; omega, hr7, by show r7 ≤ 200; omega, hr8, by show r8 ≤ 220; omega⟩, rfl, rfl⟩
    · exact ⟨_, SLe.refl _, u, t, p, ⟨1 + r1, r2, r3, r4⟩, some (.bl (decide (V.int r = V.int 0))), hu, ht, ⟨by show 1 ≤ 1 + r1; omega, by show 1 + r1 ≤ 200; omega, hr2', by show r2 ≤ 220; omega, hr3, by show r3 ≤ 200; omega, hr4, by show r4 ≤ 220; omega⟩, rfl, rfl⟩
  · rintro σ S ⟨u, t, p, g, w, hu, ht, hg, rfl, rfl⟩
    intro H' o'
    refine ⟨⟨p, g, rfl, ?_, o'.g (i := 0) rfl, hg⟩, end_draw (u := u) (t := t) 1 o' rfl rfl hu ht⟩
    have e := (o'.gs (p, .lst g.vs) List.mem_cons_self).2
    have hne : p ≠ b := fun z => by
      have nd := o'.nd
      rw [z] at nd
      exact (List.nodup_cons.mp nd).1 List.mem_cons_self
    rw [← without_ne (H := H) hne]
    exact e
end
/-! ### tables of numbers -/
section
def rowL (m : Nat) (g : Nat → Int) : List V := (List.range (m + 1)).map fun s => V.int (g s)
theorem rowL_len (m : Nat) (g : Nat → Int) : (rowL m g).length = m + 1 := by
  unfold rowL
  rw [List.length_map, List.length_range]
theorem rowL_get {m s : Nat} {g : Nat → Int} (h : s ≤ m) : (rowL m g)[s]? = some (.int (g s)) := by
  unfold rowL
  rw [List.getElem?_map, List.getElem?_range (by omega)]
  rfl
theorem ixN_nat {n i : Nat} (h : i < n) : ixN n (i : Int) = some i := by
  unfold ixN
  rw [if_pos (by omega), if_pos (by omega), Int.toNat_natCast]
theorem atI_at {α : Type} {xs : List α} {i : Nat} {x : α} (h : xs[i]? = some x) : atI xs (i : Int) = some x := by
  unfold atI
  rw [ixN_nat (List.getElem?_eq_some_iff.mp h).1, Option.bind_some, h]
theorem rowL_at {m s : Nat} {g : Nat → Int} (h : s ≤ m) : atI (rowL m g) (s : Int) = some (.int (g s)) := atI_at (rowL_get h)
theorem rowL_set {m s : Nat} {g : Nat → Int} {v : Int} : (rowL m g).set s (.int v) = rowL m fun b => if b = s then v else g b := by
  refine List.ext_getElem? fun j => ?_
  by_cases hj : j ≤ m
  · rw [rowL_get hj]
    by_cases e : s = j
    · subst e
      rw [List.getElem?_set_self (by rw [rowL_len]; omega), if_pos rfl]
    · rw [List.getElem?_set_ne e, rowL_get hj, if_neg (fun z => e z.symm)]
  · rw [List.getElem?_eq_none (by rw [List.length_set, rowL_len]; omega), List.getElem?_eq_none (by rw [rowL_len]; omega)]
theorem zero_row (m : Nat) : (List.replicate (m + 1) [V.int 0]).flatten = rowL m fun _ => 0 := by
  have h : ∀ k : Nat, (List.replicate k [V.int 0]).flatten = List.replicate k (V.int 0) := by
    intro k
    induction k with
    | zero => rfl
    | succ k ih => rw [List.replicate_succ, List.replicate_succ, List.flatten_cons, ih]; rfl
  rw [h]
  refine List.ext_getElem? fun j => ?_
  by_cases hj : j ≤ m
  · rw [rowL_get hj, List.getElem?_replicate, if_pos (by omega)]
  · rw [List.getElem?_eq_none (by rw [List.length_replicate]; omega), List.getElem?_eq_none (by rw [rowL_len]; omega)]
def tab (m : Nat) : Nat → List Addr → (Nat → Nat → Int) → List (Addr × HO)
  | _, [], _ => []
  | k, p :: r, f => (p, .lst (rowL m (f k))) :: tab m (k + 1) r f
theorem tab_len (m : Nat) (f : Nat → Nat → Int) : ∀ (px : List Addr) (k : Nat), (tab m k px f).length = px.length
  | [], _ => rfl
  | p :: r, k => congrArg (· + 1) (tab_len m f r (k + 1))
theorem tab_get {m : Nat} {f : Nat → Nat → Int} : ∀ {px : List Addr} {k i : Nat} {p : Addr}, px[i]? = some p → (tab m k px f)[i]? = some (p, .lst (rowL m (f (k + i))))
  | [], _, _, _, h => by simp at h
  | q :: r, k, 0, p, h => by
    have e : q = p := Option.some.inj h
    subst e
    rfl
  | q :: r, k, i + 1, p, h => by
    have h2 := tab_get (m := m) (f := f) (px := r) (k := k + 1) (i := i) (p := p) h
    have e : k + 1 + i = k + (i + 1) := by omega
    rw [e] at h2
    exact h2
theorem tab_congr {m : Nat} {f g : Nat → Nat → Int} : ∀ (px : List Addr) (k : Nat), (∀ a, k ≤ a → f a = g a) → tab m k px f = tab m k px g
  | [], _, _ => rfl
  | p :: r, k, h => by
    show (p, HO.lst (rowL m (f k))) :: tab m (k + 1) r f = (p, HO.lst (rowL m (g k))) :: tab m (k + 1) r g
    rw [h k (Nat.le_refl _), tab_congr r (k + 1) fun a ha => h a (by omega)]
theorem tab_set {m : Nat} {f : Nat → Nat → Int} {g : Nat → Int} : ∀ {px : List Addr} {k i : Nat} {p : Addr}, px[i]? = some p → (tab m k px f).set i (p, .lst (rowL m g)) = tab m k px fun a => if a = k + i then g else f a
  | [], _, _, _, h => by simp at h
  | q :: r, k, 0, p, h => by
    have e : q = p := Option.some.inj h
    subst e
    show (q, HO.lst (rowL m g)) :: tab m (k + 1) r f = (q, HO.lst (rowL m ((fun a => if a = k + 0 then g else f a) k))) :: tab m (k + 1) r fun a => if a = k + 0 then g else f a
    have e1 : (fun a => if a = k + 0 then g else f a) k = g := if_pos rfl
    rw [e1, tab_congr (f := f) (g := fun a => if a = k + 0 then g else f a) r (k + 1) fun a ha => (if_neg (by omega)).symm]
  | q :: r, k, i + 1, p, h => by
    have h2 := tab_set (m := m) (f := f) (g := g) (px := r) (k := k + 1) (i := i) (p := p) h
    have e : k + 1 + i = k + (i + 1) := by omega
    rw [e] at h2
    show (q, HO.lst (rowL m (f k))) :: (tab m (k + 1) r f).set i (p, HO.lst (rowL m g)) = (q, HO.lst (rowL m ((fun a => if a = k + (i + 1) then g else f a) k))) :: _
    have e1 : (fun a => if a = k + (i + 1) then g else f a) k = f k := if_neg (by omega)
    rw [h2, e1]
theorem tab_snoc {m : Nat} {f : Nat → Nat → Int} {r : Addr} : ∀ (px : List Addr) (k : Nat), tab m k (px ++ [r]) f = tab m k px f ++ [(r, .lst (rowL m (f (k + px.length))))]
  | [], k => rfl
  | p :: px, k => by
    show (p, HO.lst (rowL m (f k))) :: tab m (k + 1) (px ++ [r]) f = (p, HO.lst (rowL m (f k))) :: (tab m (k + 1) px f ++ [(r, .lst (rowL m (f (k + (px.length + 1)))))])
    rw [tab_snoc px (k + 1)]
    have e : k + 1 + px.length = k + (px.length + 1) := by omega
    rw [e]
def refs (px : List Addr) : List V := px.map V.ref
theorem refs_at {px : List Addr} {u : Nat} {p : Addr} (h : px[u]? = some p) : atI (refs px) (u : Int) = some (.ref p) := atI_at (by unfold refs; rw [List.getElem?_map, h]; rfl)
/-- the two tables -/
def TG (m : Nat) (ox oy : Addr) (px py : List Addr) (fx fy : Nat → Nat → Int) : List (Addr × HO) := (oy, .lst (refs py)) :: (tab m 0 py fy ++ ((ox, .lst (refs px)) :: tab m 0 px fx))
def up2 (f : Nat → Nat → Int) (u s : Nat) (v : Int) : Nat → Nat → Int := fun a => if a = u then (fun b => if b = s then v else f u b) else f a
theorem up2_same (f : Nat → Nat → Int) (u s : Nat) (v : Int) : up2 f u s v u s = v := by
  unfold up2
  rw [if_pos rfl]
  exact if_pos rfl
theorem up2_ne (f : Nat → Nat → Int) {u s a b : Nat} (v : Int) (h : a ≠ u ∨ b ≠ s) : up2 f u s v a b = f a b := by
  unfold up2
  by_cases e : a = u
  · subst e
    rw [if_pos rfl]
    exact if_neg (h.elim (fun z => absurd rfl z) id)
  · rw [if_neg e]
variable {m : Nat} {ox oy : Addr} {px py : List Addr} {fx fy : Nat → Nat → Int}
theorem tg_py {u : Nat} {p : Addr} (h : py[u]? = some p) : (TG m ox oy px py fx fy)[1 + u]? = some (p, .lst (rowL m (fy u))) := by
  have hu := (List.getElem?_eq_some_iff.mp h).1
  rw [Nat.add_comm 1 u]
  show (tab m 0 py fy ++ _)[u]? = _
  rw [List.getElem?_append_left (by rw [tab_len]; exact hu), tab_get h, Nat.zero_add]
theorem tg_ox : (TG m ox oy px py fx fy)[1 + py.length]? = some (ox, .lst (refs px)) := by
  rw [Nat.add_comm 1 py.length]
  show (tab m 0 py fy ++ _)[py.length]? = _
  rw [List.getElem?_append_right (by rw [tab_len]; exact Nat.le_refl _), tab_len, Nat.sub_self]
  rfl
theorem tg_px {u : Nat} {p : Addr} (h : px[u]? = some p) : (TG m ox oy px py fx fy)[2 + py.length + u]? = some (p, .lst (rowL m (fx u))) := by
  have e : 2 + py.length + u = (py.length + (u + 1)) + 1 := by omega
  rw [e]
  show (tab m 0 py fy ++ _)[py.length + (u + 1)]? = _
  rw [List.getElem?_append_right (by rw [tab_len]; omega), tab_len]
  have e2 : py.length + (u + 1) - py.length = u + 1 := by omega
  rw [e2]
  show (tab m 0 px fx)[u]? = _
  rw [tab_get h, Nat.zero_add]
theorem tg_set_py {u s : Nat} {p : Addr} {v : Int} (h : py[u]? = some p) : (TG m ox oy px py fx fy).set (1 + u) (p, .lst ((rowL m (fy u)).set s (.int v))) = TG m ox oy px py fx (up2 fy u s v) := by
  have hu := (List.getElem?_eq_some_iff.mp h).1
  rw [Nat.add_comm 1 u, rowL_set]
  show _ :: (tab m 0 py fy ++ _).set u _ = _
  rw [List.set_append_left _ _ (by rw [tab_len]; exact hu), tab_set h, Nat.zero_add]
  rfl
theorem tg_set_px {u s : Nat} {p : Addr} {v : Int} (h : px[u]? = some p) : (TG m ox oy px py fx fy).set (2 + py.length + u) (p, .lst ((rowL m (fx u)).set s (.int v))) = TG m ox oy px py (up2 fx u s v) fy := by
  have e : 2 + py.length + u = (py.length + (u + 1)) + 1 := by omega
  rw [e, rowL_set]
  show _ :: (tab m 0 py fy ++ _).set (py.length + (u + 1)) _ = _
  rw [List.set_append_right _ _ (by rw [tab_len]; omega), tab_len]
  have e2 : py.length + (u + 1) - py.length = u + 1 := by omega
  rw [e2]
  show _ :: (tab m 0 py fy ++ (_ :: (tab m 0 px fx).set u _)) = _
  rw [tab_set h, Nat.zero_add]
  rfl
end
section
variable {K : PySem.W.Frag} {a : Ads}
theorem tab_perm {F : Hp} {D r p : Addr} {o : HO} {l : List V} {m : Nat} {px : List Addr} {f : Nat → Nat → Int} {G0 : List (Addr × HO)} {row : HO} (hrow : row = .lst (rowL m (f px.length))) :
    SLe ⟨F, (r, row) :: (p, o) :: (D, .lst l) :: (tab m 0 px f ++ G0)⟩ ⟨F, (D, .lst l) :: (tab m 0 (px ++ [r]) f ++ G0)⟩ := by
  refine (sle_sub (G0 := (r, row) :: (D, .lst l) :: (tab m 0 px f ++ G0)) (.cons₂ _ (.cons _ (.refl _)))).trans (sle_perm ?_)
  rw [tab_snoc, Nat.zero_add, hrow, List.append_assoc]
  refine (List.Perm.swap _ _ _).trans (.cons _ ?_)
  exact List.perm_middle.symm
theorem vc_l_talks {vs : List V} {H : Hp} (g : List Bool × List Bool) (h : ct_l_talks.pre g vs H) : ∃ S, Own S H ∧ r_l_talks K a (endsC ct_l_talks g H) (start N_l_talks vs) S := by
  obtain ⟨bs, cs⟩ := g
  obtain ⟨rfl, h1, h2, h3⟩ := h
  have h1 : 1 ≤ bs.length := h1
  have h2 : bs.length ≤ 100 := h2
  have h3 : cs.length ≤ 100 := h3
  have hbs : bs ≠ [] := fun e => by rw [e] at h1; exact absurd h1 (by decide)
  refine ⟨⟨H, []⟩, Own.base H, ?_⟩
  have lb : (rowS bs).length ≤ sizeLine := small_line (by rw [rowS_len]; omega)
  have lc : (rowS cs).length ≤ sizeLine := small_line (by rw [rowS_len]; omega)
  -- on_x
  refine ⟨lb, ?_⟩
  rw [rowS_len]
  refine ⟨by unfold rngOk; omega, fun ox => ?_⟩
  refine ⟨fun i S => ∃ px : List Addr, px.length = i ∧ S = ⟨H, (ox, .lst (refs px)) :: (tab cs.length 0 px (fun _ _ => 0) ++ [])⟩, ⟨[], rfl, rfl⟩, fun _ _ _ _ => trivial, ?_, ?_⟩
  · rintro i S hi ⟨px, hl, rfl⟩
    have hi : i < ((bs.length : Int) + 1).toNat := hi
    refine ⟨rfl, ?_⟩
    refine ⟨(by walk_at "z"), fun p => ?_⟩
    refine ⟨lc, ?_⟩
    refine ⟨[.int 0], .inl ⟨0, rfl⟩, by rw [rowS_len]; omega, ?_, fun r => ?_⟩
    · rw [rowS_len]
      exact small_line (by show 1 * ((cs.length : Int) + 1).toNat ≤ 100000; omega)
    · refine ⟨2, refs px, rfl, ?_, ?_⟩
      · have : (refs px).length = px.length := List.length_map ..
        exact Nat.lt_of_lt_of_le (show (refs px).length < 100000 by omega) (by decide)
      · refine ⟨_, tab_perm (px := px) (f := fun _ _ => 0) ?_, px ++ [r], by simp [hl], ?_⟩
        · rw [rowS_len, show ((cs.length : Int) + 1).toNat = cs.length + 1 by omega, zero_row]
        · unfold refs
          rw [List.map_append]
          rfl
  rintro S ⟨px, hpx, rfl⟩
  have hpx : px.length = ((bs.length : Int) + 1).toNat := hpx
  -- on_y
  refine ⟨lb, ?_⟩
  rw [rowS_len]
  refine ⟨by unfold rngOk; omega, fun oy => ?_⟩
  rw [List.append_nil]
  refine ⟨fun i S => ∃ py : List Addr, py.length = i ∧ S = ⟨H, (oy, .lst (refs py)) :: (tab cs.length 0 py (fun _ _ => 0) ++ ((ox, .lst (refs px)) :: tab cs.length 0 px (fun _ _ => 0)))⟩, ⟨[], rfl, rfl⟩, fun _ _ _ _ => trivial, ?_, ?_⟩
  · rintro i S hi ⟨py, hl, rfl⟩
    have hi : i < ((bs.length : Int) + 1).toNat := hi
    refine ⟨rfl, ?_⟩
    refine ⟨(by walk_at "z"), fun p => ?_⟩
    refine ⟨lc, ?_⟩
    refine ⟨[.int 0], .inl ⟨0, rfl⟩, by rw [rowS_len]; omega, ?_, fun r => ?_⟩
    · rw [rowS_len]
      exact small_line (by show 1 * ((cs.length : Int) + 1).toNat ≤ 100000; omega)
    · refine ⟨2, refs py, rfl, ?_, ?_⟩
      · have : (refs py).length = py.length := List.length_map ..
        exact Nat.lt_of_lt_of_le (show (refs py).length < 100000 by omega) (by decide)
      · refine ⟨_, tab_perm (px := py) (f := fun _ _ => 0) ?_, py ++ [r], by simp [hl], ?_⟩
        · rw [rowS_len, show ((cs.length : Int) + 1).toNat = cs.length + 1 by omega, zero_row]
        · unfold refs
          rw [List.map_append]
          rfl
  rintro S ⟨py, hpy, rfl⟩
  have hpy : py.length = ((bs.length : Int) + 1).toNat := hpy
  have gx : ∀ u, u ≤ bs.length → ∃ p, px[u]? = some p := fun u hu => ⟨_, List.getElem?_eq_getElem (by omega)⟩
  have gy : ∀ u, u ≤ bs.length → ∃ p, py[u]? = some p := fun u hu => ⟨_, List.getElem?_eq_getElem (by omega)⟩
  -- on_x[1][0] = 1
  obtain ⟨p1, hp1⟩ := gx 1 h1
  refine ⟨refs px, .ref p1, .inl (.inl ⟨1 + py.length, tg_ox⟩), refs_at (u := 1) hp1, ?_⟩
  refine ⟨2 + py.length + 1, rowL cs.length fun _ => 0, 0, tg_px (fx := fun _ _ => 0) hp1, ixN_nat (i := 0) (by rw [rowL_len]; omega), ?_⟩
  have e1 : (SH.put ⟨H, TG cs.length ox oy px py (fun _ _ => 0) (fun _ _ => 0)⟩ (2 + py.length + 1) p1 (.lst ((rowL cs.length fun _ => 0).set 0 (.int 1)))) = ⟨H, TG cs.length ox oy px py (up2 (fun _ _ => 0) 1 0 1) (fun _ _ => 0)⟩ := congrArg (SH.mk H) (tg_set_px (fx := fun _ _ => 0) hp1)
  show (sSeq _ _) _ _ (SH.put ⟨H, TG cs.length ox oy px py (fun _ _ => 0) (fun _ _ => 0)⟩ (2 + py.length + 1) p1 (.lst ((rowL cs.length fun _ => 0).set 0 (.int 1))))
  rw [e1]
  -- the loops
  refine ⟨lb, ?_⟩
  rw [rowS_len]
  refine ⟨by unfold rngOk; omega, by unfold rngOk; omega, ?_⟩
  refine ⟨fun i σ S => ∃ (fx fy : Nat → Nat → Int) (x4 x5 x6 x7 : Option V), σ = [some (.str (rowS bs)), some (.str (rowS cs)), some (.ref ox), some (.ref oy), x4, x5, x6, x7] ∧ S = ⟨H, TG cs.length ox oy px py fx fy⟩ ∧
    (∀ u s, s ≤ cs.length → u ≤ i ∨ u = 1 → fx u s = tX bs cs u s) ∧ (∀ u s, s ≤ cs.length → u ≤ i → fy u s = tY bs cs u s) ∧ (∀ u, fy u 0 = 0), ?_, fun _ _ _ _ _ => trivial, ?_, ?_⟩
  · refine ⟨_, _, none, none, none, none, rfl, rfl, fun u s hs hu => ?_, fun u s _ hu => ?_, fun u => rfl⟩
    · by_cases e : u = 1
      · subst e
        rw [tX_one hbs hs]
        by_cases e0 : s = 0
        · subst e0
          rw [if_pos rfl]
          exact up2_same _ _ _ _
        · rw [if_neg e0]
          exact up2_ne _ _ (.inr e0)
      · have e0 : u = 0 := by omega
        subst e0
        rw [up2_ne _ _ (.inl (by decide))]
        rfl
    · have e0 : u = 0 := by omega
      subst e0
      rfl
  · rintro i σ S hi ⟨fx, fy, x4, x5, x6, x7, rfl, rfl, hfx, hfy, hf0⟩
    have hi : i < ((bs.length : Int) + 1 - 1).toNat := hi
    refine ⟨lc, ?_⟩
    rw [rowS_len]
    refine ⟨by unfold rngOk; omega, ?_⟩
    refine ⟨fun j σ S => ∃ (fx fy : Nat → Nat → Int) (x5 x6 x7 : Option V), σ = [some (.str (rowS bs)), some (.str (rowS cs)), some (.ref ox), some (.ref oy), some (.int (1 + (i : Int))), x5, x6, x7] ∧ S = ⟨H, TG cs.length ox oy px py fx fy⟩ ∧
      (∀ u s, s ≤ cs.length → u ≤ i ∨ u = 1 ∨ (u = i + 1 ∧ s < j) → fx u s = tX bs cs u s) ∧ (∀ u s, s ≤ cs.length → u ≤ i ∨ (u = i + 1 ∧ s < j) → fy u s = tY bs cs u s) ∧ (∀ u, fy u 0 = 0), ?_, fun _ _ _ _ _ => trivial, ?_, ?_⟩
    · exact ⟨fx, fy, x5, x6, x7, rfl, rfl, fun u s hs hu => hfx u s hs (by omega), fun u s hs hu => hfy u s hs (by omega), hf0⟩
    · rintro j σ S hj ⟨fx, fy, x5, x6, x7, rfl, rfl, hfx, hfy, hf0⟩
      have hj : j < ((cs.length : Int) + 1).toNat := hj
      obtain ⟨pU, hpU⟩ := gx (i + 1) (by omega)
      obtain ⟨qU, hqU⟩ := gy (i + 1) (by omega)
      have aU : atI (refs px) (1 + (i : Int)) = some (.ref pU) := by
        rw [show 1 + (i : Int) = ((i + 1 : Nat) : Int) by omega]
        exact refs_at hpU
      have bU : atI (refs py) (1 + (i : Int)) = some (.ref qU) := by
        rw [show 1 + (i : Int) = ((i + 1 : Nat) : Int) by omega]
        exact refs_at hqU
      -- after the first if
      refine ⟨fun σ S => ∃ (fx : Nat → Nat → Int) (x6 : Option V), σ = [some (.str (rowS bs)), some (.str (rowS cs)), some (.ref ox), some (.ref oy), some (.int (1 + (i : Int))), some (.int (0 + (j : Int))), x6, x7] ∧ S = ⟨H, TG cs.length ox oy px py fx fy⟩ ∧
        (∀ u s, s ≤ cs.length → u ≤ i ∨ u = 1 ∨ (u = i + 1 ∧ s < j + 1) → fx u s = tX bs cs u s), ?_, ?_⟩
      · walk_at "b"
        · rename_i hb
          obtain ⟨i', rfl⟩ : ∃ i', i = i' + 1 := ⟨i - 1, by omega⟩
          obtain ⟨q0, hq0⟩ := gy (i' + 1) (by omega)
          obtain ⟨p0, hp0⟩ := gx (i' + 1) (by omega)
          obtain ⟨b0, hb0⟩ : ∃ b0, bs[i' + 1]? = some b0 := ⟨_, List.getElem?_eq_getElem (by omega)⟩
          have em : (1 : Int) + ((i' + 1 : Nat) : Int) - 1 = ((i' + 1 : Nat) : Int) := by omega
          have ej : (0 : Int) + (j : Int) = (j : Int) := by omega
          refine ⟨refs py, .ref q0, .inl (.inl ⟨0, rfl⟩), by rw [em]; exact refs_at hq0, ?_⟩
          refine ⟨_, .int (fy (i' + 1) j), .inl (.inl ⟨1 + (i' + 1), tg_py hq0⟩), by rw [ej]; exact rowL_at (by omega), ?_⟩
          refine ⟨fun σ S => σ = [some (.str (rowS bs)), some (.str (rowS cs)), some (.ref ox), some (.ref oy), some (.int (1 + ((i' + 1 : Nat) : Int))), some (.int (0 + (j : Int))), some (.int (tX bs cs (i' + 2) j)), x7] ∧ S = ⟨H, TG cs.length ox oy px py fx fy⟩, ?_, ?_⟩
          · have step := tX_step (bs := bs) (cs := cs) (u := i' + 1) (s := j) hb0 (by omega) (by omega)
            refine ⟨lb, code b0, by rw [em]; exact rowS_at hb0, ?_⟩
            walk_at "w"
            rw [code_h]
            cases b0
            · refine ⟨refs px, .ref p0, .inl (.inl ⟨1 + py.length, tg_ox⟩), by rw [em]; exact refs_at hp0, ?_⟩
              refine ⟨_, .int (fx (i' + 1) j), .inl (.inl ⟨_, tg_px hp0⟩), by rw [ej]; exact rowL_at (by omega), ?_⟩
              refine ⟨_, SLe.refl _, ?_, rfl⟩
              rw [step, ← hfy (i' + 1) j (by omega) (by omega), if_neg (by decide), ← hfx (i' + 1) j (by omega) (by omega)]
              rfl
            · refine ⟨_, SLe.refl _, ?_, rfl⟩
              rw [step, ← hfy (i' + 1) j (by omega) (by omega), if_pos rfl, Int.add_zero]
              rfl
          · rintro σ S ⟨rfl, rfl⟩
            refine ⟨refs px, .ref pU, .inl (.inl ⟨1 + py.length, tg_ox⟩), aU, ?_⟩
            refine ⟨2 + py.length + (i' + 2), _, j, tg_px hpU, by rw [ej]; exact ixN_nat (by rw [rowL_len]; omega), ?_⟩
            refine ⟨_, SLe.refl _, up2 fx (i' + 2) j (tX bs cs (i' + 2) j), _, rfl, congrArg (SH.mk H) (tg_set_px hpU), fun u s hs hu => ?_⟩
            by_cases e : u = i' + 2 ∧ s = j
            · obtain ⟨rfl, rfl⟩ := e
              exact up2_same _ _ _ _
            · rw [up2_ne _ _ (by omega)]
              exact hfx u s hs (by omega)
        · rename_i hb
          have e0 : i = 0 := by omega
          subst e0
          exact ⟨_, SLe.refl _, fx, _, rfl, rfl, fun u s hs hu => hfx u s hs (by omega)⟩
      · rintro σ S ⟨fx, x6, rfl, rfl, hfx⟩
        walk_at "b"
        · rename_i hb
          obtain ⟨j', rfl⟩ : ∃ j', j = j' + 1 := ⟨j - 1, by omega⟩
          obtain ⟨c0, hc0⟩ : ∃ c0, cs[j']? = some c0 := ⟨_, List.getElem?_eq_getElem (by omega)⟩
          have em : (0 : Int) + ((j' + 1 : Nat) : Int) - 1 = ((j' : Nat) : Int) := by omega
          have ej : (0 : Int) + ((j' + 1 : Nat) : Int) = ((j' + 1 : Nat) : Int) := by omega
          refine ⟨refs px, .ref pU, .inl (.inl ⟨1 + py.length, tg_ox⟩), aU, ?_⟩
          refine ⟨_, .int (fx (i + 1) j'), .inl (.inl ⟨_, tg_px hpU⟩), by rw [em]; exact rowL_at (by omega), ?_⟩
          refine ⟨fun σ S => σ = [some (.str (rowS bs)), some (.str (rowS cs)), some (.ref ox), some (.ref oy), some (.int (1 + (i : Int))), some (.int (0 + ((j' + 1 : Nat) : Int))), some (.int (tY bs cs (i + 1) (j' + 1))), x7] ∧ S = ⟨H, TG cs.length ox oy px py fx fy⟩, ?_, ?_⟩
          · have step := tY_step (bs := bs) (cs := cs) (u := i + 1) (s := j') hc0 (by omega) (by omega)
            refine ⟨lc, code c0, by rw [em]; exact rowS_at hc0, ?_⟩
            walk_at "w"
            rw [code_h]
            cases c0
            · refine ⟨refs py, .ref qU, .inl (.inl ⟨0, rfl⟩), bU, ?_⟩
              refine ⟨_, .int (fy (i + 1) j'), .inl (.inl ⟨1 + (i + 1), tg_py hqU⟩), by rw [em]; exact rowL_at (by omega), ?_⟩
              refine ⟨_, SLe.refl _, ?_, rfl⟩
              rw [step, ← hfx (i + 1) j' (by omega) (by omega), if_neg (by decide), ← hfy (i + 1) j' (by omega) (by omega)]
              rfl
            · refine ⟨_, SLe.refl _, ?_, rfl⟩
              rw [step, ← hfx (i + 1) j' (by omega) (by omega), if_pos rfl, Int.add_zero]
              rfl
          · rintro σ S ⟨rfl, rfl⟩
            refine ⟨refs py, .ref qU, .inl (.inl ⟨0, rfl⟩), bU, ?_⟩
            refine ⟨1 + (i + 1), _, j' + 1, tg_py hqU, by rw [ej]; exact ixN_nat (by rw [rowL_len]; omega), ?_⟩
            refine ⟨_, SLe.refl _, fx, up2 fy (i + 1) (j' + 1) (tY bs cs (i + 1) (j' + 1)), _, _, _, rfl, congrArg (SH.mk H) (tg_set_py hqU), hfx, fun u s hs hu => ?_, fun u => ?_⟩
            · by_cases e : u = i + 1 ∧ s = j' + 1
              · obtain ⟨rfl, rfl⟩ := e
                exact up2_same _ _ _ _
              · rw [up2_ne _ _ (by omega)]
                exact hfy u s hs (by omega)
            · rw [up2_ne _ _ (.inr (by omega))]
              exact hf0 u
        · rename_i hb
          have e0 : j = 0 := by omega
          subst e0
          refine ⟨_, SLe.refl _, fx, fy, _, _, _, rfl, rfl, hfx, fun u s hs hu => ?_, hf0⟩
          by_cases e : u = i + 1 ∧ s = 0
          · obtain ⟨rfl, rfl⟩ := e
            rw [hf0, tY_zero]
          · exact hfy u s hs (by omega)
    · rintro σ S ⟨fx, fy, x5, x6, x7, rfl, rfl, hfx, hfy, hf0⟩
      refine ⟨_, SLe.refl _, fx, fy, _, _, _, _, rfl, rfl, fun u s hs hu => ?_, fun u s hs hu => ?_, hf0⟩
      · refine hfx u s hs ?_
        show u ≤ i ∨ u = 1 ∨ u = i + 1 ∧ s < ((cs.length : Int) + 1).toNat
        omega
      · refine hfy u s hs ?_
        show u ≤ i ∨ u = i + 1 ∧ s < ((cs.length : Int) + 1).toNat
        omega
  · rintro σ S ⟨fx, fy, x4, x5, x6, x7, rfl, rfl, hfx, hfy, hf0⟩
    have hn : ((bs.length : Int) + 1 - 1).toNat = bs.length := by omega
    have hfx' : ∀ u s, s ≤ cs.length → u ≤ ((bs.length : Int) + 1 - 1).toNat ∨ u = 1 → fx u s = tX bs cs u s := hfx
    have hfy' : ∀ u s, s ≤ cs.length → u ≤ ((bs.length : Int) + 1 - 1).toNat → fy u s = tY bs cs u s := hfy
    obtain ⟨pN, hpN⟩ := gx bs.length (Nat.le_refl _)
    obtain ⟨qN, hqN⟩ := gy bs.length (Nat.le_refl _)
    obtain ⟨z1, z2⟩ := tXY_end (cs := cs) hbs
    refine ⟨lb, ?_⟩
    rw [rowS_len]
    refine ⟨refs py, .ref qN, .inl (.inl ⟨0, rfl⟩), refs_at hqN, ?_⟩
    refine ⟨lc, ?_⟩
    rw [rowS_len]
    refine ⟨_, .int (fy bs.length cs.length), .inl (.inl ⟨1 + bs.length, tg_py hqN⟩), rowL_at (Nat.le_refl _), ?_⟩
    refine ⟨lb, ?_⟩
    rw [rowS_len]
    refine ⟨refs px, .ref pN, .inl (.inl ⟨1 + py.length, tg_ox⟩), refs_at hpN, ?_⟩
    refine ⟨lc, ?_⟩
    rw [rowS_len]
    refine ⟨_, .int (fx bs.length cs.length), .inl (.inl ⟨_, tg_px hpN⟩), rowL_at (Nat.le_refl _), ?_⟩
    refine ⟨(by walk_at "z"), fun p => ?_⟩
    rw [hfx' bs.length cs.length (Nat.le_refl _) (by omega), hfy' bs.length cs.length (Nat.le_refl _) (by omega), z1, z2]
    intro H' o'
    exact ⟨p, rfl, (o'.gs _ List.mem_cons_self).2, o'.g (i := 0) rfl, fun a u e => o'.fr a u e⟩
end
section
variable {K : PySem.W.Frag} {a : Ads}
theorem new_ne {S : SH} {H : Hp} {p : Addr} {o : HO} (w : Own (S.new p o) H) : S.F p = none := (w.gs (p, o) List.mem_cons_self).2
theorem without_none {H : Hp} {b p : Addr} (h : without H b p = none) (hne : p ≠ b) : H p = none := by
  rw [← without_ne (H := H) hne]
  exact h
theorem ne_at {S : SH} {H : Hp} (w : Own S H) {i j : Nat} {p q : Addr} {o u : HO} (h1 : S.G[i]? = some (p, o)) (h2 : S.G[j]? = some (q, u)) (hij : i ≠ j) : p ≠ q := fun e => by
  have g1 : (S.G.map (·.1))[i]? = some p := by rw [List.getElem?_map, h1]; rfl
  have g2 : (S.G.map (·.1))[j]? = some p := by rw [List.getElem?_map, h2, e]; rfl
  exact hij (nodup_at w.nd g1 g2)
theorem vc_l_wrong_number {vs : List V} {H : Hp} (g : Addr × Int) (h : (ct_l_wrong_number K).pre g vs H) : ∃ S, Own S H ∧ r_l_wrong_number K a (endsC (ct_l_wrong_number K) g H) (start N_l_wrong_number vs) S := by
  obtain ⟨b, place⟩ := g
  obtain ⟨rfl, hbx, hp⟩ := h
  have hp : 0 ≤ place := hp
  obtain ⟨u, t, hu, ht, o⟩ := body_draw hbx
  refine ⟨_, o, ?_⟩
  refine use_take (u := u) (t := t) (size := 9) 0 (by rfl) hu ht (by rfl) ⟨by decide, by decide⟩ fun r u t hr hr2 hu ht => ?_
  refine ⟨(by walk_at "z"), fun p4 => ?_⟩
  refine ⟨(by walk_at "z"), fun p5 => ?_⟩
  refine ⟨(by walk_at "z"), fun p => ?_⟩
  have low : ∀ i : Int, i < 0 → okN (.int i) (if place = 0 then 1 else 0) none = false := fun i hi => by
    show (decide ((if place = 0 then 1 else 0) ≤ i) && true) = false
    rw [decide_eq_false (by split <;> omega)]
    rfl
  walk_at "b"
  · rename_i hb
    have e : r = 0 ∨ r = 1 ∨ r = 2 ∨ r = 3 ∨ r = 4 ∨ r = 5 := by omega
    rcases e with rfl | rfl | rfl | rfl | rfl | rfl
    · refine ⟨_, _, .inl (.inl ⟨0, rfl⟩), rfl, fun H' o' => ⟨⟨.inr (.inl ⟨_, rfl⟩), rfl⟩, end_draw (u := u) (t := t) 3 o' rfl rfl hu ht⟩⟩
    · refine ⟨_, _, .inl (.inl ⟨0, rfl⟩), rfl, fun H' o' => ⟨⟨.inr (.inl ⟨_, rfl⟩), rfl⟩, end_draw (u := u) (t := t) 3 o' rfl rfl hu ht⟩⟩
    · refine ⟨_, _, .inl (.inl ⟨0, rfl⟩), rfl, fun H' o' => ⟨⟨.inl rfl, rfl⟩, end_draw (u := u) (t := t) 3 o' rfl rfl hu ht⟩⟩
    · refine ⟨_, _, .inl (.inl ⟨0, rfl⟩), rfl, fun H' o' => ⟨⟨.inr (.inr (.inl rfl)), rfl⟩, end_draw (u := u) (t := t) 3 o' rfl rfl hu ht⟩⟩
    · refine ⟨_, _, .inl (.inl ⟨0, rfl⟩), rfl, fun H' o' => ⟨⟨.inr (.inr (.inr (.inr (.inl ⟨p4, rfl, ?_, o'.g (i := 2) rfl⟩)))), rfl⟩, end_draw (u := u) (t := t) 3 o' rfl rfl hu ht⟩⟩
      exact without_none (H := H) (b := b) (o'.gs (p4, .lst [.int 1]) (.tail _ (.tail _ (.head _)))).2 (ne_at o' (i := 2) (j := 3) rfl rfl (by decide))
    · refine ⟨_, _, .inl (.inl ⟨0, rfl⟩), rfl, fun H' o' => ⟨⟨.inr (.inr (.inr (.inr (.inr ⟨p5, rfl, ?_, o'.g (i := 1) rfl⟩)))), rfl⟩, end_draw (u := u) (t := t) 3 o' rfl rfl hu ht⟩⟩
      exact without_none (H := H) (b := b) (o'.gs (p5, .tup [.int 1]) (.tail _ (.head _))).2 (ne_at o' (i := 1) (j := 3) rfl rfl (by decide))
  · rename_i hb
    have rest : ∀ D : sEnds, D.rt = (endsC (ct_l_wrong_number K) (b, place) H).rt → D.ex = (endsC (ct_l_wrong_number K) (b, place) H).ex → True := fun _ _ _ => trivial
    have fin : ∀ i : Int, i < 0 → ∀ (u t : Int) H', 0 ≤ u → 0 ≤ t → Own ⟨without H b, [(p, .lst [.bl true, .bl false, .non, .str "1", .ref p4, .ref p5]), (p5, .tup [.int 1]), (p4, .lst [.int 1]), (b, boxO u t)]⟩ H' → (ct_l_wrong_number K).post (b, place) H (.int i) H' := fun i hi u t H' hu ht o' =>
      ⟨⟨.inr (.inr (.inr (.inl ⟨i, rfl, by omega⟩))), low i hi⟩, end_draw (u := u) (t := t) 3 o' rfl rfl hu ht⟩
    walk_at "b"
    · rename_i h6
      walk_at "b"
      · rename_i h0
        refine fun H' o' => ⟨⟨.inr (.inr (.inr (.inl ⟨0, rfl, by decide⟩))), ?_⟩, end_draw (u := u) (t := t) 3 o' rfl rfl hu ht⟩
        show (decide ((if place = 0 then 1 else 0) ≤ (0 : Int)) && true) = false
        rw [if_pos h0]
        rfl
      · walk_at "b"
        · exact fun H' o' => fin (-1) (by decide) u t H' hu ht o'
        · rename_i h8
          exact absurd h8 (by omega)
    · walk_at "b"
      · exact fun H' o' => fin (-1) (by decide) u t H' hu ht o'
      · refine use_take (u := u) (t := t) (size := 1000000) 3 (by rfl) hu ht (by rfl) ⟨by decide, by decide⟩ fun r2 u t hr2a hr2b hu ht => ?_
        refine ⟨⟨by decide, by decide, by decide⟩, ?_⟩
        refine ⟨.inl (by unfold sm64; omega), ?_⟩
        refine fun H' o' => fin (-2 - r2 * 10 ^ (30 : Int).toNat) ?_ u t H' hu ht o'
        have : 0 ≤ r2 * 10 ^ (30 : Int).toNat := Int.mul_nonneg hr2a (by decide)
        omega
theorem Known.ex {H H' : Hp} {x : V} {t : TY} (h : Known K H x t) (e : Ext H H') : Known K H' x t := by
  obtain ⟨h1, d, h2, h3, h4⟩ := h
  exact ⟨h1.ex e, d, dp_ext e d _ h2, h3, h4⟩
theorem known_int (H : Hp) (i : Int) : Known K H (.int i) .int := ⟨rfl, .int i, .int i, rfl, rfl⟩
theorem use_wrong {W : sWX} {vs : List V} {σ : L2.St} {F : Hp} {G : List (Addr × HO)} {Q : V → SH → Prop} (i : Nat) {b : Addr} {u t place : Int} (hi : G[i]? = some (b, boxO u t)) (hu : 0 ≤ u) (ht : 0 ≤ t) (e : vs = [.ref b, .int place]) (hp : 0 ≤ place)
    (k : ∀ v ty u' t' F', 0 ≤ u' → 0 ≤ t' → Ext F F' → Known K F' v ty → okN v (if place = 0 then 1 else 0) none = false → (∀ i, v = .int i → i ≤ 0) → Q v ⟨F', G.set i (b, boxO u' t')⟩) : rC (ct_l_wrong_number K) W vs σ ⟨F, G⟩ Q := by
  refine use_draw place i hi hu ht e (fun _ _ => hp) fun H v H' u' t' h1 h2 o o' q => ?_
  obtain ⟨q, hok⟩ := q
  rcases q with rfl | ⟨b, rfl⟩ | rfl | ⟨z, rfl, hz⟩ | ⟨p, rfl, hp1, hp2⟩ | ⟨p, rfl, hp1, hp2⟩
  · exact ⟨_, o', k .non .non u' t' F h1 h2 (Ext.refl F) ⟨rfl, .none, .non, rfl, rfl⟩ hok fun _ z => nomatch z⟩
  · exact ⟨_, o', k (.bl b) .bool u' t' F h1 h2 (Ext.refl F) ⟨rfl, .bool b, .bl b, rfl, rfl⟩ hok fun _ z => nomatch z⟩
  · exact ⟨_, o', k (.str "1") .str u' t' F h1 h2 (Ext.refl F) ⟨rfl, .str "1", .str "1", by decide +kernel, by decide +kernel⟩ hok fun _ z => nomatch z⟩
  · exact ⟨_, o', k (.int z) .int u' t' F h1 h2 (Ext.refl F) (known_int F z) hok fun i e => by cases e; exact hz⟩
  · have hF : F p = none := o.f_none hp1
    have hG : p ∉ (G.set i (b, boxO u' t')).map (·.1) := fun z => by
      rw [set_fst hi] at z
      exact o.g_none hp1 z
    have o2 : Own (SH.new ⟨F, G.set i (b, boxO u' t')⟩ p (.lst [.int 1])) H' := ⟨o'.fr, fun x hx => by
      cases hx with
      | head => exact ⟨hp2, hF⟩
      | tail _ hx => exact o'.gs x hx, List.nodup_cons.mpr ⟨hG, o'.nd⟩⟩
    refine ⟨_, sle_frz _ o2, k (.ref p) .list u' t' _ h1 h2 (Ext.new hF) ⟨.inl ⟨rfl, [.int 1], .inr (.inl (.inl upd_same))⟩, .list [.int 1], .lst (.inl (.inl upd_same)) (.cons (.int 1) .nil), rfl, rfl⟩ hok fun _ z => nomatch z⟩
  · have hF : F p = none := o.f_none hp1
    have hG : p ∉ (G.set i (b, boxO u' t')).map (·.1) := fun z => by
      rw [set_fst hi] at z
      exact o.g_none hp1 z
    have o2 : Own (SH.new ⟨F, G.set i (b, boxO u' t')⟩ p (.tup [.int 1])) H' := ⟨o'.fr, fun x hx => by
      cases hx with
      | head => exact ⟨hp2, hF⟩
      | tail _ hx => exact o'.gs x hx, List.nodup_cons.mpr ⟨hG, o'.nd⟩⟩
    refine ⟨_, sle_frz _ o2, k (.ref p) .tuple u' t' _ h1 h2 (Ext.new hF) ⟨.inr (.inl ⟨rfl, [.int 1], .inr (.inl (.inl upd_same))⟩), .tuple [.int 1], .tup (.inl (.inl upd_same)) (.cons (.int 1) .nil), rfl, rfl⟩ hok fun _ z => nomatch z⟩
/-- what the written part says of the errors of this law -/
structure Kit (K : PySem.W.Frag) (a : Ads) : Prop where
  isc : ExcC K a.InvalidNumber
  exm : PySem.W.exmOne K (.ref a.InvalidNumber) (.ref a.CacheError) = some true
  k0 : PySem.W.kitOne K (.ref a.InvalidNumber) (.ref a.InvalidNumber) = some true
  k1 : PySem.W.kitOne K (.ref a.InvalidNumber) (.ref a.InvalidRow) = some false
  k2 : PySem.W.kitOne K (.ref a.InvalidNumber) (.ref a.InvalidFlags) = some false
  k3 : PySem.W.kitOne K (.ref a.InvalidNumber) (.ref a.InvalidLine) = some false
  k4 : PySem.W.kitOne K (.ref a.InvalidNumber) (.ref a.InvalidSlot) = some false
  k5 : PySem.W.kitOne K (.ref a.InvalidNumber) (.ref a.InvalidText) = some false
  k6 : PySem.W.kitOne K (.ref a.InvalidNumber) (.ref a.Refused) = some false
  k7 : PySem.W.kitOne K (.ref a.InvalidNumber) (.ref a.TooMany) = some false
  kv : PySem.W.kitOne K (.ref a.InvalidNumber) (.type "ValueError") = some true
theorem vc_l_refusal (T : Kit K a) {vs : List V} {H : Hp} (g : Addr × Four × Bool × V) (h : (ct_l_refusal K).pre g vs H) : ∃ S, Own S H ∧ r_l_refusal K a (endsC (ct_l_refusal K) g H) (start N_l_refusal vs) S := by
  obtain ⟨p, f, s, y⟩ := g
  obtain ⟨rfl, hp, hty, hbad, hbd⟩ := h
  have hp' : sL K ⟨H, []⟩ p [f.x.1, f.y.1, f.z.1, f.u.1] := .inr hp
  refine ⟨⟨H, []⟩, Own.base H, ?_⟩
  refine ⟨fun _ _ => False, ?_, fun _ _ z => z.elim⟩
  refine ⟨_, f.x.1, .inl hp', rfl, ?_⟩
  refine ⟨_, f.y.1, .inl hp', rfl, ?_⟩
  refine ⟨_, f.z.1, .inl hp', rfl, ?_⟩
  refine ⟨_, f.u.1, .inl hp', rfl, ?_⟩
  refine ⟨rfl, rfl, (f, s), fun H' o => ⟨rfl, ⟨hty.1.ex (ext0 o), hty.2.1.ex (ext0 o), hty.2.2.1.ex (ext0 o), hty.2.2.2.ex (ext0 o)⟩, hbd⟩, fun H1 v H2 o q => ?_, fun H1 c d H2 o q => ?_⟩
  · have e : f.bad = none := q.1
    have e2 : f.bad = some y := hbad
    rw [e2] at e
    cases e
  · obtain ⟨y', e, rfl, dd, rfl, h1, h2, h3⟩ := q
    have e2 : f.bad = some y := hbad
    have ey : y' = y := Option.some.inj (e.symm.trans e2)
    subst ey
    refine ⟨_, o.new h1 h2 h3, true, T.exm, fun _ ea => ?_, fun z => nomatch z⟩
    refine ⟨rfl, _, dd, _, true, _, rfl, rfl, T.isc, .inl ⟨0, rfl⟩, fun u r => r, T.k0, ?_⟩
    refine ⟨rfl, _, dd, _, false, _, rfl, rfl, T.isc, .inl ⟨0, rfl⟩, fun u r => r, T.k1, ?_⟩
    refine ⟨rfl, _, dd, _, false, _, rfl, rfl, T.isc, .inl ⟨0, rfl⟩, fun u r => r, T.k2, ?_⟩
    refine ⟨(by walk_at "z"), fun l1 => ?_⟩
    refine ⟨rfl, _, dd, _, false, _, rfl, rfl, T.isc, .inl ⟨1, rfl⟩, fun u r => r, T.k3, ?_⟩
    refine ⟨rfl, _, dd, _, false, _, rfl, rfl, T.isc, .inl ⟨1, rfl⟩, fun u r => r, T.k4, ?_⟩
    refine ⟨rfl, _, dd, _, false, _, rfl, rfl, T.isc, .inl ⟨1, rfl⟩, fun u r => r, T.k5, ?_⟩
    refine ⟨(by walk_at "z"), fun l2 => ?_⟩
    refine ⟨_, _, .inl ⟨1, rfl⟩, .inl ⟨0, rfl⟩, (by walk_at "z"), fun l3 => ?_⟩
    refine ⟨rfl, _, dd, _, false, _, rfl, rfl, T.isc, .inl ⟨3, rfl⟩, fun u r => r, T.k6, ?_⟩
    refine ⟨rfl, _, dd, _, false, _, rfl, rfl, T.isc, .inl ⟨3, rfl⟩, fun u r => r, T.k7, ?_⟩
    refine ⟨(by walk_at "z"), fun l4 => ?_⟩
    refine ⟨_, _, .inl ⟨1, rfl⟩, .inl ⟨0, rfl⟩, (by walk_at "z"), fun l5 => ?_⟩
    refine ⟨rfl, _, dd, _, true, _, rfl, rfl, T.isc, .inl ⟨5, rfl⟩, fun u r => r, T.kv, ?_⟩
    refine ⟨.inl ⟨rfl, _, .inl ⟨0, rfl⟩⟩, _, .inl ⟨0, rfl⟩, rfl, rfl, ?_⟩
    refine ⟨_, _, .inl (.inl ⟨0, rfl⟩), rfl, ?_⟩
    refine ⟨rfl, rfl, dd, _, y', rfl, .inl ⟨5, rfl⟩, by simp [List.lookup], ?_⟩
    refine ⟨(by walk_at "z"), fun q => ?_⟩
    intro H' o'
    exact ⟨q, rfl, (o'.gs _ List.mem_cons_self).2, o'.g (i := 0) rfl, fun a u e => o'.fr a u e⟩
end
section
variable {K : PySem.W.Frag} {a : Ads}
def lo4 (j : Nat) : Int := if j = 0 then 1 else 0
theorem bad_of {x y z u : V × TY} {w : V} {f : Nat} {xs : List V} (hx : xs = [x.1, y.1, z.1, u.1]) (hf : f < 4) (h1 : ∀ j, j < f → ∀ v, xs[j]? = some v → okN v (lo4 j) none = true) (h2 : okN w (lo4 f) none = false) (hw : xs[f]? = some w) : (Four.mk x y z u).bad = some w := by
  subst hx
  have hf : f = 0 ∨ f = 1 ∨ f = 2 ∨ f = 3 := by omega
  unfold Four.bad
  rcases hf with rfl | rfl | rfl | rfl
  · have e : x.1 = w := Option.some.inj hw
    subst e
    exact if_pos h2
  · have e : y.1 = w := Option.some.inj hw
    subst e
    have n0 : ¬ okN x.1 1 none = false := fun q => absurd ((h1 0 (by omega) x.1 rfl).symm.trans q) (by decide)
    exact (if_neg n0).trans (if_pos h2)
  · have e : z.1 = w := Option.some.inj hw
    subst e
    have n0 : ¬ okN x.1 1 none = false := fun q => absurd ((h1 0 (by omega) x.1 rfl).symm.trans q) (by decide)
    have n1 : ¬ okN y.1 0 none = false := fun q => absurd ((h1 1 (by omega) y.1 rfl).symm.trans q) (by decide)
    exact (if_neg n0).trans ((if_neg n1).trans (if_pos h2))
  · have e : u.1 = w := Option.some.inj hw
    subst e
    have n0 : ¬ okN x.1 1 none = false := fun q => absurd ((h1 0 (by omega) x.1 rfl).symm.trans q) (by decide)
    have n1 : ¬ okN y.1 0 none = false := fun q => absurd ((h1 1 (by omega) y.1 rfl).symm.trans q) (by decide)
    have n2 : ¬ okN z.1 0 none = false := fun q => absurd ((h1 2 (by omega) z.1 rfl).symm.trans q) (by decide)
    exact (if_neg n0).trans ((if_neg n1).trans ((if_neg n2).trans (if_pos h2)))
/-- the bent numbers -/
structure Bent (K : PySem.W.Frag) (F : Hp) (xs : List V) (f : Nat) (done : Bool) : Prop where
  len : xs.length = 4
  known : ∀ (j : Nat) v, xs[j]? = some v → (∃ t, Known K F v t) ∧ ∀ i, v = .int i → i ≤ 220
  good : ∀ (j : Nat) v, j < f → xs[j]? = some v → okN v (lo4 j) none = true
  bad : done = true → ∀ v, xs[f]? = some v → okN v (lo4 f) none = false
theorem lt4 {xs : List V} {j : Nat} {v : V} (h : xs[j]? = some v) (hl : xs.length = 4) : j = 0 ∨ j = 1 ∨ j = 2 ∨ j = 3 := by
  have := (List.getElem?_eq_some_iff.mp h).1
  omega
theorem bent_start {F : Hp} {g : Nums} (hg : g.ok) (f : Nat) : Bent K F g.vs f false := by
  obtain ⟨h1, h2, h3, h4, h5, h6, h7, h8⟩ := hg
  refine ⟨rfl, fun j v e => ?_, fun j v _ e => ?_, fun h => nomatch h⟩
  · rcases lt4 e rfl with rfl | rfl | rfl | rfl
    · cases e
      exact ⟨⟨.int, known_int F _⟩, fun i e => by cases e; omega⟩
    · cases e
      exact ⟨⟨.int, known_int F _⟩, fun i e => by cases e; omega⟩
    · cases e
      exact ⟨⟨.int, known_int F _⟩, fun i e => by cases e; omega⟩
    · cases e
      exact ⟨⟨.int, known_int F _⟩, fun i e => by cases e; omega⟩
  · rcases lt4 e rfl with rfl | rfl | rfl | rfl
    · cases e
      exact okN_of h1
    · cases e
      exact okN_of h3
    · cases e
      exact okN_of h5
    · cases e
      exact okN_of h7
theorem Bent.ex {F F' : Hp} {xs : List V} {f : Nat} {d : Bool} (h : Bent K F xs f d) (e : Ext F F') : Bent K F' xs f d :=
  ⟨h.len, fun j v q => ⟨let ⟨t, k⟩ := (h.known j v q).1; ⟨t, k.ex e⟩, (h.known j v q).2⟩, h.good, h.bad⟩
theorem Bent.set {F : Hp} {xs : List V} {f p : Nat} {d : Bool} {w : V} {t : TY} (h : Bent K F xs f d) (hp : f ≤ p) (hp4 : p < 4) (hk : Known K F w t) (hw : okN w (lo4 p) none = false) (hi : ∀ i, w = .int i → i ≤ 0) (hd : p = f ∨ d = true) : Bent K F (xs.set p w) f true := by
  have hl := h.len
  refine ⟨by rw [List.length_set]; exact hl, fun j v e => ?_, fun j v hj e => ?_, fun _ v e => ?_⟩
  · by_cases hjp : p = j
    · subst hjp
      rw [List.getElem?_set_self (by omega)] at e
      cases e
      exact ⟨⟨t, hk⟩, fun i e => by have := hi i e; omega⟩
    · rw [List.getElem?_set_ne hjp] at e
      exact h.known j v e
  · rw [List.getElem?_set_ne (by omega)] at e
    exact h.good j v hj e
  · by_cases hpf : p = f
    · subst hpf
      rw [List.getElem?_set_self (by omega)] at e
      cases e
      exact hw
    · rw [List.getElem?_set_ne hpf] at e
      exact h.bad (hd.resolve_left hpf) v e
theorem vc_l_refused (T : Kit K a) {vs : List V} {H : Hp} (g : Addr × Addr × Nums) (h : (ct_l_refused K).pre g vs H) : ∃ S, Own S H ∧ r_l_refused K a (endsC (ct_l_refused K) g H) (start N_l_refused vs) S := by
  obtain ⟨b, pn, nums⟩ := g
  obtain ⟨rfl, hbx, hpn, hok⟩ := h
  obtain ⟨u, t, hu, ht, o⟩ := body_draw hbx
  have hpn : H pn = some (.lst nums.vs) := hpn
  have hpb : pn ≠ b := by
    intro e
    obtain ⟨u1, t1, e1, _, _⟩ := hbx
    rw [e, show H b = some (boxO u1 t1) from e1] at hpn
    have e := HO.lst.inj (Option.some.inj hpn)
    exact nomatch (List.cons.inj (List.cons.inj e).2).2
  have hpn' : SqL K (without H b) pn nums.vs := .inl (.inl (by rw [without_ne hpb]; exact hpn))
  refine ⟨_, o, ?_⟩
  refine use_take (u := u) (t := t) (size := 4) 0 (by rfl) hu ht (by rfl) ⟨by decide, by decide⟩ fun f u t hf0 hf4 hu ht => ?_
  obtain ⟨f, rfl⟩ : ∃ k : Nat, f = k := ⟨f.toNat, by omega⟩
  refine ⟨nums.vs, .inl (.inr hpn'), fun bt => ?_⟩
  refine ⟨by unfold rngOk; omega, by unfold rngOk; omega, ?_⟩
  refine ⟨fun i σ S => ∃ (F : Hp) (xs : List V) (u t : Int) (x4 x5 : Option V), σ = [some (.ref b), some (.ref pn), some (.int (f : Int)), some (.ref bt), x4, x5, none] ∧ 0 ≤ u ∧ 0 ≤ t ∧ S = ⟨F, [(bt, .lst xs), (b, boxO u t)]⟩ ∧ Ext (without H b) F ∧ Bent K F xs f (decide (0 < i)), ?_, fun _ _ _ _ _ => trivial, ?_, ?_⟩
  · exact ⟨_, _, u, t, none, none, rfl, hu, ht, rfl, Ext.refl _, bent_start hok f⟩
  · rintro i σ S hi ⟨F, xs, u, t, x4, x5, rfl, hu, ht, rfl, hF, hB⟩
    have hi : i < (4 - (f : Int)).toNat := hi
    refine use_wrong (u := u) (t := t) (place := (f : Int) + (i : Int)) 1 (by rfl) hu ht (by rfl) (by omega) fun w ty u t F' hu ht hFF hk hw hi0 => ?_
    have hw' : okN w (lo4 (f + i)) none = false := by
      have e : lo4 (f + i) = if (f : Int) + (i : Int) = 0 then 1 else 0 := by
        unfold lo4
        by_cases z : f + i = 0
        · rw [if_pos z, if_pos (by omega)]
        · rw [if_neg z, if_neg (by omega)]
      rw [e]
      exact hw
    have setW : ∀ (u t : Int) (x4 x5 : Option V), 0 ≤ u → 0 ≤ t → (i = 0 ∨ 0 < i) → ∃ (F0 : Hp) (xs0 : List V) (u0 t0 : Int) (y4 y5 : Option V), [some (V.ref b), some (.ref pn), some (.int (f : Int)), some (.ref bt), x4, x5, none] = [some (.ref b), some (.ref pn), some (.int (f : Int)), some (.ref bt), y4, y5, none] ∧ 0 ≤ u0 ∧ 0 ≤ t0 ∧ (⟨F', [(bt, .lst (xs.set (f + i) w)), (b, boxO u t)]⟩ : SH) = ⟨F0, [(bt, .lst xs0), (b, boxO u0 t0)]⟩ ∧ Ext (without H b) F0 ∧ Bent K F0 xs0 f (decide (0 < i + 1)) := by
      intro u t x4 x5 hu ht _
      refine ⟨F', xs.set (f + i) w, u, t, x4, x5, rfl, hu, ht, rfl, hF.trans hFF, ?_⟩
      have e : decide (0 < i + 1) = true := decide_eq_true (by omega)
      rw [e]
      refine (hB.ex hFF).set (by omega) (by omega) hk hw' hi0 ?_
      by_cases z : i = 0
      · left; omega
      · right; exact decide_eq_true (by omega)
    have hix : ixN xs.length ((f : Int) + (i : Int)) = some (f + i) := by
      rw [hB.len, show (f : Int) + (i : Int) = ((f + i : Nat) : Int) by omega]
      exact ixN_nat (by omega)
    walk_at "b"
    · exact ⟨0, xs, f + i, rfl, hix, _, SLe.refl _, setW u t _ _ hu ht (by omega)⟩
    · rename_i hpl
      refine use_take (u := u) (t := t) (size := 3) 1 (by rfl) hu ht (by rfl) ⟨by decide, by decide⟩ fun r u t hr hr2 hu ht => ?_
      walk_at "b"
      · exact ⟨0, xs, f + i, rfl, hix, _, SLe.refl _, setW u t _ _ hu ht (by omega)⟩
      · refine ⟨_, SLe.refl _, F', xs, u, t, _, _, rfl, hu, ht, rfl, hF.trans hFF, ?_⟩
        have e : decide (0 < i + 1) = decide (0 < i) := by
          rw [decide_eq_true (show 0 < i + 1 by omega), decide_eq_true (show 0 < i by omega)]
        rw [e]
        exact hB.ex hFF
  · rintro σ S ⟨F, xs, u, t, x4, x5, rfl, hu, ht, rfl, hF, hB⟩
    have hB : Bent K F xs f (decide (0 < (4 - (f : Int)).toNat)) := hB
    rw [decide_eq_true (show 0 < (4 - (f : Int)).toNat by omega)] at hB
    obtain ⟨x0, x1, x2, x3, rfl⟩ : ∃ x0 x1 x2 x3, xs = [x0, x1, x2, x3] := by
      have hl := hB.len
      match xs, hl with
      | [x0, x1, x2, x3], _ => exact ⟨x0, x1, x2, x3, rfl⟩
    obtain ⟨⟨t0, k0⟩, m0⟩ := hB.known 0 x0 rfl
    obtain ⟨⟨t1, k1⟩, m1⟩ := hB.known 1 x1 rfl
    obtain ⟨⟨t2, k2⟩, m2⟩ := hB.known 2 x2 rfl
    obtain ⟨⟨t3, k3⟩, m3⟩ := hB.known 3 x3 rfl
    obtain ⟨w, hw⟩ : ∃ w, [x0, x1, x2, x3][f]? = some w := ⟨_, List.getElem?_eq_getElem (by simp; omega)⟩
    obtain ⟨⟨tw, kw⟩, _⟩ := hB.known f w hw
    have hbad : (Four.mk (x0, t0) (x1, t1) (x2, t2) (x3, t3)).bad = some w := bad_of rfl (by omega) (fun j hj v e => hB.good j v hj e) (hB.bad rfl w hw) hw
    refine use_take (u := u) (t := t) (size := 2) 1 (by rfl) hu ht (by rfl) ⟨by decide, by decide⟩ fun r u t hr hr2 hu ht => ?_
    refine ⟨(bt, ⟨(x0, t0), (x1, t1), (x2, t2), (x3, t3)⟩, decide (V.int r = V.int 0), w), fun H1 o1 => ⟨rfl, .inl (.inl (o1.g (i := 0) rfl)), ⟨(k0.ex o1.fr).1, (k1.ex o1.fr).1, (k2.ex o1.fr).1, (k3.ex o1.fr).1⟩, hbad, fun n q n' q' e0 e1 e2 e3 _ _ => ?_⟩, fun H1 v H2 o1 q => ?_, fun _ _ _ _ _ q => q.elim⟩
    · have := m0 n e0
      have := m2 n' e2
      omega
    · obtain ⟨pr, rfl, hp1, hp2, hp3⟩ := q
      refine ⟨_, o1.new hp1 hp3 hp2, ?_⟩
      refine ⟨_, _, .inr (.inl ⟨0, rfl⟩), rfl, ?_⟩
      walk_at "w"
      refine ⟨_, _, .inr (.inl ⟨0, rfl⟩), rfl, ?_⟩
      refine ⟨_, w, .inl (.inl ⟨1, rfl⟩), atI_at hw, ?_⟩
      refine ⟨(w, tw), fun H3 o3 => ⟨rfl, kw.ex o3.fr⟩, fun H3 v H4 o3 q => ⟨_, o3.ex q.2, ?_⟩, fun _ _ _ _ _ q => q.elim⟩
      obtain ⟨rfl, q⟩ := q
      refine fun H' o' => ⟨rfl, ⟨u, t, o'.g (i := 2) rfl, hu, ht⟩, fun c x hc hx => o'.fr c x (hF c x (by rw [without_ne hc]; exact hx))⟩
end
section
variable {K : PySem.W.Frag} {a : Ads}
theorem use_merges {W : sWX} {σ : L2.St} {S : SH} {Q : V → SH → Prop} {vs : List V} (n q n' q' : Int) (s : Bool) (e : vs = [.int n, .int q, .int n', .int q', .bl s]) (h1 : 1 ≤ n) (h2 : 0 ≤ q) (h3 : 0 ≤ n') (h4 : 0 ≤ q') (hl : n - q + n' - q' ≤ 18000) (k : Q (.int (mw n q n' q' s)) S) : rC (ct_merges K a) W vs σ S Q := by
  have hb : Four.bad ⟨(.int n, .int), (.int q, .int), (.int n', .int), (.int q', .int)⟩ = none := by
    unfold Four.bad
    rw [if_neg (by rw [okN_of h1]; decide), if_neg (by rw [okN_of h2]; decide), if_neg (by rw [okN_of h3]; decide), if_neg (by rw [okN_of h4]; decide)]
  refine ⟨(⟨(.int n, .int), (.int q, .int), (.int n', .int), (.int q', .int)⟩, s), fun H o => ⟨e, ⟨rfl, rfl, rfl, rfl⟩, fun n1 q1 n1' q1' e1 e2 e3 e4 _ _ => ?_⟩, fun H v H' o p => ?_, fun H c d H' o p => ?_⟩
  · cases e1; cases e2; cases e3; cases e4
    exact hl
  · obtain ⟨_, ⟨n1, q1, n1', q1', e1, e2, e3, e4, e5⟩, p⟩ := p
    cases e1; cases e2; cases e3; cases e4
    exact ⟨S, o.ex p, by rw [e5]; exact k⟩
  · obtain ⟨y, e1, _⟩ := p
    rw [hb] at e1
    cases e1
theorem dint {x y : Int} (h : x = y) : decide (V.int x = V.int y) = true := decide_eq_true (congrArg V.int h)
theorem use_isnum {W : sWX} {σ : L2.St} {S : SH} {Q : V → SH → Prop} {vs : List V} (x : Int) (e : vs = [.int x, .int x]) (k : Q (.bl true) S) : rV f_l_is_number W vs σ S Q := by
  subst e
  refine use_V (.bl true) ?_ k
  show some (Ot.ok (V.bl (decide (V.int x = V.int x)))) = _
  rw [decide_eq_true rfl]
theorem use_sum {W : sWX} {σ : L2.St} {S : SH} {Q : V → SH → Prop} {vs : List V} (bs cs : List Bool) (m : Int) (s : Bool) (hm : m = if s then 1 else 0) (e : vs = [.str (rowS bs), .str (rowS cs), .int m]) (hb : bs ≠ []) (h1 : bs.length ≤ 9) (h2 : cs.length ≤ 9) (k : Q (.int (mw bs.length (leastB bs) cs.length (leastB cs) s)) S) : rC ct_l_sum W vs σ S Q :=
  ⟨(bs, cs, m), fun _ _ => ⟨e, h1, h2, by cases s <;> simp at hm <;> subst hm <;> simp, by cases s <;> simp at hm <;> subst hm <;> simp⟩, fun H v H' o q => ⟨S, o.ex q.2, by rw [q.1]; show Q (V.int (sumTo bs cs m (cs.length + 1))) S; rw [sum_is hb m s hm]; exact k⟩, fun _ _ _ _ _ q => q.elim⟩
theorem vc_l_rows_merged {vs : List V} {H : Hp} (g : List Bool × List Bool × Int) (h : (ct_l_rows_merged).pre g vs H) : ∃ S, Own S H ∧ r_l_rows_merged K a (endsC (ct_l_rows_merged) g H) (start N_l_rows_merged vs) S := by
  obtain ⟨bs, cs, m⟩ := g
  obtain ⟨rfl, h1, h2, h3, h4⟩ := h
  have h1 : 1 ≤ bs.length := h1
  have h2 : bs.length ≤ 100 := h2
  have h3 : cs.length ≤ 100 := h3
  have h4 : 0 ≤ m := h4
  have hne : bs ≠ [] := fun e => by subst e; exact absurd h1 (by decide)
  obtain ⟨b1, b2, b3⟩ := leastB_bounds bs
  have b3 := b3 hne
  obtain ⟨c1, c2, c3⟩ := leastB_bounds cs
  have sb : (rowS bs).length ≤ sizeLine := small_line (by rw [rowS_len]; exact Nat.le_trans h2 (by decide))
  have sc : (rowS cs).length ≤ sizeLine := small_line (by rw [rowS_len]; exact Nat.le_trans h3 (by decide))
  refine ⟨⟨H, []⟩, Own.base H, ?_⟩
  refine use_row bs rfl (by omega) ?_
  refine use_row cs rfl (by omega) ?_
  refine ⟨(bs, cs), fun H' o => ⟨rfl, h1, h2, h3⟩, fun H1 v H2 o q => ?_, fun _ _ _ _ _ q => q.elim⟩
  obtain ⟨p, rfl, p1, p2, p3⟩ := q
  refine ⟨_, o.new p1 p3 p2, ?_⟩
  refine ⟨sb, sc, rfl, rfl, ?_⟩
  refine use_merges bs.length (leastB bs) cs.length (leastB cs) false (by rw [rowS_len, rowS_len]; rfl) (by omega) (by omega) (by omega) (by omega) (by omega) ?_
  refine ⟨_, _, .inl (.inl ⟨0, rfl⟩), rfl, ?_⟩
  walk_at "b"
  · rename_i hb
    exact absurd rfl hb
  refine ⟨sb, sc, rfl, rfl, ?_⟩
  refine use_merges bs.length (leastB bs) cs.length (leastB cs) true (by rw [rowS_len, rowS_len]; rfl) (by omega) (by omega) (by omega) (by omega) (by omega) ?_
  refine ⟨_, _, .inl (.inl ⟨0, rfl⟩), rfl, ?_⟩
  walk_at "b"
  · rename_i hb
    exact absurd rfl hb
  refine ⟨sb, rfl, rfl, ?_⟩
  refine use_merges bs.length (leastB bs) 0 m true (by rw [rowS_len]; rfl) (by omega) (by omega) (by omega) (by omega) (by omega) ?_
  rw [mw_x0]
  walk_at "b"
  · rename_i hb
    exact absurd trivial hb
  refine ⟨sb, rfl, rfl, ?_⟩
  refine use_merges bs.length (leastB bs) 0 m false (by rw [rowS_len]; rfl) (by omega) (by omega) (by omega) (by omega) (by omega) ?_
  rw [mw_y0]
  walk_at "w"
  refine ⟨sb, ?_⟩
  rw [rowS_len]
  walk_at "b"
  · exact fun H' o' => ⟨rfl, fun a u e => o'.fr a u e⟩
  · rename_i hb
    refine ⟨sc, ?_⟩
    rw [rowS_len]
    walk_at "b"
    · exact fun H' o' => ⟨rfl, fun a u e => o'.fr a u e⟩
    · rename_i hc
      refine use_sum bs cs 0 false rfl rfl hne (by omega) (by omega) ?_
      refine ⟨_, _, .inl (.inl ⟨0, rfl⟩), rfl, ?_⟩
      walk_at "w"
      rw [dint]
      · refine use_sum bs cs 1 true rfl rfl hne (by omega) (by omega) ?_
        refine ⟨_, _, .inl (.inl ⟨0, rfl⟩), rfl, ?_⟩
        refine fun H' o' => ⟨?_, fun a u e => o'.fr a u e⟩
        exact congrArg V.bl (decide_eq_true rfl)
      · rfl
end
section
variable {K : PySem.W.Frag} {a : Ads}
theorem use_box {W : sWX} {σ : L2.St} {S : SH} {Q : V → SH → Prop} {vs : List V} (p : Addr) (ns : List Int) (k : Int) (hs : sL K S p (ns.map V.int)) (e : vs = [.ref p, .int k]) (h0 : 0 ≤ k) (h1 : k ≤ 100) (c : ∀ b u t, 0 ≤ u → 0 ≤ t → Q (.ref b) (S.new b (boxO u t))) : rC (ct_l_box K) W vs σ S Q :=
  ⟨(p, ns, k), fun H o => ⟨e, o.l hs, h0, h1⟩, fun H v H' o q => by
    obtain ⟨b, rfl, q1, ⟨u, t, q2, q3, q4⟩, q5⟩ := q
    exact ⟨_, o.new q1 q5 q2, c b u t q3 q4⟩, fun _ _ _ _ _ q => q.elim⟩
theorem own_after {S : SH} {H1 H2 : Hp} {i : Nat} {b p : Addr} {o o' o2 : HO} (w1 : Own S H1) (w2 : Own (S.put i b o) H2) (hi : S.G[i]? = some (b, o2)) (h1 : H1 p = none) (h2 : H2 p = some o') : Own ((S.put i b o).new p o') H2 :=
  have hF : S.F p = none := w1.f_none h1
  have hG : p ∉ (S.G.set i (b, o)).map (·.1) := fun z => by
    rw [set_fst hi] at z
    exact w1.g_none h1 z
  ⟨w2.fr, fun x hx => by
    cases hx with
    | head => exact ⟨h2, hF⟩
    | tail _ hx => exact w2.gs x hx, List.nodup_cons.mpr ⟨hG, w2.nd⟩⟩
theorem use_lrow {W : sWX} {σ : L2.St} {S : SH} {Q : V → SH → Prop} {vs : List V} (i : Nat) {b : Addr} {u t n w : Int} (hi : S.G[i]? = some (b, boxO u t)) (hu : 0 ≤ u) (ht : 0 ≤ t) (e : vs = [.ref b, .int n, .int w]) (hn : 0 ≤ n) (hn2 : n ≤ 100) (hw : 0 ≤ w) (hw2 : w < 5)
    (k : ∀ bs u' t', (bs.length : Int) = n → 0 ≤ u' → 0 ≤ t' → Q (.str (rowS bs)) (S.put i b (boxO u' t'))) : rC ct_l_row W vs σ S Q :=
  use_draw (n, w) i hi hu ht e (fun _ _ => ⟨hn, hn2, hw, hw2⟩) fun H v H' u' t' h1 h2 o o' ⟨bs, e, h3⟩ => ⟨_, o', by subst e; exact k bs u' t' h3 h1 h2⟩
theorem vc_law {vs : List V} {H : Hp} (g : Addr × List Int) (h : (ct_law K).pre g vs H) : ∃ S, Own S H ∧ r_law K a (endsC (ct_law K) g H) (start N_law vs) S := by
  obtain ⟨p, ns⟩ := g
  obtain ⟨rfl, hs⟩ := h
  have hsG : ∀ G, sL K ⟨H, G⟩ p (ns.map V.int) := fun G => .inr hs
  refine ⟨⟨H, []⟩, Own.base H, ?_⟩
  refine use_box p ns 0 (hsG _) (by rfl) (by decide) (by decide) fun b0 u t hu ht => ?_
  refine use_take (u := u) (t := t) (size := 9) 0 (by rfl) hu ht (by rfl) ⟨by decide, by decide⟩ fun r1 u t hr1 hr1b hu ht => ?_
  refine use_take (u := u) (t := t) (size := 10) 0 (by rfl) hu ht (by rfl) ⟨by decide, by decide⟩ fun r2 u t hr2 hr2b hu ht => ?_
  refine ⟨(by walk_at "z"), fun sz => ?_⟩
  refine ⟨fun σ S => ∃ (u t x y : Int) (sz : Addr), 0 ≤ u ∧ 0 ≤ t ∧ (1 ≤ x ∧ x ≤ 30 ∧ 0 ≤ y ∧ y ≤ 30) ∧ σ = [some (.ref p), some (.ref b0), some (.ref sz), none, none, none, none, none, none] ∧ S = ⟨H, [(sz, .lst [.int x, .int y]), (b0, boxO u t)]⟩, ?_, ?_⟩
  · refine use_take (u := u) (t := t) (size := 8) 1 (by rfl) hu ht (by rfl) ⟨by decide, by decide⟩ fun r3 u t hr3 hr3b hu ht => ?_
    walk_at "b"
    · refine use_take (u := u) (t := t) (size := 30) 1 (by rfl) hu ht (by rfl) ⟨by decide, by decide⟩ fun r5 u t hr5 hr5b hu ht => ?_
      refine use_take (u := u) (t := t) (size := 31) 1 (by rfl) hu ht (by rfl) ⟨by decide, by decide⟩ fun r6 u t hr6 hr6b hu ht => ?_
      refine ⟨(by walk_at "z"), fun sz' => ?_⟩
      exact ⟨_, sle_sub (.cons₂ _ (.cons _ (.refl _))), u, t, 1 + r5, r6, sz', hu, ht, ⟨by omega, by omega, hr6, by omega⟩, rfl, rfl⟩
    · exact ⟨_, SLe.refl _, u, t, 1 + r1, r2, sz, hu, ht, ⟨by omega, by omega, hr2, by omega⟩, rfl, rfl⟩
  · rintro σ S ⟨u, t, x, y, sz, hu, ht, ⟨hx1, hx2, hy1, hy2⟩, rfl, rfl⟩
    refine use_take (u := u) (t := t) (size := 5) 1 (by rfl) hu ht (by rfl) ⟨by decide, by decide⟩ fun w1 u t hw1 hw1b hu ht => ?_
    refine use_take (u := u) (t := t) (size := 5) 1 (by rfl) hu ht (by rfl) ⟨by decide, by decide⟩ fun w2 u t hw2 hw2b hu ht => ?_
    refine ⟨(by walk_at "z"), fun wy => ?_⟩
    refine use_box p ns 1 (hsG _) (by rfl) (by decide) (by decide) fun b1 u1 t1 hu1 ht1 => ?_
    refine ⟨_, _, .inl (.inl ⟨2, rfl⟩), rfl, ?_⟩
    refine ⟨_, _, .inl (.inl ⟨1, rfl⟩), rfl, ?_⟩
    refine use_lrow (u := u1) (t := t1) (n := x) (w := w1) 0 (by rfl) hu1 ht1 (by rfl) (by omega) (by omega) (by omega) (by omega) fun bs u1 t1 hbs hu1 ht1 => ?_
    refine use_box p ns 2 (hsG _) (by rfl) (by decide) (by decide) fun b2 u2 t2 hu2 ht2 => ?_
    refine ⟨_, _, .inl (.inl ⟨3, rfl⟩), rfl, ?_⟩
    refine ⟨_, _, .inl (.inl ⟨2, rfl⟩), rfl, ?_⟩
    refine use_lrow (u := u2) (t := t2) (n := y) (w := w2) 0 (by rfl) hu2 ht2 (by rfl) (by omega) (by omega) (by omega) (by omega) fun cs u2 t2 hcs hu2 ht2 => ?_
    refine use_take (u := u) (t := t) (size := 9) 4 (by rfl) hu ht (by rfl) ⟨by decide, by decide⟩ fun m u t hm hmb hu ht => ?_
    refine ⟨(bs, cs, m), fun H' o => ⟨rfl, by show 1 ≤ bs.length; omega, by show bs.length ≤ 100; omega, by show cs.length ≤ 100; omega, hm⟩, fun H1 v H2 o q => ⟨_, o.ex q.2, ?_⟩, fun _ _ _ _ _ q => q.elim⟩
    obtain ⟨rfl, _⟩ := q
    refine use_box p ns 3 (hsG _) (by rfl) (by decide) (by decide) fun b3 u3 t3 hu3 ht3 => ?_
    refine use_draw (u := u3) (t := t3) () 0 (by rfl) hu3 ht3 (by rfl) (fun _ _ => trivial) fun H1 v H2 u3 t3 hu3 ht3 o1 o2 q => ?_
    obtain ⟨pn, nums, rfl, q1, q2, hok⟩ := q
    refine ⟨_, own_after o1 o2 (by rfl) q1 q2, ?_⟩
    refine ⟨(by walk_at "z"), fun tp => ?_⟩
    refine .inr ⟨[.bl false, .bl true], .inl ⟨0, rfl⟩, ?_⟩
    refine ⟨fun i σ S => ∃ x7 x8, σ = [some (.ref p), some (.ref b0), some (.ref sz), some (.ref wy), some (.str (rowS bs)), some (.str (rowS cs)), some (.ref pn), x7, x8] ∧ S = ⟨H, [(tp, .tup [.bl false, .bl true]), (pn, .lst nums.vs), (b3, boxO u3 t3), (b2, boxO u2 t2), (b1, boxO u1 t1), (wy, .lst [.int w1, .int w2]), (sz, .lst [.int x, .int y]), (b0, boxO u t)]⟩, ⟨none, none, rfl, rfl⟩, ?_, ?_, ?_⟩
    · rintro i σ S hi ⟨x7, x8, rfl, rfl⟩
      exact .inl ⟨0, rfl⟩
    · rintro i σ S hi ⟨x7, x8, rfl, rfl⟩ v hv
      obtain ⟨s, rfl⟩ : ∃ s, v = .bl s := by
        have hi : i < 2 := hi
        have : i = 0 ∨ i = 1 := by omega
        rcases this with rfl | rfl
        · cases hv
          exact ⟨_, rfl⟩
        · cases hv
          exact ⟨_, rfl⟩
      obtain ⟨k1, k2, k3, k4, k5, k6, k7, k8⟩ := hok
      refine ⟨_, _, .inl (.inl ⟨1, rfl⟩), rfl, ?_⟩
      refine ⟨_, _, .inl (.inl ⟨1, rfl⟩), rfl, ?_⟩
      refine ⟨_, _, .inl (.inl ⟨1, rfl⟩), rfl, ?_⟩
      refine ⟨_, _, .inl (.inl ⟨1, rfl⟩), rfl, ?_⟩
      refine ⟨rfl, rfl, ?_⟩
      refine use_merges nums.n nums.q nums.n' nums.q' s (by rfl) k1 k3 k5 k7 (by omega) ?_
      refine ⟨(pn, nums, s), fun H' o => ⟨rfl, o.l (.inl ⟨1, rfl⟩), k1, k2, k3, k4, k5, k6, k7, k8⟩, fun H1 v H2 o q => ⟨_, o.ex q.2, ?_⟩, fun _ _ _ _ _ q => q.elim⟩
      obtain ⟨rfl, _⟩ := q
      walk_at "b"
      · rename_i hb
        exact absurd trivial hb
      · exact ⟨_, SLe.refl _, _, _, rfl, rfl⟩
    · rintro σ S ⟨x7, x8, rfl, rfl⟩
      refine use_box p ns 4 (hsG _) (by rfl) (by decide) (by decide) fun b4 u4 t4 hu4 ht4 => ?_
      refine use_draw (u := u4) (t := t4) (pn, nums) 0 (by rfl) hu4 ht4 (by rfl) (fun H' o => ⟨o.g (i := 2) rfl, hok⟩) fun H1 v H2 u4 t4 hu4 ht4 o1 o2 q => ⟨_, o2, ?_⟩
      exact fun H' o' => q
end
/-! ### each def keeps its promise -/
theorem sp_some {f : List V → Option Ot} {vs : List V} {H : Hp} {Q : VK} {E : XK} (h : spV f vs H Q E) : ∃ o, f vs = some o := by
  unfold spV at h
  split at h
  · exact ⟨_, by assumption⟩
  · exact ⟨_, by assumption⟩
  · exact h.elim
section
variable {P : Program} {w : World} {K : PySem.W.Frag} {mg : Str → Option Value} {base : Heap} {a : Ads}
theorem ok_is_integer (G : Env P w K mg base a)  {f : Addr} {fd : FuncData} (F : Fun K "is_integer" "is_integer" s_is_integer f fd) : FnOk P w K mg base (L2.CX P w) l_is_integer f fd ["value"] (p_is_integer K a) := by
  refine F.okX (k := l_is_integer - 1) sc_is_integer (fun vs H Q E h => ?_) fun cdv A outer s H vs Q E hr h => ⟨_, d_is_integer G  hr, ?_⟩
  · obtain ⟨g, hg, _⟩ := h
    have e := hg.1
    subst e
    rfl
  · exact body_C h fun g hg => vc_is_integer g hg
theorem ok_checked_number (G : Env P w K mg base a) (T_is_integer : DefC P w K mg base "is_integer" ["value"] l_is_integer [] (p_is_integer K a)) {f : Addr} {fd : FuncData} (F : FunD K "checked_number" "checked_number" (defArgs s_checked_number) (defBody s_checked_number) (defScope s_checked_number) [.non] [] f fd) : FnOk P w K mg base (L2.CX P w) l_checked_number f fd ["number", "least", "most"] (p_checked_number K a) := by
  refine F.ok (k := l_checked_number - 1) sc_checked_number (fun vs H Q E h => ?_) fun cdv A outer s H vs Q E hr h => ⟨_, d_checked_number G T_is_integer hr, ?_⟩
  · obtain ⟨g, hg, _⟩ := h
    have e := hg.1
    subst e
    rfl
  · exact body_C h fun g hg => vc_checked_number g hg
theorem ok_choose (G : Env P w K mg base a)  {f : Addr} {fd : FuncData} (F : Fun K "choose" "choose" s_choose f fd) : FnOk P w K mg base (L2.CX P w) l_choose f fd ["total", "part"] (p_choose K a) := by
  refine F.okX (k := l_choose - 1) sc_choose (fun vs H Q E h => ?_) fun cdv A outer s H vs Q E hr h => ⟨_, d_choose G  hr, ?_⟩
  · obtain ⟨o, ho⟩ := sp_some h
    unfold f_choose at ho
    split at ho <;> first | rfl | cases ho
  · exact body_V h fun o ho => vc_choose o ho
theorem ok_check_row (G : Env P w K mg base a)  {f : Addr} {fd : FuncData} (F : Fun K "_check_row" "_check_row" s_check_row f fd) : FnOk P w K mg base (L2.CX P w) l_check_row f fd ["row"] (p_check_row K a) := by
  refine F.okX (k := l_check_row - 1) sc_check_row (fun vs H Q E h => ?_) fun cdv A outer s H vs Q E hr h => ⟨_, d_check_row G  hr, ?_⟩
  · obtain ⟨g, hg, _⟩ := h
    have e := hg.1
    subst e
    rfl
  · exact body_C h fun g hg => vc_check_row g hg
theorem ok_least (G : Env P w K mg base a)  {f : Addr} {fd : FuncData} (F : Fun K "_least" "_least" s_least f fd) : FnOk P w K mg base (L2.CX P w) l_least f fd ["row"] (p_least K a) := by
  refine F.okX (k := l_least - 1) sc_least (fun vs H Q E h => ?_) fun cdv A outer s H vs Q E hr h => ⟨_, d_least G  hr, ?_⟩
  · obtain ⟨g, hg, _⟩ := h
    have e := hg.1
    subst e
    rfl
  · exact body_C h fun g hg => vc_least g hg
theorem ok_cut_count (G : Env P w K mg base a) (T_check_row : DefC P w K mg base "_check_row" ["row"] l_check_row [] (p_check_row K a)) (T_least : DefC P w K mg base "_least" ["row"] l_least [] (p_least K a)) (T_checked_number_d1 : DefC P w K mg base "checked_number" ["number", "least", "most"] l_checked_number [.non] (p_checked_number K a)) (T_choose : DefC P w K mg base "choose" ["total", "part"] l_choose [] (p_choose K a)) {f : Addr} {fd : FuncData} (F : Fun K "cut_count" "cut_count" s_cut_count f fd) : FnOk P w K mg base (L2.CX P w) l_cut_count f fd ["row", "blocks"] (p_cut_count K a) := by
  refine F.okX (k := l_cut_count - 1) sc_cut_count (fun vs H Q E h => ?_) fun cdv A outer s H vs Q E hr h => ⟨_, d_cut_count G T_check_row T_least T_checked_number_d1 T_choose hr, ?_⟩
  · obtain ⟨g, hg, _⟩ := h
    have e := hg.1
    subst e
    rfl
  · exact body_C h fun g hg => vc_cut_count g hg
theorem ok_merge_ways (G : Env P w K mg base a) (T_choose : DefC P w K mg base "choose" ["total", "part"] l_choose [] (p_choose K a)) {f : Addr} {fd : FuncData} (F : Fun K "merge_ways" "merge_ways" s_merge_ways f fd) : FnOk P w K mg base (L2.CX P w) l_merge_ways f fd ["length", "least", "other_length", "other_least", "same"] (p_merge_ways K a) := by
  refine F.okX (k := l_merge_ways - 1) sc_merge_ways (fun vs H Q E h => ?_) fun cdv A outer s H vs Q E hr h => ⟨_, d_merge_ways G T_choose hr, ?_⟩
  · obtain ⟨o, ho⟩ := sp_some h
    unfold f_merge_ways at ho
    split at ho <;> first | rfl | cases ho
  · exact body_V h fun o ho => vc_merge_ways o ho
theorem ok_merges (G : Env P w K mg base a) (T_checked_number_d1 : DefC P w K mg base "checked_number" ["number", "least", "most"] l_checked_number [.non] (p_checked_number K a)) (T_merge_ways : DefC P w K mg base "merge_ways" ["length", "least", "other_length", "other_least", "same"] l_merge_ways [] (p_merge_ways K a)) {f : Addr} {fd : FuncData} (F : Fun K "merges" "merges" s_merges f fd) : FnOk P w K mg base (L2.CX P w) l_merges f fd ["length", "least", "other_length", "other_least", "same"] (p_merges K a) := by
  refine F.okX (k := l_merges - 1) sc_merges (fun vs H Q E h => ?_) fun cdv A outer s H vs Q E hr h => ⟨_, d_merges G T_checked_number_d1 T_merge_ways hr, ?_⟩
  · obtain ⟨g, hg, _⟩ := h
    have e := hg.1
    subst e
    rfl
  · exact body_C h fun g hg => vc_merges g hg
theorem ok_l_cell (G : Env P w K mg base a)  {f : Addr} {fd : FuncData} (F : Fun K "_law_cell" "_law_cell" s_l_cell f fd) : FnOk P w K mg base (L2.CX P w) l_l_cell f fd ["_law_script", "_law_k"] (p_l_cell K a) := by
  refine F.okX (k := l_l_cell - 1) sc_l_cell (fun vs H Q E h => ?_) fun cdv A outer s H vs Q E hr h => ⟨_, d_l_cell G  hr, ?_⟩
  · obtain ⟨g, hg, _⟩ := h
    have e := hg.1
    subst e
    rfl
  · exact body_C h fun g hg => vc_l_cell g hg
theorem ok_l_box (G : Env P w K mg base a) (T_l_cell : DefC P w K mg base "_law_cell" ["_law_script", "_law_k"] l_l_cell [] (p_l_cell K a)) {f : Addr} {fd : FuncData} (F : Fun K "_law_box" "_law_box" s_l_box f fd) : FnOk P w K mg base (L2.CX P w) l_l_box f fd ["_law_script", "_law_k"] (p_l_box K a) := by
  refine F.okX (k := l_l_box - 1) sc_l_box (fun vs H Q E h => ?_) fun cdv A outer s H vs Q E hr h => ⟨_, d_l_box G T_l_cell hr, ?_⟩
  · obtain ⟨g, hg, _⟩ := h
    have e := hg.1
    subst e
    rfl
  · exact body_C h fun g hg => vc_l_box g hg
theorem ok_l_take (G : Env P w K mg base a)  {f : Addr} {fd : FuncData} (F : Fun K "_law_take" "_law_take" s_l_take f fd) : FnOk P w K mg base (L2.CX P w) l_l_take f fd ["_law_box_here", "_law_size"] (p_l_take K a) := by
  refine F.okX (k := l_l_take - 1) sc_l_take (fun vs H Q E h => ?_) fun cdv A outer s H vs Q E hr h => ⟨_, d_l_take G  hr, ?_⟩
  · obtain ⟨g, hg, _⟩ := h
    have e := hg.1
    subst e
    rfl
  · exact body_C h fun g hg => vc_l_take g hg
theorem ok_l_row (G : Env P w K mg base a) (T_l_take : DefC P w K mg base "_law_take" ["_law_box_here", "_law_size"] l_l_take [] (p_l_take K a)) {f : Addr} {fd : FuncData} (F : Fun K "_law_row" "_law_row" s_l_row f fd) : FnOk P w K mg base (L2.CX P w) l_l_row f fd ["_law_box_here", "_law_letters", "_law_way"] (p_l_row K a) := by
  refine F.okX (k := l_l_row - 1) sc_l_row (fun vs H Q E h => ?_) fun cdv A outer s H vs Q E hr h => ⟨_, d_l_row G T_l_take hr, ?_⟩
  · obtain ⟨g, hg, _⟩ := h
    have e := hg.1
    subst e
    rfl
  · exact body_C h fun g hg => vc_l_row g hg
theorem ok_l_least (G : Env P w K mg base a)  {f : Addr} {fd : FuncData} (F : Fun K "_law_least" "_law_least" s_l_least f fd) : FnOk P w K mg base (L2.CX P w) l_l_least f fd ["_law_row_here"] (p_l_least K a) := by
  refine F.okX (k := l_l_least - 1) sc_l_least (fun vs H Q E h => ?_) fun cdv A outer s H vs Q E hr h => ⟨_, d_l_least G  hr, ?_⟩
  · obtain ⟨g, hg, _⟩ := h
    have e := hg.1
    subst e
    rfl
  · exact body_C h fun g hg => vc_l_least g hg
theorem ok_l_talks (G : Env P w K mg base a)  {f : Addr} {fd : FuncData} (F : Fun K "_law_talks" "_law_talks" s_l_talks f fd) : FnOk P w K mg base (L2.CX P w) l_l_talks f fd ["_law_one", "_law_other"] (p_l_talks K a) := by
  refine F.okX (k := l_l_talks - 1) sc_l_talks (fun vs H Q E h => ?_) fun cdv A outer s H vs Q E hr h => ⟨_, d_l_talks G  hr, ?_⟩
  · obtain ⟨g, hg, _⟩ := h
    have e := hg.1
    subst e
    rfl
  · exact body_C h fun g hg => vc_l_talks g hg
theorem ok_l_choose (G : Env P w K mg base a)  {f : Addr} {fd : FuncData} (F : Fun K "_law_choose" "_law_choose" s_l_choose f fd) : FnOk P w K mg base (L2.CX P w) l_l_choose f fd ["_law_total", "_law_part"] (p_l_choose K a) := by
  refine F.okX (k := l_l_choose - 1) sc_l_choose (fun vs H Q E h => ?_) fun cdv A outer s H vs Q E hr h => ⟨_, d_l_choose G  hr, ?_⟩
  · obtain ⟨o, ho⟩ := sp_some h
    unfold f_choose at ho
    split at ho <;> first | rfl | cases ho
  · exact body_V h fun o ho => vc_l_choose o ho
theorem ok_l_formula (G : Env P w K mg base a) (T_l_choose : DefC P w K mg base "_law_choose" ["_law_total", "_law_part"] l_l_choose [] (p_l_choose K a)) {f : Addr} {fd : FuncData} (F : Fun K "_law_formula" "_law_formula" s_l_formula f fd) : FnOk P w K mg base (L2.CX P w) l_l_formula f fd ["_law_numbers", "_law_on_x"] (p_l_formula K a) := by
  refine F.okX (k := l_l_formula - 1) sc_l_formula (fun vs H Q E h => ?_) fun cdv A outer s H vs Q E hr h => ⟨_, d_l_formula G T_l_choose hr, ?_⟩
  · obtain ⟨g, hg, _⟩ := h
    have e := hg.1
    subst e
    rfl
  · exact body_C h fun g hg => vc_l_formula g hg
theorem ok_l_is_number (G : Env P w K mg base a)  {f : Addr} {fd : FuncData} (F : Fun K "_law_is_number" "_law_is_number" s_l_is_number f fd) : FnOk P w K mg base (L2.CX P w) l_l_is_number f fd ["_law_actual", "_law_due"] (p_l_is_number K a) := by
  refine F.okX (k := l_l_is_number - 1) sc_l_is_number (fun vs H Q E h => ?_) fun cdv A outer s H vs Q E hr h => ⟨_, d_l_is_number G  hr, ?_⟩
  · obtain ⟨o, ho⟩ := sp_some h
    unfold f_l_is_number at ho
    split at ho <;> first | rfl | cases ho
  · exact body_V h fun o ho => vc_l_is_number o ho
theorem ok_l_sum (G : Env P w K mg base a) (T_cut_count : DefC P w K mg base "cut_count" ["row", "blocks"] l_cut_count [] (p_cut_count K a)) {f : Addr} {fd : FuncData} (F : Fun K "_law_sum" "_law_sum" s_l_sum f fd) : FnOk P w K mg base (L2.CX P w) l_l_sum f fd ["_law_one", "_law_other", "_law_more"] (p_l_sum K a) := by
  refine F.okX (k := l_l_sum - 1) sc_l_sum (fun vs H Q E h => ?_) fun cdv A outer s H vs Q E hr h => ⟨_, d_l_sum G T_cut_count hr, ?_⟩
  · obtain ⟨g, hg, _⟩ := h
    have e := hg.1
    subst e
    rfl
  · exact body_C h fun g hg => vc_l_sum g hg
theorem ok_l_rows_merged (G : Env P w K mg base a) (T_l_is_number : DefC P w K mg base "_law_is_number" ["_law_actual", "_law_due"] l_l_is_number [] (p_l_is_number K a)) (T_l_least : DefC P w K mg base "_law_least" ["_law_row_here"] l_l_least [] (p_l_least K a)) (T_l_sum : DefC P w K mg base "_law_sum" ["_law_one", "_law_other", "_law_more"] l_l_sum [] (p_l_sum K a)) (T_l_talks : DefC P w K mg base "_law_talks" ["_law_one", "_law_other"] l_l_talks [] (p_l_talks K a)) (T_merges_same : DefN P w K mg base "merges" ["length", "least", "other_length", "other_least", "same"] l_merges 4 ["same"] k_merges_same (p_merges K a)) {f : Addr} {fd : FuncData} (F : Fun K "_law_rows_merged" "_law_rows_merged" s_l_rows_merged f fd) : FnOk P w K mg base (L2.CX P w) l_l_rows_merged f fd ["_law_one", "_law_other", "_law_any_least"] (p_l_rows_merged K a) := by
  refine F.okX (k := l_l_rows_merged - 1) sc_l_rows_merged (fun vs H Q E h => ?_) fun cdv A outer s H vs Q E hr h => ⟨_, d_l_rows_merged G T_l_is_number T_l_least T_l_sum T_l_talks T_merges_same hr, ?_⟩
  · obtain ⟨g, hg, _⟩ := h
    have e := hg.1
    subst e
    rfl
  · exact body_C h fun g hg => vc_l_rows_merged g hg
theorem ok_l_any_numbers (G : Env P w K mg base a) (T_l_take : DefC P w K mg base "_law_take" ["_law_box_here", "_law_size"] l_l_take [] (p_l_take K a)) {f : Addr} {fd : FuncData} (F : Fun K "_law_any_numbers" "_law_any_numbers" s_l_any_numbers f fd) : FnOk P w K mg base (L2.CX P w) l_l_any_numbers f fd ["_law_box_here"] (p_l_any_numbers K a) := by
  refine F.okX (k := l_l_any_numbers - 1) sc_l_any_numbers (fun vs H Q E h => ?_) fun cdv A outer s H vs Q E hr h => ⟨_, d_l_any_numbers G T_l_take hr, ?_⟩
  · obtain ⟨g, hg, _⟩ := h
    have e := hg.1
    subst e
    rfl
  · exact body_C h fun g hg => vc_l_any_numbers g hg
theorem ok_l_wrong_number (G : Env P w K mg base a) (T_l_take : DefC P w K mg base "_law_take" ["_law_box_here", "_law_size"] l_l_take [] (p_l_take K a)) {f : Addr} {fd : FuncData} (F : Fun K "_law_wrong_number" "_law_wrong_number" s_l_wrong_number f fd) : FnOk P w K mg base (L2.CX P w) l_l_wrong_number f fd ["_law_box_here", "_law_place"] (p_l_wrong_number K a) := by
  refine F.okX (k := l_l_wrong_number - 1) sc_l_wrong_number (fun vs H Q E h => ?_) fun cdv A outer s H vs Q E hr h => ⟨_, d_l_wrong_number G T_l_take hr, ?_⟩
  · obtain ⟨g, hg, _⟩ := h
    have e := hg.1
    subst e
    rfl
  · exact body_C h fun g hg => vc_l_wrong_number g hg
theorem ok_l_refusal (G : Env P w K mg base a) (T : Kit K a) (T_merges_same : DefN P w K mg base "merges" ["length", "least", "other_length", "other_least", "same"] l_merges 4 ["same"] k_merges_same (p_merges K a)) {f : Addr} {fd : FuncData} (F : Fun K "_law_refusal" "_law_refusal" s_l_refusal f fd) : FnOk P w K mg base (L2.CX P w) l_l_refusal f fd ["_law_numbers", "_law_on_x"] (p_l_refusal K a) := by
  refine F.okX (k := l_l_refusal - 1) sc_l_refusal (fun vs H Q E h => ?_) fun cdv A outer s H vs Q E hr h => ⟨_, d_l_refusal G T_merges_same hr, ?_⟩
  · obtain ⟨g, hg, _⟩ := h
    have e := hg.1
    subst e
    rfl
  · exact body_C h fun g hg => vc_l_refusal T g hg
theorem ok_l_same (G : Env P w K mg base a)  {f : Addr} {fd : FuncData} (F : Fun K "_law_same" "_law_same" s_l_same f fd) : FnOk P w K mg base (L2.CX P w) l_l_same f fd ["_law_actual", "_law_due"] (p_l_same K a) := by
  refine F.okX (k := l_l_same - 1) sc_l_same (fun vs H Q E h => ?_) fun cdv A outer s H vs Q E hr h => ⟨_, d_l_same G  hr, ?_⟩
  · obtain ⟨g, hg, _⟩ := h
    have e := hg.1
    subst e
    rfl
  · exact body_C h fun g hg => vc_l_same g hg
theorem ok_l_refused (G : Env P w K mg base a) (T : Kit K a) (T_l_refusal : DefC P w K mg base "_law_refusal" ["_law_numbers", "_law_on_x"] l_l_refusal [] (p_l_refusal K a)) (T_l_same : DefC P w K mg base "_law_same" ["_law_actual", "_law_due"] l_l_same [] (p_l_same K a)) (T_l_take : DefC P w K mg base "_law_take" ["_law_box_here", "_law_size"] l_l_take [] (p_l_take K a)) (T_l_wrong_number : DefC P w K mg base "_law_wrong_number" ["_law_box_here", "_law_place"] l_l_wrong_number [] (p_l_wrong_number K a)) {f : Addr} {fd : FuncData} (F : Fun K "_law_refused" "_law_refused" s_l_refused f fd) : FnOk P w K mg base (L2.CX P w) l_l_refused f fd ["_law_box_here", "_law_numbers"] (p_l_refused K a) := by
  refine F.okX (k := l_l_refused - 1) sc_l_refused (fun vs H Q E h => ?_) fun cdv A outer s H vs Q E hr h => ⟨_, d_l_refused G T_l_refusal T_l_same T_l_take T_l_wrong_number hr, ?_⟩
  · obtain ⟨g, hg, _⟩ := h
    have e := hg.1
    subst e
    rfl
  · exact body_C h fun g hg => vc_l_refused T g hg
theorem ok_law (G : Env P w K mg base a) (T_l_any_numbers : DefC P w K mg base "_law_any_numbers" ["_law_box_here"] l_l_any_numbers [] (p_l_any_numbers K a)) (T_l_box : DefC P w K mg base "_law_box" ["_law_script", "_law_k"] l_l_box [] (p_l_box K a)) (T_l_formula : DefC P w K mg base "_law_formula" ["_law_numbers", "_law_on_x"] l_l_formula [] (p_l_formula K a)) (T_l_is_number : DefC P w K mg base "_law_is_number" ["_law_actual", "_law_due"] l_l_is_number [] (p_l_is_number K a)) (T_l_refused : DefC P w K mg base "_law_refused" ["_law_box_here", "_law_numbers"] l_l_refused [] (p_l_refused K a)) (T_l_row : DefC P w K mg base "_law_row" ["_law_box_here", "_law_letters", "_law_way"] l_l_row [] (p_l_row K a)) (T_l_rows_merged : DefC P w K mg base "_law_rows_merged" ["_law_one", "_law_other", "_law_any_least"] l_l_rows_merged [] (p_l_rows_merged K a)) (T_l_take : DefC P w K mg base "_law_take" ["_law_box_here", "_law_size"] l_l_take [] (p_l_take K a)) (T_merges_same : DefN P w K mg base "merges" ["length", "least", "other_length", "other_least", "same"] l_merges 4 ["same"] k_merges_same (p_merges K a)) {f : Addr} {fd : FuncData} (F : Fun K "law" "law" s_law f fd) : FnOk P w K mg base (L2.CX P w) l_law f fd ["_law_script"] (p_law K a) := by
  refine F.okX (k := l_law - 1) sc_law (fun vs H Q E h => ?_) fun cdv A outer s H vs Q E hr h => ⟨_, d_law G T_l_any_numbers T_l_box T_l_formula T_l_is_number T_l_refused T_l_row T_l_rows_merged T_l_take T_merges_same hr, ?_⟩
  · obtain ⟨g, hg, _⟩ := h
    have e := hg.1
    subst e
    rfl
  · exact body_C h fun g hg => vc_law g hg
end
/-! ### what the top has written -/
theorem all_mk {l : PySem.W.OpenLaw} {w : World} {K : PySem.W.Frag} {h : Heap} {mg : Str → Option Value} {fa : Addr} {c0 c1 c2 c3 c4 c5 c6 c7 c8 : Addr}
    {f0 : Addr} {od0 an0 : Option Addr} {sl0 : Array (Option Value)} {oc0 kV0 dc0 pm0 cd0 ct0 : Value}
    {t1 tn1 : Nat} {tc1 : Value} {td1 : Option Addr} {ts1 : Array (Option Value)}
    {f1 : Addr} {od1 an1 : Option Addr} {sl1 : Array (Option Value)} {oc1 kV1 dc1 pm1 cd1 ct1 : Value}
    {f2 : Addr} {od2 an2 : Option Addr} {sl2 : Array (Option Value)} {oc2 kV2 dc2 pm2 cd2 ct2 : Value}
    {f3 : Addr} {od3 an3 : Option Addr} {sl3 : Array (Option Value)} {oc3 kV3 dc3 pm3 cd3 ct3 : Value}
    {f4 : Addr} {od4 an4 : Option Addr} {sl4 : Array (Option Value)} {oc4 kV4 dc4 pm4 cd4 ct4 : Value}
    {f5 : Addr} {od5 an5 : Option Addr} {sl5 : Array (Option Value)} {oc5 kV5 dc5 pm5 cd5 ct5 : Value}
    {f6 : Addr} {od6 an6 : Option Addr} {sl6 : Array (Option Value)} {oc6 kV6 dc6 pm6 cd6 ct6 : Value}
    {f7 : Addr} {od7 an7 : Option Addr} {sl7 : Array (Option Value)} {oc7 kV7 dc7 pm7 cd7 ct7 : Value}
    {f8 : Addr} {od8 an8 : Option Addr} {sl8 : Array (Option Value)} {oc8 kV8 dc8 pm8 cd8 ct8 : Value}
    {f9 : Addr} {od9 an9 : Option Addr} {sl9 : Array (Option Value)} {oc9 kV9 dc9 pm9 cd9 ct9 : Value}
    {f10 : Addr} {od10 an10 : Option Addr} {sl10 : Array (Option Value)} {oc10 kV10 dc10 pm10 cd10 ct10 : Value}
    {f11 : Addr} {od11 an11 : Option Addr} {sl11 : Array (Option Value)} {oc11 kV11 dc11 pm11 cd11 ct11 : Value}
    {f12 : Addr} {od12 an12 : Option Addr} {sl12 : Array (Option Value)} {oc12 kV12 dc12 pm12 cd12 ct12 : Value}
    {f13 : Addr} {od13 an13 : Option Addr} {sl13 : Array (Option Value)} {oc13 kV13 dc13 pm13 cd13 ct13 : Value}
    {f14 : Addr} {od14 an14 : Option Addr} {sl14 : Array (Option Value)} {oc14 kV14 dc14 pm14 cd14 ct14 : Value}
    {f15 : Addr} {od15 an15 : Option Addr} {sl15 : Array (Option Value)} {oc15 kV15 dc15 pm15 cd15 ct15 : Value}
    {f16 : Addr} {od16 an16 : Option Addr} {sl16 : Array (Option Value)} {oc16 kV16 dc16 pm16 cd16 ct16 : Value}
    {f17 : Addr} {od17 an17 : Option Addr} {sl17 : Array (Option Value)} {oc17 kV17 dc17 pm17 cd17 ct17 : Value}
    {f18 : Addr} {od18 an18 : Option Addr} {sl18 : Array (Option Value)} {oc18 kV18 dc18 pm18 cd18 ct18 : Value}
    {f19 : Addr} {od19 an19 : Option Addr} {sl19 : Array (Option Value)} {oc19 kV19 dc19 pm19 cd19 ct19 : Value}
    {f20 : Addr} {od20 an20 : Option Addr} {sl20 : Array (Option Value)} {oc20 kV20 dc20 pm20 cd20 ct20 : Value}
    {f21 : Addr} {od21 an21 : Option Addr} {sl21 : Array (Option Value)} {oc21 kV21 dc21 pm21 cd21 ct21 : Value}
    {f22 : Addr} {od22 an22 : Option Addr} {sl22 : Array (Option Value)} {oc22 kV22 dc22 pm22 cd22 ct22 : Value}
    {f23 : Addr} {od23 an23 : Option Addr} {sl23 : Array (Option Value)} {oc23 kV23 dc23 pm23 cd23 ct23 : Value}
    {f24 : Addr} {od24 an24 : Option Addr} {sl24 : Array (Option Value)} {oc24 kV24 dc24 pm24 cd24 ct24 : Value}
    {nm_c5 qn_c5 : Str} {N_c5 : Addr} {bs_c5 bm_c5 sub_c5 : List Value} {sn_c5 : List Str} {ab_c5 : Bool} {col_c5 : Option Bool} {dd_c5 : Option Addr} {k0_c5 k1_c5 k2_c5 k3_c5 k5_c5 : Option Value}
    {fic5 : Addr} {odc5 anc5 : Option Addr} {slc5 : Array (Option Value)} {occ5 kVc5 dcc5 pmc5 cdc5 ctc5 : Value}
    {nm_c4 qn_c4 : Str} {N_c4 : Addr} {bs_c4 bm_c4 sub_c4 : List Value} {sn_c4 : List Str} {ab_c4 : Bool} {col_c4 : Option Bool} {dd_c4 : Option Addr} {k0_c4 k1_c4 k2_c4 k3_c4 k5_c4 : Option Value}
    {fic4 : Addr} {odc4 anc4 : Option Addr} {slc4 : Array (Option Value)} {occ4 kVc4 dcc4 pmc4 cdc4 ctc4 : Value}
    (X : K.In h) (G : h.Ns mainGlobals mg) (hfa : mg "law" = some (.ref fa))
    (ac0 : PySem.W.nsIn K mainGlobals "CacheError" = some (some (.ref c0)))
    (ac1 : PySem.W.nsIn K mainGlobals "InvalidFlags" = some (some (.ref c1)))
    (ac2 : PySem.W.nsIn K mainGlobals "InvalidSlot" = some (some (.ref c2)))
    (ac3 : PySem.W.nsIn K mainGlobals "InvalidLine" = some (some (.ref c3)))
    (ac4 : PySem.W.nsIn K mainGlobals "InvalidRow" = some (some (.ref c4)))
    (ac5 : PySem.W.nsIn K mainGlobals "InvalidNumber" = some (some (.ref c5)))
    (ac6 : PySem.W.nsIn K mainGlobals "InvalidText" = some (some (.ref c6)))
    (ac7 : PySem.W.nsIn K mainGlobals "TooMany" = some (some (.ref c7)))
    (ac8 : PySem.W.nsIn K mainGlobals "Refused" = some (some (.ref c8)))
    (z_ValueError : PySem.W.nsIn K mainGlobals "ValueError" = some none)
    (z_abs : PySem.W.nsIn K mainGlobals "abs" = some none)
    (z_bool : PySem.W.nsIn K mainGlobals "bool" = some none)
    (z_int : PySem.W.nsIn K mainGlobals "int" = some none)
    (z_isinstance : PySem.W.nsIn K mainGlobals "isinstance" = some none)
    (z_len : PySem.W.nsIn K mainGlobals "len" = some none)
    (z_list : PySem.W.nsIn K mainGlobals "list" = some none)
    (z_range : PySem.W.nsIn K mainGlobals "range" = some none)
    (z_str : PySem.W.nsIn K mainGlobals "str" = some none)
    (z_sum : PySem.W.nsIn K mainGlobals "sum" = some none)
    (y_comb : PySem.W.nsIn K mainGlobals "comb" = some (some (.builtin "math.comb")))
    (at0 : PySem.W.nsIn K mainGlobals "is_integer" = some (some (.ref f0)))
    (l0 : K.lookup f0 = some ⟨oc0, od0, .func (PySem.W.fnOf "is_integer" "is_integer" (defArgs s_is_integer) (defBody s_is_integer) (defScope s_is_integer) .none kV0 dc0 pm0 an0 cd0 ct0), sl0⟩)
    (co0 : PySem.W.codeIn K cd0 "is_integer" = true)
    (kp0 : PySem.W.keepIn K (.ref f0) = true)
    (at1 : PySem.W.nsIn K mainGlobals "checked_number" = some (some (.ref f1)))
    (l1 : K.lookup f1 = some ⟨oc1, od1, .func (PySem.W.fnOf "checked_number" "checked_number" (defArgs s_checked_number) (defBody s_checked_number) (defScope s_checked_number) (.ref t1) kV1 dc1 pm1 an1 cd1 ct1), sl1⟩)
    (co1 : PySem.W.codeIn K cd1 "checked_number" = true)
    (kp1 : PySem.W.keepIn K (.ref f1) = true)
    (lt1 : K.lookup t1 = some ⟨tc1, td1, .seq #[.none] tn1, ts1⟩)
    (at2 : PySem.W.nsIn K mainGlobals "choose" = some (some (.ref f2)))
    (l2 : K.lookup f2 = some ⟨oc2, od2, .func (PySem.W.fnOf "choose" "choose" (defArgs s_choose) (defBody s_choose) (defScope s_choose) .none kV2 dc2 pm2 an2 cd2 ct2), sl2⟩)
    (co2 : PySem.W.codeIn K cd2 "choose" = true)
    (kp2 : PySem.W.keepIn K (.ref f2) = true)
    (at3 : PySem.W.nsIn K mainGlobals "_check_row" = some (some (.ref f3)))
    (l3 : K.lookup f3 = some ⟨oc3, od3, .func (PySem.W.fnOf "_check_row" "_check_row" (defArgs s_check_row) (defBody s_check_row) (defScope s_check_row) .none kV3 dc3 pm3 an3 cd3 ct3), sl3⟩)
    (co3 : PySem.W.codeIn K cd3 "_check_row" = true)
    (kp3 : PySem.W.keepIn K (.ref f3) = true)
    (at4 : PySem.W.nsIn K mainGlobals "_least" = some (some (.ref f4)))
    (l4 : K.lookup f4 = some ⟨oc4, od4, .func (PySem.W.fnOf "_least" "_least" (defArgs s_least) (defBody s_least) (defScope s_least) .none kV4 dc4 pm4 an4 cd4 ct4), sl4⟩)
    (co4 : PySem.W.codeIn K cd4 "_least" = true)
    (kp4 : PySem.W.keepIn K (.ref f4) = true)
    (at5 : PySem.W.nsIn K mainGlobals "cut_count" = some (some (.ref f5)))
    (l5 : K.lookup f5 = some ⟨oc5, od5, .func (PySem.W.fnOf "cut_count" "cut_count" (defArgs s_cut_count) (defBody s_cut_count) (defScope s_cut_count) .none kV5 dc5 pm5 an5 cd5 ct5), sl5⟩)
    (co5 : PySem.W.codeIn K cd5 "cut_count" = true)
    (kp5 : PySem.W.keepIn K (.ref f5) = true)
    (at6 : PySem.W.nsIn K mainGlobals "merge_ways" = some (some (.ref f6)))
    (l6 : K.lookup f6 = some ⟨oc6, od6, .func (PySem.W.fnOf "merge_ways" "merge_ways" (defArgs s_merge_ways) (defBody s_merge_ways) (defScope s_merge_ways) .none kV6 dc6 pm6 an6 cd6 ct6), sl6⟩)
    (co6 : PySem.W.codeIn K cd6 "merge_ways" = true)
    (kp6 : PySem.W.keepIn K (.ref f6) = true)
    (at7 : PySem.W.nsIn K mainGlobals "merges" = some (some (.ref f7)))
    (l7 : K.lookup f7 = some ⟨oc7, od7, .func (PySem.W.fnOf "merges" "merges" (defArgs s_merges) (defBody s_merges) (defScope s_merges) .none kV7 dc7 pm7 an7 cd7 ct7), sl7⟩)
    (co7 : PySem.W.codeIn K cd7 "merges" = true)
    (kp7 : PySem.W.keepIn K (.ref f7) = true)
    (at8 : PySem.W.nsIn K mainGlobals "_law_cell" = some (some (.ref f8)))
    (l8 : K.lookup f8 = some ⟨oc8, od8, .func (PySem.W.fnOf "_law_cell" "_law_cell" (defArgs s_l_cell) (defBody s_l_cell) (defScope s_l_cell) .none kV8 dc8 pm8 an8 cd8 ct8), sl8⟩)
    (co8 : PySem.W.codeIn K cd8 "_law_cell" = true)
    (kp8 : PySem.W.keepIn K (.ref f8) = true)
    (at9 : PySem.W.nsIn K mainGlobals "_law_box" = some (some (.ref f9)))
    (l9 : K.lookup f9 = some ⟨oc9, od9, .func (PySem.W.fnOf "_law_box" "_law_box" (defArgs s_l_box) (defBody s_l_box) (defScope s_l_box) .none kV9 dc9 pm9 an9 cd9 ct9), sl9⟩)
    (co9 : PySem.W.codeIn K cd9 "_law_box" = true)
    (kp9 : PySem.W.keepIn K (.ref f9) = true)
    (at10 : PySem.W.nsIn K mainGlobals "_law_take" = some (some (.ref f10)))
    (l10 : K.lookup f10 = some ⟨oc10, od10, .func (PySem.W.fnOf "_law_take" "_law_take" (defArgs s_l_take) (defBody s_l_take) (defScope s_l_take) .none kV10 dc10 pm10 an10 cd10 ct10), sl10⟩)
    (co10 : PySem.W.codeIn K cd10 "_law_take" = true)
    (kp10 : PySem.W.keepIn K (.ref f10) = true)
    (at11 : PySem.W.nsIn K mainGlobals "_law_row" = some (some (.ref f11)))
    (l11 : K.lookup f11 = some ⟨oc11, od11, .func (PySem.W.fnOf "_law_row" "_law_row" (defArgs s_l_row) (defBody s_l_row) (defScope s_l_row) .none kV11 dc11 pm11 an11 cd11 ct11), sl11⟩)
    (co11 : PySem.W.codeIn K cd11 "_law_row" = true)
    (kp11 : PySem.W.keepIn K (.ref f11) = true)
    (at12 : PySem.W.nsIn K mainGlobals "_law_least" = some (some (.ref f12)))
    (l12 : K.lookup f12 = some ⟨oc12, od12, .func (PySem.W.fnOf "_law_least" "_law_least" (defArgs s_l_least) (defBody s_l_least) (defScope s_l_least) .none kV12 dc12 pm12 an12 cd12 ct12), sl12⟩)
    (co12 : PySem.W.codeIn K cd12 "_law_least" = true)
    (kp12 : PySem.W.keepIn K (.ref f12) = true)
    (at13 : PySem.W.nsIn K mainGlobals "_law_talks" = some (some (.ref f13)))
    (l13 : K.lookup f13 = some ⟨oc13, od13, .func (PySem.W.fnOf "_law_talks" "_law_talks" (defArgs s_l_talks) (defBody s_l_talks) (defScope s_l_talks) .none kV13 dc13 pm13 an13 cd13 ct13), sl13⟩)
    (co13 : PySem.W.codeIn K cd13 "_law_talks" = true)
    (kp13 : PySem.W.keepIn K (.ref f13) = true)
    (at14 : PySem.W.nsIn K mainGlobals "_law_choose" = some (some (.ref f14)))
    (l14 : K.lookup f14 = some ⟨oc14, od14, .func (PySem.W.fnOf "_law_choose" "_law_choose" (defArgs s_l_choose) (defBody s_l_choose) (defScope s_l_choose) .none kV14 dc14 pm14 an14 cd14 ct14), sl14⟩)
    (co14 : PySem.W.codeIn K cd14 "_law_choose" = true)
    (kp14 : PySem.W.keepIn K (.ref f14) = true)
    (at15 : PySem.W.nsIn K mainGlobals "_law_formula" = some (some (.ref f15)))
    (l15 : K.lookup f15 = some ⟨oc15, od15, .func (PySem.W.fnOf "_law_formula" "_law_formula" (defArgs s_l_formula) (defBody s_l_formula) (defScope s_l_formula) .none kV15 dc15 pm15 an15 cd15 ct15), sl15⟩)
    (co15 : PySem.W.codeIn K cd15 "_law_formula" = true)
    (kp15 : PySem.W.keepIn K (.ref f15) = true)
    (at16 : PySem.W.nsIn K mainGlobals "_law_is_number" = some (some (.ref f16)))
    (l16 : K.lookup f16 = some ⟨oc16, od16, .func (PySem.W.fnOf "_law_is_number" "_law_is_number" (defArgs s_l_is_number) (defBody s_l_is_number) (defScope s_l_is_number) .none kV16 dc16 pm16 an16 cd16 ct16), sl16⟩)
    (co16 : PySem.W.codeIn K cd16 "_law_is_number" = true)
    (kp16 : PySem.W.keepIn K (.ref f16) = true)
    (at17 : PySem.W.nsIn K mainGlobals "_law_sum" = some (some (.ref f17)))
    (l17 : K.lookup f17 = some ⟨oc17, od17, .func (PySem.W.fnOf "_law_sum" "_law_sum" (defArgs s_l_sum) (defBody s_l_sum) (defScope s_l_sum) .none kV17 dc17 pm17 an17 cd17 ct17), sl17⟩)
    (co17 : PySem.W.codeIn K cd17 "_law_sum" = true)
    (kp17 : PySem.W.keepIn K (.ref f17) = true)
    (at18 : PySem.W.nsIn K mainGlobals "_law_rows_merged" = some (some (.ref f18)))
    (l18 : K.lookup f18 = some ⟨oc18, od18, .func (PySem.W.fnOf "_law_rows_merged" "_law_rows_merged" (defArgs s_l_rows_merged) (defBody s_l_rows_merged) (defScope s_l_rows_merged) .none kV18 dc18 pm18 an18 cd18 ct18), sl18⟩)
    (co18 : PySem.W.codeIn K cd18 "_law_rows_merged" = true)
    (kp18 : PySem.W.keepIn K (.ref f18) = true)
    (at19 : PySem.W.nsIn K mainGlobals "_law_any_numbers" = some (some (.ref f19)))
    (l19 : K.lookup f19 = some ⟨oc19, od19, .func (PySem.W.fnOf "_law_any_numbers" "_law_any_numbers" (defArgs s_l_any_numbers) (defBody s_l_any_numbers) (defScope s_l_any_numbers) .none kV19 dc19 pm19 an19 cd19 ct19), sl19⟩)
    (co19 : PySem.W.codeIn K cd19 "_law_any_numbers" = true)
    (kp19 : PySem.W.keepIn K (.ref f19) = true)
    (at20 : PySem.W.nsIn K mainGlobals "_law_wrong_number" = some (some (.ref f20)))
    (l20 : K.lookup f20 = some ⟨oc20, od20, .func (PySem.W.fnOf "_law_wrong_number" "_law_wrong_number" (defArgs s_l_wrong_number) (defBody s_l_wrong_number) (defScope s_l_wrong_number) .none kV20 dc20 pm20 an20 cd20 ct20), sl20⟩)
    (co20 : PySem.W.codeIn K cd20 "_law_wrong_number" = true)
    (kp20 : PySem.W.keepIn K (.ref f20) = true)
    (at21 : PySem.W.nsIn K mainGlobals "_law_refusal" = some (some (.ref f21)))
    (l21 : K.lookup f21 = some ⟨oc21, od21, .func (PySem.W.fnOf "_law_refusal" "_law_refusal" (defArgs s_l_refusal) (defBody s_l_refusal) (defScope s_l_refusal) .none kV21 dc21 pm21 an21 cd21 ct21), sl21⟩)
    (co21 : PySem.W.codeIn K cd21 "_law_refusal" = true)
    (kp21 : PySem.W.keepIn K (.ref f21) = true)
    (at22 : PySem.W.nsIn K mainGlobals "_law_same" = some (some (.ref f22)))
    (l22 : K.lookup f22 = some ⟨oc22, od22, .func (PySem.W.fnOf "_law_same" "_law_same" (defArgs s_l_same) (defBody s_l_same) (defScope s_l_same) .none kV22 dc22 pm22 an22 cd22 ct22), sl22⟩)
    (co22 : PySem.W.codeIn K cd22 "_law_same" = true)
    (kp22 : PySem.W.keepIn K (.ref f22) = true)
    (at23 : PySem.W.nsIn K mainGlobals "_law_refused" = some (some (.ref f23)))
    (l23 : K.lookup f23 = some ⟨oc23, od23, .func (PySem.W.fnOf "_law_refused" "_law_refused" (defArgs s_l_refused) (defBody s_l_refused) (defScope s_l_refused) .none kV23 dc23 pm23 an23 cd23 ct23), sl23⟩)
    (co23 : PySem.W.codeIn K cd23 "_law_refused" = true)
    (kp23 : PySem.W.keepIn K (.ref f23) = true)
    (at24 : PySem.W.nsIn K mainGlobals "law" = some (some (.ref f24)))
    (l24 : K.lookup f24 = some ⟨oc24, od24, .func (PySem.W.fnOf "law" "law" (defArgs s_law) (defBody s_law) (defScope s_law) .none kV24 dc24 pm24 an24 cd24 ct24), sl24⟩)
    (co24 : PySem.W.codeIn K cd24 "law" = true)
    (kp24 : PySem.W.keepIn K (.ref f24) = true)
    (x_c5 : K.lookup c5 = some (excClassObj nm_c5 qn_c5 c5 N_c5 bs_c5 bm_c5 true sn_c5 sub_c5 ab_c5 col_c5 dd_c5 k0_c5 k1_c5 k2_c5 k3_c5 k5_c5 "ValueError.__new__"))
    (rv_c5 : PySem.HandSPX.refsVE bm_c5 = true)
    (sa_c5 : PySem.W.findIn K (.ref c5) "__setattr__" = some (some (.builtin "object.__setattr__")))
    (ex_c5 : PySem.W.subIn K (.ref c5) (.type "BaseException") = some true)
    (ty_c5 : PySem.W.typeIn K (.ref c5) = some (.type "type"))
    (kc_c5 : PySem.W.keepIn K (.ref c5) = true)
    (ga_c5 : PySem.W.findIn K (.ref c5) "__getattribute__" = some (some (.builtin "BaseException.__getattribute__")))
    (gg_c5 : PySem.W.findIn K (.ref c5) "__getattr__" = some none)
    (hd_c5 : PySem.W.hasDictIn K c5 = true)
    (ha_c5 : PySem.W.findIn K (.ref c5) "__class__" = some (some (.builtin "object.__class__")))
    (hn_c5 : PySem.W.specialIn K (.builtin "object.__class__") "__get__" = some (some (.builtin "getset_descriptor.__get__")))
    (ht_c5 : PySem.W.takesIn K (.builtin "object.__class__") = some true)
    (hm_c5 : PySem.W.mroIn K c5 (.type "object") = some true)
    (no_c5 : PySem.W.findIn K (.ref c5) "number" = some none)
    (fi_c5 : PySem.W.findIn K (.ref c5) "__init__" = some (some (.ref fic5)))
    (ft_c5 : PySem.W.typeIn K (.ref fic5) = some (.type "function"))
    (fl_c5 : K.lookup fic5 = some ⟨occ5, odc5, .func (PySem.W.fnOf "__init__" "InvalidNumber.__init__" (defArgs s_InvalidNumber_init) (defBody s_InvalidNumber_init) (defScope s_InvalidNumber_init) .none kVc5 dcc5 pmc5 anc5 cdc5 ctc5), slc5⟩)
    (fc_c5 : PySem.W.codeIn K cdc5 "InvalidNumber.__init__" = true)
    (fk_c5 : PySem.W.keepIn K (.ref fic5) = true)
    (x_c4 : K.lookup c4 = some (excClassObj nm_c4 qn_c4 c4 N_c4 bs_c4 bm_c4 true sn_c4 sub_c4 ab_c4 col_c4 dd_c4 k0_c4 k1_c4 k2_c4 k3_c4 k5_c4 "ValueError.__new__"))
    (rv_c4 : PySem.HandSPX.refsVE bm_c4 = true)
    (sa_c4 : PySem.W.findIn K (.ref c4) "__setattr__" = some (some (.builtin "object.__setattr__")))
    (ex_c4 : PySem.W.subIn K (.ref c4) (.type "BaseException") = some true)
    (ty_c4 : PySem.W.typeIn K (.ref c4) = some (.type "type"))
    (kc_c4 : PySem.W.keepIn K (.ref c4) = true)
    (ga_c4 : PySem.W.findIn K (.ref c4) "__getattribute__" = some (some (.builtin "BaseException.__getattribute__")))
    (gg_c4 : PySem.W.findIn K (.ref c4) "__getattr__" = some none)
    (hd_c4 : PySem.W.hasDictIn K c4 = true)
    (ha_c4 : PySem.W.findIn K (.ref c4) "__class__" = some (some (.builtin "object.__class__")))
    (hn_c4 : PySem.W.specialIn K (.builtin "object.__class__") "__get__" = some (some (.builtin "getset_descriptor.__get__")))
    (ht_c4 : PySem.W.takesIn K (.builtin "object.__class__") = some true)
    (hm_c4 : PySem.W.mroIn K c4 (.type "object") = some true)
    (no_c4 : PySem.W.findIn K (.ref c4) "index" = some none)
    (fi_c4 : PySem.W.findIn K (.ref c4) "__init__" = some (some (.ref fic4)))
    (ft_c4 : PySem.W.typeIn K (.ref fic4) = some (.type "function"))
    (fl_c4 : K.lookup fic4 = some ⟨occ4, odc4, .func (PySem.W.fnOf "__init__" "InvalidRow.__init__" (defArgs s_InvalidRow_init) (defBody s_InvalidRow_init) (defScope s_InvalidRow_init) .none kVc4 dcc4 pmc4 anc4 cdc4 ctc4), slc4⟩)
    (fc_c4 : PySem.W.codeIn K cdc4 "InvalidRow.__init__" = true)
    (fk_c4 : PySem.W.keepIn K (.ref fic4) = true)
    (kx : PySem.W.exmOne K (.ref c5) (.ref c0) = some true)
    (kk0 : PySem.W.kitOne K (.ref c5) (.ref c5) = some true)
    (kk1 : PySem.W.kitOne K (.ref c5) (.ref c4) = some false)
    (kk2 : PySem.W.kitOne K (.ref c5) (.ref c1) = some false)
    (kk3 : PySem.W.kitOne K (.ref c5) (.ref c3) = some false)
    (kk4 : PySem.W.kitOne K (.ref c5) (.ref c2) = some false)
    (kk5 : PySem.W.kitOne K (.ref c5) (.ref c6) = some false)
    (kk6 : PySem.W.kitOne K (.ref c5) (.ref c8) = some false)
    (kk7 : PySem.W.kitOne K (.ref c5) (.ref c7) = some false)
    (kkv : PySem.W.kitOne K (.ref c5) (.type "ValueError") = some true)
    : ∃ fd : FuncData, (∀ (s : Shared) (v : Value), BindsTo s fd ⟨[v], []⟩ [("_law_script", v)]) ∧ ∀ base : Heap, K.In base → base.Ns mainGlobals mg → FnOk l.prog w K mg base (L2.CX l.prog w) l_law fa fd ["_law_script"] (p_law K (Ads.mk c0 c1 c2 c3 c4 c5 c6 c7 c8)) := by
  have e := hfa.symm.trans (PySem.W.mg_of X G at24)
  cases e
  refine ⟨PySem.W.fnOf "law" "law" (defArgs s_law) (defBody s_law) (defScope s_law) .none kV24 dc24 pm24 an24 cd24 ct24, fun s v => .of_eq rfl, fun base _ _ => ?_⟩
  have Oc5 : OexC K c5 := ⟨⟨_, _, _, _, _, _, _, _, _, _, _, _, _, _, _, x_c5, rv_c5⟩, sa_c5, ex_c5, ty_c5, kc_c5⟩
  have Ic5 := fun_mk (st := s_InvalidNumber_init) fl_c5 fc_c5 fk_c5
  have e_InvalidNumber : ErrC l.prog w K mg base "InvalidNumber" "number" c5 := ⟨Oc5, ⟨ga_c5, gg_c5, ex_c5, hd_c5⟩, ⟨ga_c5, gg_c5, ex_c5, hd_c5, ha_c5, hn_c5, ht_c5, hm_c5⟩, no_c5, PySem.W.mg_of X G ac5, _, _, fi_c5, ft_c5, ini_InvalidNumber Oc5 no_c5 Ic5, Ic5.binds (ps := ["self", "number"]) fun _ _ _ _ _ _ us hl => match us, hl with | [_, _], _ => rfl⟩
  have Oc4 : OexC K c4 := ⟨⟨_, _, _, _, _, _, _, _, _, _, _, _, _, _, _, x_c4, rv_c4⟩, sa_c4, ex_c4, ty_c4, kc_c4⟩
  have Ic4 := fun_mk (st := s_InvalidRow_init) fl_c4 fc_c4 fk_c4
  have e_InvalidRow : ErrC l.prog w K mg base "InvalidRow" "index" c4 := ⟨Oc4, ⟨ga_c4, gg_c4, ex_c4, hd_c4⟩, ⟨ga_c4, gg_c4, ex_c4, hd_c4, ha_c4, hn_c4, ht_c4, hm_c4⟩, no_c4, PySem.W.mg_of X G ac4, _, _, fi_c4, ft_c4, ini_InvalidRow Oc4 no_c4 Ic4, Ic4.binds (ps := ["self", "index"]) fun _ _ _ _ _ _ us hl => match us, hl with | [_, _], _ => rfl⟩
  have G0 : Env l.prog w K mg base (Ads.mk c0 c1 c2 c3 c4 c5 c6 c7 c8) := ⟨PySem.W.mg_none_of X G z_ValueError, PySem.W.mg_none_of X G z_abs, PySem.W.mg_none_of X G z_bool, PySem.W.mg_none_of X G z_int, PySem.W.mg_none_of X G z_isinstance, PySem.W.mg_none_of X G z_len, PySem.W.mg_none_of X G z_list, PySem.W.mg_none_of X G z_range, PySem.W.mg_none_of X G z_str, PySem.W.mg_none_of X G z_sum, PySem.W.mg_of X G ac0, PySem.W.mg_of X G ac1, PySem.W.mg_of X G ac3, PySem.W.mg_of X G ac5, PySem.W.mg_of X G ac4, PySem.W.mg_of X G ac2, PySem.W.mg_of X G ac6, PySem.W.mg_of X G ac8, PySem.W.mg_of X G ac7, PySem.W.mg_of X G y_comb, e_InvalidNumber, e_InvalidRow⟩
  have T : Kit K (Ads.mk c0 c1 c2 c3 c4 c5 c6 c7 c8) := ⟨e_InvalidNumber.isc, kx, kk0, kk1, kk2, kk3, kk4, kk5, kk6, kk7, kkv⟩
  have F0 := fun_mk (st := s_is_integer) l0 co0 kp0
  have O0 : FnOk l.prog w K mg base (L2.CX l.prog w) l_is_integer f0 _ ["value"] (p_is_integer K (Ads.mk c0 c1 c2 c3 c4 c5 c6 c7 c8)) := ok_is_integer G0  F0
  have T_is_integer : DefC l.prog w K mg base "is_integer" ["value"] l_is_integer [] (p_is_integer K (Ads.mk c0 c1 c2 c3 c4 c5 c6 c7 c8)) := ⟨_, _, [], PySem.W.mg_of X G at0, kp0, O0, .nil, F0.binds (ps := ["value"]) fun _ _ _ _ _ _ us hl => match us, hl with | [_], _ => rfl⟩
  have F1 : FunD K "checked_number" "checked_number" (defArgs s_checked_number) (defBody s_checked_number) (defScope s_checked_number) [.non] [] f1 _ := ⟨⟨_, _, _, _, _, _, _, _, _, _, rfl, l1, co1, .inr ⟨(fun q => nomatch q), t1, _, [.none], _, rfl, lt1, rfl, (.cons rfl .nil)⟩, .inl rfl⟩, kp1⟩
  have O1 : FnOk l.prog w K mg base (L2.CX l.prog w) l_checked_number f1 _ ["number", "least", "most"] (p_checked_number K (Ads.mk c0 c1 c2 c3 c4 c5 c6 c7 c8)) := ok_checked_number G0 T_is_integer F1
  obtain ⟨ds1, dv1, db1⟩ := FunD.binds1 (ps := ["number", "least", "most"]) F1 2 0 (fun q => nomatch q) rfl fun _ _ _ _ _ _ _ us its hu hi => match us, its, hu, hi with | [_, _], [_], _, _ => ⟨_, rfl, rfl⟩
  have T_checked_number_d1 : DefC l.prog w K mg base "checked_number" ["number", "least", "most"] l_checked_number [.non] (p_checked_number K (Ads.mk c0 c1 c2 c3 c4 c5 c6 c7 c8)) := ⟨_, _, ds1, PySem.W.mg_of X G at1, kp1, O1, dv1, db1⟩
  have F2 := fun_mk (st := s_choose) l2 co2 kp2
  have O2 : FnOk l.prog w K mg base (L2.CX l.prog w) l_choose f2 _ ["total", "part"] (p_choose K (Ads.mk c0 c1 c2 c3 c4 c5 c6 c7 c8)) := ok_choose G0  F2
  have T_choose : DefC l.prog w K mg base "choose" ["total", "part"] l_choose [] (p_choose K (Ads.mk c0 c1 c2 c3 c4 c5 c6 c7 c8)) := ⟨_, _, [], PySem.W.mg_of X G at2, kp2, O2, .nil, F2.binds (ps := ["total", "part"]) fun _ _ _ _ _ _ us hl => match us, hl with | [_, _], _ => rfl⟩
  have F3 := fun_mk (st := s_check_row) l3 co3 kp3
  have O3 : FnOk l.prog w K mg base (L2.CX l.prog w) l_check_row f3 _ ["row"] (p_check_row K (Ads.mk c0 c1 c2 c3 c4 c5 c6 c7 c8)) := ok_check_row G0  F3
  have T_check_row : DefC l.prog w K mg base "_check_row" ["row"] l_check_row [] (p_check_row K (Ads.mk c0 c1 c2 c3 c4 c5 c6 c7 c8)) := ⟨_, _, [], PySem.W.mg_of X G at3, kp3, O3, .nil, F3.binds (ps := ["row"]) fun _ _ _ _ _ _ us hl => match us, hl with | [_], _ => rfl⟩
  have F4 := fun_mk (st := s_least) l4 co4 kp4
  have O4 : FnOk l.prog w K mg base (L2.CX l.prog w) l_least f4 _ ["row"] (p_least K (Ads.mk c0 c1 c2 c3 c4 c5 c6 c7 c8)) := ok_least G0  F4
  have T_least : DefC l.prog w K mg base "_least" ["row"] l_least [] (p_least K (Ads.mk c0 c1 c2 c3 c4 c5 c6 c7 c8)) := ⟨_, _, [], PySem.W.mg_of X G at4, kp4, O4, .nil, F4.binds (ps := ["row"]) fun _ _ _ _ _ _ us hl => match us, hl with | [_], _ => rfl⟩
  have F5 := fun_mk (st := s_cut_count) l5 co5 kp5
  have O5 : FnOk l.prog w K mg base (L2.CX l.prog w) l_cut_count f5 _ ["row", "blocks"] (p_cut_count K (Ads.mk c0 c1 c2 c3 c4 c5 c6 c7 c8)) := ok_cut_count G0 T_check_row T_least T_checked_number_d1 T_choose F5
  have T_cut_count : DefC l.prog w K mg base "cut_count" ["row", "blocks"] l_cut_count [] (p_cut_count K (Ads.mk c0 c1 c2 c3 c4 c5 c6 c7 c8)) := ⟨_, _, [], PySem.W.mg_of X G at5, kp5, O5, .nil, F5.binds (ps := ["row", "blocks"]) fun _ _ _ _ _ _ us hl => match us, hl with | [_, _], _ => rfl⟩
  have F6 := fun_mk (st := s_merge_ways) l6 co6 kp6
  have O6 : FnOk l.prog w K mg base (L2.CX l.prog w) l_merge_ways f6 _ ["length", "least", "other_length", "other_least", "same"] (p_merge_ways K (Ads.mk c0 c1 c2 c3 c4 c5 c6 c7 c8)) := ok_merge_ways G0 T_choose F6
  have T_merge_ways : DefC l.prog w K mg base "merge_ways" ["length", "least", "other_length", "other_least", "same"] l_merge_ways [] (p_merge_ways K (Ads.mk c0 c1 c2 c3 c4 c5 c6 c7 c8)) := ⟨_, _, [], PySem.W.mg_of X G at6, kp6, O6, .nil, F6.binds (ps := ["length", "least", "other_length", "other_least", "same"]) fun _ _ _ _ _ _ us hl => match us, hl with | [_, _, _, _, _], _ => rfl⟩
  have F7 := fun_mk (st := s_merges) l7 co7 kp7
  have O7 : FnOk l.prog w K mg base (L2.CX l.prog w) l_merges f7 _ ["length", "least", "other_length", "other_least", "same"] (p_merges K (Ads.mk c0 c1 c2 c3 c4 c5 c6 c7 c8)) := ok_merges G0 T_checked_number_d1 T_merge_ways F7
  have T_merges_same : DefN l.prog w K mg base "merges" ["length", "least", "other_length", "other_least", "same"] l_merges 4 ["same"] k_merges_same (p_merges K (Ads.mk c0 c1 c2 c3 c4 c5 c6 c7 c8)) := ⟨_, _, (fun us ws => us ++ ws), PySem.W.mg_of X G at7, kp7, O7, ⟨fun s us ws _ h1 h2 => match us, ws, h1, h2 with | [_, _, _, _], [_], _, _ => .of_eq rfl, fun r1 r2 => r1.append r2⟩⟩
  have F8 := fun_mk (st := s_l_cell) l8 co8 kp8
  have O8 : FnOk l.prog w K mg base (L2.CX l.prog w) l_l_cell f8 _ ["_law_script", "_law_k"] (p_l_cell K (Ads.mk c0 c1 c2 c3 c4 c5 c6 c7 c8)) := ok_l_cell G0  F8
  have T_l_cell : DefC l.prog w K mg base "_law_cell" ["_law_script", "_law_k"] l_l_cell [] (p_l_cell K (Ads.mk c0 c1 c2 c3 c4 c5 c6 c7 c8)) := ⟨_, _, [], PySem.W.mg_of X G at8, kp8, O8, .nil, F8.binds (ps := ["_law_script", "_law_k"]) fun _ _ _ _ _ _ us hl => match us, hl with | [_, _], _ => rfl⟩
  have F9 := fun_mk (st := s_l_box) l9 co9 kp9
  have O9 : FnOk l.prog w K mg base (L2.CX l.prog w) l_l_box f9 _ ["_law_script", "_law_k"] (p_l_box K (Ads.mk c0 c1 c2 c3 c4 c5 c6 c7 c8)) := ok_l_box G0 T_l_cell F9
  have T_l_box : DefC l.prog w K mg base "_law_box" ["_law_script", "_law_k"] l_l_box [] (p_l_box K (Ads.mk c0 c1 c2 c3 c4 c5 c6 c7 c8)) := ⟨_, _, [], PySem.W.mg_of X G at9, kp9, O9, .nil, F9.binds (ps := ["_law_script", "_law_k"]) fun _ _ _ _ _ _ us hl => match us, hl with | [_, _], _ => rfl⟩
  have F10 := fun_mk (st := s_l_take) l10 co10 kp10
  have O10 : FnOk l.prog w K mg base (L2.CX l.prog w) l_l_take f10 _ ["_law_box_here", "_law_size"] (p_l_take K (Ads.mk c0 c1 c2 c3 c4 c5 c6 c7 c8)) := ok_l_take G0  F10
  have T_l_take : DefC l.prog w K mg base "_law_take" ["_law_box_here", "_law_size"] l_l_take [] (p_l_take K (Ads.mk c0 c1 c2 c3 c4 c5 c6 c7 c8)) := ⟨_, _, [], PySem.W.mg_of X G at10, kp10, O10, .nil, F10.binds (ps := ["_law_box_here", "_law_size"]) fun _ _ _ _ _ _ us hl => match us, hl with | [_, _], _ => rfl⟩
  have F11 := fun_mk (st := s_l_row) l11 co11 kp11
  have O11 : FnOk l.prog w K mg base (L2.CX l.prog w) l_l_row f11 _ ["_law_box_here", "_law_letters", "_law_way"] (p_l_row K (Ads.mk c0 c1 c2 c3 c4 c5 c6 c7 c8)) := ok_l_row G0 T_l_take F11
  have T_l_row : DefC l.prog w K mg base "_law_row" ["_law_box_here", "_law_letters", "_law_way"] l_l_row [] (p_l_row K (Ads.mk c0 c1 c2 c3 c4 c5 c6 c7 c8)) := ⟨_, _, [], PySem.W.mg_of X G at11, kp11, O11, .nil, F11.binds (ps := ["_law_box_here", "_law_letters", "_law_way"]) fun _ _ _ _ _ _ us hl => match us, hl with | [_, _, _], _ => rfl⟩
  have F12 := fun_mk (st := s_l_least) l12 co12 kp12
  have O12 : FnOk l.prog w K mg base (L2.CX l.prog w) l_l_least f12 _ ["_law_row_here"] (p_l_least K (Ads.mk c0 c1 c2 c3 c4 c5 c6 c7 c8)) := ok_l_least G0  F12
  have T_l_least : DefC l.prog w K mg base "_law_least" ["_law_row_here"] l_l_least [] (p_l_least K (Ads.mk c0 c1 c2 c3 c4 c5 c6 c7 c8)) := ⟨_, _, [], PySem.W.mg_of X G at12, kp12, O12, .nil, F12.binds (ps := ["_law_row_here"]) fun _ _ _ _ _ _ us hl => match us, hl with | [_], _ => rfl⟩
  have F13 := fun_mk (st := s_l_talks) l13 co13 kp13
  have O13 : FnOk l.prog w K mg base (L2.CX l.prog w) l_l_talks f13 _ ["_law_one", "_law_other"] (p_l_talks K (Ads.mk c0 c1 c2 c3 c4 c5 c6 c7 c8)) := ok_l_talks G0  F13
  have T_l_talks : DefC l.prog w K mg base "_law_talks" ["_law_one", "_law_other"] l_l_talks [] (p_l_talks K (Ads.mk c0 c1 c2 c3 c4 c5 c6 c7 c8)) := ⟨_, _, [], PySem.W.mg_of X G at13, kp13, O13, .nil, F13.binds (ps := ["_law_one", "_law_other"]) fun _ _ _ _ _ _ us hl => match us, hl with | [_, _], _ => rfl⟩
  have F14 := fun_mk (st := s_l_choose) l14 co14 kp14
  have O14 : FnOk l.prog w K mg base (L2.CX l.prog w) l_l_choose f14 _ ["_law_total", "_law_part"] (p_l_choose K (Ads.mk c0 c1 c2 c3 c4 c5 c6 c7 c8)) := ok_l_choose G0  F14
  have T_l_choose : DefC l.prog w K mg base "_law_choose" ["_law_total", "_law_part"] l_l_choose [] (p_l_choose K (Ads.mk c0 c1 c2 c3 c4 c5 c6 c7 c8)) := ⟨_, _, [], PySem.W.mg_of X G at14, kp14, O14, .nil, F14.binds (ps := ["_law_total", "_law_part"]) fun _ _ _ _ _ _ us hl => match us, hl with | [_, _], _ => rfl⟩
  have F15 := fun_mk (st := s_l_formula) l15 co15 kp15
  have O15 : FnOk l.prog w K mg base (L2.CX l.prog w) l_l_formula f15 _ ["_law_numbers", "_law_on_x"] (p_l_formula K (Ads.mk c0 c1 c2 c3 c4 c5 c6 c7 c8)) := ok_l_formula G0 T_l_choose F15
  have T_l_formula : DefC l.prog w K mg base "_law_formula" ["_law_numbers", "_law_on_x"] l_l_formula [] (p_l_formula K (Ads.mk c0 c1 c2 c3 c4 c5 c6 c7 c8)) := ⟨_, _, [], PySem.W.mg_of X G at15, kp15, O15, .nil, F15.binds (ps := ["_law_numbers", "_law_on_x"]) fun _ _ _ _ _ _ us hl => match us, hl with | [_, _], _ => rfl⟩
  have F16 := fun_mk (st := s_l_is_number) l16 co16 kp16
  have O16 : FnOk l.prog w K mg base (L2.CX l.prog w) l_l_is_number f16 _ ["_law_actual", "_law_due"] (p_l_is_number K (Ads.mk c0 c1 c2 c3 c4 c5 c6 c7 c8)) := ok_l_is_number G0  F16
  have T_l_is_number : DefC l.prog w K mg base "_law_is_number" ["_law_actual", "_law_due"] l_l_is_number [] (p_l_is_number K (Ads.mk c0 c1 c2 c3 c4 c5 c6 c7 c8)) := ⟨_, _, [], PySem.W.mg_of X G at16, kp16, O16, .nil, F16.binds (ps := ["_law_actual", "_law_due"]) fun _ _ _ _ _ _ us hl => match us, hl with | [_, _], _ => rfl⟩
  have F17 := fun_mk (st := s_l_sum) l17 co17 kp17
  have O17 : FnOk l.prog w K mg base (L2.CX l.prog w) l_l_sum f17 _ ["_law_one", "_law_other", "_law_more"] (p_l_sum K (Ads.mk c0 c1 c2 c3 c4 c5 c6 c7 c8)) := ok_l_sum G0 T_cut_count F17
  have T_l_sum : DefC l.prog w K mg base "_law_sum" ["_law_one", "_law_other", "_law_more"] l_l_sum [] (p_l_sum K (Ads.mk c0 c1 c2 c3 c4 c5 c6 c7 c8)) := ⟨_, _, [], PySem.W.mg_of X G at17, kp17, O17, .nil, F17.binds (ps := ["_law_one", "_law_other", "_law_more"]) fun _ _ _ _ _ _ us hl => match us, hl with | [_, _, _], _ => rfl⟩
  have F18 := fun_mk (st := s_l_rows_merged) l18 co18 kp18
  have O18 : FnOk l.prog w K mg base (L2.CX l.prog w) l_l_rows_merged f18 _ ["_law_one", "_law_other", "_law_any_least"] (p_l_rows_merged K (Ads.mk c0 c1 c2 c3 c4 c5 c6 c7 c8)) := ok_l_rows_merged G0 T_l_is_number T_l_least T_l_sum T_l_talks T_merges_same F18
  have T_l_rows_merged : DefC l.prog w K mg base "_law_rows_merged" ["_law_one", "_law_other", "_law_any_least"] l_l_rows_merged [] (p_l_rows_merged K (Ads.mk c0 c1 c2 c3 c4 c5 c6 c7 c8)) := ⟨_, _, [], PySem.W.mg_of X G at18, kp18, O18, .nil, F18.binds (ps := ["_law_one", "_law_other", "_law_any_least"]) fun _ _ _ _ _ _ us hl => match us, hl with | [_, _, _], _ => rfl⟩
  have F19 := fun_mk (st := s_l_any_numbers) l19 co19 kp19
  have O19 : FnOk l.prog w K mg base (L2.CX l.prog w) l_l_any_numbers f19 _ ["_law_box_here"] (p_l_any_numbers K (Ads.mk c0 c1 c2 c3 c4 c5 c6 c7 c8)) := ok_l_any_numbers G0 T_l_take F19
  have T_l_any_numbers : DefC l.prog w K mg base "_law_any_numbers" ["_law_box_here"] l_l_any_numbers [] (p_l_any_numbers K (Ads.mk c0 c1 c2 c3 c4 c5 c6 c7 c8)) := ⟨_, _, [], PySem.W.mg_of X G at19, kp19, O19, .nil, F19.binds (ps := ["_law_box_here"]) fun _ _ _ _ _ _ us hl => match us, hl with | [_], _ => rfl⟩
  have F20 := fun_mk (st := s_l_wrong_number) l20 co20 kp20
  have O20 : FnOk l.prog w K mg base (L2.CX l.prog w) l_l_wrong_number f20 _ ["_law_box_here", "_law_place"] (p_l_wrong_number K (Ads.mk c0 c1 c2 c3 c4 c5 c6 c7 c8)) := ok_l_wrong_number G0 T_l_take F20
  have T_l_wrong_number : DefC l.prog w K mg base "_law_wrong_number" ["_law_box_here", "_law_place"] l_l_wrong_number [] (p_l_wrong_number K (Ads.mk c0 c1 c2 c3 c4 c5 c6 c7 c8)) := ⟨_, _, [], PySem.W.mg_of X G at20, kp20, O20, .nil, F20.binds (ps := ["_law_box_here", "_law_place"]) fun _ _ _ _ _ _ us hl => match us, hl with | [_, _], _ => rfl⟩
  have F21 := fun_mk (st := s_l_refusal) l21 co21 kp21
  have O21 : FnOk l.prog w K mg base (L2.CX l.prog w) l_l_refusal f21 _ ["_law_numbers", "_law_on_x"] (p_l_refusal K (Ads.mk c0 c1 c2 c3 c4 c5 c6 c7 c8)) := ok_l_refusal G0 T T_merges_same F21
  have T_l_refusal : DefC l.prog w K mg base "_law_refusal" ["_law_numbers", "_law_on_x"] l_l_refusal [] (p_l_refusal K (Ads.mk c0 c1 c2 c3 c4 c5 c6 c7 c8)) := ⟨_, _, [], PySem.W.mg_of X G at21, kp21, O21, .nil, F21.binds (ps := ["_law_numbers", "_law_on_x"]) fun _ _ _ _ _ _ us hl => match us, hl with | [_, _], _ => rfl⟩
  have F22 := fun_mk (st := s_l_same) l22 co22 kp22
  have O22 : FnOk l.prog w K mg base (L2.CX l.prog w) l_l_same f22 _ ["_law_actual", "_law_due"] (p_l_same K (Ads.mk c0 c1 c2 c3 c4 c5 c6 c7 c8)) := ok_l_same G0  F22
  have T_l_same : DefC l.prog w K mg base "_law_same" ["_law_actual", "_law_due"] l_l_same [] (p_l_same K (Ads.mk c0 c1 c2 c3 c4 c5 c6 c7 c8)) := ⟨_, _, [], PySem.W.mg_of X G at22, kp22, O22, .nil, F22.binds (ps := ["_law_actual", "_law_due"]) fun _ _ _ _ _ _ us hl => match us, hl with | [_, _], _ => rfl⟩
  have F23 := fun_mk (st := s_l_refused) l23 co23 kp23
  have O23 : FnOk l.prog w K mg base (L2.CX l.prog w) l_l_refused f23 _ ["_law_box_here", "_law_numbers"] (p_l_refused K (Ads.mk c0 c1 c2 c3 c4 c5 c6 c7 c8)) := ok_l_refused G0 T T_l_refusal T_l_same T_l_take T_l_wrong_number F23
  have T_l_refused : DefC l.prog w K mg base "_law_refused" ["_law_box_here", "_law_numbers"] l_l_refused [] (p_l_refused K (Ads.mk c0 c1 c2 c3 c4 c5 c6 c7 c8)) := ⟨_, _, [], PySem.W.mg_of X G at23, kp23, O23, .nil, F23.binds (ps := ["_law_box_here", "_law_numbers"]) fun _ _ _ _ _ _ us hl => match us, hl with | [_, _], _ => rfl⟩
  have F24 := fun_mk (st := s_law) l24 co24 kp24
  have O24 : FnOk l.prog w K mg base (L2.CX l.prog w) l_law fa _ ["_law_script"] (p_law K (Ads.mk c0 c1 c2 c3 c4 c5 c6 c7 c8)) := ok_law G0 T_l_any_numbers T_l_box T_l_formula T_l_is_number T_l_refused T_l_row T_l_rows_merged T_l_take T_merges_same F24
  exact O24
theorem walk {l : PySem.W.OpenLaw} {q : Program} {loose : List Str} {XP : (Str → Option Value) → Heap → Prop} {YP : World → Heap → Prop} {d : DefRec} {K : Params → PySem.W.Frag} (hn : l.most = some 63) (hdf : d.params.defaults = [])
    (hY : ∀ (w : World) (h : Heap), YP w h → (K w.params).In h)
    (F : ∀ (w : World) (mg : Str → Option Value) (fa : Addr) (h : Heap), (K w.params).In h → h.Ns mainGlobals mg → mg d.name = some (.ref fa) →
      ∃ fd : FuncData, (∀ (s : Shared) (u : Value), BindsTo s fd ⟨[u], []⟩ [("_law_script", u)]) ∧ ∀ base : Heap, (K w.params).In base → base.Ns mainGlobals mg → FnOk l.prog w (K w.params) mg base (L2.CX l.prog w) l_law fa fd ["_law_script"] (spC (ct_law (K w.params)))) :
    PySem.W.WalkO q loose XP YP l.row.toRowW d [] (fun f vs => PySem.call f vs) :=
  L2.walk_of (n := 63) (k := l_law) (x := "_law_script") (CX := fun w => L2.CX l.prog w) (sp := fun w => spC (ct_law (K w.params))) hn (by decide) hdf ⟨rfl, by decide, by decide⟩ hY F
    (fun _ _ a ns hl _ hS => ⟨(a, ns), ⟨rfl, hS⟩, fun _ _ q => q, fun _ _ _ q => q.elim⟩)
    fun _ _ _ _ _ z => by
      obtain ⟨_, _, _, _, _, _, _, _, _, _, _, _, z⟩ := z
      exact z.elim
end LW
open PySem PySem.W PyProof.Rows
set_option maxRecDepth 100000 in
set_option maxHeartbeats 0 in
theorem PySem.Challenge.cw_lastside_k11_merges_holds : PySem.Challenge.rw_lastside_k11_merges.Holds := by
  w_on; o_law; k_head; (case hw => w_witness2)
  k_fill
  refine LW.walk (l := PySem.Challenge.rw_lastside_k11_merges) rfl rfl (fun w h Y => PySem.W.kIn_of Y) ?F
  case F =>
    intro w mg fa h KX G hmg
    refine' LW.all_mk KX G hmg ?ac0 ?ac1 ?ac2 ?ac3 ?ac4 ?ac5 ?ac6 ?ac7 ?ac8 ?z_ValueError ?z_abs ?z_bool ?z_int ?z_isinstance ?z_len ?z_list ?z_range ?z_str ?z_sum ?y_comb ?at0 ?l0 ?co0 ?kp0 ?at1 ?l1 ?co1 ?kp1 ?lt1 ?at2 ?l2 ?co2 ?kp2 ?at3 ?l3 ?co3 ?kp3 ?at4 ?l4 ?co4 ?kp4 ?at5 ?l5 ?co5 ?kp5 ?at6 ?l6 ?co6 ?kp6 ?at7 ?l7 ?co7 ?kp7 ?at8 ?l8 ?co8 ?kp8 ?at9 ?l9 ?co9 ?kp9 ?at10 ?l10 ?co10 ?kp10 ?at11 ?l11 ?co11 ?kp11 ?at12 ?l12 ?co12 ?kp12 ?at13 ?l13 ?co13 ?kp13 ?at14 ?l14 ?co14 ?kp14 ?at15 ?l15 ?co15 ?kp15 ?at16 ?l16 ?co16 ?kp16 ?at17 ?l17 ?co17 ?kp17 ?at18 ?l18 ?co18 ?kp18 ?at19 ?l19 ?co19 ?kp19 ?at20 ?l20 ?co20 ?kp20 ?at21 ?l21 ?co21 ?kp21 ?at22 ?l22 ?co22 ?kp22 ?at23 ?l23 ?co23 ?kp23 ?at24 ?l24 ?co24 ?kp24 ?x_c5 ?rv_c5 ?sa_c5 ?ex_c5 ?ty_c5 ?kc_c5 ?ga_c5 ?gg_c5 ?hd_c5 ?ha_c5 ?hn_c5 ?ht_c5 ?hm_c5 ?no_c5 ?fi_c5 ?ft_c5 ?fl_c5 ?fc_c5 ?fk_c5 ?x_c4 ?rv_c4 ?sa_c4 ?ex_c4 ?ty_c4 ?kc_c4 ?ga_c4 ?gg_c4 ?hd_c4 ?ha_c4 ?hn_c4 ?ht_c4 ?hm_c4 ?no_c4 ?fi_c4 ?ft_c4 ?fl_c4 ?fc_c4 ?fk_c4 ?kx ?kk0 ?kk1 ?kk2 ?kk3 ?kk4 ?kk5 ?kk6 ?kk7 ?kkv
    (case ac0 => k_is)
    (case ac1 => k_is)
    (case ac2 => k_is)
    (case ac3 => k_is)
    (case ac4 => k_is)
    (case ac5 => k_is)
    (case ac6 => k_is)
    (case ac7 => k_is)
    (case ac8 => k_is)
    (case z_ValueError => k_is)
    (case z_abs => k_is)
    (case z_bool => k_is)
    (case z_int => k_is)
    (case z_isinstance => k_is)
    (case z_len => k_is)
    (case z_list => k_is)
    (case z_range => k_is)
    (case z_str => k_is)
    (case z_sum => k_is)
    (case y_comb => k_is)
    (case at0 => k_is)
    (case l0 => k_is)
    (case co0 => k_is)
    (case kp0 => k_is)
    (case at1 => k_is)
    (case l1 => k_is)
    (case co1 => k_is)
    (case kp1 => k_is)
    (case lt1 => k_is)
    (case at2 => k_is)
    (case l2 => k_is)
    (case co2 => k_is)
    (case kp2 => k_is)
    (case at3 => k_is)
    (case l3 => k_is)
    (case co3 => k_is)
    (case kp3 => k_is)
    (case at4 => k_is)
    (case l4 => k_is)
    (case co4 => k_is)
    (case kp4 => k_is)
    (case at5 => k_is)
    (case l5 => k_is)
    (case co5 => k_is)
    (case kp5 => k_is)
    (case at6 => k_is)
    (case l6 => k_is)
    (case co6 => k_is)
    (case kp6 => k_is)
    (case at7 => k_is)
    (case l7 => k_is)
    (case co7 => k_is)
    (case kp7 => k_is)
    (case at8 => k_is)
    (case l8 => k_is)
    (case co8 => k_is)
    (case kp8 => k_is)
    (case at9 => k_is)
    (case l9 => k_is)
    (case co9 => k_is)
    (case kp9 => k_is)
    (case at10 => k_is)
    (case l10 => k_is)
    (case co10 => k_is)
    (case kp10 => k_is)
    (case at11 => k_is)
    (case l11 => k_is)
    (case co11 => k_is)
    (case kp11 => k_is)
    (case at12 => k_is)
    (case l12 => k_is)
    (case co12 => k_is)
    (case kp12 => k_is)
    (case at13 => k_is)
    (case l13 => k_is)
    (case co13 => k_is)
    (case kp13 => k_is)
    (case at14 => k_is)
    (case l14 => k_is)
    (case co14 => k_is)
    (case kp14 => k_is)
    (case at15 => k_is)
    (case l15 => k_is)
    (case co15 => k_is)
    (case kp15 => k_is)
    (case at16 => k_is)
    (case l16 => k_is)
    (case co16 => k_is)
    (case kp16 => k_is)
    (case at17 => k_is)
    (case l17 => k_is)
    (case co17 => k_is)
    (case kp17 => k_is)
    (case at18 => k_is)
    (case l18 => k_is)
    (case co18 => k_is)
    (case kp18 => k_is)
    (case at19 => k_is)
    (case l19 => k_is)
    (case co19 => k_is)
    (case kp19 => k_is)
    (case at20 => k_is)
    (case l20 => k_is)
    (case co20 => k_is)
    (case kp20 => k_is)
    (case at21 => k_is)
    (case l21 => k_is)
    (case co21 => k_is)
    (case kp21 => k_is)
    (case at22 => k_is)
    (case l22 => k_is)
    (case co22 => k_is)
    (case kp22 => k_is)
    (case at23 => k_is)
    (case l23 => k_is)
    (case co23 => k_is)
    (case kp23 => k_is)
    (case at24 => k_is)
    (case l24 => k_is)
    (case co24 => k_is)
    (case kp24 => k_is)
    (case x_c5 => k_is)
    (case rv_c5 => decide +kernel)
    (case sa_c5 => k_is)
    (case ex_c5 => k_is)
    (case ty_c5 => k_is)
    (case kc_c5 => k_is)
    (case ga_c5 => k_is)
    (case gg_c5 => k_is)
    (case hd_c5 => k_is)
    (case ha_c5 => k_is)
    (case hn_c5 => k_is)
    (case ht_c5 => k_is)
    (case hm_c5 => k_is)
    (case no_c5 => k_is)
    (case fi_c5 => k_is)
    (case ft_c5 => k_is)
    (case fl_c5 => k_is)
    (case fc_c5 => k_is)
    (case fk_c5 => k_is)
    (case x_c4 => k_is)
    (case rv_c4 => decide +kernel)
    (case sa_c4 => k_is)
    (case ex_c4 => k_is)
    (case ty_c4 => k_is)
    (case kc_c4 => k_is)
    (case ga_c4 => k_is)
    (case gg_c4 => k_is)
    (case hd_c4 => k_is)
    (case ha_c4 => k_is)
    (case hn_c4 => k_is)
    (case ht_c4 => k_is)
    (case hm_c4 => k_is)
    (case no_c4 => k_is)
    (case fi_c4 => k_is)
    (case ft_c4 => k_is)
    (case fl_c4 => k_is)
    (case fc_c4 => k_is)
    (case fk_c4 => k_is)
    (case kx => kernel_rfl)
    (case kk0 => kernel_rfl)
    (case kk1 => kernel_rfl)
    (case kk2 => kernel_rfl)
    (case kk3 => kernel_rfl)
    (case kk4 => kernel_rfl)
    (case kk5 => kernel_rfl)
    (case kk6 => kernel_rfl)
    (case kk7 => kernel_rfl)
    (case kkv => kernel_rfl)
