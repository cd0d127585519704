import PyProof.Rows.All
import Wide.All
import OpenK.AllK
import Wide.FinOn
import HandS.ForMost
import HandS.Flow
import HandS.IsInst
import HandS.Exc
import HandS.ExcInit
import HandS.ExcOwn
import HandS.WordsExc
import HandS.ExcIs
import HandS.ExcField
import HandS.TryMany
import HandS.CallSlots
import HandS.Defaults
import HandS.SetFor
import HandS.StrMore
import HandS.Gcd
import KE.KMathGC
import KE.KIsAll
import KE.KTryMore
import HandS.TupAny
import HandS.Rev
import HandS.Conv
import HandS.More
import PySem.Challenge.RW_lastside_k45_rank_counts
set_option Elab.async false
set_option linter.all false
set_option maxRecDepth 100000
set_option maxHeartbeats 4000000
namespace PySem.W
open PySem PySem.Spec PySem.Calls PyProof.Rows
section
variable {prog : Program} {w : World} {A : Around} {E : Value → Shared → Prop} {s : Shared} {K : Frag} {x D : Addr} {ox : Obj} {od : Option Obj}
theorem sy_findObj {C : Addr} {name : Str} {a g : Value} (hc : (clsIn K C).isSome = true) (ha : findIn K (.ref C) name = some (some a)) (hg : specialIn K a "__get__" = some (some g)) (ht : takesIn K a = some true) : findObj K C od name = some (.bind g a) := by
  obtain ⟨cd, hc⟩ := Option.isSome_iff_exists.mp hc
  unfold findObj
  rw [hc, Option.bind_some, ha, Option.bind_some]
  simp [hg, ht]
/-- __class__ of an own error that has its dict -/
theorem sy_classE {Q : Option Value → Shared → Prop} (hga : findIn K (.ref D) "__getattribute__" = some (some (.builtin "BaseException.__getattribute__"))) (hgt : findIn K (.ref D) "__getattr__" = some none) (hsub : subIn K (.ref D) (.type "BaseException") = some true)
    (hdct : hasDictIn K D = true) (ha : findIn K (.ref D) "__class__" = some (some (.builtin "object.__class__")))
    (hn : specialIn K (.builtin "object.__class__") "__get__" = some (some (.builtin "getset_descriptor.__get__"))) (htk : takesIn K (.builtin "object.__class__") = some true) (hm : mroIn K D (.type "object") = some true)
    (X : K.In s.heap) (I : InstAt s.heap x ox D od) (h : Q (some (.ref D)) { s with toks := s.toks + 1 }) : wpAny (model prog w) A (getAttr? (.ref x) "__class__") Q E s := by
  have hf : findObj K D od "__class__" = some (.bind (.builtin "getset_descriptor.__get__") (.builtin "object.__class__")) := sy_findObj (by obtain ⟨cd, hc, _⟩ := any_some hdct; rw [hc]; rfl) ha hn htk
  obtain ⟨hp, g, d, t, os⟩ := s
  have L0 := I.type (M := model prog w)
  have L1 := looks_findIn (M := model prog w) X hga
  have L2 := looks_findIn (M := model prog w) X hgt
  have L3 := looks_find (M := model prog w) X I hf
  have sub : Looks (model prog w) hp (isInstance (.ref x) (.type "BaseException")) true := L0.andThen (looks_subIn X hsub)
  have hx0 : (false && onTheHeap (Value.builtin "BaseException.__getattribute__")) = false := rfl
  have hx2 : (Value.builtin "BaseException.__getattribute__" == Value.builtin "object.__getattribute__") = false := by decide +kernel
  have hx1 : (onTheHeap (Value.ref D) && Value.builtin "BaseException.__getattribute__" == Value.builtin "object.__getattribute__") = false := by rw [hx2]; rfl
  unfold getAttr? getAttrBy? getAttrBy
  refine wpAny_bind (wpAny_mkText (wpAny_bind (wpAny_attempt (wpAny_holding (wpAny_bind (L0.at (wpAny_bind (L1.at ?_))))))))
  show wpAny _ _ (if (onTheHeap (Value.ref D) && Value.builtin "BaseException.__getattribute__" == Value.builtin "object.__getattribute__") = true then _ else _) _ _ _
  rw [hx1, if_neg Bool.false_ne_true]
  unfold getAttrByItsOwn hookBefore
  refine wpAny_bind ?_
  rw [if_pos (show onTheHeap (Value.ref D) = true from rfl)]
  refine L2.at ?_
  refine wpAny_bind (wpAny_attempt (wpAny_holding ?_))
  unfold callGetattribute
  rw [hx0, if_neg Bool.false_ne_true]
  unfold boundAndCalled
  rw [PySem.F.excAttr_ValueError.ga.bind (.ref x)]
  refine wpAny_bind (wpAny_pure ?_)
  show wpAny _ _ (call (.builtin "BaseException.__getattribute__") [.ref x, .str "__class__" t]) _ _ _
  refine wpAny_call (codeAny_call_builtin PySem.F.excAttr_ValueError.ga.plain PySem.F.entry_bexc_ga ?_)
  refine @check_slot (model prog w) _ _ ⟨hp, g, d, t + 1, os⟩ "BaseException.__getattribute__" "BaseException" "__getattribute__" (.ref x) [.str "__class__" t] [] _ (by decide +kernel) (by decide +kernel) sub (PySem.F.args_bexc_ga (.ref x) (.str "__class__" t)) ?_
  unfold Builtin.«object.__getattribute__»
  refine wpAny_bind (wpAny_of_eq (a := ((Value.ref x : Value), [Value.str "__class__" t])) (by first | rfl | (simp only [slotArgs]; rfl)) ?_)
  refine wpAny_bind (wpAny_pure (wpAny_bind (L0.at (wpAny_bind (L3.at ?_)))))
  show wpAny _ _ (holding [Value.builtin "object.__class__"] (call (.builtin "getset_descriptor.__get__") [.builtin "object.__class__", .ref x, .ref D]) >>= ret) _ _ _
  refine wpAny_bind (wpAny_holding (wpAny_call (class_get (s := ⟨hp, g, d, t + 1, os⟩) (ox := ox) (od := od) X I hm ?_)))
  refine wpAny_pure ?_
  show wpAny _ _ (handedOut (.ref D)) _ _ _
  rw [handedOut_of (v := .ref D) rfl]
  first
    | exact wpAny_pure (wpAny_pure h)
    | exact wpAny_pure h
    | exact wpAny_pure (wpAny_bind (wpAny_pure (wpAny_pure h)))
theorem sy_kitx (hga : findIn K (.ref D) "__getattribute__" = some (some (.builtin "BaseException.__getattribute__"))) (hgt : findIn K (.ref D) "__getattr__" = some none) (hsub : subIn K (.ref D) (.type "BaseException") = some true) (hdct : hasDictIn K D = true) (ha : findIn K (.ref D) "__class__" = some (some (.builtin "object.__class__")))
    (hn : specialIn K (.builtin "object.__class__") "__get__" = some (some (.builtin "getset_descriptor.__get__"))) (htk : takesIn K (.builtin "object.__class__") = some true) (hm : mroIn K D (.type "object") = some true) :
    KitX K (.ref x) (.ref D) (fun h => InstAt h x ox D od) where
  ty := fun _ _ _ I => I.type
  it := fun _ _ X _ => by
    obtain ⟨cdD, hcD, _⟩ := any_some hdct
    unfold clsIn at hcD
    split at hcD
    · rename_i c' d' cd' sl' ho
      intro A' Q' E' s' k q
      unfold isType loadHead
      exact wpAny_bind (wpAny_loadPart (k _ _ (X _ _ ho)) (wpAny_pure q))
    · cases hcD
  ne := fun h tp dd its n sl X htp => by
    obtain ⟨cdD, hcD, _⟩ := any_some hdct
    refine Bool.eq_false_iff.mpr fun q => ?_
    have e : D = tp := Value.ref.inj (beq_iff_eq.mp q)
    subst e
    unfold clsIn at hcD
    split at hcD
    · rename_i c' d' cd' sl' ho
      have z := (X _ _ ho).symm.trans htp
      cases z
    · cases hcD
  ca := fun X I k => sy_classE hga hgt hsub hdct ha hn htk hm X I k
end
end PySem.W
/-! A layer of our own: readings over a symbolic heap. What stands at known addresses is a written list; the rest is a frame. -/
namespace SY
open PySem L2

/-! ### the symbolic heap -/
/-- F: what stands and stays; G: the objects that are known one by one -/
structure SH where
  F : Hp
  G : List (Addr × HO)
structure Own (S : SH) (H : Hp) : Prop where
  fr : ∀ a o, S.F a = some o → H a = some o
  gs : ∀ p, p ∈ S.G → H p.1 = some p.2 ∧ S.F p.1 = none
  nd : (S.G.map (·.1)).Nodup
abbrev SH.new (S : SH) (p : Addr) (o : HO) : SH := ⟨S.F, (p, o) :: S.G⟩
abbrev SH.put (S : SH) (i : Nat) (p : Addr) (o : HO) : SH := ⟨S.F, S.G.set i (p, o)⟩
def Ext (H H' : Hp) : Prop := ∀ a o, H a = some o → H' a = some o
theorem Ext.refl (H : Hp) : Ext H H := fun _ _ h => h
theorem Ext.trans {H H1 H2 : Hp} (a : Ext H H1) (b : Ext H1 H2) : Ext H H2 := fun x o h => b x o (a x o h)
theorem Ext.new {H : Hp} {p : Addr} {o : HO} (h : H p = none) : Ext H (upd H p o) := fun a u e => by
  rw [upd_ne (ne_of_none e h)]
  exact e
theorem ext_rd {H H' : Hp} {a : Addr} {u : HO} (e : Ext H H') (h : Rd H a u) : Rd H' a u := by
  rcases h with h | ⟨o, h⟩
  · exact Or.inl (e a _ h)
  · exact Or.inr ⟨o, e a _ h⟩
theorem ext_l {K : PySem.W.Frag} {H H' : Hp} {a : Addr} {xs : List V} (e : Ext H H') (h : SqL K H a xs) : SqL K H' a xs := by
  rcases h with h | h
  · exact Or.inl (ext_rd e h)
  · exact Or.inr h
theorem ext_t {K : PySem.W.Frag} {H H' : Hp} {a : Addr} {xs : List V} (e : Ext H H') (h : SqT K H a xs) : SqT K H' a xs := by
  rcases h with h | h
  · exact Or.inl (ext_rd e h)
  · exact Or.inr h
theorem Own.ex {S : SH} {H H' : Hp} (h : Own S H) (e : Ext H H') : Own S H' := ⟨fun a o q => e a o (h.fr a o q), fun p q => ⟨e _ _ (h.gs p q).1, (h.gs p q).2⟩, h.nd⟩
theorem Own.base (H : Hp) : Own ⟨H, []⟩ H := ⟨fun _ _ q => q, fun _ q => (nomatch q), List.nodup_nil⟩
theorem Own.f_none {S : SH} {H : Hp} (h : Own S H) {p : Addr} (hp : H p = none) : S.F p = none := by
  cases e : S.F p with
  | none => rfl
  | some o => rw [h.fr p o e] at hp; cases hp
theorem Own.g_none {S : SH} {H : Hp} (h : Own S H) {p : Addr} (hp : H p = none) : p ∉ S.G.map (·.1) := fun q => by
  obtain ⟨x, hx, e⟩ := List.mem_map.mp q
  rw [← e, (h.gs x hx).1] at hp
  cases hp
/-- a new object -/
theorem Own.new {S : SH} {H H' : Hp} (h : Own S H) {p : Addr} {o : HO} (hp : H p = none) (e : Ext H H') (hp' : H' p = some o) : Own (S.new p o) H' :=
  ⟨fun a u q => e a u (h.fr a u q), fun x q => by
    cases q with
    | head => exact ⟨hp', h.f_none hp⟩
    | tail _ q => exact ⟨e _ _ (h.gs x q).1, (h.gs x q).2⟩, List.nodup_cons.mpr ⟨h.g_none hp, h.nd⟩⟩
theorem Own.newU {S : SH} {H : Hp} (h : Own S H) {p : Addr} {o : HO} (hp : H p = none) : Own (S.new p o) (upd H p o) := h.new hp (Ext.new hp) upd_same
theorem Own.g {S : SH} {H : Hp} (h : Own S H) {i : Nat} {p : Addr} {o : HO} (q : S.G[i]? = some (p, o)) : H p = some o := (h.gs (p, o) (List.mem_of_getElem? q)).1
theorem set_fst {G : List (Addr × HO)} {i : Nat} {p : Addr} {o u : HO} (q : G[i]? = some (p, o)) : (G.set i (p, u)).map (·.1) = G.map (·.1) := by
  rw [List.map_set]
  refine List.ext_getElem? fun j => ?_
  by_cases e : i = j
  · subst e
    have hi := (List.getElem?_eq_some_iff.mp q).1
    rw [List.getElem?_set_self (by simpa using hi), List.getElem?_map, q]
    rfl
  · rw [List.getElem?_set_ne e]
theorem nodup_at {α : Type} {N : List α} (hN : N.Nodup) {i j : Nat} {x : α} (a : N[i]? = some x) (b : N[j]? = some x) : i = j := by
  obtain ⟨hi, ei⟩ := List.getElem?_eq_some_iff.mp a
  obtain ⟨hj, ej⟩ := List.getElem?_eq_some_iff.mp b
  have P := List.pairwise_iff_getElem.mp hN
  rcases Nat.lt_trichotomy i j with h | h | h
  · exact absurd (ei.trans ej.symm) (P i j hi hj h)
  · exact h
  · exact absurd (ej.trans ei.symm) (P j i hj hi h)
/-- a known object becomes another -/
theorem Own.put {S : SH} {H H' : Hp} (h : Own S H) {i : Nat} {p : Addr} {o u : HO} (q : S.G[i]? = some (p, o)) (k : ∀ b x, b ≠ p → H b = some x → H' b = some x) (hp : H' p = some u) : Own (S.put i p u) H' := by
  have hf : S.F p = none := (h.gs (p, o) (List.mem_of_getElem? q)).2
  have nd := h.nd
  refine ⟨fun a x e => k a x (fun z => by rw [z, hf] at e; cases e) (h.fr a x e), fun x hx => ?_, by rw [set_fst q]; exact nd⟩
  obtain ⟨j, hj, ej⟩ := List.mem_iff_getElem.mp hx
  by_cases e : i = j
  · subst e
    have ex : x = (p, u) := by rw [← ej, List.getElem_set_self]
    subst ex
    exact ⟨hp, hf⟩
  · have hj' : j < S.G.length := by rw [List.length_set] at hj; exact hj
    rw [List.getElem_set_ne e] at ej
    have hm : x ∈ S.G := by rw [← ej]; exact List.getElem_mem hj'
    have hne : x.1 ≠ p := fun z => by
      have hi := (List.getElem?_eq_some_iff.mp q).1
      have h1 : (S.G.map (·.1))[i]? = some p := by rw [List.getElem?_map, q]; rfl
      have h2 : (S.G.map (·.1))[j]? = some p := by rw [List.getElem?_map, List.getElem?_eq_getElem hj', ej]; exact congrArg some z
      exact e (nodup_at nd h1 h2)
    exact ⟨k _ _ hne (h.gs x hm).1, (h.gs x hm).2⟩
theorem Own.putU {S : SH} {H : Hp} (h : Own S H) {i : Nat} {p : Addr} {o u : HO} (q : S.G[i]? = some (p, o)) : Own (S.put i p u) (upd H p u) :=
  h.put q (fun b x hb e => by rw [upd_ne hb]; exact e) upd_same
/-- everything that is not at a is the frame -/
def without (H : Hp) (p : Addr) : Hp := fun b => if b = p then none else H b
theorem without_ne {H : Hp} {p b : Addr} (h : b ≠ p) : without H p b = H b := if_neg h
theorem without_same {H : Hp} {p : Addr} : without H p p = none := if_pos rfl
theorem Own.only {H : Hp} {p : Addr} {o : HO} (h : H p = some o) : Own ⟨without H p, [(p, o)]⟩ H := by
  refine ⟨fun a x e => ?_, fun x q => ?_, by simp⟩
  · by_cases ha : a = p
    · subst ha
      have e' : without H a a = some x := e
      rw [without_same] at e'
      cases e'
    · have e' : without H p a = some x := e
      rw [without_ne ha] at e'
      exact e'
  · have e : x = (p, o) := List.mem_singleton.mp q
    subst e
    exact ⟨h, without_same⟩

mutual
theorem dp_ext {K : PySem.W.Frag} {H H' : Hp} (e : Ext H H') : ∀ (d : PyData) (v : V), Dp K H v d → Dp K H' v d
  | .none, _, h => by cases h; exact .non
  | .bool b, _, h => by cases h; exact .bl b
  | .int i, _, h => by cases h; exact .int i
  | .str x, _, h => by cases h; exact .str x
  | .list ds, _, h => by
    cases h with
    | lst h1 h2 => exact .lst (ext_l e h1) (dpAll_ext e ds _ h2)
  | .tuple ds, _, h => by
    cases h with
    | tup h1 h2 => exact .tup (ext_t e h1) (dpAll_ext e ds _ h2)
  | .dict _, _, h => by cases h
theorem dpAll_ext {K : PySem.W.Frag} {H H' : Hp} (e : Ext H H') : ∀ (ds : List PyData) (vs : List V), DpAll K H vs ds → DpAll K H' vs ds
  | [], _, h => by cases h; exact .nil
  | d :: ds, _, h => by
    cases h with
    | cons h1 h2 => exact .cons (dp_ext e d _ h1) (dpAll_ext e ds _ h2)
end
/-- a list (tuple) that may be read -/
def sL (K : PySem.W.Frag) (S : SH) (a : Addr) (xs : List V) : Prop := (∃ i : Nat, S.G[i]? = some (a, .lst xs)) ∨ SqL K S.F a xs
def sU (K : PySem.W.Frag) (S : SH) (a : Addr) (xs : List V) : Prop := (∃ i : Nat, S.G[i]? = some (a, .tup xs)) ∨ SqT K S.F a xs
/-- what stands at a -/
def At (S : SH) (a : Addr) (o : HO) : Prop := (∃ i : Nat, S.G[i]? = some (a, o)) ∨ S.F a = some o
theorem rd_own {S : SH} {H : Hp} (h : Own S H) {a : Addr} {u : HO} (r : Rd S.F a u) : Rd H a u := by
  rcases r with r | ⟨o, r⟩
  · exact .inl (h.fr a _ r)
  · exact .inr ⟨o, h.fr a _ r⟩
theorem Own.l {K : PySem.W.Frag} {S : SH} {H : Hp} (h : Own S H) {a : Addr} {xs : List V} (q : sL K S a xs) : SqL K H a xs := by
  rcases q with ⟨i, q⟩ | q | q
  · exact .inl (.inl (h.g q))
  · exact .inl (rd_own h q)
  · exact .inr q
theorem Own.u {K : PySem.W.Frag} {S : SH} {H : Hp} (h : Own S H) {a : Addr} {xs : List V} (q : sU K S a xs) : SqT K H a xs := by
  rcases q with ⟨i, q⟩ | q | q
  · exact .inl (.inl (h.g q))
  · exact .inl (rd_own h q)
  · exact .inr q
theorem Own.at {S : SH} {H : Hp} (h : Own S H) {a : Addr} {o : HO} (q : At S a o) : H a = some o := by
  rcases q with ⟨i, q⟩ | q
  · exact h.g q
  · exact h.fr a o q

/-! ### readings -/
/-- the wish of exceptions -/
abbrev sWX := Value → Option Addr → St → SH → Prop
abbrev sE := sWX → St → SH → (V → SH → Prop) → Prop
abbrev sT := sWX → St → SH → (Bool → SH → Prop) → Prop
abbrev sA := sWX → St → SH → (List V → SH → Prop) → Prop
abbrev s2 := V → V → SH → (V → SH → Prop) → Prop
abbrev s1 := V → SH → (V → SH → Prop) → Prop
abbrev sN := List V → SH → (V → SH → Prop) → Prop
/-- Q' over the symbolic heap gives Q -/
def Imp {α : Type} (Q' : α → SH → Prop) (Q : α → Hp → Prop) : Prop := ∀ v S H, Own S H → Q' v S → Q v H
def ImpW (W' : sWX) (W : WX) : Prop := ∀ c d σ S H, Own S H → W' c d σ S → W c d σ H
def dE (W : WX) (t : sE) : TE := fun σ H Q => ∃ S Q' W', ImpW W' W ∧ Own S H ∧ t W' σ S Q' ∧ Imp Q' Q
def dT (W : WX) (t : sT) : TT := fun σ H Q => ∃ S Q' W', ImpW W' W ∧ Own S H ∧ t W' σ S Q' ∧ Imp Q' Q
def dA (W : WX) (t : sA) : TA := fun σ H Q => ∃ S Q' W', ImpW W' W ∧ Own S H ∧ t W' σ S Q' ∧ Imp Q' Q
theorem imp_self {α : Type} {Q' : α → SH → Prop} : Imp Q' (fun v H => ∃ S, Own S H ∧ Q' v S) := fun v S H o q => ⟨S, o, q⟩
structure sEnds where
  nx : St → SH → Prop
  rt : V → SH → Prop
  bk : St → SH → Prop := fun _ _ => False
  ct : St → SH → Prop := fun _ _ => False
  ex : sWX := fun _ _ _ _ => False
abbrev sS := sEnds → St → SH → Prop
structure EImp (W : WX) (D' : sEnds) (D : Ends) : Prop where
  nx : Imp D'.nx D.nx
  rt : Imp D'.rt D.rt
  bk : Imp D'.bk D.bk
  ct : Imp D'.ct D.ct
  ex : ImpW D'.ex W
def dS (W : WX) (t : sS) : TS := fun D σ H => ∃ S D', Own S H ∧ t D' σ S ∧ EImp W D' D
theorem imp_no {α : Type} {Q : α → Hp → Prop} : Imp (fun _ _ => False) Q := fun _ _ _ _ q => q.elim

section
variable {X : Cx} {W : WX}
theorem PE.by {e : Expr} {t t' : TE} (h : PE X e t) (k : ∀ σ H Q, t' σ H Q → t σ H Q) : PE X e t' := ⟨fun pins s σ H Q I q => h.run pins s σ H Q I (k σ H Q q)⟩
theorem PT.by {e : Expr} {t t' : TT} (h : PT X e t) (k : ∀ σ H Q, t' σ H Q → t σ H Q) : PT X e t' := ⟨fun pins s σ H Q I q => h.run pins s σ H Q I (k σ H Q q)⟩
theorem PW.by {e : Expr} {t t' : TT} (h : PW X e t) (k : ∀ σ H Q, t' σ H Q → t σ H Q) : PW X e t' := ⟨fun wh pins s σ H Q I q => h.run wh pins s σ H Q I (k σ H Q q)⟩
theorem PA.by {e : List Expr} {t t' : TA} (h : PA X e t) (k : ∀ σ H Q, t' σ H Q → t σ H Q) : PA X e t' := ⟨fun pos pins s σ H Q I q => h.run pos pins s σ H Q I (k σ H Q q)⟩
theorem PK.by {e : List Keyword} {t t' : TA} (h : PK X e t) (k : ∀ σ H Q, t' σ H Q → t σ H Q) : PK X e t' := ⟨fun pos pins s σ H Q I q => h.run pos pins s σ H Q I (k σ H Q q)⟩
theorem PS.by {e : Stmt} {t t' : TS} (h : PS X e t) (k : ∀ D σ H, t' D σ H → t D σ H) : PS X e t' := ⟨fun pins s σ H Q I q => h.run pins s σ H Q I (k _ _ _ q)⟩
theorem PSs.by {e : List Stmt} {t t' : TS} (h : PSs X e t) (k : ∀ D σ H, t' D σ H → t D σ H) : PSs X e t' := ⟨fun pins s σ H Q I q => h.run pins s σ H Q I (k _ _ _ q)⟩

/-! ### names and constants -/
def sVar (i : Nat) : sE := fun _ σ S Q => match σ[i]? with
  | some (some v) => Q v S
  | _ => False
def sC (v : V) : sE := fun _ _ S Q => Q v S
theorem gVar {i : Nat} {x : Str} {pos : Pos} (hN : X.N[i]? = some x) (hv : Vis X.env.scope x) (hd : (x == ("__debug__" : Str)) = false := by decide) (hcd : (x == ("__classdict__" : Str)) = false := by decide) : PE X (.Name x pos) (dE W (sVar i)) :=
  PE.by (pe_var hN hv hd hcd) fun σ H Q ⟨S, Q', W', kw, o, h, k⟩ => by
    unfold sVar at h
    unfold tVar
    split at h
    · rename_i v e
      exact ⟨v, e, k v S H o h⟩
    · exact h.elim
theorem gC_of {e : Expr} {v : V} (h : PE X e (tC v)) : PE X e (dE W (sC v)) := PE.by h fun σ H Q ⟨S, Q', W', kw, o, h, k⟩ => k v S H o h
theorem gInt {i j pos} : PE X (.Constant (.int i) j pos) (dE W (sC (.int i))) := gC_of pe_int
theorem gBl {b j pos} : PE X (.Constant (.bool b) j pos) (dE W (sC (.bl b))) := gC_of pe_bl
theorem gNon {j pos} : PE X (.Constant .none j pos) (dE W (sC .non)) := gC_of pe_non
theorem gStr {x j pos} : PE X (.Constant (.str x) j pos) (dE W (sC (.str x))) := gC_of pe_str

/-! ### operators -/
def sOp (r : s2) (ta tb : sE) : sE := fun W σ S Q => ta W σ S fun x S1 => tb W σ S1 fun y S2 => r x y S2 Q
def Lift2 (r : s2) (R : R2) : Prop := ∀ x y S Q' H Q, Own S H → r x y S Q' → Imp Q' Q → R x y H Q
theorem lift_op {r : s2} {R : R2} (l : Lift2 r R) {ta tb : sE} : ∀ σ H Q, dE W (sOp r ta tb) σ H Q → tOp R (dE W ta) (dE W tb) σ H Q := fun σ H Q ⟨S, Q', W', kw, o, h, k⟩ =>
  ⟨S, _, W', kw, o, h, fun x S1 H1 o1 h1 => ⟨S1, _, W', kw, o1, h1, fun y S2 H2 o2 h2 => l x y S2 Q' H2 Q o2 h2 k⟩⟩
variable {a b c : Expr} {ta tb tc : sE} {pos : Pos}
theorem gOp {op : Operator} {r : s2} {R : R2} (ho : OpR X (binaryOp op) R) (l : Lift2 r R) (ha : PE X a (dE W ta)) (hb : PE X b (dE W tb)) : PE X (.BinOp a op b pos) (dE W (sOp r ta tb)) :=
  PE.by (pe_op ho ha hb) (lift_op l)
theorem gCmp {op : CmpOp} {r : s2} {R : R2} (ho : OpR X (compareOp op) R) (l : Lift2 r R) (ha : PE X a (dE W ta)) (hb : PE X b (dE W tb)) (hm : behindInMarks op b = false) : PE X (.Compare a [op] [b] pos) (dE W (sOp r ta tb)) :=
  PE.by (pe_cmpR ho ha hb hm) (lift_op l)
def s1Op (r : s1) (ta : sE) : sE := fun W σ S Q => ta W σ S fun x S1 => r x S1 Q
def Lift1 (r : s1) (R : V → Hp → VK → Prop) : Prop := ∀ x S Q' H Q, Own S H → r x S Q' → Imp Q' Q → R x H Q
theorem gUn {op : UnaryOp} {r : s1} {R : V → Hp → VK → Prop} (ho : UnR X (unaryOp op) R) (l : Lift1 r R) (ha : PE X a (dE W ta)) : PE X (.UnaryOp op a pos) (dE W (s1Op r ta)) :=
  PE.by (pe_un ho ha) fun σ H Q ⟨S, Q', W', kw, o, h, k⟩ => ⟨S, _, W', kw, o, h, fun x S1 H1 o1 h1 => l x S1 Q' H1 Q o1 h1 k⟩

/-- + -/
def oAdd : s2 := fun x y S Q => match x, y with
  | .int i, .int j => Q (.int (i + j)) S
  | .str u, .str v => u.length + v.length ≤ sizeLine ∧ Q (.str (u ++ v)) S
  | .ref p, .ref q => ∃ xs ys, At S p (.lst xs) ∧ At S q (.lst ys) ∧ xs.length + ys.length ≤ sizeLine ∧ ∀ r, Q (.ref r) (S.new r (.lst (xs ++ ys)))
  | _, _ => False
theorem lAdd : Lift2 oAdd (fun x y H Q => (rI0 fun i j => .int (i + j)) x y H Q ∨ ((fun x y H Q => ∃ i j, x = .str i ∧ y = .str j ∧ i.length + j.length ≤ sizeLine ∧ Q (.str (i ++ j)) H) x y H Q ∨ rCat x y H Q)) := by
  intro x y S Q' H Q o h k
  unfold oAdd at h
  split at h
  · exact .inl ⟨_, _, rfl, rfl, k _ _ _ o h⟩
  · exact .inr (.inl ⟨_, _, rfl, rfl, h.1, k _ _ _ o h.2⟩)
  · obtain ⟨xs, ys, h1, h2, h3, h4⟩ := h
    exact .inr (.inr ⟨_, _, xs, ys, rfl, rfl, o.at h1, o.at h2, h3, fun p hp => k _ _ _ (o.newU hp) (h4 p)⟩)
  · exact h.elim
theorem gAdd (ha : PE X a (dE W ta)) (hb : PE X b (dE W tb)) : PE X (.BinOp a .Add b pos) (dE W (sOp oAdd ta tb)) := gOp (OpR.or op_add (OpR.or op_add_str op_cat)) lAdd ha hb
def oSub : s2 := fun x y S Q => match x, y with
  | .int i, .int j => Q (.int (i - j)) S
  | _, _ => False
theorem lSub : Lift2 oSub (rI0 fun i j => .int (i - j)) := by
  intro x y S Q' H Q o h k
  unfold oSub at h
  split at h
  · exact ⟨_, _, rfl, rfl, k _ _ _ o h⟩
  · exact h.elim
theorem gSub (ha : PE X a (dE W ta)) (hb : PE X b (dE W tb)) : PE X (.BinOp a .Sub b pos) (dE W (sOp oSub ta tb)) := gOp op_sub lSub ha hb
def sm64 (i : Int) : Prop := -(2 ^ 64) < i ∧ i < 2 ^ 64
def oMul : s2 := fun x y S Q => match x, y with
  | .int i, .int j => (sm64 i ∨ sm64 j) ∧ Q (.int (i * j)) S
  | .ref p, .int k => ∃ xs, At S p (.lst xs) ∧ (-(2 ^ 63) ≤ k ∧ k < 2 ^ 63) ∧ xs.length * k.toNat ≤ sizeLine ∧ ∀ r, Q (.ref r) (S.new r (.lst (List.replicate k.toNat xs).flatten))
  | _, _ => False
theorem lMul : Lift2 oMul (fun x y H Q => (rI CMul fun i j => .int (i * j)) x y H Q ∨ rRep x y H Q) := by
  intro x y S Q' H Q o h k
  unfold oMul at h
  split at h
  · exact .inl ⟨_, _, rfl, rfl, h.1, k _ _ _ o h.2⟩
  · obtain ⟨xs, h1, h2, h3, h4⟩ := h
    exact .inr ⟨_, _, xs, rfl, rfl, o.at h1, h2.1, h2.2, h3, fun p hp => k _ _ _ (o.newU hp) (h4 p)⟩
  · exact h.elim
theorem gMul (ha : PE X a (dE W ta)) (hb : PE X b (dE W tb)) : PE X (.BinOp a .Mult b pos) (dE W (sOp oMul ta tb)) := gOp (OpR.or op_mul op_rep) lMul ha hb
/-- an operator of two ints -/
def oI (C : Int → Int → Prop) (g : Int → Int → V) : s2 := fun x y S Q => match x, y with
  | .int i, .int j => C i j ∧ Q (g i j) S
  | _, _ => False
theorem lI {C : Int → Int → Prop} {g : Int → Int → V} : Lift2 (oI C g) (rI C g) := by
  intro x y S Q' H Q o h k
  unfold oI at h
  split at h
  · exact ⟨_, _, rfl, rfl, h.1, k _ _ _ o h.2⟩
  · exact h.elim
def oFdv : s2 := oI CDiv fun i j => .int (i / j)
def oMod : s2 := oI (fun _ j => 0 < j) fun i j => .int (i % j)
def oPow : s2 := oI CPow fun i j => .int (i ^ j.toNat)
theorem gFdv (ha : PE X a (dE W ta)) (hb : PE X b (dE W tb)) : PE X (.BinOp a .FloorDiv b pos) (dE W (sOp oFdv ta tb)) := gOp op_fdiv lI ha hb
theorem gMod (ha : PE X a (dE W ta)) (hb : PE X b (dE W tb)) : PE X (.BinOp a .Mod b pos) (dE W (sOp oMod ta tb)) := gOp op_mod lI ha hb
theorem gPow (ha : PE X a (dE W ta)) (hb : PE X b (dE W tb)) : PE X (.BinOp a .Pow b pos) (dE W (sOp oPow ta tb)) := gOp op_pow lI ha hb
def oNeg : s1 := fun x S Q => match x with
  | .int i => Q (.int (-i)) S
  | _ => False
theorem lNeg : Lift1 oNeg (rU fun i => .int (-i)) := by
  intro x S Q' H Q o h k
  unfold oNeg at h
  split at h
  · exact ⟨_, rfl, k _ _ _ o h⟩
  · exact h.elim
theorem gNeg (ha : PE X a (dE W ta)) : PE X (.UnaryOp .USub a pos) (dE W (s1Op oNeg ta)) := gUn un_neg lNeg ha

/-! ### comparisons -/
/-- data that stands: by any heap -/
def sD (K : PySem.W.Frag) (S : SH) (x : V) (d : PyData) : Prop := ∀ H, Own S H → Dp K H x d
def isRef : V → Bool
  | .ref _ => true
  | _ => false
def oEq (K : PySem.W.Frag) : s2 := fun x y S Q => if scal x y then Q (.bl (decide (x = y))) S else
  ∃ d e, sD K S x d ∧ sD K S y e ∧ SeqAt.shaped d = true ∧ SeqAt.shaped e = true ∧ Q (.bl (PyData.eqv d e)) S
def oNe (K : PySem.W.Frag) : s2 := fun x y S Q => if scal x y then Q (.bl (!decide (x = y))) S else
  ∃ d e, sD K S x d ∧ sD K S y e ∧ SeqAt.shaped d = true ∧ SeqAt.shaped e = true ∧ Q (.bl (!PyData.eqv d e)) S
theorem lEq {K : PySem.W.Frag} : Lift2 (oEq K) (fun x y H Q => rEq x y H Q ∨ rEqD K x y H Q) := by
  intro x y S Q' H Q o h k
  unfold oEq at h
  split at h
  · rename_i e
    exact .inl ⟨e, k _ _ _ o h⟩
  · obtain ⟨d, e, h1, h2, h3, h4, h5⟩ := h
    exact .inr ⟨d, e, h1 H o, h2 H o, h3, h4, k _ _ _ o h5⟩
theorem lNe {K : PySem.W.Frag} : Lift2 (oNe K) (fun x y H Q => rNe x y H Q ∨ rNeD K x y H Q) := by
  intro x y S Q' H Q o h k
  unfold oNe at h
  split at h
  · rename_i e
    exact .inl ⟨e, k _ _ _ o h⟩
  · obtain ⟨d, e, h1, h2, h3, h4, h5⟩ := h
    exact .inr ⟨d, e, h1 H o, h2 H o, h3, h4, k _ _ _ o h5⟩
theorem gEq (hu : X.A.units + 64 < cLine) (ha : PE X a (dE W ta)) (hb : PE X b (dE W tb)) : PE X (.Compare a [.Eq] [b] pos) (dE W (sOp (oEq X.K) ta tb)) := gCmp (OpR.or op_eq (op_eqD hu)) lEq ha hb (nomark _)
theorem gNe (hu : X.A.units + 64 < cLine) (ha : PE X a (dE W ta)) (hb : PE X b (dE W tb)) : PE X (.Compare a [.NotEq] [b] pos) (dE W (sOp (oNe X.K) ta tb)) := gCmp (OpR.or op_ne (op_neD hu)) lNe ha hb (nomark _)
/-- an order: of ints, of texts -/
def oOrd (f : Int → Int → Bool) (g : Str → Str → Bool) : s2 := fun x y S Q => match x, y with
  | .int i, .int j => Q (.bl (f i j)) S
  | .str i, .str j => Q (.bl (g i j)) S
  | _, _ => False
theorem lOrd {f : Int → Int → Bool} {g : Str → Str → Bool} : Lift2 (oOrd f g) (fun x y H Q => (rI0 fun i j => .bl (f i j)) x y H Q ∨ (fun x y H Q => ∃ i j, x = .str i ∧ y = .str j ∧ Q (.bl (g i j)) H) x y H Q) := by
  intro x y S Q' H Q o h k
  unfold oOrd at h
  split at h
  · exact .inl ⟨_, _, rfl, rfl, k _ _ _ o h⟩
  · exact .inr ⟨_, _, rfl, rfl, k _ _ _ o h⟩
  · exact h.elim
def oLt : s2 := oOrd (fun i j => decide (i < j)) (fun i j => decide (i.cps.toList < j.cps.toList))
def oLe : s2 := oOrd (fun i j => decide (i ≤ j)) (fun i j => !decide (j.cps.toList < i.cps.toList))
def oGt : s2 := oOrd (fun i j => decide (j < i)) (fun i j => decide (j.cps.toList < i.cps.toList))
def oGe : s2 := oOrd (fun i j => decide (j ≤ i)) (fun i j => !decide (i.cps.toList < j.cps.toList))
theorem gLt (ha : PE X a (dE W ta)) (hb : PE X b (dE W tb)) : PE X (.Compare a [.Lt] [b] pos) (dE W (sOp oLt ta tb)) := gCmp (OpR.or op_lt op_lt_str) lOrd ha hb (nomark _)
theorem gLe (ha : PE X a (dE W ta)) (hb : PE X b (dE W tb)) : PE X (.Compare a [.LtE] [b] pos) (dE W (sOp oLe ta tb)) := gCmp (OpR.or op_le op_le_str) lOrd ha hb (nomark _)
theorem gGt (ha : PE X a (dE W ta)) (hb : PE X b (dE W tb)) : PE X (.Compare a [.Gt] [b] pos) (dE W (sOp oGt ta tb)) := gCmp (OpR.or op_gt op_gt_str) lOrd ha hb (nomark _)
theorem gGe (ha : PE X a (dE W ta)) (hb : PE X b (dE W tb)) : PE X (.Compare a [.GtE] [b] pos) (dE W (sOp oGe ta tb)) := gCmp (OpR.or op_ge op_ge_str) lOrd ha hb (nomark _)
/-- is None, is not None -/
def oIsN : s2 := fun x y S Q => match y with
  | .non => Q (.bl (decide (x = .non))) S
  | _ => False
def oNotN : s2 := fun x y S Q => match y with
  | .non => Q (.bl (!decide (x = .non))) S
  | _ => False
theorem lIsN : Lift2 oIsN (fun x y H Q => y = .non ∧ Q (.bl (decide (x = .non))) H) := by
  intro x y S Q' H Q o h k
  unfold oIsN at h
  split at h
  · exact ⟨rfl, k _ _ _ o h⟩
  · exact h.elim
theorem lNotN : Lift2 oNotN (fun x y H Q => y = .non ∧ Q (.bl (!decide (x = .non))) H) := by
  intro x y S Q' H Q o h k
  unfold oNotN at h
  split at h
  · exact ⟨rfl, k _ _ _ o h⟩
  · exact h.elim
theorem gIsN (ha : PE X a (dE W ta)) (hb : PE X b (dE W tb)) : PE X (.Compare a [.Is] [b] pos) (dE W (sOp oIsN ta tb)) := gCmp op_isN lIsN ha hb (nomark _)
theorem gNotN (ha : PE X a (dE W ta)) (hb : PE X b (dE W tb)) : PE X (.Compare a [.IsNot] [b] pos) (dE W (sOp oNotN ta tb)) := gCmp op_notN lNotN ha hb (nomark _)
/-- in, not in: a text in a text; a flat thing in a list, a tuple of flat things -/
def oIn (K : PySem.W.Frag) (neg : Bool) : s2 := fun x y S Q => match y with
  | .str j => match x with
    | .str i => Q (.bl (if neg then !(!(Builtin.Str.occurrences j i 0 j.length 1).isEmpty) else !(Builtin.Str.occurrences j i 0 j.length 1).isEmpty)) S
    | _ => False
  | .ref p => ∃ xs, (sL K S p xs ∨ sU K S p xs) ∧ flatV x = true ∧ xs.all flatV = true ∧ Q (.bl (if neg then !inV x xs else inV x xs)) S
  | _ => False
theorem lIn {K : PySem.W.Frag} : Lift2 (oIn K false) (fun x y H Q => (fun x y H Q => ∃ i j, x = .str i ∧ y = .str j ∧ Q (.bl (!(Builtin.Str.occurrences j i 0 j.length 1).isEmpty)) H) x y H Q ∨ rIn K false x y H Q) := by
  intro x y S Q' H Q o h k
  unfold oIn at h
  split at h
  · split at h
    · exact .inl ⟨_, _, rfl, rfl, k _ _ _ o h⟩
    · exact h.elim
  · obtain ⟨xs, h1, h2, h3, h4⟩ := h
    exact .inr ⟨_, xs, rfl, h1.elim (fun z => .inl (o.l z)) (fun z => .inr (o.u z)), h2, h3, k _ _ _ o h4⟩
  · exact h.elim
theorem lNotIn {K : PySem.W.Frag} : Lift2 (oIn K true) (fun x y H Q => (fun x y H Q => ∃ i j, x = .str i ∧ y = .str j ∧ Q (.bl (!(!(Builtin.Str.occurrences j i 0 j.length 1).isEmpty))) H) x y H Q ∨ rIn K true x y H Q) := by
  intro x y S Q' H Q o h k
  unfold oIn at h
  split at h
  · split at h
    · exact .inl ⟨_, _, rfl, rfl, k _ _ _ o h⟩
    · exact h.elim
  · obtain ⟨xs, h1, h2, h3, h4⟩ := h
    exact .inr ⟨_, xs, rfl, h1.elim (fun z => .inl (o.l z)) (fun z => .inr (o.u z)), h2, h3, k _ _ _ o h4⟩
  · exact h.elim
theorem gIn (ha : PE X a (dE W ta)) (hb : PE X b (dE W tb)) (hm : behindInMarks .In b = false) : PE X (.Compare a [.In] [b] pos) (dE W (sOp (oIn X.K false) ta tb)) := gCmp (OpR.or op_in_str op_in_seq) lIn ha hb hm
theorem gNotIn (ha : PE X a (dE W ta)) (hb : PE X b (dE W tb)) (hm : behindInMarks .NotIn b = false) : PE X (.Compare a [.NotIn] [b] pos) (dE W (sOp (oIn X.K true) ta tb)) := gCmp (OpR.or op_notin_str op_notIn_seq) lNotIn ha hb hm
/-- a < b < c -/
def sChain (r r' : s2) (ta tb tc : sE) : sE := fun W σ S Q => ta W σ S fun x S1 => tb W σ S1 fun y S2 => r x y S2 fun z S3 => match z with
  | .bl true => tc W σ S3 fun w S4 => r' y w S4 Q
  | .bl false => Q (.bl false) S3
  | _ => False
theorem gChain {op op' : CmpOp} {r r' : s2} {R R' : R2} (ho : OpR X (compareOp op) R) (ho' : OpR X (compareOp op') R') (l : Lift2 r R) (l' : Lift2 r' R') (ha : PE X a (dE W ta)) (hb : PE X b (dE W tb)) (hc : PE X c (dE W tc))
    (hm : lastMarks [op, op'] [b, c] = false := by with_unfolding_all rfl) : PE X (.Compare a [op, op'] [b, c] pos) (dE W (sChain r r' ta tb tc)) :=
  PE.by (pe_chain ho ho' ha hb hc hm) fun σ H Q ⟨S, Q', W', kw, o, h, k⟩ => ⟨S, _, W', kw, o, h, fun x S1 H1 o1 h1 => ⟨S1, _, W', kw, o1, h1, fun y S2 H2 o2 h2 => l x y S2 _ H2 _ o2 h2 fun z S3 H3 o3 h3 => by
    split at h3
    · refine ⟨true, rfl, ?_⟩
      rw [if_pos rfl]
      exact ⟨S3, _, W', kw, o3, h3, fun w S4 H4 o4 h4 => l' y w S4 Q' H4 Q o4 h4 k⟩
    · refine ⟨false, rfl, ?_⟩
      rw [if_neg Bool.false_ne_true]
      exact k _ _ _ o3 h3
    · exact h3.elim⟩⟩

/-! ### tests -/
def sTst (t : sE) : sT := fun W σ S Q => t W σ S fun x S1 => match x with
  | .bl b => Q b S1
  | _ => False
theorem gTst {e : Expr} {t : sE} (h : PE X e (dE W t)) (he : ∀ whole, isTrue e X.env whole = (do let v ← whole; standAt e.pos; holding [v] (truthy v)) := by intro _; rfl) : PT X e (dT W (sTst t)) :=
  PT.by (pt_val h he) fun σ H Q ⟨S, Q', W', kw, o, h, k⟩ => ⟨S, _, W', kw, o, h, fun x S1 H1 o1 h1 => by
    split at h1
    · exact ⟨_, rfl, k _ _ _ o1 h1⟩
    · exact h1.elim⟩
theorem gTcmp {op : CmpOp} {r : s2} {R : R2} (ho : OpR X (compareOp op) R) (l : Lift2 r R) (ha : PE X a (dE W ta)) (hb : PE X b (dE W tb)) (hm : behindInMarks op b = false) : PT X (.Compare a [op] [b] pos) (dT W (sTst (sOp r ta tb))) :=
  PT.by (pt_cmpR ho ha hb hm) fun σ H Q ⟨S, Q', W', kw, o, h, k⟩ => ⟨S, _, W', kw, o, h, fun x S1 H1 o1 h1 => ⟨S1, _, W', kw, o1, h1, fun y S2 H2 o2 h2 => l x y S2 _ H2 _ o2 h2 fun z S3 H3 o3 h3 => by
    split at h3
    · exact ⟨_, rfl, k _ _ _ o3 h3⟩
    · exact h3.elim⟩⟩
theorem gTchain {op op' : CmpOp} {r r' : s2} {R R' : R2} (ho : OpR X (compareOp op) R) (ho' : OpR X (compareOp op') R') (l : Lift2 r R) (l' : Lift2 r' R') (ha : PE X a (dE W ta)) (hb : PE X b (dE W tb)) (hc : PE X c (dE W tc))
    (hm : lastMarks [op, op'] [b, c] = false := by with_unfolding_all rfl) : PT X (.Compare a [op, op'] [b, c] pos) (dT W (sTst (sChain r r' ta tb tc))) :=
  PT.by (pt_chain ho ho' ha hb hc hm) fun σ H Q ⟨S, Q', W', kw, o, h, k⟩ => ⟨S, _, W', kw, o, h, fun x S1 H1 o1 h1 => ⟨S1, _, W', kw, o1, h1, fun y S2 H2 o2 h2 => l x y S2 _ H2 _ o2 h2 fun z S3 H3 o3 h3 => by
    split at h3
    · refine ⟨true, rfl, ?_⟩
      rw [if_pos rfl]
      exact ⟨S3, _, W', kw, o3, h3, fun w S4 H4 o4 h4 => l' y w S4 _ H4 _ o4 h4 fun z' S5 H5 o5 h5 => by
        split at h5
        · exact ⟨_, rfl, k _ _ _ o5 h5⟩
        · exact h5.elim⟩
    · refine ⟨false, rfl, ?_⟩
      rw [if_neg Bool.false_ne_true]
      exact ⟨false, rfl, k _ _ _ o3 h3⟩
    · exact h3.elim⟩⟩
theorem gTEq (hu : X.A.units + 64 < cLine) (ha : PE X a (dE W ta)) (hb : PE X b (dE W tb)) : PT X (.Compare a [.Eq] [b] pos) (dT W (sTst (sOp (oEq X.K) ta tb))) := gTcmp (OpR.or op_eq (op_eqD hu)) lEq ha hb (nomark _)
theorem gTNe (hu : X.A.units + 64 < cLine) (ha : PE X a (dE W ta)) (hb : PE X b (dE W tb)) : PT X (.Compare a [.NotEq] [b] pos) (dT W (sTst (sOp (oNe X.K) ta tb))) := gTcmp (OpR.or op_ne (op_neD hu)) lNe ha hb (nomark _)
theorem gTLt (ha : PE X a (dE W ta)) (hb : PE X b (dE W tb)) : PT X (.Compare a [.Lt] [b] pos) (dT W (sTst (sOp oLt ta tb))) := gTcmp (OpR.or op_lt op_lt_str) lOrd ha hb (nomark _)
theorem gTLe (ha : PE X a (dE W ta)) (hb : PE X b (dE W tb)) : PT X (.Compare a [.LtE] [b] pos) (dT W (sTst (sOp oLe ta tb))) := gTcmp (OpR.or op_le op_le_str) lOrd ha hb (nomark _)
theorem gTGt (ha : PE X a (dE W ta)) (hb : PE X b (dE W tb)) : PT X (.Compare a [.Gt] [b] pos) (dT W (sTst (sOp oGt ta tb))) := gTcmp (OpR.or op_gt op_gt_str) lOrd ha hb (nomark _)
theorem gTGe (ha : PE X a (dE W ta)) (hb : PE X b (dE W tb)) : PT X (.Compare a [.GtE] [b] pos) (dT W (sTst (sOp oGe ta tb))) := gTcmp (OpR.or op_ge op_ge_str) lOrd ha hb (nomark _)
theorem gTIsN (ha : PE X a (dE W ta)) (hb : PE X b (dE W tb)) : PT X (.Compare a [.Is] [b] pos) (dT W (sTst (sOp oIsN ta tb))) := gTcmp op_isN lIsN ha hb (nomark _)
theorem gTNotN (ha : PE X a (dE W ta)) (hb : PE X b (dE W tb)) : PT X (.Compare a [.IsNot] [b] pos) (dT W (sTst (sOp oNotN ta tb))) := gTcmp op_notN lNotN ha hb (nomark _)
theorem gTIn (ha : PE X a (dE W ta)) (hb : PE X b (dE W tb)) (hm : behindInMarks .In b = false) : PT X (.Compare a [.In] [b] pos) (dT W (sTst (sOp (oIn X.K false) ta tb))) := gTcmp (OpR.or op_in_str op_in_seq) lIn ha hb hm
theorem gTNotIn (ha : PE X a (dE W ta)) (hb : PE X b (dE W tb)) (hm : behindInMarks .NotIn b = false) : PT X (.Compare a [.NotIn] [b] pos) (dT W (sTst (sOp (oIn X.K true) ta tb))) := gTcmp (OpR.or op_notin_str op_notIn_seq) lNotIn ha hb hm
/-- truth of any value -/
def oTru (K : PySem.W.Frag) (x : V) (S : SH) (Q : Bool → SH → Prop) : Prop := match x with
  | .non => Q false S
  | .bl b => Q b S
  | .int i => Q (i != 0) S
  | .str y => y.length ≤ sizeLine ∧ Q ((y.length : Int) != 0) S
  | .ref p => (∃ xs, sL K S p xs ∧ Q (!xs.isEmpty) S) ∨ (∃ xs, sU K S p xs ∧ Q (!xs.isEmpty) S) ∨ ∃ kvs, At S p (.dK kvs) ∧ Q (!kvs.isEmpty) S
  | _ => False
theorem lTru {K : PySem.W.Frag} {x : V} {S : SH} {Q' : Bool → SH → Prop} {H : Hp} {Q : Bool → Hp → Prop} (o : Own S H) (h : oTru K x S Q') (k : Imp Q' Q) : ∃ b, TruV K x H b ∧ Q b H := by
  unfold oTru at h
  unfold TruV
  cases x with
  | non => exact ⟨_, rfl, k _ _ _ o h⟩
  | bl b => exact ⟨_, rfl, k _ _ _ o h⟩
  | int i => exact ⟨_, rfl, k _ _ _ o h⟩
  | str y => exact ⟨_, ⟨h.1, rfl⟩, k _ _ _ o h.2⟩
  | ref p =>
    rcases h with ⟨xs, h1, h2⟩ | ⟨xs, h1, h2⟩ | ⟨kvs, h1, h2⟩
    · exact ⟨_, .inl ⟨xs, o.l h1, rfl⟩, k _ _ _ o h2⟩
    · exact ⟨_, .inr (.inl ⟨xs, o.u h1, rfl⟩), k _ _ _ o h2⟩
    · exact ⟨_, .inr (.inr ⟨kvs, o.at h1, rfl⟩), k _ _ _ o h2⟩
  | byt y => exact h.elim
  | flt y => exact h.elim
  | ty y => exact h.elim
def sTru (K : PySem.W.Frag) (t : sE) : sT := fun W σ S Q => t W σ S fun x S1 => oTru K x S1 Q
theorem gTru {e : Expr} {t : sE} (h : PE X e (dE W t)) (he : ∀ whole, isTrue e X.env whole = (do let v ← whole; standAt e.pos; holding [v] (truthy v)) := by intro _; rfl) : PT X e (dT W (sTru X.K t)) :=
  PT.by (pt_truth h he) fun σ H Q ⟨S, Q', W', kw, o, h, k⟩ => ⟨S, _, W', kw, o, h, fun x S1 H1 o1 h1 => lTru o1 h1 k⟩
variable {tA tB : sT} {rest : List Expr}
def sAnd (t u : sT) : sT := fun W σ S Q => t W σ S fun c S1 => match c with
    | true => u W σ S1 Q
    | false => Q false S1
def sOr (t u : sT) : sT := fun W σ S Q => t W σ S fun c S1 => match c with
    | true => Q true S1
    | false => u W σ S1 Q
def sNot (t : sT) : sT := fun W σ S Q => t W σ S fun c S1 => Q (!c) S1
theorem gAnd (ha : PT X a (dT W tA)) (hb : PW X (.BoolOp .And (b :: rest) pos) (dT W tB)) : PW X (.BoolOp .And (a :: b :: rest) pos) (dT W (sAnd tA tB)) :=
  PW.by (pw_and ha hb) fun σ H Q ⟨S, Q', W', kw, o, h, k⟩ => ⟨S, _, W', kw, o, h, fun c S1 H1 o1 h1 => by
    cases c with
    | true => exact ⟨S1, Q', W', kw, o1, h1, k⟩
    | false => exact k _ _ _ o1 h1⟩
theorem gOr (ha : PT X a (dT W tA)) (hb : PW X (.BoolOp .Or (b :: rest) pos) (dT W tB)) : PW X (.BoolOp .Or (a :: b :: rest) pos) (dT W (sOr tA tB)) :=
  PW.by (pw_or ha hb) fun σ H Q ⟨S, Q', W', kw, o, h, k⟩ => ⟨S, _, W', kw, o, h, fun c S1 H1 o1 h1 => by
    cases c with
    | false => exact ⟨S1, Q', W', kw, o1, h1, k⟩
    | true => exact k _ _ _ o1 h1⟩
theorem gTNot (ha : PT X a (dT W tA)) : PT X (.UnaryOp .Not a pos) (dT W (sNot tA)) :=
  PT.by (pt_not ha) fun σ H Q ⟨S, Q', W', kw, o, h, k⟩ => ⟨S, _, W', kw, o, h, fun c S1 H1 o1 h1 => k _ _ _ o1 h1⟩
/-- and, or, not as values of truth values -/
def sAndV (ta tb : sE) : sE := fun W σ S Q => ta W σ S fun x S1 => match x with
  | .bl true => tb W σ S1 Q
  | .bl false => Q (.bl false) S1
  | _ => False
def sOrV (ta tb : sE) : sE := fun W σ S Q => ta W σ S fun x S1 => match x with
  | .bl false => tb W σ S1 Q
  | .bl true => Q (.bl true) S1
  | _ => False
def sNotV (K : PySem.W.Frag) (ta : sE) : sE := fun W σ S Q => ta W σ S fun x S1 => oTru K x S1 fun k S2 => Q (.bl (!k)) S2
theorem gAndV (ha : PE X a (dE W ta)) (hb : PE X (.BoolOp .And (b :: rest) pos) (dE W tb)) : PE X (.BoolOp .And (a :: b :: rest) pos) (dE W (sAndV ta tb)) :=
  PE.by (pe_and ha hb) fun σ H Q ⟨S, Q', W', kw, o, h, k⟩ => ⟨S, _, W', kw, o, h, fun x S1 H1 o1 h1 => by
    split at h1
    · exact ⟨true, rfl, S1, Q', W', kw, o1, h1, k⟩
    · exact ⟨false, rfl, k _ _ _ o1 h1⟩
    · exact h1.elim⟩
theorem gOrV (ha : PE X a (dE W ta)) (hb : PE X (.BoolOp .Or (b :: rest) pos) (dE W tb)) : PE X (.BoolOp .Or (a :: b :: rest) pos) (dE W (sOrV ta tb)) :=
  PE.by (pe_or ha hb) fun σ H Q ⟨S, Q', W', kw, o, h, k⟩ => ⟨S, _, W', kw, o, h, fun x S1 H1 o1 h1 => by
    split at h1
    · exact ⟨false, rfl, S1, Q', W', kw, o1, h1, k⟩
    · exact ⟨true, rfl, k _ _ _ o1 h1⟩
    · exact h1.elim⟩
theorem gNotV (ha : PE X a (dE W ta)) : PE X (.UnaryOp .Not a pos) (dE W (sNotV X.K ta)) :=
  PE.by (pe_notT ha) fun σ H Q ⟨S, Q', W', kw, o, h, k⟩ => ⟨S, _, W', kw, o, h, fun x S1 H1 o1 h1 => lTru o1 h1 fun b S2 H2 o2 h2 => k _ _ _ o2 h2⟩
def sIf (t : sT) (ta tb : sE) : sE := fun W σ S Q => t W σ S fun c S1 => match c with
    | true => ta W σ S1 Q
    | false => tb W σ S1 Q
theorem gIfE {e : Expr} (ht : PT X e (dT W tA)) (ha : PE X a (dE W ta)) (hb : PE X b (dE W tb)) : PE X (.IfExp e a b pos) (dE W (sIf tA ta tb)) :=
  PE.by (pe_ifExp ht ha hb) fun σ H Q ⟨S, Q', W', kw, o, h, k⟩ => ⟨S, _, W', kw, o, h, fun c S1 H1 o1 h1 => by
    cases c with
    | true => exact ⟨S1, Q', W', kw, o1, h1, k⟩
    | false => exact ⟨S1, Q', W', kw, o1, h1, k⟩⟩

/-! ### argument lists, displays -/
variable {es : List Expr} {tas : sA}
def sNil : sA := fun _ _ S Q => Q [] S
def sCons (t : sE) (r : sA) : sA := fun W σ S Q => t W σ S fun x S1 => r W σ S1 fun xs S2 => Q (x :: xs) S2
theorem gNil : PA X [] (dA W sNil) := PA.by pa_nil fun σ H Q ⟨S, Q', W', kw, o, h, k⟩ => k _ _ _ o h
theorem gCons (ha : PE X a (dE W ta)) (hr : PA X es (dA W tas)) (hs : starEach (a :: es) X.env = (false, eval a X.env) :: starEach es X.env := by rfl) : PA X (a :: es) (dA W (sCons ta tas)) :=
  PA.by (pa_cons ha hr hs) fun σ H Q ⟨S, Q', W', kw, o, h, k⟩ => ⟨S, _, W', kw, o, h, fun x S1 H1 o1 h1 => ⟨S1, _, W', kw, o1, h1, fun xs S2 H2 o2 h2 => k _ _ _ o2 h2⟩⟩
def sTup (t : sA) : sE := fun W σ S Q => t W σ S fun xs S1 => xs.length ≤ sizeLine ∧ ∀ p, Q (.ref p) (S1.new p (.tup xs))
def sLst (t : sA) : sE := fun W σ S Q => t W σ S fun xs S1 => xs.length ≤ sizeLine ∧ ∀ p, Q (.ref p) (S1.new p (.lst xs))
theorem gTup {x1} (h : PA X es (dA W tas)) : PE X (.Tuple es x1 pos) (dE W (sTup tas)) :=
  PE.by (pe_tup h) fun σ H Q ⟨S, Q', W', kw, o, h, k⟩ => ⟨S, _, W', kw, o, h, fun xs S1 H1 o1 h1 => ⟨h1.1, fun p hp => k _ _ _ (o1.newU hp) (h1.2 p)⟩⟩
theorem gLst (h : PA X es (dA W tas)) : PE X (.List es pos) (dE W (sLst tas)) :=
  PE.by (pe_lst h) fun σ H Q ⟨S, Q', W', kw, o, h, k⟩ => ⟨S, _, W', kw, o, h, fun xs S1 H1 o1 h1 => ⟨h1.1, fun p hp => k _ _ _ (o1.newU hp) (h1.2 p)⟩⟩
def sCall1 (r : sN) (t : sA) : sE := fun W σ S Q => t W σ S fun vs S1 => r vs S1 Q
def LiftN (r : sN) (R : List V → Hp → VK → Prop) : Prop := ∀ vs S Q' H Q, Own S H → r vs S Q' → Imp Q' Q → R vs H Q
theorem gB {id : String} {x : Str} {p : Pos} {e : Expr} {r : sN} {R : List V → Hp → VK → Prop} (hc : CallR X (.builtin id) R) (l : LiftN r R) (hg : Gl X x) (hm : X.mg x = none) (hv : bootBuiltins x = some (.builtin id)) (ha : PA X (e :: es) (dA W tas)) (hn : x ≠ "__name__" := by decide) (hdb : (x == ("__debug__" : Str)) = false := by decide)
    (he : starEach (e :: es) X.env = (false, eval e X.env) :: starEach es X.env := by rfl) (hpl : (backTo pos (starEach es X.env)).any (·.1) = false := by rfl) : PE X (.Call (.Name x p) (e :: es) [] pos) (dE W (sCall1 r tas)) :=
  PE.by (pe_callB hc hg hm hv ha hn hdb he hpl) fun σ H Q ⟨S, Q', W', kw, o, h, k⟩ => ⟨S, _, W', kw, o, h, fun vs S1 H1 o1 h1 => l vs S1 Q' H1 Q o1 h1 k⟩
theorem gTy {T : String} {x : Str} {p : Pos} {e : Expr} {r : sN} {R : List V → Hp → VK → Prop} (hc : CallR X (.type T) R) (l : LiftN r R) (hg : Gl X x) (hm : X.mg x = none) (hv : bootBuiltins x = some (.type T)) (ha : PA X (e :: es) (dA W tas)) (hn : x ≠ "__name__" := by decide) (hdb : (x == ("__debug__" : Str)) = false := by decide)
    (he : starEach (e :: es) X.env = (false, eval e X.env) :: starEach es X.env := by rfl) (hpl : (backTo pos (starEach es X.env)).any (·.1) = false := by rfl) : PE X (.Call (.Name x p) (e :: es) [] pos) (dE W (sCall1 r tas)) :=
  PE.by (pe_callTy hc hg hm hv ha hn hdb he hpl) fun σ H Q ⟨S, Q', W', kw, o, h, k⟩ => ⟨S, _, W', kw, o, h, fun vs S1 H1 o1 h1 => l vs S1 Q' H1 Q o1 h1 k⟩
/-- len -/
def nLen (K : PySem.W.Frag) : sN := fun vs S Q => match vs with
  | [.str z] => z.length ≤ sizeLine ∧ Q (.int z.length) S
  | [.ref p] => ∃ xs, (sL K S p xs ∨ sU K S p xs) ∧ Q (.int xs.length) S
  | _ => False
theorem lLen {K : PySem.W.Frag} : LiftN (nLen K) (fun xs H Q => ∃ x n, xs = [x] ∧ LenV K x H n ∧ Q (.int n) H) := by
  intro vs S Q' H Q o h k
  unfold nLen at h
  split at h
  · exact ⟨_, _, rfl, ⟨h.1, rfl⟩, k _ _ _ o h.2⟩
  · obtain ⟨xs, h1, h2⟩ := h
    rcases h1 with h1 | h1
    · exact ⟨_, xs.length, rfl, .inl ⟨xs, o.l h1, rfl⟩, k _ _ _ o h2⟩
    · exact ⟨_, xs.length, rfl, .inr ⟨xs, o.u h1, rfl⟩, k _ _ _ o h2⟩
  · exact h.elim
/-- int, abs -/
def nInt : sN := fun vs S Q => match vs with
  | [.int i] => Q (.int i) S
  | [.bl b] => Q (.int (if b then 1 else 0)) S
  | _ => False
theorem lInt : LiftN nInt (fun xs H Q => (∃ i, xs = [.int i] ∧ Q (.int i) H) ∨ ∃ k, xs = [.bl k] ∧ Q (.int (if k then 1 else 0)) H) := by
  intro vs S Q' H Q o h k
  unfold nInt at h
  split at h
  · exact .inl ⟨_, rfl, k _ _ _ o h⟩
  · exact .inr ⟨_, rfl, k _ _ _ o h⟩
  · exact h.elim
def nAbs : sN := fun vs S Q => match vs with
  | [.int i] => Q (.int (if i < 0 then -i else i)) S
  | _ => False
theorem lAbs : LiftN nAbs (fun xs H Q => ∃ i, xs = [.int i] ∧ Q (.int (if i < 0 then -i else i)) H) := by
  intro vs S Q' H Q o h k
  unfold nAbs at h
  split at h
  · exact ⟨_, rfl, k _ _ _ o h⟩
  · exact h.elim
/-- sum of a list of ints -/
def nSum (K : PySem.W.Frag) : sN := fun vs S Q => match vs with
  | [.ref p] => ∃ ns : List Int, sL K S p (ns.map V.int) ∧ Q (.int ns.sum) S
  | _ => False
theorem lSum {K : PySem.W.Frag} : LiftN (nSum K) (rSum K) := by
  intro vs S Q' H Q o h k
  unfold nSum at h
  split at h
  · obtain ⟨ns, h1, h2⟩ := h
    exact ⟨_, ns, rfl, o.l h1, k _ _ _ o h2⟩
  · exact h.elim
/-- list(xs) -/
def nList (K : PySem.W.Frag) : sN := fun vs S Q => match vs with
  | [.ref p] => ∃ xs, (sL K S p xs ∨ sU K S p xs) ∧ ∀ r, Q (.ref r) (S.new r (.lst xs))
  | _ => False
theorem lList {K : PySem.W.Frag} : LiftN (nList K) (fun xs H Q => ∃ p ys, xs = [.ref p] ∧ (SqL K H p ys ∨ SqT K H p ys) ∧ ∀ l, H l = none → Q (.ref l) (upd H l (.lst ys))) := by
  intro vs S Q' H Q o h k
  unfold nList at h
  split at h
  · obtain ⟨xs, h1, h2⟩ := h
    exact ⟨_, xs, rfl, h1.elim (fun z => .inl (o.l z)) (fun z => .inr (o.u z)), fun l hl => k _ _ _ (o.newU hl) (h2 l)⟩
  · exact h.elim

/-! ### subscripts -/
def oIx (K : PySem.W.Frag) : s2 := fun x y S Q => match x, y with
  | .ref p, .int i => ∃ xs v, (sL K S p xs ∨ sU K S p xs) ∧ atI xs i = some v ∧ Q v S
  | .str z, .int i => z.length ≤ sizeLine ∧ ∃ c, atI z.cps.toList i = some c ∧ Q (.str ⟨#[c]⟩) S
  | _, _ => False
theorem lIx {K : PySem.W.Frag} : Lift2 (oIx K) (rIx K) := by
  intro x y S Q' H Q o h k
  unfold oIx at h
  split at h
  · obtain ⟨xs, v, h1, h2, h3⟩ := h
    rcases h1 with h1 | h1
    · exact .inl ⟨_, xs, _, v, rfl, rfl, o.l h1, h2, k _ _ _ o h3⟩
    · exact .inr (.inl ⟨_, xs, _, v, rfl, rfl, o.u h1, h2, k _ _ _ o h3⟩)
  · obtain ⟨hz, c, h2, h3⟩ := h
    exact .inr (.inr ⟨_, _, c, rfl, rfl, hz, h2, k _ _ _ o h3⟩)
  · exact h.elim
theorem gIx (ha : PE X a (dE W ta)) (hb : PE X b (dE W tb)) (hs : PlainIx b := by intro _ _; rfl) : PE X (.Subscript a b pos) (dE W (sOp (oIx X.K) ta tb)) :=
  PE.by (pe_ix ix_seq ha hb hs) (lift_op lIx)
/-- a slice's part -/
abbrev sO := sWX → St → SH → (Option Int → SH → Prop) → Prop
def dO (W : WX) (t : sO) : TO := fun σ H Q => ∃ S Q' W', ImpW W' W ∧ Own S H ∧ t W' σ S Q' ∧ Imp Q' Q
theorem PO.by {e : Option Expr} {t t' : TO} (h : PO X e t) (k : ∀ σ H Q, t' σ H Q → t σ H Q) : PO X e t' := ⟨fun pins s σ H Q I q => h.run pins s σ H Q I (k σ H Q q)⟩
def sNoP : sO := fun _ _ S Q => Q none S
def sPart (t : sE) : sO := fun W σ S Q => t W σ S fun x S1 => match x with
  | .int i => Q (some i) S1
  | _ => False
theorem gNoP : PO X none (dO W sNoP) := PO.by po_none fun σ H Q ⟨S, Q', W', kw, o, h, k⟩ => k _ _ _ o h
theorem gPart {e : Expr} {t : sE} (h : PE X e (dE W t)) : PO X (some e) (dO W (sPart t)) := PO.by (po_some h) fun σ H Q ⟨S, Q', W', kw, o, h, k⟩ => ⟨S, _, W', kw, o, h, fun x S1 H1 o1 h1 => by
  split at h1
  · exact ⟨_, rfl, k _ _ _ o1 h1⟩
  · exact h1.elim⟩
def oSl (K : PySem.W.Frag) (x : V) (lo hi : Option Int) (S : SH) (Q : V → SH → Prop) : Prop := match x with
  | .str z => z.length ≤ sizeLine ∧ Q (.str (cutS z lo hi)) S
  | .ref p => (∃ xs, sL K S p xs ∧ ∀ r, Q (.ref r) (S.new r (.lst (cutV xs lo hi)))) ∨
      ∃ xs, sU K S p xs ∧ ¬ (HT.sIx xs.length 0 lo = 0 ∧ HT.sIx xs.length xs.length hi = xs.length) ∧ ∀ r, Q (.ref r) (S.new r (.tup (cutV xs lo hi)))
  | _ => False
def sSl (K : PySem.W.Frag) (te : sE) (tl th : sO) : sE := fun W σ S Q => te W σ S fun x S1 => tl W σ S1 fun l S2 => th W σ S2 fun u S3 => oSl K x l u S3 Q
theorem gSl {lo hi : Option Expr} {tl th : sO} {p2 : Pos} (he : PE X a (dE W ta)) (hl : PO X lo (dO W tl)) (hu : PO X hi (dO W th)) : PE X (.Subscript a (.Slice lo hi none p2) pos) (dE W (sSl X.K ta tl th)) :=
  PE.by (pe_slice (SlR.or sl_str (SlR.or sl_list sl_tup)) he hl hu) fun σ H Q ⟨S, Q', W', kw, o, h, k⟩ => ⟨S, _, W', kw, o, h, fun x S1 H1 o1 h1 => ⟨S1, _, W', kw, o1, h1, fun l S2 H2 o2 h2 => ⟨S2, _, W', kw, o2, h2, fun u S3 H3 o3 h3 => by
    unfold oSl at h3
    split at h3
    · exact .inl ⟨_, rfl, h3.1, k _ _ _ o3 h3.2⟩
    · rcases h3 with ⟨xs, h3, h4⟩ | ⟨xs, h3, h5, h4⟩
      · exact .inr (.inl ⟨_, xs, rfl, o3.l h3, fun r hr => k _ _ _ (o3.newU hr) (h4 r)⟩)
      · exact .inr (.inr ⟨_, xs, rfl, o3.u h3, h5, fun r hr => k _ _ _ (o3.newU hr) (h4 r)⟩)
    · exact h3.elim⟩⟩⟩

/-! ### methods of built-in types -/
/-- o.m(args): r by the receiver and the arguments -/
abbrev sM := V → List V → SH → (V → SH → Prop) → Prop
def LiftM (r : sM) (R : V → List V → Hp → VK → Prop) : Prop := ∀ x vs S Q' H Q, Own S H → r x vs S Q' → Imp Q' Q → R x vs H Q
def sTy (K : PySem.W.Frag) (T : String) (x : V) (S : SH) : Prop := match x with
  | .str _ => T = "str"
  | .int _ => T = "int"
  | .ref p => (T = "list" ∧ ∃ xs, sL K S p xs) ∨ (T = "dict" ∧ ((∃ kvs, At S p (.dK kvs)) ∨ ∃ kvs, At S p (.dT kvs))) ∨ (T = "set" ∧ ∃ f n, At S p (.set f n))
  | _ => False
theorem Own.ty {K : PySem.W.Frag} {T : String} {x : V} {S : SH} {H : Hp} (o : Own S H) (h : sTy K T x S) : tyV K T x H := by
  unfold sTy at h
  unfold tyV
  cases x with
  | str _ => exact h
  | int _ => exact h
  | ref p =>
    rcases h with ⟨e, xs, h⟩ | ⟨e, h⟩ | ⟨e, f, n, h⟩
    · exact .inl ⟨e, xs, o.l h⟩
    · exact .inr (.inr (.inl ⟨e, h.elim (fun ⟨kvs, z⟩ => .inl ⟨kvs, o.at z⟩) (fun ⟨kvs, z⟩ => .inr ⟨kvs, o.at z⟩)⟩))
    · exact .inr (.inr (.inr ⟨e, f, n, o.at h⟩))
  | non => exact h.elim
  | bl _ => exact h.elim
  | byt _ => exact h.elim
  | flt _ => exact h.elim
  | ty _ => exact h.elim
def sMt (K : PySem.W.Frag) (T : String) (r : sM) (to : sE) (t : sA) : sE := fun W σ S Q => to W σ S fun x S1 => sTy K T x S1 ∧ t W σ S1 fun vs S2 => r x vs S2 Q
section
variable {o e : Expr} {to : sE} {name : Str} {apos cpos : Pos} {T id : String} {r : sM} {R : V → List V → Hp → VK → Prop}
theorem gM0 (pa : PlainAttrs T) (slot : Slot T name id) (hty : typeOf (.builtin id) = pure (.type "method_descriptor")) (hm : MtR X id R) (l : LiftM r R) (ho : PE X o (dE W to))
    (hbase : attributeBase o name X.env (eval o X.env) = eval o X.env := by rfl) (hline : (apos.endLine == cpos.line) = true := by rfl) : PE X (.Call (.Attribute o name apos) [] [] cpos) (dE W (sMt X.K T r to sNil)) :=
  PE.by (pe_bm0 pa slot hty hm ho hbase hline) fun σ H Q ⟨S, Q', W', kw, o, h, k⟩ => ⟨S, _, W', kw, o, h, fun x S1 H1 o1 h1 => ⟨o1.ty h1.1, l x [] S1 Q' H1 Q o1 h1.2 k⟩⟩
theorem gM (pa : PlainAttrs T) (slot : Slot T name id) (hty : typeOf (.builtin id) = pure (.type "method_descriptor")) (hm : MtR X id R) (l : LiftM r R) (ho : PE X o (dE W to)) (ha : PA X (e :: es) (dA W tas))
    (hbase : attributeBase o name X.env (eval o X.env) = eval o X.env := by rfl)
    (hfew : ((backTo cpos (starEach (e :: es) X.env)).all (fun x => !x.1) && (backToKw cpos (keywordEach [] X.env)).all (fun x => x.1.isSome)
      && decide ((e :: es).length + ([] : List Keyword).length + (if ([] : List Keyword).isEmpty then 0 else 1) < 30)) = true := by rfl)
    (hline : (apos.endLine == cpos.line) = true := by rfl) (hs : starEach (e :: es) X.env = (false, eval e X.env) :: starEach es X.env := by rfl) (hplain : (backTo cpos (starEach es X.env)).any (·.1) = false := by rfl) :
    PE X (.Call (.Attribute o name apos) (e :: es) [] cpos) (dE W (sMt X.K T r to tas)) :=
  PE.by (pe_bm pa slot hty hm ho ha hbase hfew hline hs hplain) fun σ H Q ⟨S, Q', W', kw, o, h, k⟩ => ⟨S, _, W', kw, o, h, fun x S1 H1 o1 h1 => ⟨o1.ty h1.1, ⟨S1, _, W', kw, o1, h1.2, fun vs S2 H2 o2 h2 => l x vs S2 Q' H2 Q o2 h2 k⟩⟩⟩
end
def mAppend : sM := fun x vs S Q => match x, vs with
  | .ref l, [y] => ∃ i xs, S.G[i]? = some (l, .lst xs) ∧ xs.length < sizeLine ∧ Q .non (S.put i l (.lst (xs ++ [y])))
  | _, _ => False
theorem lAppend : LiftM mAppend rAppend := by
  intro x vs S Q' H Q o h k
  unfold mAppend at h
  split at h
  · obtain ⟨i, xs, h1, h2, h3⟩ := h
    exact ⟨_, xs, _, rfl, rfl, o.g h1, h2, k _ _ _ (o.putU h1) h3⟩
  · exact h.elim
def mPop : sM := fun x vs S Q => match x, vs with
  | .ref l, [] => ∃ i xs y, S.G[i]? = some (l, .lst xs) ∧ xs[xs.length - 1]? = some y ∧ Q y (S.put i l (.lst xs.dropLast))
  | _, _ => False
theorem lPop : LiftM mPop rPop := by
  intro x vs S Q' H Q o h k
  unfold mPop at h
  split at h
  · obtain ⟨i, xs, y, h1, h2, h3⟩ := h
    exact ⟨_, xs, y, rfl, rfl, o.g h1, h2, k _ _ _ (o.putU h1) h3⟩
  · exact h.elim
def mPopAt : sM := fun x vs S Q => match x, vs with
  | .ref l, [.int j] => ∃ i xs k y, S.G[i]? = some (l, .lst xs) ∧ (-(2 ^ 63) ≤ j ∧ j < 2 ^ 63) ∧ seqIndex? j xs.length = some k ∧ xs[k]? = some y ∧ Q y (S.put i l (.lst (xs.eraseIdx k)))
  | _, _ => False
theorem lPopAt : LiftM mPopAt rPopAt := by
  intro x vs S Q' H Q o h k
  unfold mPopAt at h
  split at h
  · obtain ⟨i, xs, j, y, h1, h2, h3, h4, h5⟩ := h
    exact ⟨_, xs, _, j, y, rfl, rfl, o.g h1, h2.1, h2.2, h3, h4, k _ _ _ (o.putU h1) h5⟩
  · exact h.elim
def mExtend : sM := fun x vs S Q => match x, vs with
  | .ref l, [.ref b] => ∃ i xs zs, S.G[i]? = some (l, .lst xs) ∧ At S b (.lst zs) ∧ xs.length + zs.length ≤ sizeLine ∧ Q .non (S.put i l (.lst (xs ++ zs)))
  | _, _ => False
theorem lExtend : LiftM mExtend rExtend := by
  intro x vs S Q' H Q o h k
  unfold mExtend at h
  split at h
  · obtain ⟨i, xs, zs, h1, h2, h3, h4⟩ := h
    exact ⟨_, _, xs, zs, rfl, rfl, o.g h1, o.at h2, h3, k _ _ _ (o.putU h1) h4⟩
  · exact h.elim
def mReverse : sM := fun x vs S Q => match x, vs with
  | .ref l, [] => ∃ i xs, S.G[i]? = some (l, .lst xs) ∧ Q .non (S.put i l (.lst xs.reverse))
  | _, _ => False
theorem lReverse : LiftM mReverse rReverse := by
  intro x vs S Q' H Q o h k
  unfold mReverse at h
  split at h
  · obtain ⟨i, xs, h1, h2⟩ := h
    exact ⟨_, xs, rfl, rfl, o.g h1, k _ _ _ (o.putU h1) h2⟩
  · exact h.elim
/-- a method of two texts -/
def m1S (g : Str → Str → V) (C : Str → Str → Prop) : sM := fun x vs S Q => match x, vs with
  | .str u, [.str v] => C u v ∧ Q (g u v) S
  | _, _ => False
theorem l1S {g : Str → Str → V} {C : Str → Str → Prop} : LiftM (m1S g C) (fun x xs H Q => ∃ a b, x = .str a ∧ xs = [.str b] ∧ C a b ∧ Q (g a b) H) := by
  intro x vs S Q' H Q o h k
  unfold m1S at h
  split at h
  · exact ⟨_, _, rfl, rfl, h.1, k _ _ _ o h.2⟩
  · exact h.elim
theorem l1S0 {g : Str → Str → V} : LiftM (m1S g fun _ _ => True) (fun x xs H Q => ∃ a b, x = .str a ∧ xs = [.str b] ∧ Q (g a b) H) := by
  intro x vs S Q' H Q o h k
  unfold m1S at h
  split at h
  · exact ⟨_, _, rfl, rfl, k _ _ _ o h.2⟩
  · exact h.elim

/-! ### targets -/
abbrev sG := sWX → V → St → SH → (St → SH → Prop) → Prop
abbrev sGs := sWX → List V → St → SH → (St → SH → Prop) → Prop
def dG (W : WX) (t : sG) : TG := fun v σ H Q => ∃ S Q' W', ImpW W' W ∧ Own S H ∧ t W' v σ S Q' ∧ Imp Q' Q
def dGs (W : WX) (t : sGs) : TGs := fun v σ H Q => ∃ S Q' W', ImpW W' W ∧ Own S H ∧ t W' v σ S Q' ∧ Imp Q' Q
theorem PG.by {e : Expr} {t t' : TG} (h : PG X e t) (k : ∀ v σ H Q, t' v σ H Q → t v σ H Q) : PG X e t' := ⟨fun pins s σ H v u Q I r q => h.run pins s σ H v u Q I r (k v σ H Q q)⟩
theorem PGs.by {e : List Expr} {t t' : TGs} (h : PGs X e t) (k : ∀ v σ H Q, t' v σ H Q → t v σ H Q) : PGs X e t' := ⟨fun pins s σ H v u Q I r q => h.run pins s σ H v u Q I r (k v σ H Q q)⟩
def sgName (i : Nat) : sG := fun _ v σ S Q => Q (σ.set i (some v)) S
def sgNil : sGs := fun _ vs σ S Q => match vs with
  | [] => Q σ S
  | _ => False
def sgCons (t : sG) (u : sGs) : sGs := fun W vs σ S Q => match vs with
  | v :: r => t W v σ S fun σ1 S1 => u W r σ1 S1 Q
  | [] => False
def sgTup (K : PySem.W.Frag) (n : Nat) (t : sGs) : sG := fun W v σ S Q => match v with
  | .ref p => ∃ xs, sU K S p xs ∧ xs.length = n ∧ t W xs σ S Q
  | _ => False
def sgSub (to ti : sE) : sG := fun W v σ S Q => to W σ S fun o S1 => ti W σ S1 fun i S2 => match o, i with
  | .ref p, .int k => ∃ n xs j, S2.G[n]? = some (p, .lst xs) ∧ ixN xs.length k = some j ∧ Q σ (S2.put n p (.lst (xs.set j v)))
  | _, _ => False
theorem ggName {i : Nat} {x : Str} (hN : X.N.Nodup) (hi : X.N[i]? = some x) (hx : Loc X.env.scope x) (hf : X.fn x = true ∨ X.env.scope.names.lookup x = some .local := by first | exact .inl rfl | exact .inr rfl | assumption) : PG X (.Name x pos) (dG W (sgName i)) :=
  PG.by (pg_name hN hi hx hf) fun v σ H Q ⟨S, Q', W', kw, o, h, k⟩ => k _ _ _ o h
theorem ggNil : PGs X [] (dGs W sgNil) := PGs.by pgs_nil fun v σ H Q ⟨S, Q', W', kw, o, h, k⟩ => by
  unfold sgNil at h
  split at h
  · exact ⟨rfl, k _ _ _ o h⟩
  · exact h.elim
theorem ggCons {e : Expr} {t : sG} {u : sGs} (h1 : PG X e (dG W t)) (h2 : PGs X es (dGs W u)) (hs : (assignEach (e :: es) X.env).map (·.2) = assign e X.env :: (assignEach es X.env).map (·.2) := by rfl) : PGs X (e :: es) (dGs W (sgCons t u)) :=
  PGs.by (pgs_cons h1 h2 hs) fun v σ H Q ⟨S, Q', W', kw, o, h, k⟩ => by
    unfold sgCons at h
    split at h
    · exact ⟨_, _, rfl, S, _, W', kw, o, h, fun σ1 S1 H1 o1 h1 => ⟨S1, Q', W', kw, o1, h1, k⟩⟩
    · exact h.elim
theorem ggTup {kk : Nat} {t : sGs} {n : Nat} (hc : X.calm = true) (h : PGs X es (dGs W t)) (hn : (assignEach es X.env).length = n := by rfl) (hst : (assignEach es X.env).findIdx? (·.1) = none := by rfl) : PG X (.Tuple es kk pos) (dG W (sgTup X.K n t)) :=
  PG.by (pg_tup hc h hn hst) fun v σ H Q ⟨S, Q', W', kw, o, h, k⟩ => by
    unfold sgTup at h
    split at h
    · obtain ⟨xs, h1, h2, h3⟩ := h
      exact ⟨_, xs, rfl, o.u h1, h2, S, Q', W', kw, o, h3, k⟩
    · exact h.elim
theorem ggSub {o i : Expr} {to ti : sE} (ho : PE X o (dE W to)) (hi : PE X i (dE W ti))
    (hq : ∀ v, assign (.Subscript o i pos) X.env v = (do
      let ov ← holding [v] (eval o X.env)
      let iv ← holding [v, ov] (eval i X.env)
      standAt pos
      holding [v, ov, iv] (setItem ov iv v)
      release [v, ov, iv] []) := by intro _; rfl) : PG X (.Subscript o i pos) (dG W (sgSub to ti)) :=
  PG.by (pg_sub ho hi set_list hq) fun v σ H Q ⟨S, Q', W', kw, o, h, k⟩ => ⟨S, _, W', kw, o, h, fun x S1 H1 o1 h1 => ⟨S1, _, W', kw, o1, h1, fun y S2 H2 o2 h2 => by
    split at h2
    · obtain ⟨n, xs, j, h3, h4, h5⟩ := h2
      exact ⟨_, xs, _, j, rfl, rfl, o2.g h3, h4, k _ _ _ (o2.putU h3) h5⟩
    · exact h2.elim⟩⟩

/-! ### forgetting -/
/-- what is known may be less -/
def SLe (S S0 : SH) : Prop := ∀ H, Own S H → Own S0 H
def Wk (P : SH → Prop) : SH → Prop := fun S => ∃ S0, SLe S S0 ∧ P S0
theorem SLe.refl (S : SH) : SLe S S := fun _ o => o
theorem SLe.trans {S S1 S2 : SH} (a : SLe S S1) (b : SLe S1 S2) : SLe S S2 := fun H o => b H (a H o)
theorem sle_sub {F : Hp} {G G0 : List (Addr × HO)} (h : G0.Sublist G) : SLe ⟨F, G⟩ ⟨F, G0⟩ := fun H o => ⟨o.fr, fun p q => o.gs p (h.subset q), o.nd.sublist (h.map _)⟩
theorem sle_perm {F : Hp} {G G0 : List (Addr × HO)} (h : G.Perm G0) : SLe ⟨F, G⟩ ⟨F, G0⟩ := fun H o => ⟨o.fr, fun p q => o.gs p (h.mem_iff.mpr q), (h.map _).nodup_iff.mp o.nd⟩
/-- an object goes to the frame -/
theorem sle_frz {F : Hp} {p : Addr} {u : HO} {G : List (Addr × HO)} : SLe ⟨F, (p, u) :: G⟩ ⟨upd F p u, G⟩ := fun H o => by
  have hp := o.gs (p, u) List.mem_cons_self
  have nd := List.nodup_cons.mp o.nd
  refine ⟨fun a x e => ?_, fun q hq => ⟨(o.gs q (List.mem_cons_of_mem _ hq)).1, ?_⟩, nd.2⟩
  · by_cases ha : a = p
    · subst ha
      have e' : upd F a u a = some x := e
      rw [upd_same] at e'
      cases e'
      exact hp.1
    · have e' : upd F p u a = some x := e
      rw [upd_ne ha] at e'
      exact o.fr a x e'
  · have hne : q.1 ≠ p := fun e => nd.1 (List.mem_map.mpr ⟨q, hq, e⟩)
    show upd F p u q.1 = none
    rw [upd_ne hne]
    exact (o.gs q (List.mem_cons_of_mem _ hq)).2
theorem sle_get {S : SH} {i : Nat} {p : Addr} {u : HO} (h : S.G[i]? = some (p, u)) : SLe S ⟨S.F, [(p, u)]⟩ := fun H o => by
  refine ⟨o.fr, fun q hq => ?_, by simp⟩
  have e : q = (p, u) := List.mem_singleton.mp hq
  subst e
  exact o.gs _ (List.mem_of_getElem? h)

/-! ### statements -/
section
variable {st : Stmt} {rest body orelse : List Stmt} {t u : sS}
abbrev sEnds.at (D : sEnds) (n : St → SH → Prop) : sEnds := { D with nx := n }
def sNext : sS := fun D σ S => D.nx σ S
def sSeq (t u : sS) : sS := fun D σ S => t { D with nx := u D } σ S
/-- the same, what follows shown once -/
def sCut (t u : sS) : sS := fun D σ S => ∃ M : St → SH → Prop, t { D with nx := fun σ' => Wk (M σ') } σ S ∧ ∀ σ' S', M σ' S' → u D σ' S'
theorem hNil : PSs X [] (dS W sNext) := PSs.by pss_nil fun D σ H ⟨S, D', o, h, k⟩ => k.nx _ _ _ o h
theorem hCons (h1 : PS X st (dS W t)) (h2 : PSs X rest (dS W u)) : PSs X (st :: rest) (dS W (sSeq t u)) :=
  PSs.by (pss_cons h1 h2) fun D σ H ⟨S, D', o, h, k⟩ => ⟨S, { D' with nx := u D' }, o, h, ⟨fun σ1 S1 H1 o1 h1 => ⟨S1, D', o1, h1, k⟩, k.rt, k.bk, k.ct, k.ex⟩⟩
theorem hCut (h1 : PS X st (dS W t)) (h2 : PSs X rest (dS W u)) : PSs X (st :: rest) (dS W (sCut t u)) :=
  PSs.by (pss_cons h1 h2) fun D σ H ⟨S, D', o, ⟨M, h, hm⟩, k⟩ => ⟨S, { D' with nx := fun σ' => Wk (M σ') }, o, h, ⟨fun σ1 S1 H1 o1 ⟨S0, le, h1⟩ => ⟨S0, D', le _ o1, hm _ _ h1, k⟩, k.rt, k.bk, k.ct, k.ex⟩⟩
theorem hOne (h1 : PS X st (dS W t)) : PSs X [st] (dS W t) := PSs.by (pss_one h1) fun D σ H z => z
def sBreak : sS := fun D σ S => D.bk σ S
def sCont : sS := fun D σ S => D.ct σ S
def sNever : sS := fun _ _ _ => False
theorem hPass : PS X (.Pass pos) (dS W sNext) := PS.by ps_pass fun D σ H ⟨S, D', o, h, k⟩ => k.nx _ _ _ o h
theorem hBreak : PS X (.Break pos) (dS W sBreak) := PS.by ps_break fun D σ H ⟨S, D', o, h, k⟩ => k.bk _ _ _ o h
theorem hCont : PS X (.Continue pos) (dS W sCont) := PS.by ps_continue fun D σ H ⟨S, D', o, h, k⟩ => k.ct _ _ _ o h
theorem hNever : PS X st (dS W sNever) := PS.by ps_never fun D σ H ⟨S, D', o, h, k⟩ => h.elim
theorem hDoc {x j pos pos'} : PS X (.Expr (.Constant (.str x) j pos) pos') (dS W sNext) := PS.by ps_doc fun D σ H ⟨S, D', o, h, k⟩ => k.nx _ _ _ o h
def sDrop (te : sE) : sS := fun D σ S => te D.ex σ S fun _ S1 => D.nx σ S1
theorem hExpr {e : Expr} {te : sE} (he : PE X e (dE W te)) (hs : swapsWith e none pos.line X.env = pure false := by rfl) : PS X (.Expr e pos) (dS W (sDrop te)) :=
  PS.by (ps_expr he hs) fun D σ H ⟨S, D', o, h, k⟩ => ⟨S, _, D'.ex, k.ex, o, h, fun x S1 H1 o1 h1 => k.nx _ _ _ o1 h1⟩
def sRet (te : sE) : sS := fun D σ S => te D.ex σ S D.rt
def sRetN : sS := fun D _ S => D.rt .non S
theorem hRet {e : Expr} {te : sE} (he : PE X e (dE W te)) : PS X (.Return (some e) pos) (dS W (sRet te)) :=
  PS.by (ps_ret he) fun D σ H ⟨S, D', o, h, k⟩ => ⟨S, _, D'.ex, k.ex, o, h, k.rt⟩
theorem hRetN : PS X (.Return none pos) (dS W sRetN) := PS.by ps_retN fun D σ H ⟨S, D', o, h, k⟩ => k.rt _ _ _ o h
def sIfS (c : sT) (t u : sS) : sS := fun D σ S => c D.ex σ S fun b S1 => match b with
    | true => t D σ S1
    | false => u D σ S1
theorem hIf {c : Expr} {a b : List Stmt} {tc : sT} (hc : PT X c (dT W tc)) (ha : PSs X a (dS W t)) (hb : PSs X b (dS W u)) : PS X (.If c a b pos) (dS W (sIfS tc t u)) :=
  PS.by (ps_if hc ha hb) fun D σ H ⟨S, D', o, h, k⟩ => ⟨S, _, D'.ex, k.ex, o, h, fun b S1 H1 o1 h1 => by
    cases b with
    | true => exact ⟨S1, D', o1, h1, k⟩
    | false => exact ⟨S1, D', o1, h1, k⟩⟩
def sAsg (te : sE) (g : sG) : sS := fun D σ S => te D.ex σ S fun x S1 => g D.ex x σ S1 D.nx
theorem hAsg {tg e : Expr} {te : sE} {g : sG} (he : PE X e (dE W te)) (hg : PG X tg (dG W g)) (hs : swapsWithSole [tg] e pos.line X.env = pure false := by rfl) (hw : swappedStores [tg] e X.env = pure none := by rfl)
    (h1 : (assignEach [tg] X.env).map (·.2) = [assign tg X.env] := by rfl) : PS X (.Assign [tg] e pos) (dS W (sAsg te g)) :=
  PS.by (ps_asg he hg hs hw h1) fun D σ H ⟨S, D', o, h, k⟩ => ⟨S, _, D'.ex, k.ex, o, h, fun x S1 H1 o1 h1 => ⟨S1, _, D'.ex, k.ex, o1, h1, k.nx⟩⟩
def sSet (te : sE) (i : Nat) : sS := fun D σ S => te D.ex σ S fun x S1 => D.nx (σ.set i (some x)) S1
theorem hSet {i : Nat} {x : Str} {e : Expr} {te : sE} {pos' : Pos} (hN : X.N.Nodup) (hi : X.N[i]? = some x) (hx : Loc X.env.scope x) (he : PE X e (dE W te)) (hs : swapsWith e (some (.Name x pos')) pos.line X.env = pure false := by rfl) (hf : X.fn x = true ∨ X.env.scope.names.lookup x = some .local := by first | exact .inl rfl | exact .inr rfl | assumption) :
    PS X (.Assign [.Name x pos'] e pos) (dS W (sSet te i)) :=
  PS.by (ps_set hN hi hx he hs hf) fun D σ H ⟨S, D', o, h, k⟩ => ⟨S, _, D'.ex, k.ex, o, h, fun x S1 H1 o1 h1 => k.nx _ _ _ o1 h1⟩
/-- while -/
def sWhile (c : sT) (tb : sS) : sS := fun D σ S => ∃ P : Nat → St → SH → Prop, (∃ m, P m σ S) ∧ ∀ m σ S, P m σ S →
  c D.ex σ S fun b S1 => match b with
    | true => tb { D with nx := fun σ' => Wk fun S' => ∃ m', m' < m ∧ P m' σ' S', ct := fun σ' => Wk fun S' => ∃ m', m' < m ∧ P m' σ' S', bk := D.nx } σ S1
    | false => D.nx σ S1
theorem hWhile {c : Expr} {tc : sT} {tb : sS} (hp : PassesOwn (model X.prog X.w) X.A X.env X.xe) (hc : PT X c (dT W tc)) (hb : PSs X body (dS W tb)) : PS X (.While c body [] pos) (dS W (sWhile tc tb)) :=
  PS.by (ps_while hp hc hb) fun D σ H ⟨S, D', o, ⟨P, ⟨m0, h0⟩, h⟩, k⟩ => ⟨fun m σ H => ∃ S, Own S H ∧ P m σ S, ⟨m0, S, o, h0⟩, fun m σ H ⟨S, o, p⟩ => ⟨S, _, D'.ex, k.ex, o, h m σ S p, fun b S1 H1 o1 h1 => by
    cases b with
    | false => exact k.nx _ _ _ o1 h1
    | true => exact ⟨fun σ H => ∃ m', m' < m ∧ ∃ S, Own S H ∧ P m' σ S, fun σ' H' z => z, S1, _, o1, h1, ⟨fun σ' S' H' o' ⟨S0, le, m', z1, z2⟩ => ⟨m', z1, S0, le _ o', z2⟩, k.rt, k.nx, fun σ' S' H' o' ⟨S0, le, m', z1, z2⟩ => ⟨m', z1, S0, le _ o', z2⟩, k.ex⟩⟩⟩⟩
end

/-! ### what a for walks -/
/-- a walk: its length, what must stand, what a turn yields -/
structure SIt where
  n : Nat
  ok : SH → Prop
  yld : Nat → SH → (V → SH → Prop) → Prop
structure SItOk (J : It) (s : SIt) : Prop where
  stop : ∀ S H i, Own S H → s.ok S → s.n ≤ i → J.stop i H
  go : ∀ S H i, Own S H → s.ok S → i < s.n → J.go i H
  yld : ∀ S H i x H' k, Own S H → s.ok S → i < s.n → J.yld i H x H' → s.yld i S k → ∃ S', Own S' H' ∧ k x S'
abbrev sI := sWX → St → SH → (SIt → SH → Prop) → Prop
def dI (W : WX) (t : sI) : TI := fun σ H R => ∃ S R' W', ImpW W' W ∧ Own S H ∧ t W' σ S R' ∧ ∀ s S' H' J, Own S' H' → SItOk J s → R' s S' → R J H'
theorem PI.by {tg e : Expr} {t t' : TI} (h : PI X tg e t) (k : ∀ σ H R, t' σ H R → t σ H R) : PI X tg e t' := ⟨fun pins s σ H R I q => h.run pins s σ H R I (k σ H R q)⟩
def sFor (i : sI) (g : sG) (tb : sS) : sS := fun D σ S => i D.ex σ S fun s S1 => ∃ P : Nat → St → SH → Prop, P 0 σ S1 ∧ (∀ i σ S, i ≤ s.n → P i σ S → s.ok S) ∧
  (∀ i σ S, i < s.n → P i σ S → s.yld i S fun v S' => g D.ex v σ S' fun σ2 S2 => tb { D with nx := fun σ' => Wk (P (i + 1) σ'), ct := fun σ' => Wk (P (i + 1) σ'), bk := D.nx } σ2 S2) ∧ ∀ σ S, P s.n σ S → D.nx σ S
theorem hFor {tg iter : Expr} {body : List Stmt} {ti : sI} {g : sG} {tb : sS} (hp : PassesOwn (model X.prog X.w) X.A X.env X.xe) (hc : X.calm = true) (hi : PI X tg iter (dI W ti)) (hg : PG X tg (dG W g)) (hb : PSs X body (dS W tb)) (hs : ∀ x, foldedSetIterable iter X.env x = pure x := by intro _; rfl) : PS X (.For tg iter body [] pos) (dS W (sFor ti g tb)) :=
  PS.by (ps_for hp hc hi hg hb hs) fun D σ H ⟨S, D', o, h, k⟩ => ⟨S, _, D'.ex, k.ex, o, h, fun s S1 H1 J o1 j h1 => by
    obtain ⟨P, h0, hok, hs, hd⟩ := h1
    refine ⟨fun i m σ H => m = s.n - i ∧ i ≤ s.n ∧ ∃ S, Own S H ∧ P i σ S, ⟨s.n, by simp, Nat.zero_le _, S1, o1, h0⟩, ?_⟩
    rintro i m σ H ⟨rfl, hi, S2, o2, p⟩
    by_cases hlt : i < s.n
    · refine .inr ⟨j.go S2 H i o2 (hok i σ S2 hi p) hlt, fun σ' H' => ∃ S', Own S' H' ∧ P (i + 1) σ' S', fun σ' H' p' => ⟨s.n - (i + 1), by omega, rfl, hlt, p'⟩, fun x H' y => ?_⟩
      obtain ⟨S', o', q⟩ := j.yld S2 H i x H' _ o2 (hok i σ S2 hi p) hlt y (hs i σ S2 hlt p)
      refine ⟨S', _, D'.ex, k.ex, o', q, fun σ2 S3 H3 o3 q3 => ⟨S3, _, o3, q3, ⟨fun σ4 S4 H4 o4 ⟨S0, le, q4⟩ => ⟨S0, le _ o4, q4⟩, k.rt, k.nx, fun σ4 S4 H4 o4 ⟨S0, le, q4⟩ => ⟨S0, le _ o4, q4⟩, k.ex⟩⟩⟩
    · have e : i = s.n := by omega
      subst e
      exact .inl ⟨j.stop S2 H _ o2 (hok _ σ S2 hi p) (Nat.le_refl _), k.nx _ _ _ o2 (hd σ S2 p)⟩⟩
/-- a list, a tuple -/
def itL (K : PySem.W.Frag) (a : Addr) (xs : List V) : SIt := ⟨xs.length, fun S => sL K S a xs, fun i S k => ∀ v, xs[i]? = some v → k v S⟩
def itU (K : PySem.W.Frag) (a : Addr) (xs : List V) : SIt := ⟨xs.length, fun S => sU K S a xs, fun i S k => ∀ v, xs[i]? = some v → k v S⟩
theorem itL_ok {K : PySem.W.Frag} {a : Addr} {xs : List V} : SItOk (Itl K a) (itL K a xs) :=
  ⟨fun S H i o h hi => ⟨xs, o.l h, hi⟩, fun S H i o h hi => ⟨xs, _, o.l h, List.getElem?_eq_getElem hi⟩, fun S H i x H' k o h hi ⟨e, y⟩ q => by
    subst e
    exact ⟨S, o, q x (y xs (o.l h))⟩⟩
theorem itU_ok {K : PySem.W.Frag} {a : Addr} {xs : List V} : SItOk (Itt K a) (itU K a xs) :=
  ⟨fun S H i o h hi => ⟨xs, o.u h, hi⟩, fun S H i o h hi => ⟨xs, _, o.u h, List.getElem?_eq_getElem hi⟩, fun S H i x H' k o h hi ⟨e, y⟩ q => by
    subst e
    exact ⟨S, o, q x (y xs (o.u h))⟩⟩
def siSeq (K : PySem.W.Frag) (tl : sE) : sI := fun W σ S R => tl W σ S fun x S1 => match x with
  | .ref a => (∃ xs, sL K S1 a xs ∧ R (itL K a xs) S1) ∨ ∃ xs, sU K S1 a xs ∧ R (itU K a xs) S1
  | _ => False
/-- by values: what is walked -/
theorem pi_seq {tg l : Expr} {tl : TE} (hl : PE X l tl) : PI X tg l (fun σ H R => tl σ H fun x H1 => ∃ a, x = .ref a ∧ (((∃ xs, SqL X.K H1 a xs) ∧ R (Itl X.K a) H1) ∨ ((∃ xs, SqT X.K H1 a xs) ∧ R (Itt X.K a) H1))) := by
  refine ⟨fun pins s σ H R I h => ?_⟩
  refine thn (hl.run pins s σ H _ I h) fun v s1 ⟨x, H1, I1, r1, a, e, q⟩ => ?_
  subst e
  cases r1
  rcases q with ⟨⟨xs, hq⟩, q⟩ | ⟨⟨xs, hq⟩, q⟩
  · obtain ⟨its, rv, p, hz⟩ := I1.list hq
    refine wpAny_pyIter_list p.isList ?_
    refine ⟨s1.heap.objs.size, [s1.heap.objs.size], _, _, H1, rfl, I1.kept (t' := s1.toks) fun b o e => Heap.get?_push_of_some _ e, turn_list a _, ⟨_, Heap.get?_push_size _ rfl, rfl, rfl⟩, fun b hb => ?_, q⟩
    have e : b = s1.heap.objs.size := by simpa using hb
    subst e
    exact I1.fpOk (Nat.le_refl _) (I1.hok.fresh (Nat.le_refl _))
  · obtain ⟨its, rv, p, hz⟩ := I1.tuple hq
    refine wpAny_pyIter_tuple (show s1.heap.IsTuple a its.toArray from p) ?_
    refine ⟨s1.heap.objs.size, [s1.heap.objs.size], _, _, H1, rfl, I1.kept (t' := s1.toks) fun b o e => Heap.get?_push_of_some _ e, turn_tuple a _, ⟨_, Heap.get?_push_size _ rfl, rfl, rfl⟩, fun b hb => ?_, q⟩
    have e : b = s1.heap.objs.size := by simpa using hb
    subst e
    exact I1.fpOk (Nat.le_refl _) (I1.hok.fresh (Nat.le_refl _))
theorem iSeq {tg l : Expr} {tl : sE} (hl : PE X l (dE W tl)) : PI X tg l (dI W (siSeq X.K tl)) :=
  PI.by (pi_seq hl) fun σ H R ⟨S, R', W', kw, o, h, k⟩ => ⟨S, _, W', kw, o, h, fun x S1 H1 o1 h1 => by
    split at h1
    · rename_i a
      refine ⟨a, rfl, ?_⟩
      rcases h1 with ⟨xs, h1, h2⟩ | ⟨xs, h1, h2⟩
      · exact .inl ⟨⟨xs, o1.l h1⟩, k _ _ _ _ o1 itL_ok h2⟩
      · exact .inr ⟨⟨xs, o1.u h1⟩, k _ _ _ _ o1 itU_ok h2⟩
    · exact h1.elim⟩
/-- a range -/
def itR (lo : Int) (n : Nat) : SIt := ⟨n, fun _ => True, fun i S k => k (.int (lo + (i : Nat))) S⟩
theorem itR_ok {lo : Int} {n : Nat} : SItOk (Itr lo n) (itR lo n) :=
  ⟨fun S H i o h hi => hi, fun S H i o h hi => hi, fun S H i x H' k o h hi ⟨e, y⟩ q => by
    subst e
    subst y
    exact ⟨S, o, q⟩⟩
def rngOk (i : Int) : Prop := -(2 ^ 62) ≤ i ∧ i < 2 ^ 62
def siR1 (ta : sA) : sI := fun W σ S R => ta W σ S fun vs S1 => match vs with
  | [.int j] => rngOk j ∧ R (itR 0 j.toNat) S1
  | _ => False
def siR2 (ta : sA) : sI := fun W σ S R => ta W σ S fun vs S1 => match vs with
  | [.int i, .int j] => rngOk i ∧ rngOk j ∧ R (itR i (j - i).toNat) S1
  | _ => False
theorem iR1 {tg a : Expr} {ta : sA} {p pos : Pos} (hg : Gl X "range") (hm : X.mg "range" = none) (ha : PA X [a] (dA W ta)) (hs : starEach [a] X.env = [(false, eval a X.env)] := by rfl) : PI X tg (.Call (.Name "range" p) [a] [] pos) (dI W (siR1 ta)) :=
  PI.by (pi_range1 hg hm ha hs) fun σ H R ⟨S, R', W', kw, o, h, k⟩ => ⟨S, _, W', kw, o, h, fun vs S1 H1 o1 h1 => by
    split at h1
    · exact ⟨_, rfl, h1.1.1, h1.1.2, k _ _ _ _ o1 itR_ok h1.2⟩
    · exact h1.elim⟩
theorem iR2 {tg a b : Expr} {ta : sA} {p pos : Pos} (hg : Gl X "range") (hm : X.mg "range" = none) (ha : PA X [a, b] (dA W ta)) (hs : starEach [a, b] X.env = [(false, eval a X.env), (false, eval b X.env)] := by rfl) (hs2 : starEach [b] X.env = [(false, eval b X.env)] := by rfl) :
    PI X tg (.Call (.Name "range" p) [a, b] [] pos) (dI W (siR2 ta)) :=
  PI.by (pi_range2 hg hm ha hs hs2) fun σ H R ⟨S, R', W', kw, o, h, k⟩ => ⟨S, _, W', kw, o, h, fun vs S1 H1 o1 h1 => by
    split at h1
    · exact ⟨_, _, rfl, ⟨h1.1.1, h1.1.2, h1.2.1.1, h1.2.1.2⟩, k _ _ _ _ o1 itR_ok h1.2.2⟩
    · exact h1.elim⟩

/-! ### list comprehensions -/
/-- nothing may be let out -/
def noW : sWX := fun _ _ _ _ => False
abbrev NoW : WX := fun _ _ _ _ => False
theorem noW_imp {W : WX} : ImpW noW W := fun _ _ _ _ _ _ q => q.elim
def sLc (i : sI) (g : sG) (tt : sT) (te : sE) (vs : List Nat) : sE := fun W σ S Q => i W σ S fun s S1 => ∀ D, ∃ P : Nat → SH → Prop, P 0 (S1.new D (.lst [])) ∧ (∀ i S, i ≤ s.n → P i S → s.ok S) ∧
  (∀ i S, i < s.n → P i S → s.yld i S fun v S' => g noW v (wipe σ vs) S' fun σ2 S2 => wipe σ2 vs = wipe σ vs ∧ tt noW σ2 S2 fun b S3 =>
    match b with
    | true => te noW σ2 S3 fun y S4 => ∃ k acc, S4.G[k]? = some (D, .lst acc) ∧ acc.length < sizeLine ∧ Wk (P (i + 1)) (S4.put k D (.lst (acc ++ [y])))
    | false => Wk (P (i + 1)) S3) ∧ ∀ S, P s.n S → Q (.ref D) S
def sYes : sT := fun _ _ S Q => Q true S
structure sTs (X : Cx) (W : WX) (ifs : List Expr) (t : sT) : Prop where
  to : PTs X ifs (dT W t)
theorem gNoIf : sTs X W [] sYes := ⟨⟨fun pins s σ H Q I ⟨S, Q', W', kw, o, h, k⟩ => pts_nil.run pins s σ H Q I (k _ _ _ o h)⟩⟩
theorem gOneIf {c : Expr} {t : sT} (h : PT X c (dT W t)) : sTs X W [c] t := ⟨pts_one h⟩
theorem lift_lc {ti : sI} {g : sG} {tt : sT} {te : sE} {vs : List Nat} : ∀ σ H Q, dE W (sLc ti g tt te vs) σ H Q → tLc (dI W ti) (dG NoW g) (dT NoW tt) (dE NoW te) vs σ H Q := fun σ H Q ⟨S, Q', W', kw, o, h, k⟩ =>
  ⟨S, _, W', kw, o, h, fun s S1 H1 J o1 j h1 => by
    intro D hD
    obtain ⟨P, h0, hok, hs, hd⟩ := h1 D
    refine ⟨fun i m H => m = s.n - i ∧ i ≤ s.n ∧ ∃ S, Own S H ∧ P i S, ⟨s.n, by simp, Nat.zero_le _, _, o1.newU hD, h0⟩, ?_⟩
    rintro i m H ⟨rfl, hi, S2, o2, p⟩
    by_cases hlt : i < s.n
    · refine .inr ⟨j.go S2 H i o2 (hok i S2 hi p) hlt, fun H' => ∃ S', Own S' H' ∧ P (i + 1) S', fun H' p' => ⟨s.n - (i + 1), by omega, rfl, hlt, p'⟩, fun x H' y => ?_⟩
      obtain ⟨S', o', q⟩ := j.yld S2 H i x H' _ o2 (hok i S2 hi p) hlt y (hs i S2 hlt p)
      refine ⟨S', _, noW, noW_imp, o', q, fun σ2 S3 H3 o3 q3 => ⟨q3.1, S3, _, noW, noW_imp, o3, q3.2, fun b S4 H4 o4 q4 => ?_⟩⟩
      cases b with
      | false =>
        obtain ⟨S0, le, q4⟩ := q4
        exact ⟨S0, le _ o4, q4⟩
      | true =>
        refine ⟨S4, _, noW, noW_imp, o4, q4, fun y S5 H5 o5 q5 => ?_⟩
        obtain ⟨kk, acc, z1, z2, S0, le, z3⟩ := q5
        exact ⟨acc, o5.g z1, z2, _, le _ (o5.putU z1), z3⟩
    · have e : i = s.n := by omega
      subst e
      exact .inl ⟨j.stop S2 H _ o2 (hok _ S2 hi p) (Nat.le_refl _), k _ _ _ o2 (hd S2 p)⟩⟩
theorem gLc {elt tg iter : Expr} {ifs : List Expr} {scope : Scope} {own : List (Str × Nat)} {ti : sI} {g : sG} {tt : sT} {te : sE} (hc : X.calm = true) (hN : X.N.Nodup) (hi : PI X tg iter (dI W ti)) (ok : BlkOk X.N X.env.scope scope own)
    (hg : ∀ (s : Shared) (H : Hp) (C : Addr) (cl : List (Str × Addr)) (fp : List Addr), PG (X.blk s H scope (compEnvC scope cl C X.env) fp) tg (dG NoW g)) (ht : ∀ (s : Shared) (H : Hp) (C : Addr) (cl : List (Str × Addr)) (fp : List Addr), sTs (X.blk s H scope (compEnvC scope cl C X.env) fp) NoW ifs tt)
    (he : ∀ (s : Shared) (H : Hp) (C : Addr) (cl : List (Str × Addr)) (fp : List Addr), PE (X.blk s H scope (compEnvC scope cl C X.env) fp) elt (dE NoW te)) (hs : ∀ x, foldedSetIterable iter X.env x = pure x := by intro _; rfl) :
    PE X (.ListComp elt [⟨tg, iter, ifs, 0⟩] scope pos) (dE W (sLc ti g tt te (own.map (·.2)))) :=
  PE.by (pe_lc hc hN hi ok hg (fun s H C cl fp => (ht s H C cl fp).to) he hs) lift_lc
theorem hSetLc {i : Nat} {y : Str} {py : Pos} {elt tg iter : Expr} {ifs : List Expr} {scope : Scope} {own : List (Str × Nat)} {pos spos : Pos} {ti : sI} {g : sG} {tt : sT} {te : sE} (hc : X.calm = true) (hN : X.N.Nodup) (hy : X.N[i]? = some y) (hyl : X.env.scope.names.lookup y = some .local)
    (hsw : swapsWith (.ListComp elt [⟨tg, iter, ifs, 0⟩] scope pos) (some (.Name y py)) spos.line X.env = pure true) (hi : PI X tg iter (dI W ti)) (ok : BlkOk X.N X.env.scope scope own)
    (hg : ∀ (s : Shared) (H : Hp) (C : Addr) (cl : List (Str × Addr)) (fp : List Addr), PG (X.blk s H scope (compEnvC scope cl C X.env) fp) tg (dG NoW g)) (ht : ∀ (s : Shared) (H : Hp) (C : Addr) (cl : List (Str × Addr)) (fp : List Addr), sTs (X.blk s H scope (compEnvC scope cl C X.env) fp) NoW ifs tt)
    (he : ∀ (s : Shared) (H : Hp) (C : Addr) (cl : List (Str × Addr)) (fp : List Addr), PE (X.blk s H scope (compEnvC scope cl C X.env) fp) elt (dE NoW te)) (hs : ∀ x, foldedSetIterable iter X.env x = pure x := by intro _; rfl) :
    PS X (.Assign [.Name y py] (.ListComp elt [⟨tg, iter, ifs, 0⟩] scope pos) spos) (dS W (sSet (sLc ti g tt te (own.map (·.2))) i)) :=
  PS.by (ps_setLc hc hN hy hyl hsw hi ok hg (fun s H C cl fp => (ht s H C cl fp).to) he hs) fun D σ H ⟨S, D', o, h, k⟩ => lift_lc σ H _ ⟨S, _, D'.ex, k.ex, o, h, fun x S1 H1 o1 h1 => k.nx _ _ _ o1 h1⟩

/-! ### calls of own defs -/
/-- sp, from the symbolic heap -/
def sSp (sp : Sp) : sWX → List V → St → SH → (V → SH → Prop) → Prop := fun W vs σ S Q => ∀ H, Own S H → sp vs H (fun v H' => ∃ S', Own S' H' ∧ Q v S') (fun c d H' => ∃ S', Own S' H' ∧ W c d σ S')
/-- sp stands a weaker wish -/
def SpMono (sp : Sp) : Prop := ∀ vs H Q Q' E E', (∀ v H', Q v H' → Q' v H') → (∀ c d H', E c d H' → E' c d H') → sp vs H Q E → sp vs H Q' E'
def sCall (sp : Sp) (t : sA) : sE := fun W σ S Q => t W σ S fun vs S1 => sSp sp W vs σ S1 Q
section
variable {k : Nat} {f : Addr} {fd : FuncData} {ps : List Str} {sp : Sp} {x : Str} {p : Pos} {e : Expr}
theorem lift_sp (m : SpMono sp) {vs : List V} {σ : St} {S : SH} {H : Hp} {W' : sWX} {Q' : V → SH → Prop} {Q : VK} (kw : ImpW W' W) (o : Own S H) (h : sSp sp W' vs σ S Q') (k : Imp Q' Q) : sp vs H Q (WE W σ) :=
  m _ _ _ _ _ _ (fun v H' ⟨S', o', q⟩ => k v S' H' o' q) (fun c d H' ⟨S', o', q⟩ => kw c d σ S' H' o' q) (h H o)
theorem gCall (m : SpMono sp) (F : FnOk X.prog X.w X.K X.mg X.base (L2.CX X.prog X.w) k f fd ps sp) (hr : Room k X.A) (hg : Gl X x) (hm : X.mg x = some (.ref f)) (hk : PySem.W.keepIn X.K (.ref f) = true) (hb : Binds X.K fd ps []) (tk : Takes X W) (ha : PA X (e :: es) (dA W tas))
    (hdb : (x == ("__debug__" : Str)) = false := by decide) (he : starEach (e :: es) X.env = (false, eval e X.env) :: starEach es X.env := by rfl) (hpl : (backTo pos (starEach es X.env)).any (·.1) = false := by rfl) :
    PE X (.Call (.Name x p) (e :: es) [] pos) (dE W (sCall sp tas)) :=
  PE.by (pe_callS F hr hg hm hk hb (fun σ => passAt tk σ) ha hdb he hpl) fun σ H Q ⟨S, Q', W', kw, o, h, k⟩ => ⟨S, _, W', kw, o, h, fun vs S1 H1 o1 h1 => lift_sp m kw o1 h1 k⟩
end

/-! ### contracts -/
/-- of values alone: a value, or an error with one field -/
inductive Ot where
  | ok (v : V)
  | er (C : Addr) (f : Str) (v : V)
def spV (f : List V → Option Ot) : Sp := fun vs H Q E => match f vs with
  | some (.ok v) => ∀ H', Ext H H' → Q v H'
  | some (.er C n v) => ∀ H' d, Ext H H' → H d = none → H' d = some (.xd [(n, v)]) → E (.ref C) (some d) H'
  | none => False
theorem spV_mono {f : List V → Option Ot} : SpMono (spV f) := fun vs H Q Q' E E' kq ke h => by
  unfold spV at h ⊢
  split at h
  · exact fun H' e => kq _ _ (h H' e)
  · exact fun H' d e h1 h2 => ke _ _ _ (h H' d e h1 h2)
  · exact h.elim
/-- with ghosts α: what must hold ahead, what holds behind -/
structure Ct (α : Type) where
  pre : α → List V → Hp → Prop
  post : α → Hp → V → Hp → Prop
  exn : α → Hp → Value → Option Addr → Hp → Prop := fun _ _ _ _ _ => False
def spC {α : Type} (c : Ct α) : Sp := fun vs H Q E => ∃ g, c.pre g vs H ∧ (∀ v H', c.post g H v H' → Q v H') ∧ ∀ x d H', c.exn g H x d H' → E x d H'
theorem spC_mono {α : Type} {c : Ct α} : SpMono (spC c) := fun vs H Q Q' E E' kq ke ⟨g, h1, h2, h3⟩ => ⟨g, h1, fun v H' q => kq _ _ (h2 v H' q), fun x d H' q => ke _ _ _ (h3 x d H' q)⟩
def sCallV (f : List V → Option Ot) (t : sA) : sE := fun W σ S Q => t W σ S fun vs S1 => match f vs with
  | some (.ok v) => Q v S1
  | some (.er C n v) => ∀ d, W (.ref C) (some d) σ (S1.new d (.xd [(n, v)]))
  | none => False
def sCallC {α : Type} (c : Ct α) (t : sA) : sE := fun W σ S Q => t W σ S fun vs S1 => ∃ g, (∀ H, Own S1 H → c.pre g vs H) ∧ (∀ H v H', Own S1 H → c.post g H v H' → ∃ S', Own S' H' ∧ Q v S') ∧ ∀ H x d H', Own S1 H → c.exn g H x d H' → ∃ S', Own S' H' ∧ W x d σ S'
theorem lift_V {f : List V → Option Ot} {vs : List V} {σ : St} {S : SH} {W : sWX} {Q : V → SH → Prop} (h : match f vs with
  | some (.ok v) => Q v S
  | some (.er C n v) => ∀ d, W (.ref C) (some d) σ (S.new d (.xd [(n, v)]))
  | none => False) : sSp (spV f) W vs σ S Q := fun H o => by
  unfold spV
  split at h
  · exact fun H' e => ⟨S, o.ex e, h⟩
  · exact fun H' d e h1 h2 => ⟨_, o.new h1 e h2, h d⟩
  · exact h.elim
theorem lift_C {α : Type} {c : Ct α} {vs : List V} {σ : St} {S : SH} {W : sWX} {Q : V → SH → Prop} (h : ∃ g, (∀ H, Own S H → c.pre g vs H) ∧ (∀ H v H', Own S H → c.post g H v H' → ∃ S', Own S' H' ∧ Q v S') ∧ ∀ H x d H', Own S H → c.exn g H x d H' → ∃ S', Own S' H' ∧ W x d σ S') :
    sSp (spC c) W vs σ S Q := fun H o => by
  obtain ⟨g, h1, h2, h3⟩ := h
  exact ⟨g, h1 H o, fun v H' q => h2 H v H' o q, fun x d H' q => h3 H x d H' o q⟩
section
variable {k : Nat} {f : Addr} {fd : FuncData} {ps ks : List Str} {x : Str} {p : Pos} {e : Expr} {fv : List V → Option Ot} {α : Type} {ct : Ct α}
theorem gCallV (F : FnOk X.prog X.w X.K X.mg X.base (L2.CX X.prog X.w) k f fd ps (spV fv)) (hr : Room k X.A) (hg : Gl X x) (hm : X.mg x = some (.ref f)) (hk : PySem.W.keepIn X.K (.ref f) = true) (hb : Binds X.K fd ps []) (tk : Takes X W) (ha : PA X (e :: es) (dA W tas))
    (hdb : (x == ("__debug__" : Str)) = false := by decide) (he : starEach (e :: es) X.env = (false, eval e X.env) :: starEach es X.env := by rfl) (hpl : (backTo pos (starEach es X.env)).any (·.1) = false := by rfl) :
    PE X (.Call (.Name x p) (e :: es) [] pos) (dE W (sCallV fv tas)) :=
  PE.by (pe_callS F hr hg hm hk hb (fun σ => passAt tk σ) ha hdb he hpl) fun σ H Q ⟨S, Q', W', kw, o, h, k⟩ => ⟨S, _, W', kw, o, h, fun vs S1 H1 o1 h1 => lift_sp spV_mono kw o1 (lift_V h1) k⟩
theorem gCallC (F : FnOk X.prog X.w X.K X.mg X.base (L2.CX X.prog X.w) k f fd ps (spC ct)) (hr : Room k X.A) (hg : Gl X x) (hm : X.mg x = some (.ref f)) (hk : PySem.W.keepIn X.K (.ref f) = true) (hb : Binds X.K fd ps []) (tk : Takes X W) (ha : PA X (e :: es) (dA W tas))
    (hdb : (x == ("__debug__" : Str)) = false := by decide) (he : starEach (e :: es) X.env = (false, eval e X.env) :: starEach es X.env := by rfl) (hpl : (backTo pos (starEach es X.env)).any (·.1) = false := by rfl) :
    PE X (.Call (.Name x p) (e :: es) [] pos) (dE W (sCallC ct tas)) :=
  PE.by (pe_callS F hr hg hm hk hb (fun σ => passAt tk σ) ha hdb he hpl) fun σ H Q ⟨S, Q', W', kw, o, h, k⟩ => ⟨S, _, W', kw, o, h, fun vs S1 H1 o1 h1 => lift_sp spC_mono kw o1 (lift_C h1) k⟩
/-- with defaults that fill up, and keywords: gV puts them in order -/
def sKw (gV : List V → List V → List V) (t tk : sA) : sA := fun W σ S Q => t W σ S fun vs S1 => tk W σ S1 fun zs S2 => Q (gV vs zs) S2
def dK (W : WX) (t : sA) : TA := dA W t
theorem gKNil : PK X [] (dA W sNil) := PK.by pk_nil fun σ H Q ⟨S, Q', W', kw, o, h, k⟩ => k _ _ _ o h
theorem gKCons {nm : Option Str} {kpos : Pos} {kws : List Keyword} (ha : PE X a (dE W ta)) (hr : PK X kws (dA W tas)) : PK X (⟨nm, a, kpos⟩ :: kws) (dA W (sCons ta tas)) :=
  PK.by (pk_cons ha hr) fun σ H Q ⟨S, Q', W', kw, o, h, k⟩ => ⟨S, _, W', kw, o, h, fun x S1 H1 o1 h1 => ⟨S1, _, W', kw, o1, h1, fun xs S2 H2 o2 h2 => k _ _ _ o2 h2⟩⟩
theorem passE {E : XK} (tk : Takes X (fun c d _ H => E c d H)) : Passes (L2.CX X.prog X.w) X E := fun pins σ H s e s' I c => passAt tk σ pins H s e s' I c
end
/-! ### isinstance -/
/-- the built-in classes that we ask for -/
inductive TY where
  | non | bool | int | str | list | tuple | dict
  deriving DecidableEq
def TY.nm : TY → String
  | .non => "NoneType" | .bool => "bool" | .int => "int" | .str => "str" | .list => "list" | .tuple => "tuple" | .dict => "dict"
def TY.sub : TY → TY → Bool
  | .non, .non => true | .bool, .bool => true | .bool, .int => true | .int, .int => true | .str, .str => true | .list, .list => true | .tuple, .tuple => true | .dict, .dict => true
  | _, _ => false
theorem kit_sub : ∀ a n : TY, n ≠ .non → kitB a.nm n.nm = some (a.sub n) := by
  intro a n h
  cases a <;> cases n <;> first | exact absurd rfl h | decide +kernel
def isiTy (K : PySem.W.Frag) (x : V) (S : SH) (t : TY) : Prop := match x with
  | .non => t = .non
  | .bl _ => t = .bool
  | .int _ => t = .int
  | .str _ => t = .str
  | .ref p => (t = .list ∧ ∃ xs, sL K S p xs) ∨ (t = .tuple ∧ ∃ xs, sU K S p xs) ∨ (t = .dict ∧ ((∃ kvs, At S p (.dK kvs)) ∨ ∃ kvs, At S p (.dT kvs)))
  | _ => False
theorem Own.isi {K : PySem.W.Frag} {x : V} {S : SH} {H : Hp} {t : TY} (o : Own S H) (h : isiTy K x S t) : TyX K H x (.type t.nm) := by
  unfold isiTy at h
  cases x with
  | non => cases h; exact .base .non
  | bl b => cases h; exact .base (.bl b)
  | int b => cases h; exact .base (.int b)
  | str b => cases h; exact .base (.str b)
  | byt b => exact h.elim
  | flt b => exact h.elim
  | ty b => exact h.elim
  | ref p =>
    rcases h with ⟨rfl, xs, h⟩ | ⟨rfl, xs, h⟩ | ⟨rfl, ⟨kvs, h⟩ | ⟨kvs, h⟩⟩
    · rcases o.l h with (q | ⟨ob, q⟩) | ⟨ob, its, n, q1, q2, _⟩
      · exact .base (.lst q)
      · exact .base (.frz q)
      · exact .kList q1 q2
    · rcases o.u h with (q | ⟨ob, q⟩) | ⟨ob, its, n, q1, q2, _⟩
      · exact .base (.tup q)
      · exact .fTuple q
      · exact .kTuple q1 q2
    · exact .base (.dK (o.at h))
    · exact .base (.dT (o.at h))
/-- the same over a plain heap -/
def Ty0 (K : PySem.W.Frag) (H : Hp) (x : V) (t : TY) : Prop := isiTy K x ⟨H, []⟩ t
theorem At.ex {S : SH} {H : Hp} {p : Addr} {o : HO} (w : Own S H) (h : At S p o) : At ⟨H, []⟩ p o := .inr (w.at h)
theorem Own.ty0 {K : PySem.W.Frag} {x : V} {S : SH} {H : Hp} {t : TY} (o : Own S H) (h : isiTy K x S t) : Ty0 K H x t := by
  unfold Ty0
  unfold isiTy at h ⊢
  cases x with
  | ref p =>
    rcases h with ⟨rfl, xs, h⟩ | ⟨rfl, xs, h⟩ | ⟨rfl, ⟨kvs, h⟩ | ⟨kvs, h⟩⟩
    · exact .inl ⟨rfl, xs, .inr (o.l h)⟩
    · exact .inr (.inl ⟨rfl, xs, .inr (o.u h)⟩)
    · exact .inr (.inr ⟨rfl, .inl ⟨kvs, h.ex o⟩⟩)
    · exact .inr (.inr ⟨rfl, .inr ⟨kvs, h.ex o⟩⟩)
  | _ => exact h
theorem Ty0.ex {K : PySem.W.Frag} {x : V} {H H' : Hp} {t : TY} (h : Ty0 K H x t) (e : Ext H H') : Ty0 K H' x t := ((Own.base H).ex e).ty0 h
/-- isinstance(x, a built-in class) -/
def sIsi (K : PySem.W.Frag) (n : TY) (tx : sE) : sE := fun W σ S Q => tx W σ S fun x S1 => match x with
  | .non => Q (.bl (TY.sub .non n)) S1
  | .bl _ => Q (.bl (TY.sub .bool n)) S1
  | .int _ => Q (.bl (TY.sub .int n)) S1
  | .str _ => Q (.bl (TY.sub .str n)) S1
  | .ref p => ∃ t, isiTy K (.ref p) S1 t ∧ Q (.bl (TY.sub t n)) S1
  | _ => False
theorem gIsi {x : Expr} {tx : sE} {n : TY} {nm : Str} {p p2 : Pos} {pos : Pos} (hg : Gl X "isinstance") (hm : X.mg "isinstance" = none) (hx : PE X x (dE W tx)) (hn : n ≠ .non) (hg2 : Gl X nm) (hm2 : X.mg nm = none) (hv2 : bootBuiltins nm = some (.type n.nm)) (hn2 : nm ≠ "__name__" := by decide) (hd2 : (nm == ("__debug__" : Str)) = false := by decide)
    (he : starEach (x :: [.Name nm p2]) X.env = (false, eval x X.env) :: starEach [.Name nm p2] X.env := by rfl) (he2 : starEach [.Name nm p2] X.env = (false, eval (.Name nm p2) X.env) :: starEach [] X.env := by rfl) (hpl : (backTo pos (starEach [.Name nm p2] X.env)).any (·.1) = false := by rfl) :
    PE X (.Call (.Name "isinstance" p) [x, .Name nm p2] [] pos) (dE W (sIsi X.K n tx)) :=
  PE.by (pe_callB call_isi hg hm (by decide +kernel) (pa_cons hx (pa_cons (pe_bltn (v := .ty n.nm) hg2 hm2 hv2 rfl hn2 hd2) pa_nil he2) he) (by decide) (by decide) he hpl) fun σ H Q ⟨S, Q', W', kw, o, h, k⟩ => ⟨S, _, W', kw, o, h, fun x S1 H1 o1 h1 => by
    have fin : ∀ {t : TY}, isiTy X.K x S1 t → Q' (.bl (TY.sub t n)) S1 → rIsi X.K [x, .ty n.nm] H1 Q := fun {t} ht q =>
      ⟨x, .ty n.nm, _, _, _, rfl, .ty n.nm, o1.isi ht, kit_ty (kit_sub t n hn), k _ _ _ o1 q⟩
    show rIsi X.K [x, .ty n.nm] H1 Q
    split at h1
    · exact fin (t := .non) rfl h1
    · exact fin (t := .bool) rfl h1
    · exact fin (t := .int) rfl h1
    · exact fin (t := .str) rfl h1
    · obtain ⟨t, h2, h3⟩ := h1
      exact fin h2 h3
    · exact h1.elim⟩

/-! ### own errors: raised, caught -/
/-- __init__ of an own error with one field f -/
def spErr (C : Addr) (f : Str) : Sp := fun vs H Q _ => ∃ a v, vs = [.ref a, v] ∧ H a = some (exo a C none) ∧ ∀ dx, H dx = none → dx ≠ a → Q .non (upd (upd H dx (exd dx [(f, v)])) a (exo a C (some dx)))
/-- what the written part says of the error class x, with the one field f -/
structure ErrC (P : Program) (w : World) (K : PySem.W.Frag) (mg : Str → Option Value) (base : Heap) (x f : Str) (C : Addr) : Prop where
  oex : OexC K C
  xf : XfC K C
  isc : ExcC K C
  no : PySem.W.findIn K (.ref C) f = some none
  gC : mg x = some (.ref C)
  ini : ∃ fI fd, PySem.W.findIn K (.ref C) "__init__" = some (some (.ref fI)) ∧ PySem.W.typeIn K (.ref fI) = some (.type "function") ∧ FnOk P w K mg base (L2.CX P w) 1 fI fd ["self", f] (spErr C f) ∧ Binds K fd ["self", f] []
def sRaise (C : Addr) (f : Str) (ta : sE) : sS := fun D σ S => ta D.ex σ S fun v S1 => ∀ d, D.ex (.ref C) (some d) σ (S1.new d (.xd [(f, v)]))
theorem hRaise {x f : Str} {C : Addr} {a : Expr} {ta : sE} {p pos pos2 : Pos} {k : Nat} (hc : X.calm = true) (tk : Takes X W) (T : ErrC X.prog X.w X.K X.mg X.base x f C) (hr : Room (k + 2) X.A) (hg : Gl X x) (ha : PE X a (dE W ta))
    (hdb : (x == ("__debug__" : Str)) = false := by decide) (hs : starEach (a :: []) X.env = (false, eval a X.env) :: starEach [] X.env := by rfl) (hpl : (backTo pos (starEach [] X.env)).any (·.1) = false := by rfl) :
    PS X (.Raise (some (.Call (.Name x p) [a] [] pos)) none pos2) (dS W (sRaise C f ta)) := by
  obtain ⟨fI, fd, h1, h2, F, hb⟩ := T.ini
  refine PS.by (ps_raise hc tk (pmk_oex T.oex h1 h2 F (hr.mono (by omega)) hb .nil passL hg T.gC (pa_cons ha pa_nil hs) hdb hs hpl)) fun D σ H ⟨S, D', o, h, k⟩ => ⟨S, _, D'.ex, k.ex, o, h, fun v S1 H1 o1 h1 => ?_⟩
  refine ⟨by simp, fun e he => ⟨e, v, rfl, upd_same, fun dx hdx hne => ⟨rfl, dx, [(f, v)], upd_same, ?_, ?_, ?_⟩⟩⟩
  · rw [upd_ne hne, upd_same]
  · rw [upd_ne hne] at hdx
    exact hdx
  · rw [upd_ne hne] at hdx
    refine k.ex _ _ _ _ _ (o1.new hdx (fun b u hb => ?_) upd_same) (h1 dx)
    have n1 : b ≠ e := ne_of_none hb he
    have n2 : b ≠ dx := ne_of_none hb hdx
    rw [upd_ne n2, del_ne n1, upd_ne n1, upd_ne n2, upd_ne n1]
    exact hb
/-- try: body except x as n: suite -/
def sTryAs (K : PySem.W.Frag) (c : Value) (i : Nat) (tb : sS) (ts : Addr → Value → Option Addr → sS) : sS := fun D σ S => tb { D with ex := fun cls d σ' S' => ∃ b, PySem.W.exmOne K cls c = some b ∧
  (b = true → ∀ a, ts a cls d { nx := fun σ2 S2 => D.nx (σ2.set i none) S2, rt := D.rt, bk := fun σ2 S2 => D.bk (σ2.set i none) S2, ct := fun σ2 S2 => D.ct (σ2.set i none) S2, ex := noW } (σ'.set i (some (.ref a))) S') ∧ (b = false → D.ex cls d σ' S') } σ S
theorem hTryAs {x n : Str} {c : Value} {i : Nat} {body suite : List Stmt} {b₀ : Stmt} {np pos pos' : Pos} {tb : sS} {ts : Addr → Value → Option Addr → sS}
    (hs : X.stack = X.env :: X.outer) (hf : X.env.frame = some X.env.locals) (hN : X.N.Nodup) (hi : X.N[i]? = some n) (hln : X.env.kindOf n = some .local) (hc : Names X x c) (tk : Takes X W)
    (hb : ∀ (W : WX) (pn : List (Addr × Obj)) (xe : Value → Shared → Prop), Takes (X.tr pn xe) W → PassesOwn (model X.prog X.w) X.A X.env xe → PSs (X.tr pn xe) body (dS W tb))
    (hsu : ∀ (a : Addr) (oe : Obj) (cls : Value) (d : Option Addr) (pn : List (Addr × Obj)), Zc cls d oe → (∃ vs, oe.data = .fields vs) → PSs (X.suite a ((a, oe) :: pn)) (b₀ :: suite) (dS NoW (ts a cls d))) :
    PS X (.Try body [.ExceptHandler (some (.Name x np)) (some n) (b₀ :: suite) pos'] [] [] pos) (dS W (sTryAs X.K c i tb ts)) :=
  PS.by (ps_try_as (tb := fun W => dS W tb) (ts := fun a cls d => dS NoW (ts a cls d)) hs hf hN hi hln hc tk hb hsu) fun D σ H ⟨S, D', o, h, k⟩ => ⟨S, _, o, h, ⟨k.nx, k.rt, k.bk, k.ct, fun cls d σ' S' H' o' ⟨b, e, y, n⟩ =>
    ⟨b, e, fun hb a _ => ⟨S', _, o', y hb a, ⟨fun σ2 S2 H2 o2 q => k.nx _ _ _ o2 q, k.rt, fun σ2 S2 H2 o2 q => k.bk _ _ _ o2 q, fun σ2 S2 H2 o2 q => k.ct _ _ _ o2 q, noW_imp⟩⟩, fun hb => k.ex cls d σ' S' H' o' (n hb)⟩⟩⟩
/-- e.f of the error that the suite holds -/
def sXf (a : Addr) (cls : Value) (d : Option Addr) (C : Addr) (f : Str) (te : sE) : sE := fun W σ S Q => te W σ S fun x S1 => x = .ref a ∧ cls = .ref C ∧ ∃ (dd : Addr) (fs : List (Str × V)) (v : V), d = some dd ∧ At S1 dd (.xd fs) ∧ fs.lookup f = some v ∧ Q v S1
theorem gXf {a C : Addr} {oe : Obj} {cls : Value} {d : Option Addr} {pn : List (Addr × Obj)} {e : Expr} {te : sE} {pos : Pos} {n : Str} (T : XfC X.K C) (hno : PySem.W.findIn X.K (.ref C) n = some none)
    (hz : Zc cls d oe) (hf : ∃ vs, oe.data = .fields vs) (he : PE (X.suite a ((a, oe) :: pn)) e (dE W te)) (hb : attributeBase e n X.env (eval e X.env) = eval e X.env := by rfl) :
    PE (X.suite a ((a, oe) :: pn)) (.Attribute e n pos) (dE W (sXf a cls d C n te)) :=
  PE.by (pe_xf T hno hz hf he hb) fun σ H Q ⟨S, Q', W', kw, o, h, k⟩ => ⟨S, _, W', kw, o, h, fun x S1 H1 o1 ⟨e1, e2, dd, fs, v, e3, h3, h4, h5⟩ => ⟨e1, e2, dd, fs, v, e3, o1.at h3, h4, k _ _ _ o1 h5⟩⟩
/-- isinstance(e, c), e the error that the suite holds, with its dict -/
def rIsX (K : PySem.W.Frag) (D a : Addr) (d : Addr) : List V → Hp → VK → Prop := fun xs H Q => ∃ (c : V) (cv : Value) (b : Bool) (fs : List (Str × V)), xs = [.ref a, c] ∧ H d = some (.xd fs) ∧ (∀ u, RelV c u → u = cv) ∧ PySem.W.kitOne K (.ref D) cv = some b ∧ Q (.bl b) H
theorem call_isX {a D d : Addr} {oe : Obj} {pn : List (Addr × Obj)} (C : ExcC X.K D) (hz : Zc (.ref D) (some d) oe) (hf : ∃ vs, oe.data = .fields vs) : CallR (X.suite a ((a, oe) :: pn)) (.builtin "isinstance") (rIsX X.K D a d) := by
  intro pins s σ H xs us Q I r h
  obtain ⟨c, cv, b, fs, rfl, hd, hcv, e, q⟩ := h
  cases r with
  | cons rx rr =>
    cases rr with
    | cons rt rr =>
      cases rr
      cases rx
      have ec := hcv _ rt
      subst ec
      obtain ⟨hget, _⟩ := I.pin (a, oe) (List.mem_append.mpr (.inl List.mem_cons_self))
      obtain ⟨vs, hv⟩ := hf
      have hx : ObjOk X.prog X.w H s.heap d (.xd fs) := I.hok d _ hd
      obtain ⟨mA, hns, hr⟩ := hx
      obtain ⟨od, ho, hl⟩ := lookIn_ns hns
      have J : PySem.W.InstAt s.heap a oe D (some od) := ⟨hget, hz.1, by unfold PySem.W.notCls; rw [hv] <;> rfl, by rw [hz.2]; exact ho⟩
      exact PySem.W.kia_one (PySem.W.sy_kitx C.hg C.hk C.hs C.hd C.ha C.hn C.ht C.hm) I.kIn J e (fun z => nomatch z) fun tk => ⟨.bl b, H, I.kept (t' := tk) fun _ _ z => z, rfl, q⟩
/-- class c of an isinstance of an error of the class at D: what it is, the answer -/
def rIsY (K : PySem.W.Frag) (a : Addr) (cls : Value) (d : Option Addr) : List V → Hp → VK → Prop := fun xs H Q => ∃ (D dd : Addr), cls = .ref D ∧ d = some dd ∧ ExcC K D ∧ rIsX K D a dd xs H Q
theorem call_isY {a : Addr} {cls : Value} {d : Option Addr} {oe : Obj} {pn : List (Addr × Obj)} (hz : Zc cls d oe) (hf : ∃ vs, oe.data = .fields vs) : CallR (X.suite a ((a, oe) :: pn)) (.builtin "isinstance") (rIsY X.K a cls d) := by
  intro pins s σ H xs us Q I r ⟨D, dd, e1, e2, C, h⟩
  subst e1
  subst e2
  exact call_isX C hz hf pins s σ H xs us Q I r h
def nIsY (K : PySem.W.Frag) (a : Addr) (cls : Value) (d : Option Addr) : sN := fun vs S Q => match vs with
  | [.ref p, c] => p = a ∧ ∃ (D dd : Addr) (cv : Value) (b : Bool) (fs : List (Str × V)), cls = .ref D ∧ d = some dd ∧ ExcC K D ∧ At S dd (.xd fs) ∧ (∀ u, RelV c u → u = cv) ∧ PySem.W.kitOne K (.ref D) cv = some b ∧ Q (.bl b) S
  | _ => False
theorem lIsY {K : PySem.W.Frag} {a : Addr} {cls : Value} {d : Option Addr} : LiftN (nIsY K a cls d) (rIsY K a cls d) := by
  intro vs S Q' H Q o h k
  unfold nIsY at h
  split at h
  · obtain ⟨rfl, D, dd, cv, b, fs, h1, h2, h3, h4, h5, h6, h7⟩ := h
    exact ⟨D, dd, h1, h2, h3, _, cv, b, fs, rfl, o.at h4, h5, h6, k _ _ _ o h7⟩
  · exact h.elim
theorem gIsY {a : Addr} {cls : Value} {d : Option Addr} {oe : Obj} {pn : List (Addr × Obj)} (hz : Zc cls d oe) (hf : ∃ vs, oe.data = .fields vs) {x : Expr} {p : Pos} {es : List Expr} {tas : sA} {pos : Pos} (hg : Gl (X.suite a ((a, oe) :: pn)) "isinstance") (hm : X.mg "isinstance" = none) (ha : PA (X.suite a ((a, oe) :: pn)) (x :: es) (dA W tas))
    (he : starEach (x :: es) X.env = (false, eval x X.env) :: starEach es X.env := by rfl) (hpl : (backTo pos (starEach es X.env)).any (·.1) = false := by rfl) :
    PE (X.suite a ((a, oe) :: pn)) (.Call (.Name "isinstance" p) (x :: es) [] pos) (dE W (sCall1 (nIsY X.K a cls d) tas)) := gB (X := X.suite a ((a, oe) :: pn)) (call_isY hz hf) lIsY hg hm (by decide +kernel) ha (by decide) (by decide) he hpl
/-! ### more calls -/
section
variable {k : Nat} {f : Addr} {fd : FuncData} {ps ks : List Str} {x : Str} {p : Pos} {e : Expr} {sp : Sp}
/-- a promise and its reading -/
structure Ctr (sp : Sp) (r : sWX → List V → St → SH → (V → SH → Prop) → Prop) : Prop where
  mono : SpMono sp
  lift : ∀ W vs σ S Q, r W vs σ S Q → sSp sp W vs σ S Q
def rV (f : List V → Option Ot) : sWX → List V → St → SH → (V → SH → Prop) → Prop := fun W vs σ S Q => match f vs with
  | some (.ok v) => Q v S
  | some (.er C n v) => ∀ d, W (.ref C) (some d) σ (S.new d (.xd [(n, v)]))
  | none => False
def rC {α : Type} (c : Ct α) : sWX → List V → St → SH → (V → SH → Prop) → Prop := fun W vs σ S Q => ∃ g, (∀ H, Own S H → c.pre g vs H) ∧ (∀ H v H', Own S H → c.post g H v H' → ∃ S', Own S' H' ∧ Q v S') ∧ ∀ H x d H', Own S H → c.exn g H x d H' → ∃ S', Own S' H' ∧ W x d σ S'
theorem ctrV {f : List V → Option Ot} : Ctr (spV f) (rV f) := ⟨spV_mono, fun W vs σ S Q h => lift_V h⟩
theorem ctrC {α : Type} {c : Ct α} : Ctr (spC c) (rC c) := ⟨spC_mono, fun W vs σ S Q h => lift_C h⟩
variable {r : sWX → List V → St → SH → (V → SH → Prop) → Prop}
def sCallR (r : sWX → List V → St → SH → (V → SH → Prop) → Prop) (t : sA) : sE := fun W σ S Q => t W σ S fun vs S1 => r W vs σ S1 Q
def sCallD (r : sWX → List V → St → SH → (V → SH → Prop) → Prop) (ds : List V) (t : sA) : sE := fun W σ S Q => t W σ S fun vs S1 => r W (vs ++ ds) σ S1 Q
def sCallKw (r : sWX → List V → St → SH → (V → SH → Prop) → Prop) (gV : List V → List V → List V) (t tk : sA) : sE := fun W σ S Q => t W σ S fun vs S1 => tk W σ S1 fun zs S2 => r W (gV vs zs) σ S2 Q
theorem gCallR (c : Ctr sp r) (F : FnOk X.prog X.w X.K X.mg X.base (L2.CX X.prog X.w) k f fd ps sp) (hr : Room k X.A) (hg : Gl X x) (hm : X.mg x = some (.ref f)) (hk : PySem.W.keepIn X.K (.ref f) = true) (hb : Binds X.K fd ps []) (tk : Takes X W) (ha : PA X (e :: es) (dA W tas))
    (hdb : (x == ("__debug__" : Str)) = false := by decide) (he : starEach (e :: es) X.env = (false, eval e X.env) :: starEach es X.env := by rfl) (hpl : (backTo pos (starEach es X.env)).any (·.1) = false := by rfl) :
    PE X (.Call (.Name x p) (e :: es) [] pos) (dE W (sCallR r tas)) :=
  PE.by (pe_callS F hr hg hm hk hb (fun σ => passAt tk σ) ha hdb he hpl) fun σ H Q ⟨S, Q', W', kw, o, h, k⟩ => ⟨S, _, W', kw, o, h, fun vs S1 H1 o1 h1 => lift_sp c.mono kw o1 (c.lift _ _ _ _ _ h1) k⟩
theorem gCallD {ds : List V} {dus : List Value} (c : Ctr sp r) (F : FnOk X.prog X.w X.K X.mg X.base (L2.CX X.prog X.w) k f fd ps sp) (hr : Room k X.A) (hg : Gl X x) (hm : X.mg x = some (.ref f)) (hk : PySem.W.keepIn X.K (.ref f) = true) (hb : Binds X.K fd ps dus) (hd : Vals ds dus) (tk : Takes X W) (ha : PA X (e :: es) (dA W tas))
    (hdb : (x == ("__debug__" : Str)) = false := by decide) (he : starEach (e :: es) X.env = (false, eval e X.env) :: starEach es X.env := by rfl) (hpl : (backTo pos (starEach es X.env)).any (·.1) = false := by rfl) :
    PE X (.Call (.Name x p) (e :: es) [] pos) (dE W (sCallD r ds tas)) :=
  PE.by (pe_callSD F hr hg hm hk hb hd (fun σ => passAt tk σ) ha hdb he hpl) fun σ H Q ⟨S, Q', W', kw, o, h, k⟩ => ⟨S, _, W', kw, o, h, fun vs S1 H1 o1 h1 => lift_sp c.mono kw o1 (c.lift _ _ _ _ _ h1) k⟩
/-- the callee runs, called with keywords -/
theorem run_fnkS {CX : CXT} {pins : List (Addr × Obj)} {σ : St} {H : Hp} {s : Shared} {Q : VK} {us ws : List Value} {vs zs : List V} {E : St → XK} {g : List Value → List Value → List Value} {gV : List V → List V → List V} (F : FnOk X.prog X.w X.K X.mg X.base CX k f fd ps sp) (hr : Room k X.A) (hb : KBinds X.K fd ps ks g gV) (hx : PassesAt CX X σ (E σ))
    (I : Inv X pins σ H s) (r : Vals vs us) (rz : Vals zs ws) (h : sp (gV vs zs) H Q (E σ)) : wpAny (model X.prog X.w) X.A (call (.ref f) us (ks.zip ws)) (EP X pins σ Q) X.xe s := by
  have r2 := hb.rel r rz
  have hl : (g us ws).length = ps.length := by rw [← r2.length]; exact F.len _ _ _ _ h
  refine wpAny_call (codeAny_mono (F.run X.A X.stack s H ⟨us, ks.zip ws⟩ (g us ws) (gV vs zs) Q (E σ) hr I.env0 (hb.to s us ws I.kIn hl) r2 h) fun r s' hq => ?_)
  cases r with
  | error e => exact hx pins H s e s' I hq
  | ok fl =>
    cases fl with
    | ret u => exact I.after hq
    | next => exact False.elim hq
    | brk => exact False.elim hq
    | cont => exact False.elim hq
def tCallKS (sp : Sp) (gV : List V → List V → List V) (E : St → XK) (t tk : TA) : TE := fun σ H Q => t σ H fun vs H1 => tk σ H1 fun zs H2 => sp (gV vs zs) H2 Q (E σ)
theorem pe_callKS {CX : CXT} {kws : List Keyword} {t tk : TA} {E : St → XK} {g : List Value → List Value → List Value} {gV : List V → List V → List V} (F : FnOk X.prog X.w X.K X.mg X.base CX k f fd ps sp) (hr : Room k X.A) (hg : Gl X x) (hm : X.mg x = some (.ref f)) (hk : PySem.W.keepIn X.K (.ref f) = true) (hb : KBinds X.K fd ps ks g gV) (hx : ∀ σ, PassesAt CX X σ (E σ))
    (ha : PA X (e :: es) t) (hkw : PK X kws tk) (hall : (backToKw pos (keywordEach kws X.env)).all (·.1.isSome) = true := by rfl) (hks : (backToKw pos (keywordEach kws X.env)).filterMap (·.1) = ks := by rfl)
    (hdb : (x == ("__debug__" : Str)) = false := by decide) (he : starEach (e :: es) X.env = (false, eval e X.env) :: starEach es X.env := by rfl)
    (hpl : ((backTo pos (starEach (e :: es) X.env)).any (·.1) || (backToKw pos (keywordEach kws X.env)).any (·.1.isNone)) = false := by rfl) :
    PE X (.Call (.Name x p) (e :: es) kws pos) (tCallKS sp gV E t tk) := by
  refine ⟨fun pins s σ H Q I h => ?_⟩
  refine wpAny_Call_Name_kw (ld_glob I hg hm ?_ hdb)
  refine PySem.W.callWith_KW (h₀ := X.base) I.ok.mod.kin hk hall (thn (ha.run pos pins s σ H _ I h) fun us s1 ⟨vs, H1, I1, r, q⟩ => ?_) hpl he
  refine thn (hkw.run pos pins s1 σ H1 _ I1 q) fun ws s2 ⟨zs, H2, I2, rz, q2⟩ => ⟨I2.kIn, ?_⟩
  rw [hks]
  exact run_fnkS F hr hb (hx σ) I2 r rz q2
theorem run_fnNS {CX : CXT} {n : Nat} {pins : List (Addr × Obj)} {σ : St} {H : Hp} {s : Shared} {Q : VK} {us ws : List Value} {vs zs : List V} {E : St → XK} {g : List Value → List Value → List Value} {gV : List V → List V → List V} (F : FnOk X.prog X.w X.K X.mg X.base CX k f fd ps sp) (hr : Room k X.A) (hb : KBn X.K fd ps n ks g gV) (hx : PassesAt CX X σ (E σ))
    (I : Inv X pins σ H s) (r : Vals vs us) (rz : Vals zs ws) (l1 : vs.length = n) (l2 : zs.length = ks.length) (h : sp (gV vs zs) H Q (E σ)) : wpAny (model X.prog X.w) X.A (call (.ref f) us (ks.zip ws)) (EP X pins σ Q) X.xe s := by
  have r2 := hb.rel r rz
  refine wpAny_call (codeAny_mono (F.run X.A X.stack s H ⟨us, ks.zip ws⟩ (g us ws) (gV vs zs) Q (E σ) hr I.env0 (hb.to s us ws I.kIn (r.length.symm.trans l1) (rz.length.symm.trans l2)) r2 h) fun r s' hq => ?_)
  cases r with
  | error e => exact hx pins H s e s' I hq
  | ok fl =>
    cases fl with
    | ret u => exact I.after hq
    | next => exact False.elim hq
    | brk => exact False.elim hq
    | cont => exact False.elim hq
def tCallNS (n m : Nat) (sp : Sp) (gV : List V → List V → List V) (E : St → XK) (t tk : TA) : TE := fun σ H Q => t σ H fun vs H1 => tk σ H1 fun zs H2 => vs.length = n ∧ zs.length = m ∧ sp (gV vs zs) H2 Q (E σ)
theorem pe_callNS {CX : CXT} {n : Nat} {kws : List Keyword} {t tk : TA} {E : St → XK} {g : List Value → List Value → List Value} {gV : List V → List V → List V} (F : FnOk X.prog X.w X.K X.mg X.base CX k f fd ps sp) (hr : Room k X.A) (hg : Gl X x) (hm : X.mg x = some (.ref f)) (hk : PySem.W.keepIn X.K (.ref f) = true) (hb : KBn X.K fd ps n ks g gV) (hx : ∀ σ, PassesAt CX X σ (E σ))
    (ha : PA X (e :: es) t) (hkw : PK X kws tk) (hall : (backToKw pos (keywordEach kws X.env)).all (·.1.isSome) = true := by rfl) (hks : (backToKw pos (keywordEach kws X.env)).filterMap (·.1) = ks := by rfl)
    (hdb : (x == ("__debug__" : Str)) = false := by decide) (he : starEach (e :: es) X.env = (false, eval e X.env) :: starEach es X.env := by rfl)
    (hpl : ((backTo pos (starEach (e :: es) X.env)).any (·.1) || (backToKw pos (keywordEach kws X.env)).any (·.1.isNone)) = false := by rfl) :
    PE X (.Call (.Name x p) (e :: es) kws pos) (tCallNS n ks.length sp gV E t tk) := by
  refine ⟨fun pins s σ H Q I h => ?_⟩
  refine wpAny_Call_Name_kw (ld_glob I hg hm ?_ hdb)
  refine PySem.W.callWith_KW (h₀ := X.base) I.ok.mod.kin hk hall (thn (ha.run pos pins s σ H _ I h) fun us s1 ⟨vs, H1, I1, r, q⟩ => ?_) hpl he
  refine thn (hkw.run pos pins s1 σ H1 _ I1 q) fun ws s2 ⟨zs, H2, I2, rz, l1, l2, q2⟩ => ⟨I2.kIn, ?_⟩
  rw [hks]
  exact run_fnNS F hr hb (hx σ) I2 r rz l1 l2 q2
/-- a def of the module by its name: what it promises; the last ds.length parameters are left to their defaults ds -/
structure DefC (P : Program) (w : World) (K : PySem.W.Frag) (mg : Str → Option Value) (base : Heap) (x : Str) (ps : List Str) (k : Nat) (ds : List V) (sp : Sp) : Prop where
  ex : ∃ (f : Addr) (fd : FuncData) (dus : List Value), mg x = some (.ref f) ∧ PySem.W.keepIn K (.ref f) = true ∧ FnOk P w K mg base (L2.CX P w) k f fd ps sp ∧ Vals ds dus ∧ Binds K fd ps dus
/-- .. called with n positional values and the keywords ks -/
structure DefN (P : Program) (w : World) (K : PySem.W.Frag) (mg : Str → Option Value) (base : Heap) (x : Str) (ps : List Str) (k n : Nat) (ks : List Str) (gV : List V → List V → List V) (sp : Sp) : Prop where
  ex : ∃ (f : Addr) (fd : FuncData) (g : List Value → List Value → List Value), mg x = some (.ref f) ∧ PySem.W.keepIn K (.ref f) = true ∧ FnOk P w K mg base (L2.CX P w) k f fd ps sp ∧ KBn K fd ps n ks g gV
theorem gCall1 {j : Nat} {ds : List V} (c : Ctr sp r) (T : DefC X.prog X.w X.K X.mg X.base x ps k ds sp) (hr : Room j X.A) (hj : k ≤ j) (hg : Gl X x) (tk : Takes X W) (ha : PA X (e :: es) (dA W tas))
    (hdb : (x == ("__debug__" : Str)) = false := by decide) (he : starEach (e :: es) X.env = (false, eval e X.env) :: starEach es X.env := by rfl) (hpl : (backTo pos (starEach es X.env)).any (·.1) = false := by rfl) :
    PE X (.Call (.Name x p) (e :: es) [] pos) (dE W (sCallD r ds tas)) := by
  obtain ⟨f, fd, dus, hm, hk, F, hd, hb⟩ := T.ex
  exact gCallD c F (hr.mono hj) hg hm hk hb hd tk ha hdb he hpl
def sCallN (r : sWX → List V → St → SH → (V → SH → Prop) → Prop) (n m : Nat) (gV : List V → List V → List V) (t tk : sA) : sE := fun W σ S Q => t W σ S fun vs S1 => tk W σ S1 fun zs S2 => vs.length = n ∧ zs.length = m ∧ r W (gV vs zs) σ S2 Q
theorem gCall2 {j n m : Nat} {kws : List Keyword} {tks : sA} {gV : List V → List V → List V} (c : Ctr sp r) (T : DefN X.prog X.w X.K X.mg X.base x ps k n ks gV sp) (hr : Room j X.A) (hj : k ≤ j) (hg : Gl X x) (tk : Takes X W) (ha : PA X (e :: es) (dA W tas)) (hkw : PK X kws (dA W tks)) (hm : ks.length = m)
    (hall : (backToKw pos (keywordEach kws X.env)).all (·.1.isSome) = true := by rfl) (hks : (backToKw pos (keywordEach kws X.env)).filterMap (·.1) = ks := by rfl)
    (hdb : (x == ("__debug__" : Str)) = false := by decide) (he : starEach (e :: es) X.env = (false, eval e X.env) :: starEach es X.env := by rfl)
    (hpl : ((backTo pos (starEach (e :: es) X.env)).any (·.1) || (backToKw pos (keywordEach kws X.env)).any (·.1.isNone)) = false := by rfl) :
    PE X (.Call (.Name x p) (e :: es) kws pos) (dE W (sCallN r n m gV tas tks)) := by
  obtain ⟨f, fd, g, hmg, hk, F, hb⟩ := T.ex
  subst hm
  exact PE.by (pe_callNS F (hr.mono hj) hg hmg hk hb (fun σ => passAt tk σ) ha hkw hall hks hdb he hpl) fun σ H Q ⟨S, Q', W', kw, o, h, k⟩ => ⟨S, _, W', kw, o, h, fun vs S1 H1 o1 h1 => ⟨S1, _, W', kw, o1, h1, fun zs S2 H2 o2 ⟨l1, l2, h2⟩ => ⟨l1, l2, lift_sp c.mono kw o2 (c.lift _ _ _ _ _ h2) k⟩⟩⟩
end
/-- a built-in function that a module's name holds (from m import f) -/
theorem gBf {id : String} {x : Str} {p : Pos} {e : Expr} {r : sN} {R : List V → Hp → VK → Prop} (hc : CallR X (.builtin id) R) (l : LiftN r R) (hg : Gl X x) (hm : X.mg x = some (.builtin id)) (ha : PA X (e :: es) (dA W tas)) (hdb : (x == ("__debug__" : Str)) = false := by decide)
    (he : starEach (e :: es) X.env = (false, eval e X.env) :: starEach es X.env := by rfl) (hpl : (backTo pos (starEach es X.env)).any (·.1) = false := by rfl) : PE X (.Call (.Name x p) (e :: es) [] pos) (dE W (sCall1 r tas)) :=
  PE.by (pe_callBfun hc hg hm ha hdb he hpl) fun σ H Q ⟨S, Q', W', kw, o, h, k⟩ => ⟨S, _, W', kw, o, h, fun vs S1 H1 o1 h1 => l vs S1 Q' H1 Q o1 h1 k⟩

/-! ### xs.count(x), flat -/
def rCntF (K : PySem.W.Frag) : V → List V → Hp → VK → Prop := fun x vs H Q => ∃ (p : Addr) (xs : List V) (y : V), x = .ref p ∧ vs = [y] ∧ SqL K H p xs ∧ flatV y = true ∧ xs.all flatV = true ∧ Q (.int (xs.countP fun z => eqV z y : Nat)) H
theorem count_eqU {x : V} : ∀ {xs : List V} {us : List Value}, Vals xs us → xs.all flatV = true → us.countP (eqU x) = xs.countP fun y => eqV y x
  | _, _, .nil, _ => rfl
  | y :: xs, u :: us, .cons r t, f => by
    rw [List.all_cons, Bool.and_eq_true] at f
    rw [List.countP_cons, List.countP_cons, eqU_of r f.1, count_eqU t f.2]
theorem mt_lcountF : MtR X "list.count" (rCntF X.K) := by
  intro pins s σ H x xs v us Q I rx rxs h
  obtain ⟨p, ys, y, rfl, rfl, hs, f1, f2, q⟩ := h
  cases rx
  obtain ⟨u, rfl, ru⟩ := rxs.one
  obtain ⟨its, rv, ⟨⟨cls, dd, data, sl⟩, n, ho, hc, hdn, hd⟩, hlen⟩ := I.list hs
  simp only at hc hd
  subst hc hd
  refine call_meets PySem.F.slot_list_count ⟨_, ho, rfl⟩ PySem.F.entry_list_count (PySem.F.args_list_count_2 _ _)
    (SeqAt.list_countAt p its.toArray n dd sl u (eqU y)) ⟨ho, fun z hz => mem_eqAt ru f1 rv f2 z (by simpa using hz), ?_⟩
  refine ⟨.int (ys.countP fun z => eqV z y : Nat), H, I.tok _, ⟨s.toks, ?_⟩, q⟩
  show Value.int ((its.toArray.toList.countP (eqU y) : Nat) : Int) s.toks = Value.int ((ys.countP fun z => eqV z y : Nat) : Int) s.toks
  have e : its.toArray.toList = its := by simp
  rw [e, count_eqU rv f2]
def mCnt (K : PySem.W.Frag) : sM := fun x vs S Q => match x, vs with
  | .ref p, [y] => ∃ xs, sL K S p xs ∧ flatV y = true ∧ xs.all flatV = true ∧ Q (.int (xs.countP fun z => eqV z y : Nat)) S
  | _, _ => False
theorem lCnt {K : PySem.W.Frag} : LiftM (mCnt K) (rCntF K) := by
  intro x vs S Q' H Q o h k
  unfold mCnt at h
  split at h
  · obtain ⟨xs, h1, h2, h3, h4⟩ := h
    exact ⟨_, xs, _, rfl, rfl, o.l h1, h2, h3, k _ _ _ o h4⟩
  · exact h.elim

/-! ### math.comb -/
def rComb : List V → Hp → VK → Prop := fun vs H Q => ∃ a b : Int, vs = [.int a, .int b] ∧ 0 ≤ a ∧ 0 ≤ b ∧ a ≤ 18000 ∧ Q (.int (PySem.W.mcComb a b)) H
theorem cr_comb : CallR X (.builtin "math.comb") rComb := by
  intro pins s σ H vs us Q I r h
  obtain ⟨a, b, rfl, h1, h2, h3, q⟩ := h
  obtain ⟨t, u, rfl⟩ := Vals.int2 r
  exact PySem.W.mc_comb h1 h2 (by omega) (.inr h3) fun _ => ⟨.int _, H, I.tok _, ⟨_, rfl⟩, q⟩
def nComb : sN := fun vs S Q => match vs with
  | [.int a, .int b] => 0 ≤ a ∧ 0 ≤ b ∧ a ≤ 18000 ∧ Q (.int (PySem.W.mcComb a b)) S
  | _ => False
theorem lComb : LiftN nComb rComb := by
  intro vs S Q' H Q o h k
  unfold nComb at h
  split at h
  · exact ⟨_, _, rfl, h.1, h.2.1, h.2.2.1, k _ _ _ o h.2.2.2⟩
  · exact h.elim
/-! ### in short -/
theorem gv (i : Nat) {x : Str} {pos : Pos} (hN : X.N[i]? = some x := by rfl) (hv : Vis X.env.scope x := by first | exact Or.inl rfl | exact Or.inr (Or.inl rfl) | exact Or.inr (Or.inr rfl)) (hd : (x == ("__debug__" : Str)) = false := by decide)
    (hcd : (x == ("__classdict__" : Str)) = false := by decide) : PE X (.Name x pos) (dE W (sVar i)) := gVar hN hv hd hcd
theorem gOneV {a : Expr} {ta : sE} {op : BoolOp} {pos : Pos} (h : PE X a (dE W ta)) : PE X (.BoolOp op [a] pos) (dE W ta) := pe_one h
theorem gAnd1 {a : Expr} {ta : sT} {pos : Pos} (h : PT X a (dT W ta)) : PW X (.BoolOp .And [a] pos) (dT W ta) := pw_and1 h
theorem gOr1 {a : Expr} {ta : sT} {pos : Pos} (h : PT X a (dT W ta)) : PW X (.BoolOp .Or [a] pos) (dT W ta) := pw_or1 h
/-- a built-in class, an own class, a module's constant as a value -/
theorem gTyV {x : Str} {T : String} {pos : Pos} (hg : Gl X x) (hm : X.mg x = none) (hv : bootBuiltins x = some (.type T)) (hn : x ≠ "__name__" := by decide) (hd : (x == ("__debug__" : Str)) = false := by decide) : PE X (.Name x pos) (dE W (sC (.ty T))) := gC_of (pe_bltn hg hm hv rfl hn hd)
theorem gClV {x : Str} {C : Addr} {pos : Pos} (hg : Gl X x) (hm : X.mg x = some (.ref C)) (hd : (x == ("__debug__" : Str)) = false := by decide) : PE X (.Name x pos) (dE W (sC (.ref C))) := gC_of (pe_glob hg hm rfl hd)
theorem gCnV {x : Str} {i : Int} {t : Tok} {pos : Pos} (hg : Gl X x) (hm : X.mg x = some (.int i t)) (hd : (x == ("__debug__" : Str)) = false := by decide) : PE X (.Name x pos) (dE W (sC (.int i))) := gC_of (pe_glob hg hm ⟨t, rfl⟩ hd)
/-! ### a def's body -/
theorem start_body {W : WX} {t : sS} {D : Ends} {σ : St} {H : Hp} (S : SH) (o : Own S H)
    (h : t { nx := fun σ' S' => ∀ H', Own S' H' → D.nx σ' H', rt := fun v S' => ∀ H', Own S' H' → D.rt v H', ex := fun c d σ' S' => ∀ H', Own S' H' → W c d σ' H' } σ S) (hb : ∀ σ H, D.bk σ H ↔ False) (hc : ∀ σ H, D.ct σ H ↔ False) : dS W t D σ H :=
  ⟨S, _, o, h, ⟨fun σ' S' H' o' q => q H' o', fun v S' H' o' q => q H' o', fun _ _ _ _ q => q.elim, fun _ _ _ _ q => q.elim, fun c d σ' S' H' o' q => q H' o'⟩⟩
/-- what a body must show, by a contract -/
abbrev endsC {α : Type} (ct : Ct α) (g : α) (H : Hp) : sEnds := ⟨fun _ S' => ∀ H', Own S' H' → ct.post g H .non H', fun v S' => ∀ H', Own S' H' → ct.post g H v H', fun _ _ => False, fun _ _ => False, fun c d _ S' => ∀ H', Own S' H' → ct.exn g H c d H'⟩
theorem body_C {α : Type} {ct : Ct α} {t : sS} {σ : St} {vs : List V} {H : Hp} {Q : VK} {E : XK} (h : spC ct vs H Q E) (hv : ∀ g, ct.pre g vs H → ∃ S, Own S H ∧ t (endsC ct g H) σ S) :
    dS (fun c d _ H => E c d H) t { nx := fun _ H' => Q .non H', rt := Q } σ H := by
  obtain ⟨g, h1, h2, h3⟩ := h
  obtain ⟨S, o, q⟩ := hv g h1
  exact ⟨S, _, o, q, ⟨fun _ S' H' o' q => h2 _ _ (q H' o'), fun v S' H' o' q => h2 _ _ (q H' o'), fun _ _ _ _ q => q.elim, fun _ _ _ _ q => q.elim, fun c d σ' S' H' o' q => h3 _ _ _ (q H' o')⟩⟩
abbrev endsV (o : Ot) (H : Hp) : sEnds := ⟨fun _ S' => match o with | .ok v => v = .non ∧ (∀ a u, H a = some u → S'.F a = some u) | .er _ _ _ => False, fun v' S' => match o with | .ok v => v' = v ∧ (∀ a u, H a = some u → S'.F a = some u) | .er _ _ _ => False, fun _ _ => False, fun _ _ => False,
  fun c d _ S' => match o with | .ok _ => False | .er C n v => c = .ref C ∧ ∃ dd, d = some dd ∧ S'.F = H ∧ (∃ i : Nat, S'.G[i]? = some (dd, .xd [(n, v)]))⟩
theorem body_V {f : List V → Option Ot} {t : sS} {σ : St} {vs : List V} {H : Hp} {Q : VK} {E : XK} (h : spV f vs H Q E) (hv : ∀ o, f vs = some o → t (endsV o H) σ ⟨H, []⟩) :
    dS (fun c d _ H => E c d H) t { nx := fun _ H' => Q .non H', rt := Q } σ H := by
  unfold spV at h
  split at h
  · rename_i v e
    refine ⟨⟨H, []⟩, _, Own.base H, hv _ e, ⟨fun _ S' H' o' q => ?_, fun v S' H' o' q => ?_, fun _ _ _ _ q => q.elim, fun _ _ _ _ q => q.elim, fun c d σ' S' H' o' q => q.elim⟩⟩
    · obtain ⟨rfl, q⟩ := q
      exact h H' fun a u e => o'.fr a u (q a u e)
    · obtain ⟨rfl, q⟩ := q
      exact h H' fun a u e => o'.fr a u (q a u e)
  · rename_i C n v e
    refine ⟨⟨H, []⟩, _, Own.base H, hv _ e, ⟨fun _ S' H' o' q => q.elim, fun v S' H' o' q => q.elim, fun _ _ _ _ q => q.elim, fun _ _ _ _ q => q.elim, fun c d σ' S' H' o' q => ?_⟩⟩
    obtain ⟨rfl, dd, rfl, q1, i, q2⟩ := q
    refine h H' dd (fun a u e => o'.fr a u (by rw [q1]; exact e)) ?_ (o'.g q2)
    rw [← q1]
    exact (o'.gs _ (List.mem_of_getElem? q2)).2
  · exact h.elim
end
end SY
namespace SY
open PySem PySem.Spec PyProof.Rows L2
/-! ### a try with several clauses, each with a name or without -/
abbrev Cla := Value × Option Nat × (Addr → Value → Option Addr → TS)
/-- the ends of a clause's suite: its name goes -/
def offE (D : Ends) : Option Nat → Ends
  | none => D
  | some i => ⟨fun z H => D.nx (z.set i none) H, D.rt, fun z H => D.bk (z.set i none) H, fun z H => D.ct (z.set i none) H⟩
def onS (z : L2.St) (a : Addr) : Option Nat → L2.St
  | none => z
  | some i => z.set i (some (.ref a))
def wG (K : PySem.W.Frag) (Wo : WX) (D : Ends) : List Cla → WX
  | [] => Wo
  | q :: r => fun cls d z H => ∃ b, PySem.W.exmOne K cls q.1 = some b ∧ (b = true → ∀ a, H a = none → q.2.2 a cls d (offE D q.2.1) (onS z a q.2.1) H) ∧ (b = false → wG K Wo D r cls d z H)
inductive HdG (X : Cx) : List ExceptHandler → List Cla → Prop
  | nil : HdG X [] []
  | cons {x : Str} {c : Value} {on : Option Str} {oi : Option Nat} {ts : Addr → Value → Option Addr → TS} {b0 : Stmt} {rest : List Stmt} {np hp : Pos} {hs : List ExceptHandler} {l : List Cla} (hc : Names X x c)
      (ho : (on = none ∧ oi = none) ∨ ∃ n i, on = some n ∧ oi = some i ∧ X.N[i]? = some n ∧ X.env.kindOf n = some .local)
      (su : ∀ a oe cls d pn, Zc cls d oe → (∃ vs, oe.data = .fields vs) → PSs (X.suite a ((a, oe) :: pn)) (b0 :: rest) (ts a cls d)) (r : HdG X hs l) :
      HdG X (.ExceptHandler (some (.Name x np)) on (b0 :: rest) hp :: hs) ((c, oi, ts) :: l)
section
variable {X : Cx} {body : List Stmt} {h0 : ExceptHandler} {hs0 : List ExceptHandler} {l : List Cla} {pos : Pos} {tb : WX → TS} {Wo : WX}
theorem ps_tryG (hst : X.stack = X.env :: X.outer) (hfr : X.env.frame = some X.env.locals) (hN : X.N.Nodup) (tk : Takes X Wo)
    (hb : ∀ (W : WX) pn (xe : Value → Shared → Prop), Takes (X.tr pn xe) W → PassesOwn (model X.prog X.w) X.A X.env xe → PSs (X.tr pn xe) body (tb W))
    (hh : HdG X (h0 :: hs0) l) : PS X (.Try body (h0 :: hs0) [] [] pos) (fun D z H => tb (wG X.K Wo D l) D z H) := by
  refine ⟨fun pins s z H D I q => ?_⟩
  have ok := I.ok
  have fr : X.A.frames = some (X.env :: X.outer) := ok.frames.trans (congrArg some hst)
  refine wpAny_Try_except ?_
  refine wpAny_mono ((hb (wG X.K Wo D l) (X.pn ++ pins)
    (fun e s1 => wpAny (model X.prog X.w) X.A (noteFrame e X.env) (fun _ s2 => wpAny (model X.prog X.w) X.A (setFlight e none)
      (fun _ s3 => wpAny (model X.prog X.w) X.A (handleBy e X.env (h0 :: hs0)) (SP X pins D) X.xe s3) X.xe s2) X.xe s1)
    (fun u s1 caught => ?_) PassesOwn.looking).run [] s z H D (I.toTry _) q) (fun f s1 fin => ?_) fun _ _ y => y
  · obtain ⟨a, B, sI, pins1, z1, H1, cls, d, rfl, J1, nb, up, sky, na, os, ag, wish⟩ := caught
    have J : Inv X pins z1 H1 sI := J1.ofTry ok
    have sky2 : Sky B (X.env :: X.outer) a (Zc cls d) X.env.locals s1.heap := hst ▸ sky
    show wpAny (model X.prog X.w) X.A (noteFrame (.ref a) X.env) _ _ _
    refine Sky.land Zc.steady fr hfr sky2 fun h3 fl3 up3 => ?_
    have J3 : Inv X pins z1 H1 { s1 with heap := h3 } := J.landed nb fl3.1 (up.trans up3) os ag
    obtain ⟨oe3, vs3, he3, hz3, hd3⟩ := fl3.there
    have away : a ∉ frs (X.env :: X.outer) := fun hm => by
      obtain ⟨_, o', e', hnf⟩ := fl3.2.2.1.mem hm
      rw [he3] at e'
      cases e'
      exact hnf _ hd3
    have nL : a ≠ X.env.locals := fun y => away (List.mem_filterMap.mpr ⟨X.env, .head _, hfr.trans (congrArg some y.symm)⟩)
    have nF : a ∉ X.fs := fun hm => by
      obtain ⟨e, he, y⟩ := List.mem_filterMap.mp hm
      exact away (List.mem_filterMap.mpr ⟨e, .tail _ he, y⟩)
    have S3 := J3.suite he3 hd3 na nL nF
    have go : ∀ {hs : List ExceptHandler} {l1 : List Cla}, HdG X hs l1 → wG X.K Wo D l1 cls d z1 H1 → wpAny (model X.prog X.w) X.A (handleBy (.ref a) X.env hs) (SP X pins D) X.xe { s1 with heap := h3 } := by
      intro hs l1 hk
      induction hk with
      | nil =>
        intro w
        refine wpAny_handleBy_nil ?_
        obtain ⟨_, _, _, oe, vs, T, oT, _, he, _, hd, h1, _⟩ := id fl3
        unfold PySem.passOn
        refine wpAny_bind (wpAny_field he hd h1 ?_)
        rw [if_neg (show ¬ ((Value.ref T == Value.none) = true) by simp)]
        have last : wpAny (model X.prog X.w) X.A (setFlight (.ref a) X.env.frame)
            (fun _ s4 => wpAny (model X.prog X.w) X.A (throw (.ref a) : Sem Flow) (SP X pins D) X.xe s4) X.xe { s1 with heap := h3 } := by
          rw [hfr]
          refine HandSPX.setFlight_upZ fl3 fun h4 hh4 up4 => wpAny_throw (tk _ _ ⟨a, B, sI, pins, z1, H1, cls, d, rfl, J, nb, (up.trans up3).trans up4, .inr (.inr (hst ▸ hh4)), na, os, ag, w⟩)
        first
          | exact wpAny_bind (wpAny_pure (wpAny_bind last))
          | exact wpAny_bind last
      | @cons x c on oi ts b0 rest np hp hs2 l2 hc ho su r ih =>
        intro w
        obtain ⟨b, hb1, yes, no⟩ := w
        refine wpAny_handleBy_cons (codeAny_handlers_test ?_) (fun y => nomatch y)
        have LT : PySem.W.Looks (model X.prog X.w) h3 (typeOf (.ref a)) cls := fun A Q E t k y => wpAny_typeOf_ref (k _ _ he3) (by rw [hz3.1]; exact y)
        have LM := PySem.W.exm_one (M := model X.prog X.w) (J3.kIn) LT hb1
        have asks : ∀ {Q : Value → Shared → Prop} {E : Value → Shared → Prop}, Q c { s1 with heap := h3 } →
            wpAny (model X.prog X.w) (X.A.mark (some (.ref a))) (eval (.Name x np) X.env) Q E { s1 with heap := h3 } := fun {Q E} y => by
          obtain ⟨hg, hdbg, hm | ⟨hm, hv, hnn⟩⟩ := hc
          · exact ld_glob (X := X.suite a ((a, oe3) :: (X.pn ++ pins))) S3 hg hm y hdbg
          · exact ld_blt (X := X.suite a ((a, oe3) :: (X.pn ++ pins))) S3 hg hm hv y hnn hdbg
        refine asks (LM.here ?_)
        cases b with
        | false =>
          show wpAny _ X.A (handleBy (.ref a) X.env hs2) _ _ _
          exact ih (no rfl)
        | true =>
          rcases ho with ⟨rfl, rfl⟩ | ⟨n, i, rfl, rfl, hi, hln⟩
          · refine codeAny_handlers_suite ?_
            refine HandSPX.lands_againZ fl3 fun h4 fl4 up4 => ?_
            have J4 : Inv X pins z1 H1 { s1 with heap := h4 } := J.landed nb fl4.1 ((up.trans up3).trans up4) os ag
            obtain ⟨oe4, vs4, he4, hz4, hd4⟩ := fl4.there
            have S4 := J4.suite he4 hd4 na nL nF
            refine wpAny_mono ((su a oe4 cls d (X.pn ++ pins) hz4 ⟨_, hd4⟩).run [] _ _ H1 _ S4 (yes rfl a na)) (fun f s6 y => ?_) (fun _ _ y => y.elim)
            cases f with
            | ret u =>
              obtain ⟨v6, z6, H6, S6, r6, q6⟩ := y
              exact ⟨_, _, _, S6.unsuite ok, r6, q6⟩
            | _ =>
              obtain ⟨z6, H6, S6, q6⟩ := y
              exact ⟨_, _, S6.unsuite ok, q6⟩
          · refine codeAny_handlers_suite_as ?_
            refine HandSPX.lands_againZ fl3 fun h4 fl4 up4 => ?_
            have J4 : Inv X pins z1 H1 { s1 with heap := h4 } := J.landed nb fl4.1 ((up.trans up3).trans up4) os ag
            obtain ⟨oe4, vs4, he4, hz4, hd4⟩ := fl4.there
            have S4 := J4.suite he4 hd4 na nL nF
            refine store_ok (X := X.suite a ((a, oe4) :: (X.pn ++ pins))) (v := .ref a) S4 hN hi (.inl hln) rfl (fun s5 S5 => ?_) (.inr hln)
            refine wpAny_mono ((su a oe4 cls d (X.pn ++ pins) hz4 ⟨_, hd4⟩).run [] s5 _ H1 _ S5 (yes rfl a na)) (fun f s6 y => ?_) (fun _ _ y => y.elim)
            have off : ∀ {z6 : L2.St} {H6 : Hp} {Q : Shared → Prop}, Inv (X.suite a ((a, oe4) :: (X.pn ++ pins))) [] z6 H6 s6 → (∀ s7, Inv X pins (z6.set i none) H6 s7 → Q s7) →
                wpAny (model X.prog X.w) X.A (do bindName X.env n .none; unbindBehindTheSuite X.env n hp) (fun _ s7 => Q s7) X.xe s6 := fun S6 k => gone_ok (S6.unsuite ok) hN hi hln k
            cases f with
            | ret u =>
              obtain ⟨v6, z6, H6, S6, r6, q6⟩ := y
              exact off S6 fun s7 J7 => ⟨_, _, _, J7, r6, q6⟩
            | _ =>
              obtain ⟨z6, H6, S6, q6⟩ := y
              exact off S6 fun s7 J7 => ⟨_, _, J7, q6⟩
    exact go hh wish
  · cases f with
    | next =>
      obtain ⟨z1, H1, J1, y⟩ := fin
      exact wpAny_execs_nil ⟨z1, H1, J1.ofTry ok, y⟩
    | ret u =>
      obtain ⟨v, z1, H1, J1, rv, y⟩ := fin
      exact ⟨v, z1, H1, J1.ofTry ok, rv, y⟩
    | _ =>
      obtain ⟨z1, H1, J1, y⟩ := fin
      exact ⟨z1, H1, J1.ofTry ok, y⟩
end
/-! over the symbolic heap -/
abbrev Cls := Value × Option Nat × (Addr → Value → Option Addr → sS)
def offS (D : sEnds) : Option Nat → sEnds
  | none => { D with ex := noW }
  | some i => ⟨fun z S => D.nx (z.set i none) S, D.rt, fun z S => D.bk (z.set i none) S, fun z S => D.ct (z.set i none) S, noW⟩
def sHan (K : PySem.W.Frag) (D : sEnds) : List Cls → sWX
  | [] => D.ex
  | q :: r => fun cls d z S => ∃ b, PySem.W.exmOne K cls q.1 = some b ∧ (b = true → ∀ a, q.2.2 a cls d (offS D q.2.1) (onS z a q.2.1) S) ∧ (b = false → sHan K D r cls d z S)
def sTryG (K : PySem.W.Frag) (tb : sS) (l : List Cls) : sS := fun D z S => tb { D with ex := sHan K D l } z S
inductive sHd (X : Cx) : List ExceptHandler → List Cls → Prop
  | nil : sHd X [] []
  | as {x n : Str} {c : Value} {i : Nat} {ts : Addr → Value → Option Addr → sS} {b0 : Stmt} {rest : List Stmt} {np hp : Pos} {hs : List ExceptHandler} {l : List Cls} (hc : Names X x c) (hi : X.N[i]? = some n) (hl : X.env.kindOf n = some .local)
      (su : ∀ a oe cls d pn, Zc cls d oe → (∃ vs, oe.data = .fields vs) → PSs (X.suite a ((a, oe) :: pn)) (b0 :: rest) (dS NoW (ts a cls d))) (r : sHd X hs l) :
      sHd X (.ExceptHandler (some (.Name x np)) (some n) (b0 :: rest) hp :: hs) ((c, some i, ts) :: l)
  | no {x : Str} {c : Value} {ts : Addr → Value → Option Addr → sS} {b0 : Stmt} {rest : List Stmt} {np hp : Pos} {hs : List ExceptHandler} {l : List Cls} (hc : Names X x c)
      (su : ∀ a oe cls d pn, Zc cls d oe → (∃ vs, oe.data = .fields vs) → PSs (X.suite a ((a, oe) :: pn)) (b0 :: rest) (dS NoW (ts a cls d))) (r : sHd X hs l) :
      sHd X (.ExceptHandler (some (.Name x np)) none (b0 :: rest) hp :: hs) ((c, none, ts) :: l)
theorem sHd.to {X : Cx} {hs : List ExceptHandler} {l : List Cls} (h : sHd X hs l) : HdG X hs (l.map fun q => (q.1, q.2.1, fun a cls d => dS NoW (q.2.2 a cls d))) := by
  induction h with
  | nil => exact .nil
  | as hc hi hl su r ih => exact .cons hc (.inr ⟨_, _, rfl, rfl, hi, hl⟩) su ih
  | no hc su r ih => exact .cons hc (.inl ⟨rfl, rfl⟩) su ih
theorem sHan_ok {K : PySem.W.Frag} {W : WX} {D : Ends} {D' : sEnds} (k : EImp W D' D) : ∀ (l : List Cls), ImpW (sHan K D' l) (wG K W D (l.map fun q => (q.1, q.2.1, fun a cls d => dS NoW (q.2.2 a cls d))))
  | [] => k.ex
  | q :: r => fun cls d z S H o ⟨b, e, y, n⟩ => ⟨b, e, fun hb a _ => ⟨S, _, o, y hb a, by
      cases q.2.1 with
      | none => exact ⟨k.nx, k.rt, k.bk, k.ct, noW_imp⟩
      | some i => exact ⟨fun z2 S2 H2 o2 q => k.nx _ _ _ o2 q, k.rt, fun z2 S2 H2 o2 q => k.bk _ _ _ o2 q, fun z2 S2 H2 o2 q => k.ct _ _ _ o2 q, noW_imp⟩⟩, fun hb => sHan_ok k r cls d z S H o (n hb)⟩
theorem hTryG {X : Cx} {W : WX} {body : List Stmt} {h0 : ExceptHandler} {hs : List ExceptHandler} {l : List Cls} {pos : Pos} {tb : sS}
    (hst : X.stack = X.env :: X.outer) (hf : X.env.frame = some X.env.locals) (hN : X.N.Nodup) (tk : Takes X W)
    (hb : ∀ (W : WX) (pn : List (Addr × Obj)) (xe : Value → Shared → Prop), Takes (X.tr pn xe) W → PassesOwn (model X.prog X.w) X.A X.env xe → PSs (X.tr pn xe) body (dS W tb))
    (hh : sHd X (h0 :: hs) l) : PS X (.Try body (h0 :: hs) [] [] pos) (dS W (sTryG X.K tb l)) :=
  PS.by (ps_tryG (tb := fun W => dS W tb) hst hf hN tk hb hh.to) fun D z H ⟨S, D', o, h, k⟩ => ⟨S, _, o, h, ⟨k.nx, k.rt, k.bk, k.ct, sHan_ok k l⟩⟩
end SY
namespace SY
open PySem PySem.Spec PyProof.Rows L2
section
variable {X : Cx} {W : WX} {a b e : Expr} {es : List Expr} {pos : Pos} {ta tb te : sE} {tas : sA}
/-! ### tuples: +, tuple(x) -/
def oAddT (K : PySem.W.Frag) : s2 := fun x y S Q => match x, y with
  | .ref p, .ref q => ∃ xs ys, sU K S p xs ∧ sU K S q ys ∧ xs.length + ys.length ≤ sizeLine ∧ (xs = [] → Q (.ref q) S) ∧ (xs ≠ [] → ys = [] → Q (.ref p) S) ∧ (xs ≠ [] → ys ≠ [] → ∀ r, Q (.ref r) (S.new r (.tup (xs ++ ys))))
  | _, _ => False
theorem lAddT {K : PySem.W.Frag} : Lift2 (oAddT K) (rCatA K) := by
  intro x y S Q' H Q o h k
  unfold oAddT at h
  split at h
  · obtain ⟨xs, ys, h1, h2, h3, h4, h5, h6⟩ := h
    exact ⟨_, _, xs, ys, rfl, rfl, o.u h1, o.u h2, h3, fun z => k _ _ _ o (h4 z), fun z1 z2 => k _ _ _ o (h5 z1 z2), fun z1 z2 r hr => k _ _ _ (o.newU hr) (h6 z1 z2 r)⟩
  · exact h.elim
theorem gAddT (ha : PE X a (dE W ta)) (hb : PE X b (dE W tb)) : PE X (.BinOp a .Add b pos) (dE W (sOp (oAddT X.K) ta tb)) := gOp op_catA lAddT ha hb
/-- tuple(x) of a list: a new tuple; of a tuple: itself -/
def nTuple (K : PySem.W.Frag) (x : V) (S : SH) (Q : V → SH → Prop) : Prop := match x with
  | .ref p => (∃ xs, sL K S p xs ∧ ∀ q, Q (.ref q) (S.new q (.tup xs))) ∨ ∃ xs, sU K S p xs ∧ Q (.ref p) S
  | _ => False
def sTuple (K : PySem.W.Frag) (t : sE) : sE := fun W z S Q => t W z S fun x S1 => nTuple K x S1 Q
theorem gTuple {p : Pos} (hg : Gl X "tuple") (hm : X.mg "tuple" = none) (ha : PE X a (dE W ta)) (na : starEach [a] X.env = (false, eval a X.env) :: starEach [] X.env := by rfl) : PE X (.Call (.Name "tuple" p) [a] [] pos) (dE W (sTuple X.K ta)) :=
  PE.by (pe_tupleOf hg hm ha na) fun z H Q ⟨S, Q', W', kw, o, h, k⟩ => ⟨S, _, W', kw, o, h, fun x S1 H1 o1 h1 => by
    unfold nTuple at h1
    split at h1
    · rcases h1 with ⟨xs, h1, h2⟩ | ⟨xs, h1, h2⟩
      · exact .inl ⟨_, xs, rfl, o1.l h1, fun q hq => k _ _ _ (o1.newU hq) (h2 q)⟩
      · exact .inr ⟨_, xs, rfl, o1.u h1, k _ _ _ o1 h2⟩
    · exact h1.elim⟩
/-! ### list(range(..)), tuple(range(..)) -/
def rgS (n : Int) : List V := (List.range n.toNat).map fun i => V.int (i : Nat)
theorem rgS_eq (n : Int) : rgV 0 n = rgS n := by
  unfold rgV rgS
  rw [Int.sub_zero]
  congr 1
  funext i
  rw [Int.zero_add]
def nRgL (x : V) (S : SH) (Q : V → SH → Prop) : Prop := match x with
  | .int n => (0 ≤ n ∧ n ≤ 16777216) ∧ ∀ q, Q (.ref q) (S.new q (.lst (rgS n)))
  | _ => False
def nRgT (x : V) (S : SH) (Q : V → SH → Prop) : Prop := match x with
  | .int n => (0 ≤ n ∧ n ≤ 16777216) ∧ ∀ q, Q (.ref q) (S.new q (.tup (rgS n)))
  | _ => False
def sRgL (t : sE) : sE := fun W z S Q => t W z S fun x S1 => nRgL x S1 Q
def sRgT (t : sE) : sE := fun W z S Q => t W z S fun x S1 => nRgT x S1 Q
theorem gRgL {p pos2 p2 : Pos} (hc : X.calm = true) (hg : Gl X "list") (hm : X.mg "list" = none) (hg2 : Gl X "range") (hm2 : X.mg "range" = none) (ha : PE X a (dE W ta)) (na : starEach [a] X.env = (false, eval a X.env) :: starEach [] X.env := by rfl)
    (nb : starEach [.Call (.Name "range" p2) [a] [] pos2] X.env = (false, eval (.Call (.Name "range" p2) [a] [] pos2) X.env) :: starEach [] X.env := by rfl) : PE X (.Call (.Name "list" p) [.Call (.Name "range" p2) [a] [] pos2] [] pos) (dE W (sRgL ta)) :=
  PE.by (pe_listRg hc hg hm (prg_1 hg2 hm2 ha na) nb) fun z H Q ⟨S, Q', W', kw, o, h, k⟩ => ⟨S, _, W', kw, o, h, fun x S1 H1 o1 h1 => by
    unfold nRgL at h1
    split at h1
    · obtain ⟨⟨h2, h3⟩, h4⟩ := h1
      exact ⟨_, rfl, RgOk.of_le (by decide) h3 (by decide) h2, fun q hq => by rw [rgS_eq]; exact k _ _ _ (o1.newU hq) (h4 q)⟩
    · exact h1.elim⟩
theorem gRgT {p pos2 p2 : Pos} (hc : X.calm = true) (hg : Gl X "tuple") (hm : X.mg "tuple" = none) (hg2 : Gl X "range") (hm2 : X.mg "range" = none) (ha : PE X a (dE W ta)) (na : starEach [a] X.env = (false, eval a X.env) :: starEach [] X.env := by rfl)
    (nb : starEach [.Call (.Name "range" p2) [a] [] pos2] X.env = (false, eval (.Call (.Name "range" p2) [a] [] pos2) X.env) :: starEach [] X.env := by rfl) : PE X (.Call (.Name "tuple" p) [.Call (.Name "range" p2) [a] [] pos2] [] pos) (dE W (sRgT ta)) :=
  PE.by (pe_tupRg hc hg hm (prg_1 hg2 hm2 ha na) nb) fun z H Q ⟨S, Q', W', kw, o, h, k⟩ => ⟨S, _, W', kw, o, h, fun x S1 H1 o1 h1 => by
    unfold nRgT at h1
    split at h1
    · obtain ⟨⟨h2, h3⟩, h4⟩ := h1
      exact ⟨_, rfl, RgOk.of_le (by decide) h3 (by decide) h2, fun q hq => by rw [rgS_eq]; exact k _ _ _ (o1.newU hq) (h4 q)⟩
    · exact h1.elim⟩
/-! ### xs.index(y), flat -/
def mIdx (K : PySem.W.Frag) : sM := fun x vs S Q => match x, vs with
  | .ref p, [y] => ∃ ys j z, sL K S p ys ∧ flatV y = true ∧ ys.all flatV = true ∧ ys[j]? = some z ∧ eqV z y = true ∧ (∀ (m : Nat) (z' : V), m < j → ys[m]? = some z' → eqV z' y = false) ∧ Q (.int (j : Nat)) S
  | _, _ => False
theorem lIdx {K : PySem.W.Frag} : LiftM (mIdx K) (rIndex K) := by
  intro x vs S Q' H Q o h k
  unfold mIdx at h
  split at h
  · obtain ⟨ys, j, z, h1, h2, h3, h4, h5, h6, h7⟩ := h
    exact ⟨_, ys, _, j, z, rfl, rfl, o.l h1, h2, h3, h4, h5, h6, k _ _ _ o h7⟩
  · exact h.elim
/-! ### walks: reversed, enumerate -/
def itLv (K : PySem.W.Frag) (a : Addr) (xs : List V) : SIt := ⟨xs.length, fun S => sL K S a xs, fun i S k => ∀ v, xs[xs.length - 1 - i]? = some v → k v S⟩
def itUv (K : PySem.W.Frag) (a : Addr) (xs : List V) : SIt := ⟨xs.length, fun S => sU K S a xs, fun i S k => ∀ v, xs[xs.length - 1 - i]? = some v → k v S⟩
theorem itLv_ok {K : PySem.W.Frag} {a : Addr} {xs : List V} : SItOk (Itv K a xs.length) (itLv K a xs) :=
  ⟨fun S H i o h hi => hi, fun S H i o h hi => ⟨hi, xs, _, o.l h, List.getElem?_eq_getElem (by have : i < xs.length := hi; omega)⟩, fun S H i x H' k o h hi ⟨e, y⟩ q => by
    subst e
    exact ⟨S, o, q x (y xs (o.l h))⟩⟩
theorem itUv_ok {K : PySem.W.Frag} {a : Addr} {xs : List V} : SItOk (RT.ItvT K a xs.length) (itUv K a xs) :=
  ⟨fun S H i o h hi => hi, fun S H i o h hi => ⟨hi, xs, _, o.u h, List.getElem?_eq_getElem (by have : i < xs.length := hi; omega)⟩, fun S H i x H' k o h hi ⟨e, y⟩ q => by
    subst e
    exact ⟨S, o, q x (y xs (o.u h))⟩⟩
def siRev (K : PySem.W.Frag) (tl : sE) : sI := fun W z S R => tl W z S fun x S1 => match x with
  | .ref a => (∃ xs, sL K S1 a xs ∧ R (itLv K a xs) S1) ∨ ∃ xs, sU K S1 a xs ∧ R (itUv K a xs) S1
  | _ => False
theorem iRev {tg l : Expr} {tl : sE} {p : Pos} (hg : Gl X "reversed") (hm : X.mg "reversed" = none) (hl : PE X l (dE W tl)) (hs : starEach [l] X.env = (false, eval l X.env) :: starEach [] X.env := by rfl) : PI X tg (.Call (.Name "reversed" p) [l] [] pos) (dI W (siRev X.K tl)) :=
  PI.by (RT.pi_revA hg hm hl hs) fun z H R ⟨S, R', W', kw, o, h, k⟩ => ⟨S, _, W', kw, o, h, fun x S1 H1 o1 h1 => by
    split at h1
    · rcases h1 with ⟨xs, h1, h2⟩ | ⟨xs, h1, h2⟩
      · exact ⟨_, xs, rfl, .inl ⟨o1.l h1, k _ _ _ _ o1 itLv_ok h2⟩⟩
      · exact ⟨_, xs, rfl, .inr ⟨o1.u h1, k _ _ _ _ o1 itUv_ok h2⟩⟩
    · exact h1.elim⟩
/-- each turn gives a new pair -/
def itE (K : PySem.W.Frag) (a : Addr) (xs : List V) : SIt := ⟨xs.length, fun S => sL K S a xs, fun i S k => ∀ v, xs[i]? = some v → ∀ r, k (.ref r) (S.new r (.tup [.int (i : Nat), v]))⟩
theorem itE_ok {K : PySem.W.Frag} {a : Addr} {xs : List V} : SItOk (Ite K a) (itE K a xs) :=
  ⟨fun S H i o h hi => ⟨xs, o.l h, hi⟩, fun S H i o h hi => ⟨xs, _, o.l h, List.getElem?_eq_getElem hi⟩, fun S H i x H' k o h hi ⟨T, v, e1, e2, e3, y⟩ q => by
    subst e1
    subst e3
    exact ⟨_, o.newU e2, q v (y xs (o.l h)) T⟩⟩
def siEn (K : PySem.W.Frag) (tl : sA) : sI := fun W z S R => tl W z S fun vs S1 => match vs with
  | [.ref a] => ∃ xs, sL K S1 a xs ∧ R (itE K a xs) S1
  | _ => False
theorem iEn {l : Expr} {tl : sA} {p tpos : Pos} {elts : List Expr} {kk : Nat} (hg : Gl X "enumerate") (hm : X.mg "enumerate" = none) (hl : PA X [l] (dA W tl)) (hs : starEach [l] X.env = [(false, eval l X.env)] := by rfl) : PI X (.Tuple elts kk tpos) (.Call (.Name "enumerate" p) [l] [] pos) (dI W (siEn X.K tl)) :=
  PI.by (pi_enum hg hm hl hs) fun z H R ⟨S, R', W', kw, o, h, k⟩ => ⟨S, _, W', kw, o, h, fun x S1 H1 o1 h1 => by
    split at h1
    · obtain ⟨xs, h1, h2⟩ := h1
      exact ⟨_, xs, rfl, o1.l h1, k _ _ _ _ o1 itE_ok h2⟩
    · exact h1.elim⟩
/-! ### dicts whose keys are ints or texts -/
def sDctK : sE := fun _ _ S Q => ∀ p, Q (.ref p) (S.new p (.dK []))
theorem gDctK : PE X (.Dict [] [] pos) (dE W sDctK) := PE.by pe_dnewK fun z H Q ⟨S, Q', W', kw, o, h, k⟩ => fun p hp => k _ _ _ (o.newU hp) (h p)
/-- d[k] = v -/
def sDPutK (td ty tv : sE) : sS := fun D z S => tv D.ex z S fun v S1 => td D.ex z S1 fun x S2 => ty D.ex z S2 fun y S3 => match x with
  | .ref p => ∃ i kvs k, S3.G[i]? = some (p, .dK kvs) ∧ y = kV k ∧ kvs.length < sizeLine ∧ D.nx z (S3.put i p (.dK (putK kvs k v)))
  | _ => False
theorem hDPutK {o i value : Expr} {td ty tv : sE} {pos2 : Pos} (hu : X.A.units + 1 < cLine) (ho : PE X o (dE W td)) (hi : PE X i (dE W ty)) (hv : PE X value (dE W tv)) (hs : swapsWith value (some (.Subscript o i pos2)) pos.line X.env = pure false := by rfl) :
    PS X (.Assign [.Subscript o i pos2] value pos) (dS W (sDPutK td ty tv)) :=
  PS.by (ps_dput hu ho hi hv hs) fun D z H ⟨S, D', ow, h, k⟩ => ⟨S, _, D'.ex, k.ex, ow, h, fun v S1 H1 o1 h1 => ⟨S1, _, D'.ex, k.ex, o1, h1, fun x S2 H2 o2 h2 => ⟨S2, _, D'.ex, k.ex, o2, h2, fun y S3 H3 o3 h3 => by
    split at h3
    · obtain ⟨n, kvs, kk, q1, rfl, q2, q3⟩ := h3
      exact ⟨_, _, rfl, .inl ⟨kvs, kk, o3.g q1, rfl, q2, rfl⟩, k.nx _ _ _ (o3.putU q1) q3⟩
    · exact h3.elim⟩⟩⟩
/-- sorted(d), fewer than 64 keys, all ints -/
def nSortD : sN := fun vs S Q => match vs with
  | [.ref p] => ∃ kvs ks, At S p (.dK kvs) ∧ kvs.map (·.1) = ks.map Sum.inl ∧ ks.length < 64 ∧ ∀ (ys : List Int) r, ys.Perm ks → ys.Pairwise (· ≤ ·) → Q (.ref r) (S.new r (.lst (ys.map V.int)))
  | _ => False
theorem lSortD : LiftN nSortD (fun xs H Q => ∃ (a : Addr) (kvs : List (Key × V)) (ks : List Int), xs = [.ref a] ∧ Rd H a (.dK kvs) ∧ kvs.map (·.1) = ks.map Sum.inl ∧ ks.length < 64 ∧
    ∀ (ys : List Int) (p : Addr), ys.Perm ks → ys.Pairwise (· ≤ ·) → H p = none → Q (.ref p) (upd H p (.lst (ys.map V.int)))) := by
  intro vs S Q' H Q o h k
  unfold nSortD at h
  split at h
  · obtain ⟨kvs, ks, h1, h2, h3, h4⟩ := h
    exact ⟨_, kvs, ks, rfl, .inl (o.at h1), h2, h3, fun ys r q1 q2 hr => k _ _ _ (o.newU hr) (h4 ys r q1 q2)⟩
  · exact h.elim
theorem gCnE {x : Str} {i : Int} (hg : Gl X x) (hm : ∃ t, X.mg x = some (.int i t)) (hd : (x == ("__debug__" : Str)) = false := by decide) : PE X (.Name x pos) (dE W (sC (.int i))) := hm.elim fun _ h => gCnV hg h hd
end
end SY
namespace LW
/-! ### trees, the walk to the victim -/
inductive BT where
  | leaf (n : Nat)
  | node (l r : BT)
  deriving DecidableEq
namespace BT
def mem (x : Nat) : BT → Bool
  | leaf n => x == n
  | node l r => mem x l || mem x r
def map (f : Nat → Nat) : BT → BT
  | leaf n => leaf (f n)
  | node l r => node (map f l) (map f r)
/-- the walk: away from the newest -/
def vic (o : List Nat) : BT → Nat
  | leaf n => n
  | node l r => match o.find? fun x => mem x l || mem x r with
    | some x => if mem x l then vic o r else vic o l
    | none => 0
def low : BT → Nat
  | leaf n => n
  | node l r => Nat.min (low l) (low r)
def norm : BT → BT
  | leaf n => leaf n
  | node l r => if low l ≤ low r then node (norm l) (norm r) else node (norm r) (norm l)
/-- no label stands on both sides -/
def apart : BT → Bool
  | leaf _ => true
  | node l r => apart l && apart r && (List.range 6).all (fun x => !(mem x l && mem x r))
def small : BT → Bool
  | leaf n => decide (n < 6)
  | node l r => small l && small r
def code (acc : Nat) : BT → Nat
  | leaf n => acc * 8 + n
  | node l r => code (code (acc * 8 + 7) l) r
theorem mem_map {f : Nat → Nat} (hf : ∀ x y, f x = f y → x = y) (x : Nat) : ∀ b : BT, mem (f x) (map f b) = mem x b
  | leaf n => by
    show (f x == f n) = (x == n)
    rw [Bool.eq_iff_iff, beq_iff_eq, beq_iff_eq]
    exact ⟨hf x n, fun e => by rw [e]⟩
  | node l r => by
    show (mem (f x) (map f l) || mem (f x) (map f r)) = _
    rw [mem_map hf x l, mem_map hf x r]
    rfl
theorem find_map {f : Nat → Nat} {p q : Nat → Bool} (h : ∀ x, p (f x) = q x) : ∀ o : List Nat, (o.map f).find? p = (o.find? q).map f
  | [] => rfl
  | x :: o => by
    rw [List.map_cons, List.find?_cons, List.find?_cons, h x]
    cases q x with
    | true => rfl
    | false => exact find_map h o
theorem vic_map {f : Nat → Nat} (hf : ∀ x y, f x = f y → x = y) (o : List Nat) : ∀ b : BT, (∀ x, mem x b = true → x ∈ o) → vic (o.map f) (map f b) = f (vic o b)
  | leaf n, _ => rfl
  | node l r, h => by
    have e := find_map (f := f) (p := fun x => mem x (map f l) || mem x (map f r)) (q := fun x => mem x l || mem x r) (fun x => by rw [mem_map hf, mem_map hf]) o
    show (match (o.map f).find? fun x => mem x (map f l) || mem x (map f r) with | some x => if mem x (map f l) then vic (o.map f) (map f r) else vic (o.map f) (map f l) | none => 0) = f (match o.find? fun x => mem x l || mem x r with | some x => if mem x l then vic o r else vic o l | none => 0)
    rw [e]
    have hl := vic_map hf o l fun x hx => h x (by show (mem x l || mem x r) = true; rw [hx]; rfl)
    have hr := vic_map hf o r fun x hx => h x (by show (mem x l || mem x r) = true; rw [hx, Bool.or_true])
    cases e2 : o.find? fun x => mem x l || mem x r with
    | none =>
      exfalso
      have : ∃ x, mem x l = true := by
        clear e e2 hl hr h
        induction l with
        | leaf n => exact ⟨n, beq_self_eq_true n⟩
        | node a b ha hb =>
          obtain ⟨x, hx⟩ := ha
          exact ⟨x, by show (mem x a || mem x b) = true; rw [hx]; rfl⟩
      obtain ⟨x, hx⟩ := this
      have hm : x ∈ o := h x (by show (mem x l || mem x r) = true; rw [hx]; rfl)
      have := List.find?_eq_none.mp e2 x hm
      exact this (by rw [hx]; rfl)
    | some x =>
      show (if mem (f x) (map f l) then vic (o.map f) (map f r) else vic (o.map f) (map f l)) = f (if mem x l then vic o r else vic o l)
      rw [mem_map hf, hl, hr]
      split <;> rfl
theorem mem_norm (x : Nat) : ∀ b : BT, mem x (norm b) = mem x b
  | leaf n => rfl
  | node l r => by
    show mem x (if low l ≤ low r then node (norm l) (norm r) else node (norm r) (norm l)) = (mem x l || mem x r)
    split
    · show (mem x (norm l) || mem x (norm r)) = _
      rw [mem_norm x l, mem_norm x r]
    · show (mem x (norm r) || mem x (norm l)) = _
      rw [mem_norm x l, mem_norm x r, Bool.or_comm]
theorem mem_small {x : Nat} : ∀ {b : BT}, small b = true → mem x b = true → x < 6
  | leaf n, h, hx => by
    have e : x = n := beq_iff_eq.mp hx
    rw [e]
    exact of_decide_eq_true h
  | node l r, h, hx => by
    obtain ⟨h1, h2⟩ := Bool.and_eq_true_iff.mp (show (small l && small r) = true from h)
    rcases (Bool.or_eq_true _ _).mp (show (mem x l || mem x r) = true from hx) with hx | hx
    · exact mem_small h1 hx
    · exact mem_small h2 hx
theorem vic_norm (o : List Nat) : ∀ b : BT, apart b = true → small b = true → (∀ x, mem x b = true → x ∈ o) → vic o (norm b) = vic o b
  | leaf n, _, _, _ => rfl
  | node l r, ha, hs, h => by
    obtain ⟨ha, h3⟩ := Bool.and_eq_true_iff.mp (show ((apart l && apart r) && (List.range 6).all (fun x => !(mem x l && mem x r))) = true from ha)
    obtain ⟨h1, h2⟩ := Bool.and_eq_true_iff.mp ha
    obtain ⟨s1, s2⟩ := Bool.and_eq_true_iff.mp (show (small l && small r) = true from hs)
    have hl := vic_norm o l h1 s1 fun x hx => h x (by show (mem x l || mem x r) = true; rw [hx]; rfl)
    have hr := vic_norm o r h2 s2 fun x hx => h x (by show (mem x l || mem x r) = true; rw [hx, Bool.or_true])
    have no : ∀ x, mem x l = true → mem x r = false := fun x hx => by
      have := List.all_eq_true.mp h3 x (List.mem_range.mpr (mem_small s1 hx))
      rw [hx] at this
      simpa using this
    show vic o (if low l ≤ low r then node (norm l) (norm r) else node (norm r) (norm l)) = _
    split
    · show (match o.find? fun x => mem x (norm l) || mem x (norm r) with | some x => if mem x (norm l) then vic o (norm r) else vic o (norm l) | none => 0) = (match o.find? fun x => mem x l || mem x r with | some x => if mem x l then vic o r else vic o l | none => 0)
      simp only [mem_norm, hl, hr]
    · show (match o.find? fun x => mem x (norm r) || mem x (norm l) with | some x => if mem x (norm r) then vic o (norm l) else vic o (norm r) | none => 0) = (match o.find? fun x => mem x l || mem x r with | some x => if mem x l then vic o r else vic o l | none => 0)
      simp only [mem_norm, hl, hr]
      have e : (fun x => mem x r || mem x l) = fun x => mem x l || mem x r := funext fun x => Bool.or_comm _ _
      rw [e]
      cases e2 : o.find? fun x => mem x l || mem x r with
      | none => rfl
      | some x =>
        have q := List.find?_some e2
        show (if mem x r then vic o l else vic o r) = (if mem x l then vic o r else vic o l)
        cases hx : mem x l with
        | true =>
          rw [no x hx]
          rfl
        | false =>
          rw [hx, Bool.false_or] at q
          rw [q]
          rfl
end BT
/-! ### the groups, as the listing builds them -/
/-- one tree more: the slot k beside the place p -/
def grow (k : Nat) (gs : List (List Nat)) (p : List Nat) : List (List Nat) :=
  (p ++ [k]) :: gs.map fun g => if g.contains (p.headD 0) && decide (p.length < g.length) then g ++ [k] else g
def places (k : Nat) (gs : List (List Nat)) : List (List Nat) := (List.range k).map (fun i => [i]) ++ gs
def allG : Nat → List (List (List Nat))
  | 0 => [[]]
  | 1 => [[]]
  | k + 2 => (allG (k + 1)).flatMap fun gs => (places (k + 1) gs).map (grow (k + 1) gs)
def halfN (gs : List (List Nat)) (node : List Nat) : List Nat :=
  gs.foldl (fun h g => if g.headD 0 == node.headD 0 && (decide (h.length < g.length) && decide (g.length < node.length)) then g else h) [node.headD 0]
def restN (node h : List Nat) : List Nat := node.filter fun x => !h.contains x
/-- the walk over the groups -/
def vicN (gs : List (List Nat)) (o : List Nat) : Nat → List Nat → List Nat
  | 0, node => node
  | k + 1, node => if node.length = 1 then node else
    if (halfN gs node).contains ((o.filter fun x => node.contains x).headD 0) then vicN gs o k (restN node (halfN gs node)) else vicN gs o k (halfN gs node)
def toBT (gs : List (List Nat)) : Nat → List Nat → BT
  | 0, _ => .leaf 0
  | k + 1, node => if node.length = 1 then .leaf (node.headD 0) else .node (toBT gs k (halfN gs node)) (toBT gs k (restN node (halfN gs node)))
def good (gs : List (List Nat)) : Nat → List Nat → Bool
  | 0, _ => false
  | k + 1, node => if node.length = 1 then true else (halfN gs node).all (fun x => node.contains x) && good gs k (halfN gs node) && good gs k (restN node (halfN gs node))
theorem mem_toBT {gs : List (List Nat)} (x : Nat) : ∀ (k : Nat) (node : List Nat), good gs k node = true → (toBT gs k node).mem x = node.contains x
  | 0, _, h => by cases h
  | k + 1, node, h => by
    have h : (if node.length = 1 then true else (halfN gs node).all (fun x => node.contains x) && good gs k (halfN gs node) && good gs k (restN node (halfN gs node))) = true := h
    show (if node.length = 1 then BT.leaf (node.headD 0) else .node (toBT gs k (halfN gs node)) (toBT gs k (restN node (halfN gs node)))).mem x = _
    by_cases hl : node.length = 1
    · rw [if_pos hl]
      obtain ⟨y, rfl⟩ : ∃ y, node = [y] := by
        match node, hl with
        | [y], _ => exact ⟨y, rfl⟩
      show (x == y) = [y].contains x
      rw [Bool.eq_iff_iff]
      simp
    · rw [if_neg hl] at h
      rw [if_neg hl]
      obtain ⟨h1, h3⟩ := Bool.and_eq_true_iff.mp h
      obtain ⟨h1, h2⟩ := Bool.and_eq_true_iff.mp h1
      show ((toBT gs k (halfN gs node)).mem x || (toBT gs k (restN node (halfN gs node))).mem x) = _
      rw [mem_toBT x k _ h2, mem_toBT x k _ h3, Bool.eq_iff_iff, Bool.or_eq_true]
      unfold restN
      rw [List.contains_iff_mem, List.contains_iff_mem, List.contains_iff_mem, List.mem_filter]
      have sub := List.all_eq_true.mp h1
      constructor
      · rintro (q | ⟨q, _⟩)
        · exact List.contains_iff_mem.mp (sub x q)
        · exact q
      · intro q
        by_cases z : x ∈ halfN gs node
        · exact .inl z
        · exact .inr ⟨q, by simp [z]⟩
theorem headD_find {p : Nat → Bool} : ∀ (o : List Nat) {x : Nat}, o.find? p = some x → (o.filter p).headD 0 = x
  | [], _, h => by cases h
  | y :: o, x, h => by
    rw [List.find?_cons] at h
    rw [List.filter_cons]
    cases hy : p y with
    | true =>
      rw [hy] at h
      cases h
      rfl
    | false =>
      rw [hy] at h
      rw [if_neg (by decide)]
      exact headD_find o h
theorem vicN_is {gs : List (List Nat)} (o : List Nat) : ∀ (k : Nat) (node : List Nat), good gs k node = true → node ≠ [] → (∀ x ∈ node, x ∈ o) → vicN gs o k node = [(toBT gs k node).vic o]
  | 0, _, h, _, _ => by cases h
  | k + 1, node, h, hne, ho => by
    have h : (if node.length = 1 then true else (halfN gs node).all (fun x => node.contains x) && good gs k (halfN gs node) && good gs k (restN node (halfN gs node))) = true := h
    show (if node.length = 1 then node else if (halfN gs node).contains ((o.filter fun x => node.contains x).headD 0) then vicN gs o k (restN node (halfN gs node)) else vicN gs o k (halfN gs node)) = [(if node.length = 1 then BT.leaf (node.headD 0) else .node (toBT gs k (halfN gs node)) (toBT gs k (restN node (halfN gs node)))).vic o]
    by_cases hl : node.length = 1
    · rw [if_pos hl, if_pos hl]
      match node, hl with
      | [y], _ => rfl
    · rw [if_neg hl] at h
      rw [if_neg hl, if_neg hl]
      obtain ⟨h1, h3⟩ := Bool.and_eq_true_iff.mp h
      obtain ⟨h1, h2⟩ := Bool.and_eq_true_iff.mp h1
      have sub := List.all_eq_true.mp h1
      have e : (fun x => (toBT gs k (halfN gs node)).mem x || (toBT gs k (restN node (halfN gs node))).mem x) = fun x => node.contains x := funext fun x => by
        rw [mem_toBT x k _ h2, mem_toBT x k _ h3, Bool.eq_iff_iff, Bool.or_eq_true]
        unfold restN
        rw [List.contains_iff_mem, List.contains_iff_mem, List.contains_iff_mem, List.mem_filter]
        constructor
        · rintro (q | ⟨q, _⟩)
          · exact List.contains_iff_mem.mp (sub x q)
          · exact q
        · intro q
          by_cases z : x ∈ halfN gs node
          · exact .inl z
          · exact .inr ⟨q, by simp [z]⟩
      obtain ⟨y, hy⟩ := List.exists_mem_of_ne_nil node hne
      have hf : ∃ x, (o.find? fun x => node.contains x) = some x := by
        cases q : o.find? fun x => node.contains x with
        | some x => exact ⟨x, rfl⟩
        | none => exact absurd (List.contains_iff_mem.mpr hy) (List.find?_eq_none.mp q y (ho y hy))
      obtain ⟨x, hx⟩ := hf
      have hxn : x ∈ node := List.contains_iff_mem.mp (List.find?_some hx)
      rw [headD_find o hx]
      show _ = [match o.find? fun x => (toBT gs k (halfN gs node)).mem x || (toBT gs k (restN node (halfN gs node))).mem x with | some x => if (toBT gs k (halfN gs node)).mem x then (toBT gs k (restN node (halfN gs node))).vic o else (toBT gs k (halfN gs node)).vic o | none => 0]
      rw [e, hx]
      show _ = [if (toBT gs k (halfN gs node)).mem x then (toBT gs k (restN node (halfN gs node))).vic o else (toBT gs k (halfN gs node)).vic o]
      rw [mem_toBT x k _ h2]
      cases hc : (halfN gs node).contains x with
      | true =>
        rw [if_pos rfl, if_pos rfl]
        by_cases z : restN node (halfN gs node) = []
        · rw [z] at h3 ⊢
          exfalso
          cases k with
          | zero => cases h3
          | succ k =>
            have h3 : ((halfN gs []).all (fun x => ([] : List Nat).contains x) && good gs k (halfN gs []) && good gs k (restN [] (halfN gs []))) = true := h3
            have q := (Bool.and_eq_true_iff.mp (Bool.and_eq_true_iff.mp h3).1).1
            have e0 : ∀ (l : List (List Nat)), l.foldl (fun (h g : List Nat) => if g.headD 0 == ([] : List Nat).headD 0 && (decide (h.length < g.length) && decide (g.length < ([] : List Nat).length)) then g else h) [([] : List Nat).headD 0] = [0] := by
              intro l
              have : ∀ (l : List (List Nat)) (h0 : List Nat), l.foldl (fun (h g : List Nat) => if g.headD 0 == ([] : List Nat).headD 0 && (decide (h.length < g.length) && decide (g.length < ([] : List Nat).length)) then g else h) h0 = h0 := by
                intro l
                induction l with
                | nil => intro h0; rfl
                | cons a l ih =>
                  intro h0
                  rw [List.foldl_cons, ih]
                  simp
              exact this l _
            have q2 : halfN gs [] = [0] := e0 gs
            rw [q2] at q
            simp at q
        · exact vicN_is o k _ h3 z fun y hy => ho y (List.mem_filter.mp hy).1
      | false =>
        rw [if_neg (by decide), if_neg (by decide)]
        by_cases z : halfN gs node = []
        · exfalso
          have : ∀ (l : List (List Nat)) (h0 : List Nat), h0 ≠ [] → l.foldl (fun (h g : List Nat) => if g.headD 0 == node.headD 0 && (decide (h.length < g.length) && decide (g.length < node.length)) then g else h) h0 ≠ [] := by
            intro l
            induction l with
            | nil => intro h0 q; exact q
            | cons a l ih =>
              intro h0 q
              rw [List.foldl_cons]
              refine ih _ ?_
              split
              · rename_i hh
                intro e
                rw [e] at hh
                simp at hh
              · exact q
          exact this gs _ (by simp) z
        · exact vicN_is o k _ h2 z fun y hy => ho y (List.contains_iff_mem.mp (sub y hy))
def BT.all (n : Nat) : List BT := (allG n).map fun gs => toBT gs n (List.range n)
/-! ### a sort by keys, by fuel -/
def mg : Nat → List (Nat × BT) → List (Nat × BT) → List (Nat × BT)
  | 0, xs, ys => xs ++ ys
  | _ + 1, [], ys => ys
  | _ + 1, xs, [] => xs
  | k + 1, x :: xs, y :: ys => if x.1 ≤ y.1 then x :: mg k xs (y :: ys) else y :: mg k (x :: xs) ys
def ms : Nat → List (Nat × BT) → List (Nat × BT)
  | 0, xs => xs
  | k + 1, xs => if xs.length ≤ 1 then xs else mg xs.length (ms k (xs.take (xs.length / 2))) (ms k (xs.drop (xs.length / 2)))
theorem mg_perm : ∀ (k : Nat) (xs ys : List (Nat × BT)), (mg k xs ys).Perm (xs ++ ys)
  | 0, _, _ => .refl _
  | _ + 1, [], _ => .refl _
  | _ + 1, x :: xs, [] => by
    show (x :: xs).Perm (x :: xs ++ [])
    rw [List.append_nil]
  | k + 1, x :: xs, y :: ys => by
    show (if x.1 ≤ y.1 then x :: mg k xs (y :: ys) else y :: mg k (x :: xs) ys).Perm (x :: xs ++ y :: ys)
    split
    · exact (mg_perm k xs (y :: ys)).cons x
    · exact ((mg_perm k (x :: xs) ys).cons y).trans (List.perm_middle).symm
theorem ms_perm : ∀ (k : Nat) (xs : List (Nat × BT)), (ms k xs).Perm xs
  | 0, _ => .refl _
  | k + 1, xs => by
    show (if xs.length ≤ 1 then xs else mg xs.length (ms k (xs.take (xs.length / 2))) (ms k (xs.drop (xs.length / 2)))).Perm xs
    split
    · exact .refl _
    · refine (mg_perm _ _ _).trans (((ms_perm k _).append (ms_perm k _)).trans ?_)
      rw [List.take_append_drop]
def keyed (l : List BT) : List (Nat × BT) := l.map fun b => (b.code 0, b)
def sw (i x : Nat) : Nat := if x = i then i + 1 else if x = i + 1 then i else x
theorem sw_inj (i : Nat) : ∀ x y, sw i x = sw i y → x = y := fun x y h => by
  unfold sw at h
  split at h <;> split at h <;> (try split at h) <;> (try split at h) <;> omega
def swCheck (n i : Nat) : Bool := decide (ms 12 (keyed ((BT.all n).map fun b => (b.map (sw i)).norm)) = ms 12 (keyed (BT.all n)))
/-! ### the swaps keep the trees -/
theorem sw_all : ∀ n, n ≤ 5 → ∀ i, i + 1 < n → swCheck n i = true := by
  intro n hn i hi
  have : ∀ n ∈ List.range 6, ∀ i ∈ List.range 5, i + 1 < n → swCheck n i = true := by decide +kernel
  exact this n (List.mem_range.mpr (by omega)) i (List.mem_range.mpr (by omega)) hi
theorem sw6_0 : swCheck 6 0 = true := by decide +kernel
theorem sw6_1 : swCheck 6 1 = true := by decide +kernel
theorem sw6_2 : swCheck 6 2 = true := by decide +kernel
theorem sw6_3 : swCheck 6 3 = true := by decide +kernel
theorem sw6_4 : swCheck 6 4 = true := by decide +kernel
theorem sw_ok {n i : Nat} (hn : n ≤ 6) (hi : i + 1 < n) : swCheck n i = true := by
  by_cases h : n ≤ 5
  · exact sw_all n h i hi
  · have e : n = 6 := by omega
    subst e
    have : i = 0 ∨ i = 1 ∨ i = 2 ∨ i = 3 ∨ i = 4 := by omega
    rcases this with rfl | rfl | rfl | rfl | rfl
    · exact sw6_0
    · exact sw6_1
    · exact sw6_2
    · exact sw6_3
    · exact sw6_4
def wfCheck (n : Nat) : Bool := (BT.all n).all fun b => b.apart && (b.small && (List.range 6).all fun x => !b.mem x || decide (x < n))
theorem wf_ok {n : Nat} (hn : n ≤ 6) (h1 : 1 ≤ n) : wfCheck n = true := by
  have : ∀ n ∈ List.range 7, 1 ≤ n → wfCheck n = true := by decide +kernel
  exact this n (List.mem_range.mpr (by omega)) h1
def gdCheck (n : Nat) : Bool := (allG n).all fun gs => good gs n (List.range n)
theorem gd_ok {n : Nat} (hn : n ≤ 6) (h1 : 1 ≤ n) : gdCheck n = true := by
  have : ∀ n ∈ List.range 7, 1 ≤ n → gdCheck n = true := by decide +kernel
  exact this n (List.mem_range.mpr (by omega)) h1
/-! ### the counts do not depend on the order -/
theorem keyed_snd (l : List BT) : (keyed l).map (·.2) = l := by
  unfold keyed
  rw [List.map_map]
  exact List.map_id' l
theorem sw_perm {n i : Nat} (hn : n ≤ 6) (hi : i + 1 < n) : ((BT.all n).map fun b => (b.map (sw i)).norm).Perm (BT.all n) := by
  have h : ms 12 (keyed ((BT.all n).map fun b => (b.map (sw i)).norm)) = ms 12 (keyed (BT.all n)) := of_decide_eq_true (sw_ok hn hi)
  have p : (keyed ((BT.all n).map fun b => (b.map (sw i)).norm)).Perm (keyed (BT.all n)) := (ms_perm 12 _).symm.trans (h ▸ ms_perm 12 _)
  have q := p.map (·.2)
  rw [keyed_snd, keyed_snd] at q
  exact q
theorem sw_sw (i x : Nat) : sw i (sw i x) = x := by
  unfold sw
  split
  · split <;> (try split) <;> omega
  · by_cases h : x = i + 1
    · rw [if_pos h]
      split <;> (try split) <;> omega
    · rw [if_neg h]
      split <;> (try split) <;> omega
namespace BT
theorem low_mem : ∀ b : BT, ∃ x, b.mem x = true
  | leaf n => ⟨n, beq_self_eq_true n⟩
  | node l r => by
    obtain ⟨x, hx⟩ := low_mem l
    exact ⟨x, by show (mem x l || mem x r) = true; rw [hx]; rfl⟩
theorem small_map {i : Nat} (hi : i + 1 < 6) : ∀ b : BT, b.small = true → (b.map (sw i)).small = true
  | leaf n, h => by
    have h : n < 6 := of_decide_eq_true h
    show decide (sw i n < 6) = true
    refine decide_eq_true ?_
    unfold sw
    split
    · omega
    · split <;> omega
  | node l r, h => by
    obtain ⟨h1, h2⟩ := Bool.and_eq_true_iff.mp (show (small l && small r) = true from h)
    show (small (l.map (sw i)) && small (r.map (sw i))) = true
    rw [small_map hi l h1, small_map hi r h2]
    rfl
theorem mem_sw (i x : Nat) (b : BT) : (b.map (sw i)).mem x = b.mem (sw i x) := by
  have := mem_map (sw_inj i) (sw i x) b
  rw [sw_sw] at this
  exact this
theorem apart_map {i : Nat} (hi : i + 1 < 6) : ∀ b : BT, b.small = true → b.apart = true → (b.map (sw i)).apart = true
  | leaf n, _, _ => rfl
  | node l r, hs, ha => by
    obtain ⟨s1, s2⟩ := Bool.and_eq_true_iff.mp (show (small l && small r) = true from hs)
    obtain ⟨ha, h3⟩ := Bool.and_eq_true_iff.mp (show ((apart l && apart r) && (List.range 6).all (fun x => !(mem x l && mem x r))) = true from ha)
    obtain ⟨h1, h2⟩ := Bool.and_eq_true_iff.mp ha
    show ((apart (l.map (sw i)) && apart (r.map (sw i))) && (List.range 6).all (fun x => !(mem x (l.map (sw i)) && mem x (r.map (sw i))))) = true
    rw [apart_map hi l s1 h1, apart_map hi r s2 h2]
    refine List.all_eq_true.mpr fun x hx => ?_
    have hx := List.mem_range.mp hx
    rw [mem_sw, mem_sw]
    refine List.all_eq_true.mp h3 (sw i x) (List.mem_range.mpr ?_)
    unfold sw
    split
    · omega
    · split <;> omega
end BT
/-- how many trees put the victim at each place of the order -/
def cnt (n : Nat) (o : List Nat) (r : Nat) : Nat := (BT.all n).countP fun b => b.vic o == o.getD r 6
def Covers (n : Nat) (o : List Nat) : Prop := ∀ x, x < n → x ∈ o
theorem cnt_sw {n i : Nat} (hn : n ≤ 6) (hi : i + 1 < n) {o : List Nat} (ho : Covers n o) (r : Nat) : cnt n (o.map (sw i)) r = cnt n o r := by
  unfold cnt
  rw [← (sw_perm hn hi).countP_eq, List.countP_map]
  refine List.countP_congr fun b hb => ?_
  have w := List.all_eq_true.mp (wf_ok hn (by omega)) b hb
  obtain ⟨w1, w2⟩ := Bool.and_eq_true_iff.mp w
  obtain ⟨w2, w3⟩ := Bool.and_eq_true_iff.mp w2
  have cov : ∀ x, b.mem x = true → x ∈ o := fun x hx => by
    have q := List.all_eq_true.mp w3 x (List.mem_range.mpr (BT.mem_small w2 hx))
    rw [hx] at q
    exact ho x (by simpa using q)
  have e6 : sw i 6 = 6 := by
    unfold sw
    rw [if_neg (by omega), if_neg (by omega)]
  have e1 : (o.map (sw i)).getD r 6 = sw i (o.getD r 6) := by
    rw [List.getD_eq_getElem?_getD, List.getD_eq_getElem?_getD, List.getElem?_map]
    cases o[r]? with
    | none => exact e6.symm
    | some x => rfl
  have e2 : ((b.map (sw i)).norm).vic (o.map (sw i)) = sw i (b.vic o) := by
    rw [BT.vic_norm _ _ (BT.apart_map (by omega) b w2 w1) (BT.small_map (by omega) b w2) fun x hx => ?_, BT.vic_map (sw_inj i) o b cov]
    rw [BT.mem_sw] at hx
    exact List.mem_map.mpr ⟨sw i x, cov _ hx, sw_sw i x⟩
  show (((b.map (sw i)).norm).vic (o.map (sw i)) == (o.map (sw i)).getD r 6) = true ↔ (b.vic o == o.getD r 6) = true
  rw [e1, e2, beq_iff_eq, beq_iff_eq]
  exact ⟨sw_inj i _ _, fun e => by rw [e]⟩
/-! ### all orders, back to the first -/
def pops : Nat → List Nat → List (List Nat)
  | 0, _ => [[]]
  | k + 1, rest => (List.range rest.length).flatMap fun i => (pops k (rest.eraseIdx i)).map (rest.getD i 0 :: ·)
def fixes (n : Nat) : Nat → List Nat → List Nat
  | 0, o => o
  | k + 1, o => match (List.range (n - 1)).find? fun i => decide (o.idxOf (i + 1) < o.idxOf i) with
    | some i => fixes n k (o.map (sw i))
    | none => o
theorem Covers.sw {n i : Nat} {o : List Nat} (h : Covers n o) (hi : i + 1 < n) : Covers n (o.map (LW.sw i)) := fun x hx => by
  refine List.mem_map.mpr ⟨LW.sw i x, h _ ?_, sw_sw i x⟩
  unfold LW.sw
  split
  · omega
  · split <;> omega
theorem cnt_fixes {n : Nat} (hn : n ≤ 6) (r : Nat) : ∀ (k : Nat) (o : List Nat), Covers n o → cnt n (fixes n k o) r = cnt n o r
  | 0, _, _ => rfl
  | k + 1, o, ho => by
    show cnt n (match (List.range (n - 1)).find? fun i => decide (o.idxOf (i + 1) < o.idxOf i) with | some i => fixes n k (o.map (sw i)) | none => o) r = _
    split
    · rename_i i hi
      have hi := List.mem_range.mp (List.mem_of_find?_eq_some hi)
      rw [cnt_fixes hn r k _ (ho.sw (by omega)), cnt_sw hn (by omega) ho]
    · rfl
def popCheck (n : Nat) : Bool := (pops n (List.range n)).all fun o => decide (fixes n 16 o = List.range n) && ((List.range n).all (fun x => o.contains x) && decide (o.length = n))
theorem pop_ok {n : Nat} (hn : n ≤ 6) : popCheck n = true := by
  have : ∀ n ∈ List.range 7, popCheck n = true := by decide +kernel
  exact this n (List.mem_range.mpr (by omega))
/-! ### by depths -/
def bdSums (k : Nat) (rows : List (List Nat)) : List Nat := (List.range k).map fun d => (rows.map fun row => row.getD d 0).sum
def bdStep (k : Nat) (rows : List (List Nat)) : List (List Nat) :=
  rows.map (fun row => row.mapIdx fun d x => x * (2 * k - 2 - d)) ++ [0 :: (List.range k).map fun d => ((bdSums k rows).drop d).sum]
def bdRows : Nat → List (List Nat)
  | 0 => [[1]]
  | 1 => [[1]]
  | k + 2 => bdStep (k + 1) (bdRows (k + 1))
def bdF (n : Nat) : List Nat := (bdRows n).map List.sum
theorem first_ok {n : Nat} (hn : n ≤ 6) (h1 : 1 ≤ n) : (List.range n).map (cnt n (List.range n)) = bdF n := by
  have : ∀ n ∈ List.range 7, 1 ≤ n → (List.range n).map (cnt n (List.range n)) = bdF n := by decide +kernel
  exact this n (List.mem_range.mpr (by omega)) h1
theorem BT.vic_mem {o : List Nat} : ∀ b : BT, (∀ x, b.mem x = true → x ∈ o) → b.mem (b.vic o) = true
  | leaf n, _ => beq_self_eq_true n
  | node l r, h => by
    have hl := vic_mem l fun x hx => h x (by show (l.mem x || r.mem x) = true; rw [hx]; rfl)
    have hr := vic_mem r fun x hx => h x (by show (l.mem x || r.mem x) = true; rw [hx, Bool.or_true])
    show (l.mem (match o.find? fun x => l.mem x || r.mem x with | some x => if l.mem x then r.vic o else l.vic o | none => 0) || r.mem (match o.find? fun x => l.mem x || r.mem x with | some x => if l.mem x then r.vic o else l.vic o | none => 0)) = true
    cases e : o.find? fun x => l.mem x || r.mem x with
    | none =>
      obtain ⟨x, hx⟩ := BT.low_mem l
      exact absurd (by rw [hx]; rfl) (List.find?_eq_none.mp e x (h x (by show (l.mem x || r.mem x) = true; rw [hx]; rfl)))
    | some x =>
      show (l.mem (if l.mem x then r.vic o else l.vic o) || r.mem (if l.mem x then r.vic o else l.vic o)) = true
      split
      · rw [hr, Bool.or_true]
      · rw [hl]
        rfl
theorem pops_covers {n : Nat} (hn : n ≤ 6) {o : List Nat} (ho : o ∈ pops n (List.range n)) : Covers n o ∧ o.length = n ∧ fixes n 16 o = List.range n := by
  have h := List.all_eq_true.mp (pop_ok hn) o ho
  obtain ⟨h1, h2⟩ := Bool.and_eq_true_iff.mp h
  obtain ⟨h2, h3⟩ := Bool.and_eq_true_iff.mp h2
  refine ⟨fun x hx => ?_, of_decide_eq_true h3, of_decide_eq_true h1⟩
  exact List.contains_iff_mem.mp (List.all_eq_true.mp h2 x (List.mem_range.mpr hx))
/-- the listing: at each place of the order what the depths give -/
theorem listing {n : Nat} (hn : n ≤ 6) (h1 : 1 ≤ n) {o : List Nat} (ho : o ∈ pops n (List.range n)) :
    (List.range n).map (fun r => (allG n).countP fun gs => ((vicN gs o n (List.range n)).headD 0) == o.getD r 6) = bdF n := by
  obtain ⟨hc, hl, hf⟩ := pops_covers hn ho
  rw [← first_ok hn h1]
  refine List.map_congr_left fun r hr => ?_
  have e := cnt_fixes hn r 16 o hc
  rw [hf] at e
  rw [e]
  unfold cnt BT.all
  rw [List.countP_map]
  refine List.countP_congr fun gs hgs => ?_
  have g := List.all_eq_true.mp (gd_ok hn h1) gs hgs
  rw [vicN_is o n _ g (by intro e; have := congrArg List.length e; simp at this; omega) fun x hx => hc x (List.mem_range.mp hx)]
  exact Iff.rfl
/-- the victim stands in the order -/
theorem vic_in {n : Nat} (hn : n ≤ 6) (h1 : 1 ≤ n) {o : List Nat} (ho : o ∈ pops n (List.range n)) {gs : List (List Nat)} (hg : gs ∈ allG n) : ∃ v, vicN gs o n (List.range n) = [v] ∧ v ∈ o ∧ v < n := by
  obtain ⟨hc, hl, hf⟩ := pops_covers hn ho
  have g := List.all_eq_true.mp (gd_ok hn h1) gs hg
  refine ⟨_, vicN_is o n _ g (by intro e; have := congrArg List.length e; simp at this; omega) fun x hx => hc x (List.mem_range.mp hx), ?_⟩
  have m : ∀ x, (toBT gs n (List.range n)).mem x = true → x < n := fun x hx => by
    rw [mem_toBT x n _ g] at hx
    exact List.mem_range.mp (List.contains_iff_mem.mp hx)
  have v := BT.vic_mem (o := o) (toBT gs n (List.range n)) fun x hx => hc x (m x hx)
  exact ⟨hc _ (m _ v), m _ v⟩
/-! ### the sum of the counts -/
def totF : Nat → Nat
  | 0 => 1
  | 1 => 1
  | k + 2 => totF (k + 1) * (2 * k + 1)
theorem sum_add {α : Type} (f g : α → Nat) : ∀ l : List α, (l.map fun x => f x + g x).sum = (l.map f).sum + (l.map g).sum
  | [] => rfl
  | x :: l => by
    rw [List.map_cons, List.map_cons, List.map_cons, List.sum_cons, List.sum_cons, List.sum_cons, sum_add f g l]
    omega
/-- the sums from each place on -/
def tails (k : Nat) (f : Nat → Nat) : Nat := ((List.range k).map fun d => (((List.range k).map f).drop d).sum).sum
theorem tails_add (k : Nat) (f g : Nat → Nat) : tails k (fun d => f d + g d) = tails k f + tails k g := by
  unfold tails
  rw [← sum_add]
  congr 1
  refine List.map_congr_left fun d _ => ?_
  rw [← List.map_drop, ← List.map_drop, ← List.map_drop, sum_add]
theorem tails_zero (k : Nat) : tails k (fun _ => 0) = 0 := by
  have h := tails_add k (fun _ => 0) (fun _ => 0)
  have e : (fun _ : Nat => 0 + 0) = fun _ => 0 := rfl
  rw [e] at h
  omega
theorem tails_succ (k : Nat) (f : Nat → Nat) : tails (k + 1) f = ((List.range (k + 1)).map f).sum + tails k (fun d => f (d + 1)) := by
  unfold tails
  have e : (List.range (k + 1)).map f = f 0 :: (List.range k).map fun d => f (d + 1) := by
    rw [List.range_succ_eq_map, List.map_cons, List.map_map]
    rfl
  rw [e]
  conv => lhs; rw [List.range_succ_eq_map, List.map_cons, List.map_map, List.sum_cons]
  rfl
theorem sum_getD : ∀ (k : Nat) (row : List Nat), row.length ≤ k → ((List.range k).map fun d => row.getD d 0).sum = row.sum
  | k, [], _ => by
    have : ∀ l : List Nat, (l.map fun d => ([] : List Nat).getD d 0).sum = 0 := by
      intro l
      induction l with
      | nil => rfl
      | cons a l ih =>
        rw [List.map_cons, List.sum_cons, ih]
        rfl
    exact this _
  | 0, x :: row, h => by cases h
  | k + 1, x :: row, h => by
    rw [List.range_succ_eq_map, List.map_cons, List.map_map, List.sum_cons, List.sum_cons, ← sum_getD k row (by simpa using h)]
    rfl
theorem row_sum : ∀ (k c : Nat) (row : List Nat), row.length ≤ k → k ≤ c + 1 → (row.mapIdx fun d x => x * (c - d)).sum + tails k (fun d => row.getD d 0) = (c + 1) * row.sum
  | k, c, [], _, _ => by
    have e : (fun d => ([] : List Nat).getD d 0) = fun _ => 0 := rfl
    rw [e, tails_zero]
    rfl
  | 0, c, x :: row, h, _ => by cases h
  | k + 1, c, x :: row, h, hc => by
    have h : row.length ≤ k := by simpa using h
    rw [tails_succ, sum_getD (k + 1) (x :: row) (by simpa using h)]
    rw [List.mapIdx_cons, List.sum_cons, List.sum_cons]
    have e2 : (fun d => (x :: row).getD (d + 1) 0) = fun d => row.getD d 0 := rfl
    rw [e2]
    cases c with
    | zero =>
      have : row = [] := List.eq_nil_of_length_eq_zero (by omega)
      subst this
      have e : (fun d => ([] : List Nat).getD d 0) = fun _ => 0 := rfl
      rw [e, tails_zero]
      simp
    | succ c =>
      have ih := row_sum k c row h (by omega)
      have e3 : (fun (d : Nat) (x : Nat) => x * (c + 1 - (d + 1))) = fun d x => x * (c - d) := by
        funext d x
        congr 1
        omega
      show x * (c + 1 - 0) + (row.mapIdx fun d x => x * (c + 1 - (d + 1))).sum + (x + row.sum + tails k fun d => row.getD d 0) = (c + 1 + 1) * (x + row.sum)
      rw [e3]
      have e4 : x * (c + 1 - 0) = c * x + x := by rw [Nat.sub_zero, Nat.mul_comm, Nat.add_mul, Nat.one_mul]
      have e5 : (c + 1 + 1) * (x + row.sum) = c * x + (c + 1) * row.sum + x + x + row.sum := by
        rw [Nat.add_mul, Nat.mul_add, Nat.add_mul c 1 x, Nat.one_mul, Nat.one_mul]
        omega
      rw [e4, e5, ← ih]
      omega
theorem tails_rows (k c : Nat) (hc : k ≤ c + 1) : ∀ rows : List (List Nat), (∀ row ∈ rows, row.length ≤ k) →
    ((rows.map fun row => row.mapIdx fun d x => x * (c - d)).map List.sum).sum + tails k (fun d => (rows.map fun row => row.getD d 0).sum) = (c + 1) * (rows.map List.sum).sum
  | [], _ => by
    have e : (fun d : Nat => (([] : List (List Nat)).map fun row => row.getD d 0).sum) = fun _ => 0 := rfl
    rw [e, tails_zero]
    rfl
  | row :: rows, h => by
    have ih := tails_rows k c hc rows fun r hr => h r (List.mem_cons_of_mem _ hr)
    have h1 := row_sum k c row (h row List.mem_cons_self) hc
    have e : (fun d : Nat => ((row :: rows).map fun row => row.getD d 0).sum) = fun d => row.getD d 0 + (rows.map fun row => row.getD d 0).sum := by
      funext d
      rw [List.map_cons, List.sum_cons]
    rw [e, tails_add, List.map_cons, List.map_cons, List.map_cons, List.sum_cons, List.sum_cons, Nat.mul_add, ← ih, ← h1]
    omega
theorem bdRows_len : ∀ k, (bdRows (k + 1)).length = k + 1 ∧ ∀ row ∈ bdRows (k + 1), row.length ≤ k + 1
  | 0 => ⟨rfl, fun row h => by
    cases h with
    | head => exact Nat.le_refl 1
    | tail _ h => cases h⟩
  | k + 1 => by
    obtain ⟨h1, h2⟩ := bdRows_len k
    show (bdStep (k + 1) (bdRows (k + 1))).length = k + 1 + 1 ∧ ∀ row ∈ bdStep (k + 1) (bdRows (k + 1)), row.length ≤ k + 1 + 1
    unfold bdStep
    refine ⟨by rw [List.length_append, List.length_map, h1]; rfl, fun row hr => ?_⟩
    rcases List.mem_append.mp hr with hr | hr
    · obtain ⟨r, hr2, rfl⟩ := List.mem_map.mp hr
      rw [List.length_mapIdx]
      exact Nat.le_succ_of_le (h2 r hr2)
    · cases hr with
      | head => simp
      | tail _ h => cases h
theorem bd_sum_all : ∀ k, (bdF (k + 1)).sum = totF (k + 1)
  | 0 => rfl
  | k + 1 => by
    obtain ⟨_, h2⟩ := bdRows_len k
    have ih : ((bdRows (k + 1)).map List.sum).sum = totF (k + 1) := bd_sum_all k
    show ((bdStep (k + 1) (bdRows (k + 1))).map List.sum).sum = totF (k + 1) * (2 * k + 1)
    have e := tails_rows (k + 1) (2 * (k + 1) - 2) (by omega) (bdRows (k + 1)) h2
    rw [ih] at e
    unfold bdStep
    rw [List.map_append, List.sum_append]
    have e2 : (([0 :: (List.range (k + 1)).map fun d => ((bdSums (k + 1) (bdRows (k + 1))).drop d).sum] : List (List Nat)).map List.sum).sum = tails (k + 1) fun d => ((bdRows (k + 1)).map fun row => row.getD d 0).sum := by
      show (0 + ((List.range (k + 1)).map fun d => ((bdSums (k + 1) (bdRows (k + 1))).drop d).sum).sum) + 0 = _
      rw [Nat.zero_add, Nat.add_zero]
      rfl
    rw [e2, e, Nat.mul_comm]
    congr 1
theorem bd_sum {n : Nat} (h1 : 1 ≤ n) : (bdF n).sum = totF n ∧ (bdF n).length = n := by
  obtain ⟨k, rfl⟩ : ∃ k, n = k + 1 := ⟨n - 1, by omega⟩
  refine ⟨bd_sum_all k, ?_⟩
  unfold bdF
  rw [List.length_map, (bdRows_len k).1]
end LW
namespace LW
open PySem PySem.Spec PyProof.Rows L2 SY
/-! ### the text -/
def topS (i : Nat) : Stmt := PySem.Challenge.pw_lastside_k45_rank_counts.main.body.getD i (.Pass ⟨0, 0, 0, 0⟩)
abbrev s_InvalidLine_init : Stmt := inClass (topS 2) 0
abbrev N_InvalidLine_init : List Str := ["self", "index"]
theorem sc_InvalidLine_init : FnScope N_InvalidLine_init ["self", "index"] (defScope s_InvalidLine_init) := ⟨rfl, rfl, rfl, by decide +kernel, rfl, by decide +kernel, by decide +kernel⟩
abbrev s_InvalidNumber_init : Stmt := inClass (topS 3) 0
abbrev N_InvalidNumber_init : List Str := ["self", "number"]
theorem sc_InvalidNumber_init : FnScope N_InvalidNumber_init ["self", "number"] (defScope s_InvalidNumber_init) := ⟨rfl, rfl, rfl, by decide +kernel, rfl, by decide +kernel, by decide +kernel⟩
abbrev s_InvalidItem_init : Stmt := inClass (topS 4) 0
abbrev N_InvalidItem_init : List Str := ["self", "index"]
theorem sc_InvalidItem_init : FnScope N_InvalidItem_init ["self", "index"] (defScope s_InvalidItem_init) := ⟨rfl, rfl, rfl, by decide +kernel, rfl, by decide +kernel, by decide +kernel⟩
abbrev s_is_integer : Stmt := topS 7
abbrev N_is_integer : List Str := ["value"]
theorem sc_is_integer : FnScope N_is_integer ["value"] (defScope s_is_integer) := ⟨rfl, rfl, rfl, by decide +kernel, rfl, by decide +kernel, by decide +kernel⟩
abbrev s_is_place : Stmt := topS 8
abbrev N_is_place : List Str := ["many", "value"]
theorem sc_is_place : FnScope N_is_place ["many", "value"] (defScope s_is_place) := ⟨rfl, rfl, rfl, by decide +kernel, rfl, by decide +kernel, by decide +kernel⟩
abbrev s_is_line : Stmt := topS 9
abbrev N_is_line : List Str := ["many", "value"]
theorem sc_is_line : FnScope N_is_line ["many", "value"] (defScope s_is_line) := ⟨rfl, rfl, rfl, by decide +kernel, rfl, by decide +kernel, by decide +kernel⟩
abbrev s_checked_lines : Stmt := topS 10
abbrev N_checked_lines : List Str := ["many", "run", "index", "line"]
theorem sc_checked_lines : FnScope N_checked_lines ["many", "run"] (defScope s_checked_lines) := ⟨rfl, rfl, rfl, by decide +kernel, rfl, by decide +kernel, by decide +kernel⟩
abbrev s_checked_number : Stmt := topS 11
abbrev N_checked_number : List Str := ["number", "least", "most"]
theorem sc_checked_number : FnScope N_checked_number ["number", "least", "most"] (defScope s_checked_number) := ⟨rfl, rfl, rfl, by decide +kernel, rfl, by decide +kernel, by decide +kernel⟩
abbrev s_partings : Stmt := topS 15
abbrev N_partings : List Str := ["members", "found", "member", "right", "left"]
theorem sc_partings : FnScope N_partings ["members"] (defScope s_partings) := ⟨rfl, rfl, rfl, by decide +kernel, rfl, by decide +kernel, by decide +kernel⟩
abbrev s_last_side : Stmt := topS 16
abbrev N_last_side : List Str := ["run", "left", "right", "before", "kind", "slot", "side"]
theorem sc_last_side : FnScope N_last_side ["run", "left", "right"] (defScope s_last_side) := ⟨rfl, rfl, rfl, by decide +kernel, rfl, by decide +kernel, by decide +kernel⟩
abbrev s_victims_over : Stmt := topS 17
abbrev N_victims_over : List Str := ["members", "run", "found", "left", "right", "side", "lows", "highs", "slot"]
theorem sc_victims_over : FnScope N_victims_over ["members", "run"] (defScope s_victims_over) := ⟨rfl, rfl, rfl, by decide +kernel, rfl, by decide +kernel, by decide +kernel⟩
abbrev s_tree_total : Stmt := topS 18
abbrev N_tree_total : List Str := ["slots", "total", "many"]
theorem sc_tree_total : FnScope N_tree_total ["slots"] (defScope s_tree_total) := ⟨rfl, rfl, rfl, by decide +kernel, rfl, by decide +kernel, by decide +kernel⟩
abbrev s_rank_counts : Stmt := topS 19
abbrev N_rank_counts : List Str := ["slots", "rows", "many", "totals", "newest", "elder", "depth", "row", "number"]
theorem sc_rank_counts : FnScope N_rank_counts ["slots"] (defScope s_rank_counts) := ⟨rfl, rfl, rfl, by decide +kernel, rfl, by decide +kernel, by decide +kernel⟩
abbrev s_next_victims : Stmt := topS 20
abbrev N_next_victims : List Str := ["slots", "run", "kept"]
theorem sc_next_victims : FnScope N_next_victims ["slots", "run"] (defScope s_next_victims) := ⟨rfl, rfl, rfl, by decide +kernel, rfl, by decide +kernel, by decide +kernel⟩
abbrev s_l_is_integer : Stmt := topS 22
abbrev N_l_is_integer : List Str := ["_law_value"]
theorem sc_l_is_integer : FnScope N_l_is_integer ["_law_value"] (defScope s_l_is_integer) := ⟨rfl, rfl, rfl, by decide +kernel, rfl, by decide +kernel, by decide +kernel⟩
abbrev s_l_box : Stmt := topS 23
abbrev N_l_box : List Str := ["_law_script", "_law_great", "_law_state", "_law_cell"]
theorem sc_l_box : FnScope N_l_box ["_law_script"] (defScope s_l_box) := ⟨rfl, rfl, rfl, by decide +kernel, rfl, by decide +kernel, by decide +kernel⟩
abbrev s_l_draw : Stmt := topS 24
abbrev N_l_draw : List Str := ["_law_box_here", "_law_many", "_law_digit", "_law_mixed"]
theorem sc_l_draw : FnScope N_l_draw ["_law_box_here", "_law_many"] (defScope s_l_draw) := ⟨rfl, rfl, rfl, by decide +kernel, rfl, by decide +kernel, by decide +kernel⟩
abbrev s_l_all_trees : Stmt := topS 25
abbrev N_l_all_trees : List Str := ["_law_many", "_law_trees", "_law_slot", "_law_wider", "_law_groups", "_law_place", "_law_grown", "_law_group", "_law_one"]
theorem sc_l_all_trees : FnScope N_l_all_trees ["_law_many"] (defScope s_l_all_trees) := ⟨rfl, rfl, rfl, by decide +kernel, rfl, by decide +kernel, by decide +kernel⟩
abbrev s_l_half : Stmt := topS 26
abbrev N_l_half : List Str := ["_law_groups", "_law_node", "_law_half_here", "_law_group"]
theorem sc_l_half : FnScope N_l_half ["_law_groups", "_law_node"] (defScope s_l_half) := ⟨rfl, rfl, rfl, by decide +kernel, rfl, by decide +kernel, by decide +kernel⟩
abbrev s_l_victim : Stmt := topS 27
abbrev N_l_victim : List Str := ["_law_groups", "_law_order_here", "_law_many", "_law_node", "_law_turn", "_law_half_here", "_law_newest", "_law_slot"]
theorem sc_l_victim : FnScope N_l_victim ["_law_groups", "_law_order_here", "_law_many"] (defScope s_l_victim) := ⟨rfl, rfl, rfl, by decide +kernel, rfl, by decide +kernel, by decide +kernel⟩
abbrev s_l_order : Stmt := topS 28
abbrev N_l_order : List Str := ["_law_box_here", "_law_many", "_law_rest", "_law_order_here", "_law_turn"]
theorem sc_l_order : FnScope N_l_order ["_law_box_here", "_law_many"] (defScope s_l_order) := ⟨rfl, rfl, rfl, by decide +kernel, rfl, by decide +kernel, by decide +kernel⟩
abbrev s_l_by_listing : Stmt := topS 29
abbrev N_l_by_listing : List Str := ["_law_order_here", "_law_many", "_law_counts", "_law_groups", "_law_rank"]
theorem sc_l_by_listing : FnScope N_l_by_listing ["_law_order_here", "_law_many"] (defScope s_l_by_listing) := ⟨rfl, rfl, rfl, by decide +kernel, rfl, by decide +kernel, by decide +kernel⟩
abbrev s_l_by_depths : Stmt := topS 30
abbrev N_l_by_depths : List Str := ["_law_many", "_law_rows", "_law_k", "_law_sums", "_law_wider", "_law_row", "_law_depth"]
theorem sc_l_by_depths : FnScope N_l_by_depths ["_law_many"] (defScope s_l_by_depths) := ⟨rfl, rfl, rfl, by decide +kernel, rfl, by decide +kernel, by decide +kernel⟩
abbrev s_l_same : Stmt := topS 31
abbrev N_l_same : List Str := ["_law_answer", "_law_due", "_law_one"]
theorem sc_l_same : FnScope N_l_same ["_law_answer", "_law_due"] (defScope s_l_same) := ⟨rfl, rfl, rfl, by decide +kernel, rfl, by decide +kernel, by decide +kernel⟩
abbrev s_l_holds : Stmt := topS 32
abbrev N_l_holds : List Str := ["_law_many", "_law_due", "_law_total", "_law_k", "_law_answer", "_law_whole"]
theorem sc_l_holds : FnScope N_l_holds ["_law_many", "_law_due"] (defScope s_l_holds) := ⟨rfl, rfl, rfl, by decide +kernel, rfl, by decide +kernel, by decide +kernel⟩
abbrev s_l_refusal : Stmt := topS 33
abbrev N_l_refusal : List Str := ["_law_door", "_law_number", "raised"]
theorem sc_l_refusal : FnScope N_l_refusal ["_law_door", "_law_number"] (defScope s_l_refusal) := ⟨rfl, rfl, rfl, by decide +kernel, rfl, by decide +kernel, by decide +kernel⟩
abbrev s_l_refuses : Stmt := topS 34
abbrev N_l_refuses : List Str := ["_law_box_here", "_law_odd", "_law_door", "_law_number"]
theorem sc_l_refuses : FnScope N_l_refuses ["_law_box_here"] (defScope s_l_refuses) := ⟨rfl, rfl, rfl, by decide +kernel, rfl, by decide +kernel, by decide +kernel⟩
abbrev s_law : Stmt := topS 35
abbrev N_law : List Str := ["_law_script", "_law_box_here", "_law_many", "_law_order_here", "_law_due", "_law_row", "_law_slot"]
theorem sc_law : FnScope N_law ["_law_script"] (defScope s_law) := ⟨rfl, rfl, rfl, by decide +kernel, rfl, by decide +kernel, by decide +kernel⟩
/-- where the text's classes stand -/
structure Ads where
  CacheError : Addr
  InvalidLine : Addr
  InvalidNumber : Addr
  InvalidItem : Addr
  KINDS : Addr
/-- what the module's names hold -/
structure Env (P : Program) (w : World) (K : PySem.W.Frag) (mg : Str → Option Value) (base : Heap) (a : Ads) : Prop where
  n_bool : mg "bool" = none
  n_enumerate : mg "enumerate" = none
  n_int : mg "int" = none
  n_isinstance : mg "isinstance" = none
  n_len : mg "len" = none
  n_list : mg "list" = none
  n_range : mg "range" = none
  n_reversed : mg "reversed" = none
  n_sorted : mg "sorted" = none
  n_sum : mg "sum" = none
  n_tuple : mg "tuple" = none
  g_CacheError : mg "CacheError" = some (.ref a.CacheError)
  g_InvalidItem : mg "InvalidItem" = some (.ref a.InvalidItem)
  g_InvalidLine : mg "InvalidLine" = some (.ref a.InvalidLine)
  g_InvalidNumber : mg "InvalidNumber" = some (.ref a.InvalidNumber)
  t_KINDS : mg "KINDS" = some (.ref a.KINDS)
  c_MOST_COUNTED : ∃ t, mg "MOST_COUNTED" = some (.int 60 t)
  c_MOST_SLOTS : ∃ t, mg "MOST_SLOTS" = some (.int 6 t)
  e_InvalidLine : ErrC P w K mg base "InvalidLine" "index" a.InvalidLine
  e_InvalidNumber : ErrC P w K mg base "InvalidNumber" "number" a.InvalidNumber
section
variable {P : Program} {w : World} {K : PySem.W.Frag} {mg : Str → Option Value} {base : Heap}
theorem ini_InvalidLine {C fI : Addr} {fd : FuncData} (T : OexC K C) (hno : PySem.W.findIn K (.ref C) "index" = some none) (F : Fun K "__init__" "InvalidLine.__init__" s_InvalidLine_init fI fd) : FnOk P w K mg base (L2.CX P w) 1 fI fd ["self", "index"] (spErr C "index") := by
  refine F.okX sc_InvalidLine_init (fun vs H Q E h => ?_) (fun cdv A outer s H vs Q E hr h => ⟨_, pss_one (ps_ost (pv 0) (pv 1)), ?_⟩)
  · obtain ⟨a, v, rfl, _⟩ := h
    rfl
  · obtain ⟨a, v, rfl, h1, h2⟩ := h
    exact ⟨v, rfl, .ref a, rfl, a, C, rfl, T, hno, .inl ⟨h1, fun dx n1 n2 => h2 dx n1 n2⟩⟩
theorem ini_InvalidNumber {C fI : Addr} {fd : FuncData} (T : OexC K C) (hno : PySem.W.findIn K (.ref C) "number" = some none) (F : Fun K "__init__" "InvalidNumber.__init__" s_InvalidNumber_init fI fd) : FnOk P w K mg base (L2.CX P w) 1 fI fd ["self", "number"] (spErr C "number") := by
  refine F.okX sc_InvalidNumber_init (fun vs H Q E h => ?_) (fun cdv A outer s H vs Q E hr h => ⟨_, pss_one (ps_ost (pv 0) (pv 1)), ?_⟩)
  · obtain ⟨a, v, rfl, _⟩ := h
    rfl
  · obtain ⟨a, v, rfl, h1, h2⟩ := h
    exact ⟨v, rfl, .ref a, rfl, a, C, rfl, T, hno, .inl ⟨h1, fun dx n1 n2 => h2 dx n1 n2⟩⟩
theorem ini_InvalidItem {C fI : Addr} {fd : FuncData} (T : OexC K C) (hno : PySem.W.findIn K (.ref C) "index" = some none) (F : Fun K "__init__" "InvalidItem.__init__" s_InvalidItem_init fI fd) : FnOk P w K mg base (L2.CX P w) 1 fI fd ["self", "index"] (spErr C "index") := by
  refine F.okX sc_InvalidItem_init (fun vs H Q E h => ?_) (fun cdv A outer s H vs Q E hr h => ⟨_, pss_one (ps_ost (pv 0) (pv 1)), ?_⟩)
  · obtain ⟨a, v, rfl, _⟩ := h
    rfl
  · obtain ⟨a, v, rfl, h1, h2⟩ := h
    exact ⟨v, rfl, .ref a, rfl, a, C, rfl, T, hno, .inl ⟨h1, fun dx n1 n2 => h2 dx n1 n2⟩⟩
end
/-! ### levels -/
abbrev l_is_integer : Nat := 1
abbrev l_is_place : Nat := 2
abbrev l_is_line : Nat := 3
abbrev l_checked_lines : Nat := 4
abbrev l_checked_number : Nat := 3
abbrev l_partings : Nat := 1
abbrev l_last_side : Nat := 1
abbrev l_victims_over : Nat := 2
abbrev l_tree_total : Nat := 4
abbrev l_rank_counts : Nat := 4
abbrev l_next_victims : Nat := 9
abbrev l_l_is_integer : Nat := 1
abbrev l_l_box : Nat := 1
abbrev l_l_draw : Nat := 1
abbrev l_l_all_trees : Nat := 1
abbrev l_l_half : Nat := 1
abbrev l_l_victim : Nat := 2
abbrev l_l_order : Nat := 2
abbrev l_l_by_listing : Nat := 3
abbrev l_l_by_depths : Nat := 1
abbrev l_l_same : Nat := 2
abbrev l_l_holds : Nat := 5
abbrev l_l_refusal : Nat := 5
abbrev l_l_refuses : Nat := 6
abbrev l_law : Nat := 10
/-! ### what each def promises -/
def isInt : V → Bool
  | .int _ => true
  | _ => false
def ct_is_integer (K : PySem.W.Frag) : Ct (V × TY) where
  pre g vs H := vs = [g.1] ∧ Ty0 K H g.1 g.2
  post g H v H' := v = .bl (isInt g.1) ∧ Ext H H'
abbrev p_is_integer (K : PySem.W.Frag) (a : Ads) : Sp := spC (ct_is_integer K)
abbrev q_is_integer (K : PySem.W.Frag) (a : Ads) := rC (ct_is_integer K)
theorem c_is_integer {K : PySem.W.Frag} {a : Ads} : Ctr (p_is_integer K a) (q_is_integer K a) := ctrC
abbrev p_l_is_integer (K : PySem.W.Frag) (a : Ads) : Sp := spC (ct_is_integer K)
abbrev q_l_is_integer (K : PySem.W.Frag) (a : Ads) := rC (ct_is_integer K)
theorem c_l_is_integer {K : PySem.W.Frag} {a : Ads} : Ctr (p_l_is_integer K a) (q_l_is_integer K a) := ctrC
def optV : Option Int → V
  | none => .non
  | some m => .int m
def okN (x : V) (l : Int) (m : Option Int) : Bool := match x with
  | .int i => decide (l ≤ i) && (match m with | none => true | some m => decide (i ≤ m))
  | _ => false
def ct_checked_number (K : PySem.W.Frag) (a : Ads) : Ct (V × TY × Int × Option Int) where
  pre g vs H := vs = [g.1, .int g.2.2.1, optV g.2.2.2] ∧ Ty0 K H g.1 g.2.1
  post g H v H' := okN g.1 g.2.2.1 g.2.2.2 = true ∧ v = g.1 ∧ Ext H H'
  exn g H c d H' := okN g.1 g.2.2.1 g.2.2.2 = false ∧ c = .ref a.InvalidNumber ∧ ∃ dd, d = some dd ∧ H dd = none ∧ Ext H H' ∧ H' dd = some (.xd [("number", g.1)])
abbrev p_checked_number (K : PySem.W.Frag) (a : Ads) : Sp := spC (ct_checked_number K a)
abbrev q_checked_number (K : PySem.W.Frag) (a : Ads) := rC (ct_checked_number K a)
theorem c_checked_number {K : PySem.W.Frag} {a : Ads} : Ctr (p_checked_number K a) (q_checked_number K a) := ctrC
/-- a door: the number is checked, then a value is made -/
def ct_door (K : PySem.W.Frag) (a : Ads) (res : Nat → Hp → V → Hp → Prop) : Ct (V × TY) where
  pre g vs H := vs = [g.1] ∧ Ty0 K H g.1 g.2
  post g H v H' := ∃ n : Nat, g.1 = .int n ∧ 1 ≤ n ∧ n ≤ 60 ∧ res n H v H' ∧ Ext H H'
  exn g H c d H' := okN g.1 1 (some 60) = false ∧ c = .ref a.InvalidNumber ∧ ∃ dd, d = some dd ∧ H dd = none ∧ Ext H H' ∧ H' dd = some (.xd [("number", g.1)])
def nV (ns : List Nat) : List V := ns.map fun n => V.int (n : Nat)
/-- a new list of numbers -/
def newL (ns : List Nat) (H : Hp) (v : V) (H' : Hp) : Prop := ∃ p, v = .ref p ∧ H p = none ∧ H' p = some (.lst (nV ns))
abbrev ct_tree_total (K : PySem.W.Frag) (a : Ads) : Ct (V × TY) := ct_door K a fun n _ v _ => v = .int (totF n : Nat)
abbrev p_tree_total (K : PySem.W.Frag) (a : Ads) : Sp := spC (ct_tree_total K a)
abbrev q_tree_total (K : PySem.W.Frag) (a : Ads) := rC (ct_tree_total K a)
theorem c_tree_total {K : PySem.W.Frag} {a : Ads} : Ctr (p_tree_total K a) (q_tree_total K a) := ctrC
abbrev ct_rank_counts (K : PySem.W.Frag) (a : Ads) : Ct (V × TY) := ct_door K a fun n H v H' => newL (bdF n) H v H'
abbrev p_rank_counts (K : PySem.W.Frag) (a : Ads) : Sp := spC (ct_rank_counts K a)
abbrev q_rank_counts (K : PySem.W.Frag) (a : Ads) := rC (ct_rank_counts K a)
theorem c_rank_counts {K : PySem.W.Frag} {a : Ads} : Ctr (p_rank_counts K a) (q_rank_counts K a) := ctrC
/-! hits -/
def tupN (K : PySem.W.Frag) (H : Hp) (v : V) (ns : List Nat) : Prop := ∃ p, v = .ref p ∧ SqT K H p (nV ns)
def lstN (K : PySem.W.Frag) (H : Hp) (v : V) (ns : List Nat) : Prop := ∃ p, v = .ref p ∧ SqL K H p (nV ns)
def hitV (K : PySem.W.Frag) (H : Hp) (v : V) (s : Nat) : Prop := ∃ p, v = .ref p ∧ SqT K H p [.str "hit", .int (s : Nat)]
def allV {α : Type} (R : V → α → Prop) : List V → List α → Prop
  | [], [] => True
  | v :: vs, x :: xs => R v x ∧ allV R vs xs
  | _, _ => False
/-- a list whose items are R's -/
def lstR {α : Type} (K : PySem.W.Frag) (R : Hp → V → α → Prop) (H : Hp) (v : V) (xs : List α) : Prop := ∃ p vs, v = .ref p ∧ SqL K H p vs ∧ allV (R H) vs xs
def hitsV (K : PySem.W.Frag) := lstR K (hitV K)
def f_is_place : List V → Option Ot
  | [.int m, .int v] => some (.ok (.bl (decide (0 ≤ v) && decide (v < m))))
  | _ => none
abbrev p_is_place (K : PySem.W.Frag) (a : Ads) : Sp := spV f_is_place
abbrev q_is_place (K : PySem.W.Frag) (a : Ads) := rV f_is_place
theorem c_is_place {K : PySem.W.Frag} {a : Ads} : Ctr (p_is_place K a) (q_is_place K a) := ctrV
def ct_is_line (K : PySem.W.Frag) : Ct (Int × V × Nat) where
  pre g vs H := vs = [.int g.1, g.2.1] ∧ hitV K H g.2.1 g.2.2 ∧ (g.2.2 : Int) < g.1
  post g H v H' := v = .bl true ∧ Ext H H'
abbrev p_is_line (K : PySem.W.Frag) (a : Ads) : Sp := spC (ct_is_line K)
abbrev q_is_line (K : PySem.W.Frag) (a : Ads) := rC (ct_is_line K)
theorem c_is_line {K : PySem.W.Frag} {a : Ads} : Ctr (p_is_line K a) (q_is_line K a) := ctrC
def ct_checked_lines (K : PySem.W.Frag) : Ct (Int × V × List Nat) where
  pre g vs H := vs = [.int g.1, g.2.1] ∧ hitsV K H g.2.1 g.2.2 ∧ ∀ s ∈ g.2.2, (s : Int) < g.1
  post g H v H' := hitsV K H' v g.2.2 ∧ Ext H H'
abbrev p_checked_lines (K : PySem.W.Frag) (a : Ads) : Sp := spC (ct_checked_lines K)
abbrev q_checked_lines (K : PySem.W.Frag) (a : Ads) := rC (ct_checked_lines K)
theorem c_checked_lines {K : PySem.W.Frag} {a : Ads} : Ctr (p_checked_lines K a) (q_checked_lines K a) := ctrC
/-- the partings of the members -/
def partF : List Nat → List (List Nat × List Nat)
  | [] => []
  | m :: ms => (ms.foldl (fun found x => (found.map fun q => (q.1 ++ [x], q.2)) ++ found.map fun q => (q.1, q.2 ++ [x])) [([m], [])]).filter fun q => decide (0 < q.2.length)
def pairV (K : PySem.W.Frag) (H : Hp) (v : V) (q : List Nat × List Nat) : Prop := ∃ p l r, v = .ref p ∧ SqT K H p [l, r] ∧ tupN K H l q.1 ∧ tupN K H r q.2
def ct_partings (K : PySem.W.Frag) : Ct (V × List Nat) where
  pre g vs H := vs = [g.1] ∧ tupN K H g.1 g.2 ∧ g.2 ≠ [] ∧ g.2.length ≤ 6
  post g H v H' := lstR K (pairV K) H' v (partF g.2) ∧ Ext H H'
abbrev p_partings (K : PySem.W.Frag) (a : Ads) : Sp := spC (ct_partings K)
abbrev q_partings (K : PySem.W.Frag) (a : Ads) := rC (ct_partings K)
theorem c_partings {K : PySem.W.Frag} {a : Ads} : Ctr (p_partings K a) (q_partings K a) := ctrC
/-- the side of the last hit -/
def sideF (l r : List Nat) (slots : List Nat) : Str := slots.foldl (fun b s => if l.contains s then "L" else if r.contains s then "R" else b) "?"
def ct_last_side (K : PySem.W.Frag) : Ct (V × List Nat × V × List Nat × V × List Nat) where
  pre g vs H := vs = [g.1, g.2.2.1, g.2.2.2.2.1] ∧ hitsV K H g.1 g.2.1 ∧ tupN K H g.2.2.1 g.2.2.2.1 ∧ tupN K H g.2.2.2.2.1 g.2.2.2.2.2
  post g H v H' := v = .str (sideF g.2.2.2.1 g.2.2.2.2.2 g.2.1) ∧ Ext H H'
abbrev p_last_side (K : PySem.W.Frag) (a : Ads) : Sp := spC (ct_last_side K)
abbrev q_last_side (K : PySem.W.Frag) (a : Ads) := rC (ct_last_side K)
theorem c_last_side {K : PySem.W.Frag} {a : Ads} : Ctr (p_last_side K a) (q_last_side K a) := ctrC
/-- the last of the slots that is a member -/
def lastIn (ms slots : List Nat) : Nat := ((slots.filter fun s => ms.contains s).getLast?).getD 0
def voF (ms slots : List Nat) : List Nat := if ms.length = 1 then ms else ms.filter fun x => decide (x ≠ lastIn ms slots)
def ct_victims_over (K : PySem.W.Frag) (n : Nat) : Ct (V × List Nat × V × List Nat) where
  pre g vs H := vs = [g.1, g.2.2.1] ∧ tupN K H g.1 g.2.1 ∧ hitsV K H g.2.2.1 g.2.2.2 ∧ g.2.1 ≠ [] ∧ g.2.1.length ≤ n ∧ g.2.1.length ≤ 6 ∧ g.2.1.Pairwise (· < ·) ∧ (∀ x ∈ g.2.1, x ∈ g.2.2.2)
  post g H v H' := newL (voF g.2.1 g.2.2.2) H v H' ∧ Ext H H'
abbrev p_victims_over (K : PySem.W.Frag) (a : Ads) (n : Nat) : Sp := spC (ct_victims_over K n)
abbrev q_victims_over (K : PySem.W.Frag) (a : Ads) (n : Nat) := rC (ct_victims_over K n)
theorem c_victims_over {K : PySem.W.Frag} {a : Ads} {n : Nat} : Ctr (p_victims_over K a n) (q_victims_over K a n) := ctrC
def ct_next_victims (K : PySem.W.Frag) : Ct (Nat × V × List Nat) where
  pre g vs H := vs = [.int (g.1 : Nat), g.2.1] ∧ hitsV K H g.2.1 g.2.2 ∧ 2 ≤ g.1 ∧ g.1 ≤ 6 ∧ (∀ s ∈ g.2.2, s < g.1) ∧ ∀ x, x < g.1 → x ∈ g.2.2
  post g H v H' := newL (voF (List.range g.1) g.2.2) H v H' ∧ Ext H H'
abbrev p_next_victims (K : PySem.W.Frag) (a : Ads) : Sp := spC (ct_next_victims K)
abbrev q_next_victims (K : PySem.W.Frag) (a : Ads) := rC (ct_next_victims K)
theorem c_next_victims {K : PySem.W.Frag} {a : Ads} : Ctr (p_next_victims K a) (q_next_victims K a) := ctrC
/-! the law's -/
def boxO (u t m : Int) : HO := .lst [.int u, .int t, .int m]
def IsBox (H : Hp) (b : Addr) : Prop := ∃ u t m : Int, H b = some (boxO u t m) ∧ 0 ≤ u ∧ 0 ≤ t ∧ t < 2147483647
def Rest (b : Addr) (H H' : Hp) : Prop := ∀ c o, c ≠ b → H c = some o → H' c = some o
def ct_l_box (K : PySem.W.Frag) : Ct (Addr × List Int) where
  pre g vs H := vs = [.ref g.1] ∧ SqL K H g.1 (g.2.map V.int)
  post g H v H' := ∃ b, v = .ref b ∧ H b = none ∧ IsBox H' b ∧ Ext H H'
abbrev p_l_box (K : PySem.W.Frag) (a : Ads) : Sp := spC (ct_l_box K)
abbrev q_l_box (K : PySem.W.Frag) (a : Ads) := rC (ct_l_box K)
theorem c_l_box {K : PySem.W.Frag} {a : Ads} : Ctr (p_l_box K a) (q_l_box K a) := ctrC
/-- a def that draws from the box at b, and hands back v -/
def ct_draw {α : Type} (args : α → List V) (res : α → Hp → V → Hp → Prop) (ok : α → Hp → Prop) : Ct (Addr × α) where
  pre g vs H := vs = .ref g.1 :: args g.2 ∧ IsBox H g.1 ∧ ok g.2 H
  post g H v H' := res g.2 H v H' ∧ IsBox H' g.1 ∧ Rest g.1 H H'
def ct_l_draw : Ct (Addr × Int) := ct_draw (fun size => [.int size]) (fun size _ v _ => ∃ r : Nat, v = .int (r : Nat) ∧ (r : Int) < size) (fun size _ => 0 < size ∧ size < 1073741824)
abbrev p_l_draw (K : PySem.W.Frag) (a : Ads) : Sp := spC ct_l_draw
abbrev q_l_draw (K : PySem.W.Frag) (a : Ads) := rC ct_l_draw
theorem c_l_draw {K : PySem.W.Frag} {a : Ads} : Ctr (p_l_draw K a) (q_l_draw K a) := ctrC
def grpV (K : PySem.W.Frag) := lstR K (tupN K)
def ct_l_all_trees (K : PySem.W.Frag) : Ct Nat where
  pre n vs H := vs = [.int (n : Nat)] ∧ 1 ≤ n ∧ n ≤ 6
  post n H v H' := lstR K (grpV K) H' v (allG n) ∧ Ext H H'
abbrev p_l_all_trees (K : PySem.W.Frag) (a : Ads) : Sp := spC (ct_l_all_trees K)
abbrev q_l_all_trees (K : PySem.W.Frag) (a : Ads) := rC (ct_l_all_trees K)
theorem c_l_all_trees {K : PySem.W.Frag} {a : Ads} : Ctr (p_l_all_trees K a) (q_l_all_trees K a) := ctrC
def ct_l_half (K : PySem.W.Frag) : Ct (V × List (List Nat) × V × List Nat) where
  pre g vs H := vs = [g.1, g.2.2.1] ∧ grpV K H g.1 g.2.1 ∧ tupN K H g.2.2.1 g.2.2.2 ∧ g.2.2.2 ≠ [] ∧ ∀ x ∈ g.2.1, x ≠ []
  post g H v H' := tupN K H' v (halfN g.2.1 g.2.2.2) ∧ Ext H H'
abbrev p_l_half (K : PySem.W.Frag) (a : Ads) : Sp := spC (ct_l_half K)
abbrev q_l_half (K : PySem.W.Frag) (a : Ads) := rC (ct_l_half K)
theorem c_l_half {K : PySem.W.Frag} {a : Ads} : Ctr (p_l_half K a) (q_l_half K a) := ctrC
def ct_l_victim (K : PySem.W.Frag) : Ct (V × List (List Nat) × V × List Nat × Nat) where
  pre g vs H := vs = [g.1, g.2.2.1, .int (g.2.2.2.2 : Nat)] ∧ grpV K H g.1 g.2.1 ∧ lstN K H g.2.2.1 g.2.2.2.1 ∧ 1 ≤ g.2.2.2.2 ∧ g.2.2.2.2 ≤ 6 ∧ g.2.1 ∈ allG g.2.2.2.2 ∧ g.2.2.2.1 ∈ pops g.2.2.2.2 (List.range g.2.2.2.2)
  post g H v H' := v = .int ((vicN g.2.1 g.2.2.2.1 g.2.2.2.2 (List.range g.2.2.2.2)).headD 0 : Nat) ∧ Ext H H'
abbrev p_l_victim (K : PySem.W.Frag) (a : Ads) : Sp := spC (ct_l_victim K)
abbrev q_l_victim (K : PySem.W.Frag) (a : Ads) := rC (ct_l_victim K)
theorem c_l_victim {K : PySem.W.Frag} {a : Ads} : Ctr (p_l_victim K a) (q_l_victim K a) := ctrC
def ct_l_order (K : PySem.W.Frag) : Ct (Addr × Nat) := ct_draw (fun n => [.int (n : Nat)]) (fun n H v H' => ∃ o p, o ∈ pops n (List.range n) ∧ v = .ref p ∧ H p = none ∧ H' p = some (.lst (nV o))) (fun n _ => n ≤ 6)
abbrev p_l_order (K : PySem.W.Frag) (a : Ads) : Sp := spC (ct_l_order K)
abbrev q_l_order (K : PySem.W.Frag) (a : Ads) := rC (ct_l_order K)
theorem c_l_order {K : PySem.W.Frag} {a : Ads} : Ctr (p_l_order K a) (q_l_order K a) := ctrC
def ct_l_by_listing (K : PySem.W.Frag) : Ct (V × List Nat × Nat) where
  pre g vs H := vs = [g.1, .int (g.2.2 : Nat)] ∧ lstN K H g.1 g.2.1 ∧ 1 ≤ g.2.2 ∧ g.2.2 ≤ 6 ∧ g.2.1 ∈ pops g.2.2 (List.range g.2.2)
  post g H v H' := newL (bdF g.2.2) H v H' ∧ Ext H H'
abbrev p_l_by_listing (K : PySem.W.Frag) (a : Ads) : Sp := spC (ct_l_by_listing K)
abbrev q_l_by_listing (K : PySem.W.Frag) (a : Ads) := rC (ct_l_by_listing K)
theorem c_l_by_listing {K : PySem.W.Frag} {a : Ads} : Ctr (p_l_by_listing K a) (q_l_by_listing K a) := ctrC
def ct_l_by_depths (K : PySem.W.Frag) : Ct Nat where
  pre n vs H := vs = [.int (n : Nat)] ∧ 1 ≤ n ∧ n ≤ 60
  post n H v H' := newL (bdF n) H v H' ∧ Ext H H'
abbrev p_l_by_depths (K : PySem.W.Frag) (a : Ads) : Sp := spC (ct_l_by_depths K)
abbrev q_l_by_depths (K : PySem.W.Frag) (a : Ads) := rC (ct_l_by_depths K)
theorem c_l_by_depths {K : PySem.W.Frag} {a : Ads} : Ctr (p_l_by_depths K a) (q_l_by_depths K a) := ctrC
def ct_l_same (K : PySem.W.Frag) : Ct (V × V × List Nat) where
  pre g vs H := vs = [g.1, g.2.1] ∧ lstN K H g.1 g.2.2 ∧ lstN K H g.2.1 g.2.2
  post g H v H' := v = .bl true ∧ Ext H H'
abbrev p_l_same (K : PySem.W.Frag) (a : Ads) : Sp := spC (ct_l_same K)
abbrev q_l_same (K : PySem.W.Frag) (a : Ads) := rC (ct_l_same K)
theorem c_l_same {K : PySem.W.Frag} {a : Ads} : Ctr (p_l_same K a) (q_l_same K a) := ctrC
def ct_l_holds (K : PySem.W.Frag) : Ct (Nat × V) where
  pre g vs H := vs = [.int (g.1 : Nat), g.2] ∧ lstN K H g.2 (bdF g.1) ∧ 1 ≤ g.1 ∧ g.1 ≤ 60
  post g H v H' := v = .bl true ∧ Ext H H'
abbrev p_l_holds (K : PySem.W.Frag) (a : Ads) : Sp := spC (ct_l_holds K)
abbrev q_l_holds (K : PySem.W.Frag) (a : Ads) := rC (ct_l_holds K)
theorem c_l_holds {K : PySem.W.Frag} {a : Ads} : Ctr (p_l_holds K a) (q_l_holds K a) := ctrC
def ct_l_refusal (K : PySem.W.Frag) : Ct (Int × V × TY) where
  pre g vs H := vs = [.int g.1, g.2.1] ∧ Ty0 K H g.2.1 g.2.2 ∧ okN g.2.1 1 (some 60) = false
  post g H v H' := ∃ p, v = .ref p ∧ H p = none ∧ H' p = some (.tup [.int 1, g.2.1, .bl false]) ∧ Ext H H'
abbrev p_l_refusal (K : PySem.W.Frag) (a : Ads) : Sp := spC (ct_l_refusal K)
abbrev q_l_refusal (K : PySem.W.Frag) (a : Ads) := rC (ct_l_refusal K)
theorem c_l_refusal {K : PySem.W.Frag} {a : Ads} : Ctr (p_l_refusal K a) (q_l_refusal K a) := ctrC
def ct_l_refuses : Ct (Addr × Unit) := ct_draw (fun _ => []) (fun _ _ v _ => v = .bl true) (fun _ _ => True)
abbrev p_l_refuses (K : PySem.W.Frag) (a : Ads) : Sp := spC ct_l_refuses
abbrev q_l_refuses (K : PySem.W.Frag) (a : Ads) := rC ct_l_refuses
theorem c_l_refuses {K : PySem.W.Frag} {a : Ads} : Ctr (p_l_refuses K a) (q_l_refuses K a) := ctrC
def ct_law (K : PySem.W.Frag) : Ct (Addr × List Int) where
  pre g vs H := vs = [.ref g.1] ∧ SqL K H g.1 (g.2.map V.int)
  post g H v H' := v = .bl true
abbrev p_law (K : PySem.W.Frag) (a : Ads) : Sp := spC (ct_law K)
abbrev q_law (K : PySem.W.Frag) (a : Ads) := rC (ct_law K)
theorem c_law {K : PySem.W.Frag} {a : Ads} : Ctr (p_law K a) (q_law K a) := ctrC
/-! ### readings and derivations (printed by gen.py) -/
def r_is_integer (K : PySem.W.Frag) (a : Ads) : sS := sRet (sAndV (sIsi K .int (sVar 0)) (sNotV K (sIsi K .bool (sVar 0))))
def r_is_place (K : PySem.W.Frag) (a : Ads) : sS := sRet (sAndV (sCallD (q_is_integer K a) [] (sCons (sVar 1) (sNil))) (sChain oLe oLt (sC (.int 0)) (sVar 1) (sVar 0)))
def r_is_line (K : PySem.W.Frag) (a : Ads) : sS := sSeq (sIfS (sOr (sNot (sTru K (sIsi K .tuple (sVar 1)))) (sTst (sOp (oNe K) (sCall1 (nLen K) (sCons (sVar 1) (sNil))) (sC (.int 2))))) (sRet (sC (.bl false))) (sNext)) (sRet (sAndV (sOp (oIn K false) (sOp (oIx K) (sVar 1) (sC (.int 0))) (sC (.ref a.KINDS))) (sCallD (q_is_place K a) [] (sCons (sVar 0) (sCons (sOp (oIx K) (sVar 1) (sC (.int 1))) (sNil))))))
def r_checked_lines (K : PySem.W.Frag) (a : Ads) : sS := sSeq (sIfS (sNot (sTru K (sIsi K .list (sVar 1)))) (sRaise a.InvalidLine ("index" : Str) (s1Op oNeg (sC (.int 1)))) (sNext)) (sSeq (sFor (siEn K (sCons (sVar 1) (sNil))) (sgTup K 2 (sgCons (sgName 2) (sgCons (sgName 3) (sgNil)))) (sIfS (sNot (sTru K (sCallD (q_is_line K a) [] (sCons (sVar 0) (sCons (sVar 3) (sNil)))))) (sRaise a.InvalidLine ("index" : Str) (sVar 2)) (sNext))) (sRet (sCall1 (nList K) (sCons (sVar 1) (sNil)))))
def r_checked_number (K : PySem.W.Frag) (a : Ads) : sS := sSeq (sIfS (sOr (sNot (sTru K (sCallD (q_is_integer K a) [] (sCons (sVar 0) (sNil))))) (sTst (sOp oLt (sVar 0) (sVar 1)))) (sRaise a.InvalidNumber ("number" : Str) (sVar 0)) (sNext)) (sSeq (sIfS (sAnd (sTst (sOp oNotN (sVar 2) (sC .non))) (sTst (sOp oGt (sVar 0) (sVar 2)))) (sRaise a.InvalidNumber ("number" : Str) (sVar 0)) (sNext)) (sRet (sVar 0)))
def r_partings (K : PySem.W.Frag) (a : Ads) : sS := sSeq (sSet (sLst (sCons (sTup (sCons (sTup (sCons (sOp (oIx K) (sVar 0) (sC (.int 0))) (sNil))) (sCons (sTup (sNil)) (sNil)))) (sNil))) 1) (sSeq (sFor (siSeq K (sSl K (sVar 0) (sPart (sC (.int 1))) sNoP)) (sgName 2) (sSet (sOp oAdd (sLc (siSeq K (sVar 1)) (sgTup K 2 (sgCons (sgName 4) (sgCons (sgName 3) (sgNil)))) (sYes) (sTup (sCons (sOp (oAddT K) (sVar 4) (sTup (sCons (sVar 2) (sNil)))) (sCons (sVar 3) (sNil)))) [4, 3]) (sLc (siSeq K (sVar 1)) (sgTup K 2 (sgCons (sgName 4) (sgCons (sgName 3) (sgNil)))) (sYes) (sTup (sCons (sVar 4) (sCons (sOp (oAddT K) (sVar 3) (sTup (sCons (sVar 2) (sNil)))) (sNil)))) [4, 3])) 1)) (sRet (sLc (siSeq K (sVar 1)) (sgTup K 2 (sgCons (sgName 4) (sgCons (sgName 3) (sgNil)))) (sTst (sOp oGt (sCall1 (nLen K) (sCons (sVar 3) (sNil))) (sC (.int 0)))) (sTup (sCons (sVar 4) (sCons (sVar 3) (sNil)))) [4, 3])))
def r_last_side (K : PySem.W.Frag) (a : Ads) : sS := sSeq (sSet (sC (.str ("?" : Str))) 3) (sSeq (sFor (siSeq K (sVar 0)) (sgTup K 2 (sgCons (sgName 4) (sgCons (sgName 5) (sgNil)))) (sIfS (sOr (sTst (sOp (oIn K false) (sVar 5) (sVar 1))) (sTst (sOp (oIn K false) (sVar 5) (sVar 2)))) (sSeq (sSet (sIf (sTst (sOp (oIn K false) (sVar 5) (sVar 1))) (sC (.str ("L" : Str))) (sC (.str ("R" : Str)))) 6) (sSeq (sIfS (sAnd (sTst (sOp (oEq K) (sVar 4) (sC (.str ("load" : Str))))) (sTst (sOp (oEq K) (sVar 6) (sVar 3)))) (sRet (sC .non)) (sNext)) (sSet (sVar 6) 3))) (sNext))) (sRet (sVar 3)))
def r_victims_over (K : PySem.W.Frag) (a : Ads) (n : Nat) : sS := sSeq (sIfS (sTst (sOp (oEq K) (sCall1 (nLen K) (sCons (sVar 0) (sNil))) (sC (.int 1)))) (sRet (sCall1 (nList K) (sCons (sVar 0) (sNil)))) (sNext)) (sSeq (sSet (sDctK) 2) (sSeq (sFor (siSeq K (sCallD (q_partings K a) [] (sCons (sVar 0) (sNil)))) (sgTup K 2 (sgCons (sgName 3) (sgCons (sgName 4) (sgNil)))) (sSeq (sSet (sCallD (q_last_side K a) [] (sCons (sVar 1) (sCons (sVar 3) (sCons (sVar 4) (sNil))))) 5) (sIfS (sTst (sOp oNotN (sVar 5) (sC .non))) (sSeq (sSet (sCallD (q_victims_over K a n) [] (sCons (sVar 3) (sCons (sVar 1) (sNil)))) 6) (sSeq (sSet (sCallD (q_victims_over K a n) [] (sCons (sVar 4) (sCons (sVar 1) (sNil)))) 7) (sIfS (sAnd (sTst (sOp oGt (sCall1 (nLen K) (sCons (sVar 6) (sNil))) (sC (.int 0)))) (sTst (sOp oGt (sCall1 (nLen K) (sCons (sVar 7) (sNil))) (sC (.int 0))))) (sSeq (sFor (siSeq K (sVar 6)) (sgName 8) (sIfS (sTst (sOp (oNe K) (sVar 5) (sC (.str ("L" : Str))))) (sDPutK (sVar 2) (sVar 8) (sC (.bl true))) (sNext))) (sFor (siSeq K (sVar 7)) (sgName 8) (sIfS (sTst (sOp (oNe K) (sVar 5) (sC (.str ("R" : Str))))) (sDPutK (sVar 2) (sVar 8) (sC (.bl true))) (sNext)))) (sNext)))) (sNext)))) (sRet (sCall1 nSortD (sCons (sVar 2) (sNil))))))
def r_tree_total (K : PySem.W.Frag) (a : Ads) : sS := sSeq (sDrop (sCallD (q_checked_number K a) [] (sCons (sVar 0) (sCons (sC (.int 1)) (sCons (sC (.int 60)) (sNil)))))) (sSeq (sSet (sC (.int 1)) 1) (sSeq (sFor (siR2 (sCons (sC (.int 2)) (sCons (sOp oAdd (sVar 0) (sC (.int 1))) (sNil)))) (sgName 2) (sSet (sOp oMul (sVar 1) (sOp oSub (sOp oMul (sC (.int 2)) (sVar 2)) (sC (.int 3)))) 1)) (sRet (sVar 1))))
def r_rank_counts (K : PySem.W.Frag) (a : Ads) : sS := sSeq (sDrop (sCallD (q_checked_number K a) [] (sCons (sVar 0) (sCons (sC (.int 1)) (sCons (sC (.int 60)) (sNil)))))) (sSeq (sSet (sLst (sCons (sLst (sCons (sC (.int 1)) (sNil))) (sNil))) 1) (sSeq (sFor (siR2 (sCons (sC (.int 1)) (sCons (sVar 0) (sNil)))) (sgName 2) (sSeq (sSet (sLc (siR1 (sCons (sVar 2) (sNil))) (sgName 6) (sYes) (sCall1 (nSum K) (sCons (sLc (siSeq K (sVar 1)) (sgName 7) (sYes) (sOp (oIx K) (sVar 7) (sVar 6)) [7]) (sNil))) [6]) 3) (sSeq (sSet (sOp oAdd (sLst (sCons (sC (.int 0)) (sNil))) (sLc (siR1 (sCons (sVar 2) (sNil))) (sgName 6) (sYes) (sCall1 (nSum K) (sCons (sSl K (sVar 3) (sPart (sVar 6)) sNoP) (sNil))) [6])) 4) (sSeq (sSet (sLc (siSeq K (sVar 1)) (sgName 7) (sYes) (sOp oAdd (sLc (siEn K (sCons (sVar 7) (sNil))) (sgTup K 2 (sgCons (sgName 6) (sgCons (sgName 8) (sgNil)))) (sYes) (sOp oMul (sOp oSub (sOp oSub (sOp oMul (sC (.int 2)) (sVar 2)) (sC (.int 2))) (sVar 6)) (sVar 8)) [6, 8]) (sLst (sCons (sC (.int 0)) (sNil)))) [7]) 5) (sSet (sOp oAdd (sVar 5) (sLst (sCons (sVar 4) (sNil)))) 1))))) (sRet (sLc (siSeq K (sVar 1)) (sgName 7) (sYes) (sCall1 (nSum K) (sCons (sVar 7) (sNil))) [7]))))
def r_next_victims (K : PySem.W.Frag) (a : Ads) : sS := sSeq (sDrop (sCallD (q_checked_number K a) [] (sCons (sVar 0) (sCons (sC (.int 1)) (sCons (sC (.int 6)) (sNil)))))) (sSeq (sSet (sCallD (q_checked_lines K a) [] (sCons (sVar 0) (sCons (sVar 1) (sNil)))) 2) (sRet (sCallD (q_victims_over K a 6) [] (sCons (sRgT (sVar 0)) (sCons (sVar 2) (sNil))))))
def r_l_is_integer (K : PySem.W.Frag) (a : Ads) : sS := sRet (sAndV (sIsi K .int (sVar 0)) (sNotV K (sIsi K .bool (sVar 0))))
def r_l_box (K : PySem.W.Frag) (a : Ads) : sS := sSeq (sSet (sC (.int 0)) 1) (sCut (sIfS (sAnd (sTru K (sVar 0)) (sTst (sOp oGe (sOp (oIx K) (sVar 0) (sC (.int 0))) (sOp oPow (sC (.int 10)) (sC (.int 18)))))) (sSet (sOp (oIx K) (sVar 0) (sC (.int 0))) 1) (sNext)) (sSeq (sSet (sC (.int 17)) 2) (sSeq (sFor (siSeq K (sSl K (sVar 0) sNoP (sPart (sC (.int 63))))) (sgName 3) (sSet (sOp oMod (sCall1 nInt (sCons (sOp oAdd (sOp oAdd (sOp oMul (sVar 2) (sC (.int 48271))) (sOp oMul (sVar 3) (sC (.int 69621)))) (sC (.int 101))) (sNil))) (sC (.int 2147483647))) 2)) (sRet (sLst (sCons (sVar 1) (sCons (sVar 2) (sCons (sCall1 (nLen K) (sCons (sVar 0) (sNil))) (sNil)))))))))
def r_l_draw (K : PySem.W.Frag) (a : Ads) : sS := sSeq (sIfS (sTst (sOp oGt (sOp (oIx K) (sVar 0) (sC (.int 0))) (sC (.int 0)))) (sSeq (sSet (sOp oMod (sCall1 nInt (sCons (sOp (oIx K) (sVar 0) (sC (.int 0))) (sNil))) (sVar 1)) 2) (sSeq (sAsg (sOp oFdv (sCall1 nInt (sCons (sOp (oIx K) (sVar 0) (sC (.int 0))) (sNil))) (sVar 1)) (sgSub (sVar 0) (sC (.int 0)))) (sRet (sVar 2)))) (sNext)) (sSeq (sAsg (sOp oAdd (sOp (oIx K) (sVar 0) (sC (.int 2))) (sC (.int 1))) (sgSub (sVar 0) (sC (.int 2)))) (sSeq (sAsg (sOp oMod (sCall1 nInt (sCons (sOp oAdd (sOp oAdd (sOp oMul (sOp (oIx K) (sVar 0) (sC (.int 1))) (sC (.int 48271))) (sOp oMul (sOp (oIx K) (sVar 0) (sC (.int 2))) (sC (.int 69621)))) (sC (.int 101))) (sNil))) (sC (.int 2147483647))) (sgSub (sVar 0) (sC (.int 1)))) (sSeq (sSet (sOp oMod (sCall1 nInt (sCons (sOp oAdd (sOp oAdd (sOp oMul (sOp (oIx K) (sVar 0) (sC (.int 1))) (sOp (oIx K) (sVar 0) (sC (.int 1)))) (sOp oMul (sOp (oIx K) (sVar 0) (sC (.int 1))) (sC (.int 40503)))) (sOp (oIx K) (sVar 0) (sC (.int 2)))) (sNil))) (sC (.int 1000000007))) 3) (sRet (sOp oMod (sCall1 nInt (sCons (sOp oFdv (sVar 3) (sC (.int 16))) (sNil))) (sVar 1))))))
def r_l_all_trees (K : PySem.W.Frag) (a : Ads) : sS := sSeq (sSet (sLst (sCons (sLst (sNil)) (sNil))) 1) (sSeq (sFor (siR2 (sCons (sC (.int 1)) (sCons (sVar 0) (sNil)))) (sgName 2) (sSeq (sSet (sLst (sNil)) 3) (sSeq (sFor (siSeq K (sVar 1)) (sgName 4) (sFor (siSeq K (sOp oAdd (sLc (siR1 (sCons (sVar 2) (sNil))) (sgName 8) (sYes) (sTup (sCons (sVar 8) (sNil))) [8]) (sVar 4))) (sgName 5) (sSeq (sSet (sLst (sCons (sOp (oAddT K) (sVar 5) (sTup (sCons (sVar 2) (sNil)))) (sNil))) 6) (sSeq (sFor (siSeq K (sVar 4)) (sgName 7) (sIfS (sAnd (sTst (sOp (oIn K false) (sOp (oIx K) (sVar 5) (sC (.int 0))) (sVar 7))) (sTst (sOp oGt (sCall1 (nLen K) (sCons (sVar 7) (sNil))) (sCall1 (nLen K) (sCons (sVar 5) (sNil)))))) (sDrop (sMt K "list" mAppend (sVar 6) (sCons (sOp (oAddT K) (sVar 7) (sTup (sCons (sVar 2) (sNil)))) (sNil)))) (sDrop (sMt K "list" mAppend (sVar 6) (sCons (sVar 7) (sNil)))))) (sDrop (sMt K "list" mAppend (sVar 3) (sCons (sVar 6) (sNil)))))))) (sSet (sVar 3) 1)))) (sRet (sVar 1)))
def r_l_half (K : PySem.W.Frag) (a : Ads) : sS := sSeq (sSet (sTup (sCons (sOp (oIx K) (sVar 1) (sC (.int 0))) (sNil))) 2) (sSeq (sFor (siSeq K (sVar 0)) (sgName 3) (sIfS (sAnd (sTst (sOp (oEq K) (sOp (oIx K) (sVar 3) (sC (.int 0))) (sOp (oIx K) (sVar 1) (sC (.int 0))))) (sTst (sChain oLt oLt (sCall1 (nLen K) (sCons (sVar 2) (sNil))) (sCall1 (nLen K) (sCons (sVar 3) (sNil))) (sCall1 (nLen K) (sCons (sVar 1) (sNil)))))) (sSet (sVar 3) 2) (sNext))) (sRet (sVar 2)))
def r_l_victim (K : PySem.W.Frag) (a : Ads) : sS := sSeq (sSet (sRgT (sVar 2)) 3) (sCut (sFor (siR1 (sCons (sVar 2) (sNil))) (sgName 4) (sSeq (sIfS (sTst (sOp (oEq K) (sCall1 (nLen K) (sCons (sVar 3) (sNil))) (sC (.int 1)))) (sBreak) (sNext)) (sSeq (sSet (sCallD (q_l_half K a) [] (sCons (sVar 0) (sCons (sVar 3) (sNil)))) 5) (sSeq (sSet (sOp (oIx K) (sLc (siSeq K (sVar 1)) (sgName 7) (sTst (sOp (oIn K false) (sVar 7) (sVar 3))) (sVar 7) [7]) (sC (.int 0))) 6) (sIfS (sTst (sOp (oIn K false) (sVar 6) (sVar 5))) (sSet (sTuple K (sLc (siSeq K (sVar 3)) (sgName 7) (sTst (sOp (oIn K true) (sVar 7) (sVar 5))) (sVar 7) [7])) 3) (sSet (sVar 5) 3)))))) (sRet (sOp (oIx K) (sVar 3) (sC (.int 0)))))
def r_l_order (K : PySem.W.Frag) (a : Ads) : sS := sSeq (sSet (sRgL (sVar 1)) 2) (sSeq (sSet (sLst (sNil)) 3) (sSeq (sFor (siR1 (sCons (sVar 1) (sNil))) (sgName 4) (sDrop (sMt K "list" mAppend (sVar 3) (sCons (sMt K "list" mPopAt (sVar 2) (sCons (sCallD (q_l_draw K a) [] (sCons (sVar 0) (sCons (sCall1 (nLen K) (sCons (sVar 2) (sNil))) (sNil)))) (sNil))) (sNil))))) (sRet (sVar 3))))
def r_l_by_listing (K : PySem.W.Frag) (a : Ads) : sS := sSeq (sSet (sOp oMul (sLst (sCons (sC (.int 0)) (sNil))) (sVar 1)) 2) (sSeq (sFor (siSeq K (sCallD (q_l_all_trees K a) [] (sCons (sVar 1) (sNil)))) (sgName 3) (sSeq (sSet (sMt K "list" (mIdx K) (sVar 0) (sCons (sCallD (q_l_victim K a) [] (sCons (sVar 3) (sCons (sVar 0) (sCons (sVar 1) (sNil))))) (sNil))) 4) (sAsg (sOp oAdd (sOp (oIx K) (sVar 2) (sVar 4)) (sC (.int 1))) (sgSub (sVar 2) (sVar 4))))) (sRet (sVar 2)))
def r_l_by_depths (K : PySem.W.Frag) (a : Ads) : sS := sSeq (sSet (sLst (sCons (sLst (sCons (sC (.int 1)) (sNil))) (sNil))) 1) (sSeq (sFor (siR2 (sCons (sC (.int 1)) (sCons (sVar 0) (sNil)))) (sgName 2) (sSeq (sSet (sOp oMul (sLst (sCons (sC (.int 0)) (sNil))) (sVar 2)) 3) (sSeq (sSet (sLst (sNil)) 4) (sSeq (sFor (siSeq K (sVar 1)) (sgName 5) (sSeq (sFor (siR1 (sCons (sCall1 (nLen K) (sCons (sVar 5) (sNil))) (sNil))) (sgName 6) (sAsg (sOp oAdd (sOp (oIx K) (sVar 3) (sVar 6)) (sOp (oIx K) (sVar 5) (sVar 6))) (sgSub (sVar 3) (sVar 6)))) (sDrop (sMt K "list" mAppend (sVar 4) (sCons (sLc (siR1 (sCons (sCall1 (nLen K) (sCons (sVar 5) (sNil))) (sNil))) (sgName 6) (sYes) (sOp oMul (sOp (oIx K) (sVar 5) (sVar 6)) (sOp oSub (sOp oSub (sOp oMul (sC (.int 2)) (sVar 2)) (sC (.int 2))) (sVar 6))) [6]) (sNil)))))) (sSeq (sDrop (sMt K "list" mAppend (sVar 4) (sCons (sOp oAdd (sLst (sCons (sC (.int 0)) (sNil))) (sLc (siR1 (sCons (sVar 2) (sNil))) (sgName 6) (sYes) (sCall1 (nSum K) (sCons (sSl K (sVar 3) (sPart (sVar 6)) sNoP) (sNil))) [6])) (sNil)))) (sSet (sVar 4) 1)))))) (sRet (sLc (siSeq K (sVar 1)) (sgName 5) (sYes) (sCall1 (nSum K) (sCons (sVar 5) (sNil))) [5])))
def r_l_same (K : PySem.W.Frag) (a : Ads) : sS := sSeq (sIfS (sOr (sNot (sTru K (sIsi K .list (sVar 0)))) (sTst (sOp (oNe K) (sCall1 (nLen K) (sCons (sVar 0) (sNil))) (sCall1 (nLen K) (sCons (sVar 1) (sNil)))))) (sRet (sC (.bl false))) (sNext)) (sRet (sAndV (sOp (oEq K) (sLc (siSeq K (sVar 0)) (sgName 2) (sNot (sTru K (sCallD (q_l_is_integer K a) [] (sCons (sVar 2) (sNil))))) (sVar 2) [2]) (sLst (sNil))) (sOp (oEq K) (sVar 0) (sVar 1))))
def r_l_holds (K : PySem.W.Frag) (a : Ads) : sS := sSeq (sSet (sC (.int 1)) 2) (sSeq (sFor (siR2 (sCons (sC (.int 2)) (sCons (sOp oAdd (sVar 0) (sC (.int 1))) (sNil)))) (sgName 3) (sSet (sOp oMul (sVar 2) (sOp oSub (sOp oMul (sC (.int 2)) (sVar 3)) (sC (.int 3)))) 2)) (sSeq (sSet (sCallD (q_rank_counts K a) [] (sCons (sVar 0) (sNil))) 4) (sSeq (sIfS (sOr (sNot (sTru K (sCallD (q_l_same K a) [] (sCons (sVar 4) (sCons (sVar 1) (sNil)))))) (sTst (sOp (oNe K) (sCall1 (nSum K) (sCons (sVar 4) (sNil))) (sVar 2)))) (sRet (sC (.bl false))) (sNext)) (sSeq (sAsg (sOp oAdd (sOp (oIx K) (sVar 4) (sC (.int 0))) (sC (.int 1))) (sgSub (sVar 4) (sC (.int 0)))) (sSeq (sDrop (sMt K "list" mAppend (sVar 4) (sCons (sC (.int 0)) (sNil)))) (sSeq (sSet (sCallD (q_tree_total K a) [] (sCons (sVar 0) (sNil))) 5) (sSeq (sIfS (sOr (sNot (sTru K (sCallD (q_l_is_integer K a) [] (sCons (sVar 5) (sNil))))) (sTst (sOp (oNe K) (sVar 5) (sVar 2)))) (sRet (sC (.bl false))) (sNext)) (sRet (sCallD (q_l_same K a) [] (sCons (sCallD (q_rank_counts K a) [] (sCons (sVar 0) (sNil))) (sCons (sVar 1) (sNil))))))))))))
def r_l_refusal (K : PySem.W.Frag) (a : Ads) : sS := sCut (sTryG K (sIfS (sTst (sOp (oEq K) (sVar 0) (sC (.int 0)))) (sDrop (sCallD (q_rank_counts K a) [] (sCons (sVar 1) (sNil)))) (sDrop (sCallD (q_tree_total K a) [] (sCons (sVar 1) (sNil))))) [(.ref a.InvalidNumber, some 2, fun ea cls ed => sRet (sTup (sCons (sC (.int 1)) (sCons (sXf ea cls ed a.InvalidNumber ("number" : Str) (sVar 2)) (sCons (sOrV (sCall1 (nIsY K ea cls ed) (sCons (sVar 2) (sCons (sC (.ref a.InvalidItem)) (sNil)))) (sNotV K (sCall1 (nIsY K ea cls ed) (sCons (sVar 2) (sCons (sC (.ref a.CacheError)) (sNil)))))) (sNil)))))), (.ref a.CacheError, none, fun ea cls ed => sRet (sTup (sCons (sC (.int 2)) (sCons (sC (.int 0)) (sCons (sC (.bl true)) (sNil))))))]) (sRet (sTup (sCons (sC (.int 0)) (sCons (sC (.int 0)) (sCons (sC (.bl true)) (sNil))))))
def r_l_refuses (K : PySem.W.Frag) (a : Ads) : sS := sSeq (sSet (sLst (sCons (sC (.int 0)) (sCons (sC (.int 61)) (sCons (s1Op oNeg (sC (.int 1))) (sCons (sC .non) (sCons (sC (.str ("6" : Str))) (sCons (sOp oAdd (sC (.int 62)) (sCallD (q_l_draw K a) [] (sCons (sVar 0) (sCons (sC (.int 1000)) (sNil))))) (sCons (sOp oSub (s1Op oNeg (sC (.int 1))) (sCallD (q_l_draw K a) [] (sCons (sVar 0) (sCons (sC (.int 1000)) (sNil))))) (sCons (sOp oPow (sC (.int 10)) (sC (.int 30))) (sCons (sLst (sCons (sC (.int 6)) (sNil))) (sCons (sTup (sCons (sC (.int 6)) (sNil))) (sNil)))))))))))) 1) (sSeq (sFor (siR1 (sCons (sC (.int 2)) (sNil))) (sgName 2) (sSeq (sSet (sOp (oIx K) (sVar 1) (sCallD (q_l_draw K a) [] (sCons (sVar 0) (sCons (sC (.int 10)) (sNil))))) 3) (sIfS (sTst (sOp (oNe K) (sCallD (q_l_refusal K a) [] (sCons (sVar 2) (sCons (sVar 3) (sNil)))) (sTup (sCons (sC (.int 1)) (sCons (sVar 3) (sCons (sC (.bl false)) (sNil))))))) (sRet (sC (.bl false))) (sNext)))) (sRet (sC (.bl true))))
def r_law (K : PySem.W.Frag) (a : Ads) : sS := sSeq (sSet (sCallD (q_l_box K a) [] (sCons (sVar 0) (sNil))) 1) (sSeq (sSet (sOp (oIx K) (sLst (sCons (sC (.int 1)) (sCons (sC (.int 2)) (sCons (sC (.int 3)) (sCons (sC (.int 4)) (sCons (sC (.int 5)) (sCons (sC (.int 3)) (sCons (sC (.int 4)) (sCons (sC (.int 5)) (sCons (sC (.int 2)) (sCons (sC (.int 3)) (sCons (sC (.int 4)) (sCons (sC (.int 5)) (sCons (sC (.int 4)) (sCons (sC (.int 5)) (sCons (sC (.int 5)) (sCons (sC (.int 6)) (sNil)))))))))))))))))) (sCallD (q_l_draw K a) [] (sCons (sVar 1) (sCons (sC (.int 16)) (sNil))))) 2) (sSeq (sSet (sCallD (q_l_order K a) [] (sCons (sVar 1) (sCons (sVar 2) (sNil)))) 3) (sSeq (sSet (sCallD (q_l_by_listing K a) [] (sCons (sVar 3) (sCons (sVar 2) (sNil)))) 4) (sSeq (sIfS (sOr (sNot (sTru K (sCallD (q_l_holds K a) [] (sCons (sVar 2) (sCons (sVar 4) (sNil)))))) (sTst (sOp (oNe K) (sVar 4) (sCallD (q_l_by_depths K a) [] (sCons (sVar 2) (sNil)))))) (sRet (sC (.bl false))) (sNext)) (sCut (sIfS (sTst (sOp oGt (sVar 2) (sC (.int 1)))) (sSeq (sSet (sCallD (q_next_victims K a) [] (sCons (sVar 2) (sCons (sLc (siRev K (sVar 3)) (sgName 6) (sYes) (sTup (sCons (sC (.str ("hit" : Str))) (sCons (sVar 6) (sNil)))) [6]) (sNil)))) 5) (sIfS (sNot (sTru K (sCallD (q_l_same K a) [] (sCons (sVar 5) (sCons (sLc (siR1 (sCons (sVar 2) (sNil))) (sgName 6) (sTst (sOp (oNe K) (sVar 6) (sOp (oIx K) (sVar 3) (sC (.int 0))))) (sVar 6) [6]) (sNil)))))) (sRet (sC (.bl false))) (sNext))) (sNext)) (sCut (sIfS (sTst (sOp (oEq K) (sCallD (q_l_draw K a) [] (sCons (sVar 1) (sCons (sC (.int 3)) (sNil)))) (sC (.int 0)))) (sSeq (sSet (sOp oAdd (sC (.int 1)) (sCallD (q_l_draw K a) [] (sCons (sVar 1) (sCons (sC (.int 60)) (sNil))))) 2) (sIfS (sNot (sTru K (sCallD (q_l_holds K a) [] (sCons (sVar 2) (sCons (sCallD (q_l_by_depths K a) [] (sCons (sVar 2) (sNil))) (sNil)))))) (sRet (sC (.bl false))) (sNext))) (sNext)) (sRet (sCallD (q_l_refuses K a) [] (sCons (sVar 1) (sNil))))))))))
section
variable {P : Program} {w : World} {K : PySem.W.Frag} {mg : Str → Option Value} {base : Heap} {a : Ads}
theorem d_is_integer (G : Env P w K mg base a)  {f : Addr} {cdv : Value} {A : Around} {outer : List PySem.Env} {s : Shared} {H : Hp} {E : XK} (hr : Room (l_is_integer - 1) (A.deeper (envOfC "is_integer" (defScope s_is_integer) s.heap.objs.size f cdv))) :
    PSs (cxOf (L2.CX P w) P w K mg base N_is_integer "is_integer" (defScope s_is_integer) f cdv A outer s H E) (defBody s_is_integer) (dS (fun c d _ H => E c d H) (r_is_integer K a)) := by
  have tk : Takes (cxOf (L2.CX P w) P w K mg base N_is_integer "is_integer" (defScope s_is_integer) f cdv A outer s H E) (fun c d _ H => E c d H) := takes_of rfl rfl rfl rfl
  have hp : PassesOwn (model P w) (cxOf (L2.CX P w) P w K mg base N_is_integer "is_integer" (defScope s_is_integer) f cdv A outer s H E).A (cxOf (L2.CX P w) P w K mg base N_is_integer "is_integer" (defScope s_is_integer) f cdv A outer s H E).env (cxOf (L2.CX P w) P w K mg base N_is_integer "is_integer" (defScope s_is_integer) f cdv A outer s H E).xe := passes_of rfl
  exact (hOne (hRet (gAndV (gIsi (by rfl) G.n_isinstance (gv 0) (by decide) (by rfl) G.n_int (by decide +kernel)) (gOneV (gNotV (gIsi (by rfl) G.n_isinstance (gv 0) (by decide) (by rfl) G.n_bool (by decide +kernel)))))))
theorem d_is_place (G : Env P w K mg base a) (T_is_integer : DefC P w K mg base "is_integer" ["value"] l_is_integer [] (p_is_integer K a)) {f : Addr} {cdv : Value} {A : Around} {outer : List PySem.Env} {s : Shared} {H : Hp} {E : XK} (hr : Room (l_is_place - 1) (A.deeper (envOfC "is_place" (defScope s_is_place) s.heap.objs.size f cdv))) :
    PSs (cxOf (L2.CX P w) P w K mg base N_is_place "is_place" (defScope s_is_place) f cdv A outer s H E) (defBody s_is_place) (dS (fun c d _ H => E c d H) (r_is_place K a)) := by
  have tk : Takes (cxOf (L2.CX P w) P w K mg base N_is_place "is_place" (defScope s_is_place) f cdv A outer s H E) (fun c d _ H => E c d H) := takes_of rfl rfl rfl rfl
  have hp : PassesOwn (model P w) (cxOf (L2.CX P w) P w K mg base N_is_place "is_place" (defScope s_is_place) f cdv A outer s H E).A (cxOf (L2.CX P w) P w K mg base N_is_place "is_place" (defScope s_is_place) f cdv A outer s H E).env (cxOf (L2.CX P w) P w K mg base N_is_place "is_place" (defScope s_is_place) f cdv A outer s H E).xe := passes_of rfl
  exact (hOne (hRet (gAndV (gCall1 c_is_integer T_is_integer hr (by decide) (by rfl) tk (gCons (gv 1) gNil)) (gOneV (gChain (OpR.or op_le op_le_str) (OpR.or op_lt op_lt_str) lOrd lOrd gInt (gv 1) (gv 0))))))
theorem d_is_line (G : Env P w K mg base a) (T_is_place : DefC P w K mg base "is_place" ["many", "value"] l_is_place [] (p_is_place K a)) {f : Addr} {cdv : Value} {A : Around} {outer : List PySem.Env} {s : Shared} {H : Hp} {E : XK} (hr : Room (l_is_line - 1) (A.deeper (envOfC "is_line" (defScope s_is_line) s.heap.objs.size f cdv))) :
    PSs (cxOf (L2.CX P w) P w K mg base N_is_line "is_line" (defScope s_is_line) f cdv A outer s H E) (defBody s_is_line) (dS (fun c d _ H => E c d H) (r_is_line K a)) := by
  have tk : Takes (cxOf (L2.CX P w) P w K mg base N_is_line "is_line" (defScope s_is_line) f cdv A outer s H E) (fun c d _ H => E c d H) := takes_of rfl rfl rfl rfl
  have hp : PassesOwn (model P w) (cxOf (L2.CX P w) P w K mg base N_is_line "is_line" (defScope s_is_line) f cdv A outer s H E).A (cxOf (L2.CX P w) P w K mg base N_is_line "is_line" (defScope s_is_line) f cdv A outer s H E).env (cxOf (L2.CX P w) P w K mg base N_is_line "is_line" (defScope s_is_line) f cdv A outer s H E).xe := passes_of rfl
  exact (hCons (hIf (PW.pt (gOr (gTNot (gTru (gIsi (by rfl) G.n_isinstance (gv 1) (by decide) (by rfl) G.n_tuple (by decide +kernel)))) (gOr1 (gTNe hr.units (gB call_len lLen (by rfl) G.n_len (by decide +kernel) (gCons (gv 1) gNil)) gInt)))) (hOne (hRet gBl)) hNil) (hOne (hRet (gAndV (gIn (gIx (gv 1) gInt (by intro _ _; rfl)) (gClV (by rfl) G.t_KINDS) (by rfl)) (gOneV (gCall1 c_is_place T_is_place hr (by decide) (by rfl) tk (gCons (gv 0) (gCons (gIx (gv 1) gInt (by intro _ _; rfl)) gNil))))))))
theorem d_checked_lines (G : Env P w K mg base a) (T_is_line : DefC P w K mg base "is_line" ["many", "value"] l_is_line [] (p_is_line K a)) {f : Addr} {cdv : Value} {A : Around} {outer : List PySem.Env} {s : Shared} {H : Hp} {E : XK} (hr : Room (l_checked_lines - 1) (A.deeper (envOfC "checked_lines" (defScope s_checked_lines) s.heap.objs.size f cdv))) :
    PSs (cxOf (L2.CX P w) P w K mg base N_checked_lines "checked_lines" (defScope s_checked_lines) f cdv A outer s H E) (defBody s_checked_lines) (dS (fun c d _ H => E c d H) (r_checked_lines K a)) := by
  have tk : Takes (cxOf (L2.CX P w) P w K mg base N_checked_lines "checked_lines" (defScope s_checked_lines) f cdv A outer s H E) (fun c d _ H => E c d H) := takes_of rfl rfl rfl rfl
  have hp : PassesOwn (model P w) (cxOf (L2.CX P w) P w K mg base N_checked_lines "checked_lines" (defScope s_checked_lines) f cdv A outer s H E).A (cxOf (L2.CX P w) P w K mg base N_checked_lines "checked_lines" (defScope s_checked_lines) f cdv A outer s H E).env (cxOf (L2.CX P w) P w K mg base N_checked_lines "checked_lines" (defScope s_checked_lines) f cdv A outer s H E).xe := passes_of rfl
  exact (hCons (hIf (gTNot (gTru (gIsi (by rfl) G.n_isinstance (gv 1) (by decide) (by rfl) G.n_list (by decide +kernel)))) (hOne (hRaise (k := 0) rfl tk G.e_InvalidLine (hr.mono (by decide)) (by rfl) (gNeg gInt))) hNil) (hCons (hFor hp rfl (iEn (by rfl) G.n_enumerate (gCons (gv 1) gNil)) (ggTup rfl (ggCons (ggName (i := 2) sc_checked_lines.nd rfl (.inl rfl)) (ggCons (ggName (i := 3) sc_checked_lines.nd rfl (.inl rfl)) ggNil))) (hOne (hIf (gTNot (gTru (gCall1 c_is_line T_is_line hr (by decide) (by rfl) tk (gCons (gv 0) (gCons (gv 3) gNil))))) (hOne (hRaise (k := 0) rfl tk G.e_InvalidLine (hr.mono (by decide)) (by rfl) (gv 2))) hNil))) (hOne (hRet (gTy call_list_of lList (by rfl) G.n_list (by decide +kernel) (gCons (gv 1) gNil))))))
theorem d_checked_number (G : Env P w K mg base a) (T_is_integer : DefC P w K mg base "is_integer" ["value"] l_is_integer [] (p_is_integer K a)) {f : Addr} {cdv : Value} {A : Around} {outer : List PySem.Env} {s : Shared} {H : Hp} {E : XK} (hr : Room (l_checked_number - 1) (A.deeper (envOfC "checked_number" (defScope s_checked_number) s.heap.objs.size f cdv))) :
    PSs (cxOf (L2.CX P w) P w K mg base N_checked_number "checked_number" (defScope s_checked_number) f cdv A outer s H E) (defBody s_checked_number) (dS (fun c d _ H => E c d H) (r_checked_number K a)) := by
  have tk : Takes (cxOf (L2.CX P w) P w K mg base N_checked_number "checked_number" (defScope s_checked_number) f cdv A outer s H E) (fun c d _ H => E c d H) := takes_of rfl rfl rfl rfl
  have hp : PassesOwn (model P w) (cxOf (L2.CX P w) P w K mg base N_checked_number "checked_number" (defScope s_checked_number) f cdv A outer s H E).A (cxOf (L2.CX P w) P w K mg base N_checked_number "checked_number" (defScope s_checked_number) f cdv A outer s H E).env (cxOf (L2.CX P w) P w K mg base N_checked_number "checked_number" (defScope s_checked_number) f cdv A outer s H E).xe := passes_of rfl
  exact (hCons (hIf (PW.pt (gOr (gTNot (gTru (gCall1 c_is_integer T_is_integer hr (by decide) (by rfl) tk (gCons (gv 0) gNil)))) (gOr1 (gTLt (gv 0) (gv 1))))) (hOne (hRaise (k := 0) rfl tk G.e_InvalidNumber (hr.mono (by decide)) (by rfl) (gv 0))) hNil) (hCons (hIf (PW.pt (gAnd (gTNotN (gv 2) gNon) (gAnd1 (gTGt (gv 0) (gv 2))))) (hOne (hRaise (k := 0) rfl tk G.e_InvalidNumber (hr.mono (by decide)) (by rfl) (gv 0))) hNil) (hOne (hRet (gv 0)))))
theorem d_partings (G : Env P w K mg base a)  {f : Addr} {cdv : Value} {A : Around} {outer : List PySem.Env} {s : Shared} {H : Hp} {E : XK} (hr : Room (l_partings - 1) (A.deeper (envOfC "partings" (defScope s_partings) s.heap.objs.size f cdv))) :
    PSs (cxOf (L2.CX P w) P w K mg base N_partings "partings" (defScope s_partings) f cdv A outer s H E) (defBody s_partings) (dS (fun c d _ H => E c d H) (r_partings K a)) := by
  have tk : Takes (cxOf (L2.CX P w) P w K mg base N_partings "partings" (defScope s_partings) f cdv A outer s H E) (fun c d _ H => E c d H) := takes_of rfl rfl rfl rfl
  have hp : PassesOwn (model P w) (cxOf (L2.CX P w) P w K mg base N_partings "partings" (defScope s_partings) f cdv A outer s H E).A (cxOf (L2.CX P w) P w K mg base N_partings "partings" (defScope s_partings) f cdv A outer s H E).env (cxOf (L2.CX P w) P w K mg base N_partings "partings" (defScope s_partings) f cdv A outer s H E).xe := passes_of rfl
  exact (hCons (hSet (i := 1) sc_partings.nd rfl (.inl rfl) (gLst (gCons (gTup (gCons (gTup (gCons (gIx (gv 0) gInt (by intro _ _; rfl)) gNil)) (gCons (gTup gNil) gNil))) gNil))) (hCons (hFor hp rfl (iSeq (gSl (gv 0) (gPart gInt) gNoP)) (ggName (i := 2) sc_partings.nd rfl (.inr rfl)) (hOne (hSet (i := 1) sc_partings.nd rfl (.inl rfl) (gAdd (gLc (own := [("left", 4), ("right", 3)]) rfl sc_partings.nd (iSeq (gv 1)) (blkOk_by (own := [("left", 4), ("right", 3)]) (N := N_partings) (sc := defScope s_partings) (by decide +kernel)) (fun _ _ _ _ _ => (ggTup rfl (ggCons (ggName (i := 4) sc_partings.nd rfl (.inl rfl)) (ggCons (ggName (i := 3) sc_partings.nd rfl (.inl rfl)) ggNil)))) (fun _ _ _ _ _ => gNoIf) (fun _ _ _ _ _ => (gTup (gCons (gAddT (gv 4) (gTup (gCons (gv 2) gNil))) (gCons (gv 3) gNil))))) (gLc (own := [("left", 4), ("right", 3)]) rfl sc_partings.nd (iSeq (gv 1)) (blkOk_by (own := [("left", 4), ("right", 3)]) (N := N_partings) (sc := defScope s_partings) (by decide +kernel)) (fun _ _ _ _ _ => (ggTup rfl (ggCons (ggName (i := 4) sc_partings.nd rfl (.inl rfl)) (ggCons (ggName (i := 3) sc_partings.nd rfl (.inl rfl)) ggNil)))) (fun _ _ _ _ _ => gNoIf) (fun _ _ _ _ _ => (gTup (gCons (gv 4) (gCons (gAddT (gv 3) (gTup (gCons (gv 2) gNil))) gNil))))))))) (hOne (hRet (gLc (own := [("left", 4), ("right", 3)]) rfl sc_partings.nd (iSeq (gv 1)) (blkOk_by (own := [("left", 4), ("right", 3)]) (N := N_partings) (sc := defScope s_partings) (by decide +kernel)) (fun _ _ _ _ _ => (ggTup rfl (ggCons (ggName (i := 4) sc_partings.nd rfl (.inl rfl)) (ggCons (ggName (i := 3) sc_partings.nd rfl (.inl rfl)) ggNil)))) (fun _ _ _ _ _ => (gOneIf (gTGt (gB call_len lLen (by rfl) G.n_len (by decide +kernel) (gCons (gv 3) gNil)) gInt))) (fun _ _ _ _ _ => (gTup (gCons (gv 4) (gCons (gv 3) gNil)))))))))
theorem d_last_side (G : Env P w K mg base a)  {f : Addr} {cdv : Value} {A : Around} {outer : List PySem.Env} {s : Shared} {H : Hp} {E : XK} (hr : Room (l_last_side - 1) (A.deeper (envOfC "last_side" (defScope s_last_side) s.heap.objs.size f cdv))) :
    PSs (cxOf (L2.CX P w) P w K mg base N_last_side "last_side" (defScope s_last_side) f cdv A outer s H E) (defBody s_last_side) (dS (fun c d _ H => E c d H) (r_last_side K a)) := by
  have tk : Takes (cxOf (L2.CX P w) P w K mg base N_last_side "last_side" (defScope s_last_side) f cdv A outer s H E) (fun c d _ H => E c d H) := takes_of rfl rfl rfl rfl
  have hp : PassesOwn (model P w) (cxOf (L2.CX P w) P w K mg base N_last_side "last_side" (defScope s_last_side) f cdv A outer s H E).A (cxOf (L2.CX P w) P w K mg base N_last_side "last_side" (defScope s_last_side) f cdv A outer s H E).env (cxOf (L2.CX P w) P w K mg base N_last_side "last_side" (defScope s_last_side) f cdv A outer s H E).xe := passes_of rfl
  exact (hCons (hSet (i := 3) sc_last_side.nd rfl (.inl rfl) gStr) (hCons (hFor hp rfl (iSeq (gv 0)) (ggTup rfl (ggCons (ggName (i := 4) sc_last_side.nd rfl (.inl rfl)) (ggCons (ggName (i := 5) sc_last_side.nd rfl (.inl rfl)) ggNil))) (hOne (hIf (PW.pt (gOr (gTIn (gv 5) (gv 1) (by rfl)) (gOr1 (gTIn (gv 5) (gv 2) (by rfl))))) (hCons (hSet (i := 6) sc_last_side.nd rfl (.inl rfl) (gIfE (gTIn (gv 5) (gv 1) (by rfl)) gStr gStr)) (hCons (hIf (PW.pt (gAnd (gTEq hr.units (gv 4) gStr) (gAnd1 (gTEq hr.units (gv 6) (gv 3))))) (hOne (hRet gNon)) hNil) (hOne (hSet (i := 3) sc_last_side.nd rfl (.inl rfl) (gv 6))))) hNil))) (hOne (hRet (gv 3)))))
theorem d_victims_over (G : Env P w K mg base a) (T_last_side : DefC P w K mg base "last_side" ["run", "left", "right"] l_last_side [] (p_last_side K a)) (T_partings : DefC P w K mg base "partings" ["members"] l_partings [] (p_partings K a)) {lv n : Nat} (T_self : DefC P w K mg base "victims_over" ["members", "run"] lv [] (p_victims_over K a n)) (hj : l_victims_over ≤ lv) {f : Addr} {cdv : Value} {A : Around} {outer : List PySem.Env} {s : Shared} {H : Hp} {E : XK} (hr : Room (lv) (A.deeper (envOfC "victims_over" (defScope s_victims_over) s.heap.objs.size f cdv))) :
    PSs (cxOf (L2.CX P w) P w K mg base N_victims_over "victims_over" (defScope s_victims_over) f cdv A outer s H E) (defBody s_victims_over) (dS (fun c d _ H => E c d H) (r_victims_over K a n)) := by
  have tk : Takes (cxOf (L2.CX P w) P w K mg base N_victims_over "victims_over" (defScope s_victims_over) f cdv A outer s H E) (fun c d _ H => E c d H) := takes_of rfl rfl rfl rfl
  have hp : PassesOwn (model P w) (cxOf (L2.CX P w) P w K mg base N_victims_over "victims_over" (defScope s_victims_over) f cdv A outer s H E).A (cxOf (L2.CX P w) P w K mg base N_victims_over "victims_over" (defScope s_victims_over) f cdv A outer s H E).env (cxOf (L2.CX P w) P w K mg base N_victims_over "victims_over" (defScope s_victims_over) f cdv A outer s H E).xe := passes_of rfl
  exact (hCons (hIf (gTEq hr.units (gB call_len lLen (by rfl) G.n_len (by decide +kernel) (gCons (gv 0) gNil)) gInt) (hOne (hRet (gTy call_list_of lList (by rfl) G.n_list (by decide +kernel) (gCons (gv 0) gNil)))) hNil) (hCons (hSet (i := 2) sc_victims_over.nd rfl (.inl rfl) gDctK) (hCons (hFor hp rfl (iSeq (gCall1 c_partings T_partings hr (Nat.le_trans (by decide) hj) (by rfl) tk (gCons (gv 0) gNil))) (ggTup rfl (ggCons (ggName (i := 3) sc_victims_over.nd rfl (.inl rfl)) (ggCons (ggName (i := 4) sc_victims_over.nd rfl (.inl rfl)) ggNil))) (hCons (hSet (i := 5) sc_victims_over.nd rfl (.inl rfl) (gCall1 c_last_side T_last_side hr (Nat.le_trans (by decide) hj) (by rfl) tk (gCons (gv 1) (gCons (gv 3) (gCons (gv 4) gNil))))) (hOne (hIf (gTNotN (gv 5) gNon) (hCons (hSet (i := 6) sc_victims_over.nd rfl (.inl rfl) (gCall1 c_victims_over T_self hr (Nat.le_refl _) (by rfl) tk (gCons (gv 3) (gCons (gv 1) gNil)))) (hCons (hSet (i := 7) sc_victims_over.nd rfl (.inl rfl) (gCall1 c_victims_over T_self hr (Nat.le_refl _) (by rfl) tk (gCons (gv 4) (gCons (gv 1) gNil)))) (hOne (hIf (PW.pt (gAnd (gTGt (gB call_len lLen (by rfl) G.n_len (by decide +kernel) (gCons (gv 6) gNil)) gInt) (gAnd1 (gTGt (gB call_len lLen (by rfl) G.n_len (by decide +kernel) (gCons (gv 7) gNil)) gInt)))) (hCons (hFor hp rfl (iSeq (gv 6)) (ggName (i := 8) sc_victims_over.nd rfl (.inl rfl)) (hOne (hIf (gTNe hr.units (gv 5) gStr) (hOne (hDPutK (hu_of hr) (gv 2) (gv 8) gBl)) hNil))) (hOne (hFor hp rfl (iSeq (gv 7)) (ggName (i := 8) sc_victims_over.nd rfl (.inl rfl)) (hOne (hIf (gTNe hr.units (gv 5) gStr) (hOne (hDPutK (hu_of hr) (gv 2) (gv 8) gBl)) hNil))))) hNil)))) hNil)))) (hOne (hRet (gB (call_sortedDI rfl) lSortD (by rfl) G.n_sorted (by decide +kernel) (gCons (gv 2) gNil)))))))
theorem d_tree_total (G : Env P w K mg base a) (T_checked_number : DefC P w K mg base "checked_number" ["number", "least", "most"] l_checked_number [] (p_checked_number K a)) {f : Addr} {cdv : Value} {A : Around} {outer : List PySem.Env} {s : Shared} {H : Hp} {E : XK} (hr : Room (l_tree_total - 1) (A.deeper (envOfC "tree_total" (defScope s_tree_total) s.heap.objs.size f cdv))) :
    PSs (cxOf (L2.CX P w) P w K mg base N_tree_total "tree_total" (defScope s_tree_total) f cdv A outer s H E) (defBody s_tree_total) (dS (fun c d _ H => E c d H) (r_tree_total K a)) := by
  have tk : Takes (cxOf (L2.CX P w) P w K mg base N_tree_total "tree_total" (defScope s_tree_total) f cdv A outer s H E) (fun c d _ H => E c d H) := takes_of rfl rfl rfl rfl
  have hp : PassesOwn (model P w) (cxOf (L2.CX P w) P w K mg base N_tree_total "tree_total" (defScope s_tree_total) f cdv A outer s H E).A (cxOf (L2.CX P w) P w K mg base N_tree_total "tree_total" (defScope s_tree_total) f cdv A outer s H E).env (cxOf (L2.CX P w) P w K mg base N_tree_total "tree_total" (defScope s_tree_total) f cdv A outer s H E).xe := passes_of rfl
  exact (hCons (hExpr (gCall1 c_checked_number T_checked_number hr (by decide) (by rfl) tk (gCons (gv 0) (gCons gInt (gCons (gCnE (by rfl) G.c_MOST_COUNTED) gNil))))) (hCons (hSet (i := 1) sc_tree_total.nd rfl (.inl rfl) gInt) (hCons (hFor hp rfl (iR2 (by rfl) G.n_range (gCons gInt (gCons (gAdd (gv 0) gInt) gNil))) (ggName (i := 2) sc_tree_total.nd rfl (.inl rfl)) (hOne (hSet (i := 1) sc_tree_total.nd rfl (.inl rfl) (gMul (gv 1) (gSub (gMul gInt (gv 2)) gInt))))) (hOne (hRet (gv 1))))))
theorem d_rank_counts (G : Env P w K mg base a) (T_checked_number : DefC P w K mg base "checked_number" ["number", "least", "most"] l_checked_number [] (p_checked_number K a)) {f : Addr} {cdv : Value} {A : Around} {outer : List PySem.Env} {s : Shared} {H : Hp} {E : XK} (hr : Room (l_rank_counts - 1) (A.deeper (envOfC "rank_counts" (defScope s_rank_counts) s.heap.objs.size f cdv))) :
    PSs (cxOf (L2.CX P w) P w K mg base N_rank_counts "rank_counts" (defScope s_rank_counts) f cdv A outer s H E) (defBody s_rank_counts) (dS (fun c d _ H => E c d H) (r_rank_counts K a)) := by
  have tk : Takes (cxOf (L2.CX P w) P w K mg base N_rank_counts "rank_counts" (defScope s_rank_counts) f cdv A outer s H E) (fun c d _ H => E c d H) := takes_of rfl rfl rfl rfl
  have hp : PassesOwn (model P w) (cxOf (L2.CX P w) P w K mg base N_rank_counts "rank_counts" (defScope s_rank_counts) f cdv A outer s H E).A (cxOf (L2.CX P w) P w K mg base N_rank_counts "rank_counts" (defScope s_rank_counts) f cdv A outer s H E).env (cxOf (L2.CX P w) P w K mg base N_rank_counts "rank_counts" (defScope s_rank_counts) f cdv A outer s H E).xe := passes_of rfl
  exact (hCons (hExpr (gCall1 c_checked_number T_checked_number hr (by decide) (by rfl) tk (gCons (gv 0) (gCons gInt (gCons (gCnE (by rfl) G.c_MOST_COUNTED) gNil))))) (hCons (hSet (i := 1) sc_rank_counts.nd rfl (.inr rfl) (gLst (gCons (gLst (gCons gInt gNil)) gNil))) (hCons (hFor hp rfl (iR2 (by rfl) G.n_range (gCons gInt (gCons (gv 0) gNil))) (ggName (i := 2) sc_rank_counts.nd rfl (.inr rfl)) (hCons (hSet (i := 3) sc_rank_counts.nd rfl (.inr rfl) (gLc (own := [("depth", 6)]) rfl sc_rank_counts.nd (iR1 (by rfl) G.n_range (gCons (gv 2) gNil)) (blkOk_by (own := [("depth", 6)]) (N := N_rank_counts) (sc := defScope s_rank_counts) (by decide +kernel)) (fun _ _ _ _ _ => (ggName (i := 6) sc_rank_counts.nd rfl (.inr rfl))) (fun _ _ _ _ _ => gNoIf) (fun _ _ _ _ _ => (gB (cr_sum rfl) lSum (by rfl) G.n_sum (by decide +kernel) (gCons (gLc (own := [("row", 7)]) rfl sc_rank_counts.nd (iSeq (gv 1)) (blkOk_by (by kernel_rfl)) (fun _ _ _ _ _ => (ggName (i := 7) sc_rank_counts.nd rfl (.inl rfl))) (fun _ _ _ _ _ => gNoIf) (fun _ _ _ _ _ => (gIx (gv 7) (gv 6) (by intro _ _; rfl)))) gNil))))) (hCons (hSet (i := 4) sc_rank_counts.nd rfl (.inl rfl) (gAdd (gLst (gCons gInt gNil)) (gLc (own := [("depth", 6)]) rfl sc_rank_counts.nd (iR1 (by rfl) G.n_range (gCons (gv 2) gNil)) (blkOk_by (own := [("depth", 6)]) (N := N_rank_counts) (sc := defScope s_rank_counts) (by decide +kernel)) (fun _ _ _ _ _ => (ggName (i := 6) sc_rank_counts.nd rfl (.inl rfl))) (fun _ _ _ _ _ => gNoIf) (fun _ _ _ _ _ => (gB (cr_sum rfl) lSum (by rfl) G.n_sum (by decide +kernel) (gCons (gSl (gv 3) (gPart (gv 6)) gNoP) gNil)))))) (hCons (hSetLc (i := 5) (own := [("row", 7)]) rfl sc_rank_counts.nd rfl rfl (sw_true rfl rfl rfl (by decide +kernel)) (iSeq (gv 1)) (blkOk_by (own := [("row", 7)]) (N := N_rank_counts) (sc := defScope s_rank_counts) (by decide +kernel)) (fun _ _ _ _ _ => (ggName (i := 7) sc_rank_counts.nd rfl (.inl rfl))) (fun _ _ _ _ _ => gNoIf) (fun _ _ _ _ _ => (gAdd (gLc (own := [("depth", 6), ("number", 8)]) rfl sc_rank_counts.nd (iEn (by rfl) G.n_enumerate (gCons (gv 7) gNil)) (blkOk_by (by kernel_rfl)) (fun _ _ _ _ _ => (ggTup rfl (ggCons (ggName (i := 6) sc_rank_counts.nd rfl (.inl rfl)) (ggCons (ggName (i := 8) sc_rank_counts.nd rfl (.inl rfl)) ggNil)))) (fun _ _ _ _ _ => gNoIf) (fun _ _ _ _ _ => (gMul (gSub (gSub (gMul gInt (gv 2)) gInt) (gv 6)) (gv 8)))) (gLst (gCons gInt gNil))))) (hOne (hSet (i := 1) sc_rank_counts.nd rfl (.inr rfl) (gAdd (gv 5) (gLst (gCons (gv 4) gNil))))))))) (hOne (hRet (gLc (own := [("row", 7)]) rfl sc_rank_counts.nd (iSeq (gv 1)) (blkOk_by (own := [("row", 7)]) (N := N_rank_counts) (sc := defScope s_rank_counts) (by decide +kernel)) (fun _ _ _ _ _ => (ggName (i := 7) sc_rank_counts.nd rfl (.inl rfl))) (fun _ _ _ _ _ => gNoIf) (fun _ _ _ _ _ => (gB (cr_sum rfl) lSum (by rfl) G.n_sum (by decide +kernel) (gCons (gv 7) gNil)))))))))
theorem d_next_victims (G : Env P w K mg base a) (T_checked_lines : DefC P w K mg base "checked_lines" ["many", "run"] l_checked_lines [] (p_checked_lines K a)) (T_checked_number : DefC P w K mg base "checked_number" ["number", "least", "most"] l_checked_number [] (p_checked_number K a)) (T_victims_over : DefC P w K mg base "victims_over" ["members", "run"] (l_victims_over + 6) [] (p_victims_over K a 6)) {f : Addr} {cdv : Value} {A : Around} {outer : List PySem.Env} {s : Shared} {H : Hp} {E : XK} (hr : Room (l_next_victims - 1) (A.deeper (envOfC "next_victims" (defScope s_next_victims) s.heap.objs.size f cdv))) :
    PSs (cxOf (L2.CX P w) P w K mg base N_next_victims "next_victims" (defScope s_next_victims) f cdv A outer s H E) (defBody s_next_victims) (dS (fun c d _ H => E c d H) (r_next_victims K a)) := by
  have tk : Takes (cxOf (L2.CX P w) P w K mg base N_next_victims "next_victims" (defScope s_next_victims) f cdv A outer s H E) (fun c d _ H => E c d H) := takes_of rfl rfl rfl rfl
  have hp : PassesOwn (model P w) (cxOf (L2.CX P w) P w K mg base N_next_victims "next_victims" (defScope s_next_victims) f cdv A outer s H E).A (cxOf (L2.CX P w) P w K mg base N_next_victims "next_victims" (defScope s_next_victims) f cdv A outer s H E).env (cxOf (L2.CX P w) P w K mg base N_next_victims "next_victims" (defScope s_next_victims) f cdv A outer s H E).xe := passes_of rfl
  exact (hCons (hExpr (gCall1 c_checked_number T_checked_number hr (by decide) (by rfl) tk (gCons (gv 0) (gCons gInt (gCons (gCnE (by rfl) G.c_MOST_SLOTS) gNil))))) (hCons (hSet (i := 2) sc_next_victims.nd rfl (.inl rfl) (gCall1 c_checked_lines T_checked_lines hr (by decide) (by rfl) tk (gCons (gv 0) (gCons (gv 1) gNil)))) (hOne (hRet (gCall1 c_victims_over T_victims_over hr (by decide) (by rfl) tk (gCons (gRgT rfl (by rfl) G.n_tuple (by rfl) G.n_range (gv 0)) (gCons (gv 2) gNil)))))))
theorem d_l_is_integer (G : Env P w K mg base a)  {f : Addr} {cdv : Value} {A : Around} {outer : List PySem.Env} {s : Shared} {H : Hp} {E : XK} (hr : Room (l_l_is_integer - 1) (A.deeper (envOfC "_law_is_integer" (defScope s_l_is_integer) s.heap.objs.size f cdv))) :
    PSs (cxOf (L2.CX P w) P w K mg base N_l_is_integer "_law_is_integer" (defScope s_l_is_integer) f cdv A outer s H E) (defBody s_l_is_integer) (dS (fun c d _ H => E c d H) (r_l_is_integer K a)) := by
  have tk : Takes (cxOf (L2.CX P w) P w K mg base N_l_is_integer "_law_is_integer" (defScope s_l_is_integer) f cdv A outer s H E) (fun c d _ H => E c d H) := takes_of rfl rfl rfl rfl
  have hp : PassesOwn (model P w) (cxOf (L2.CX P w) P w K mg base N_l_is_integer "_law_is_integer" (defScope s_l_is_integer) f cdv A outer s H E).A (cxOf (L2.CX P w) P w K mg base N_l_is_integer "_law_is_integer" (defScope s_l_is_integer) f cdv A outer s H E).env (cxOf (L2.CX P w) P w K mg base N_l_is_integer "_law_is_integer" (defScope s_l_is_integer) f cdv A outer s H E).xe := passes_of rfl
  exact (hOne (hRet (gAndV (gIsi (by rfl) G.n_isinstance (gv 0) (by decide) (by rfl) G.n_int (by decide +kernel)) (gOneV (gNotV (gIsi (by rfl) G.n_isinstance (gv 0) (by decide) (by rfl) G.n_bool (by decide +kernel)))))))
theorem d_l_box (G : Env P w K mg base a)  {f : Addr} {cdv : Value} {A : Around} {outer : List PySem.Env} {s : Shared} {H : Hp} {E : XK} (hr : Room (l_l_box - 1) (A.deeper (envOfC "_law_box" (defScope s_l_box) s.heap.objs.size f cdv))) :
    PSs (cxOf (L2.CX P w) P w K mg base N_l_box "_law_box" (defScope s_l_box) f cdv A outer s H E) (defBody s_l_box) (dS (fun c d _ H => E c d H) (r_l_box K a)) := by
  have tk : Takes (cxOf (L2.CX P w) P w K mg base N_l_box "_law_box" (defScope s_l_box) f cdv A outer s H E) (fun c d _ H => E c d H) := takes_of rfl rfl rfl rfl
  have hp : PassesOwn (model P w) (cxOf (L2.CX P w) P w K mg base N_l_box "_law_box" (defScope s_l_box) f cdv A outer s H E).A (cxOf (L2.CX P w) P w K mg base N_l_box "_law_box" (defScope s_l_box) f cdv A outer s H E).env (cxOf (L2.CX P w) P w K mg base N_l_box "_law_box" (defScope s_l_box) f cdv A outer s H E).xe := passes_of rfl
  exact (hCons (hSet (i := 1) sc_l_box.nd rfl (.inl rfl) gInt) (hCut (hIf (PW.pt (gAnd (gTru (gv 0)) (gAnd1 (gTGe (gIx (gv 0) gInt (by intro _ _; rfl)) (gPow gInt gInt))))) (hOne (hSet (i := 1) sc_l_box.nd rfl (.inl rfl) (gIx (gv 0) gInt (by intro _ _; rfl)))) hNil) (hCons (hSet (i := 2) sc_l_box.nd rfl (.inl rfl) gInt) (hCons (hFor hp rfl (iSeq (gSl (gv 0) gNoP (gPart gInt))) (ggName (i := 3) sc_l_box.nd rfl (.inl rfl)) (hOne (hSet (i := 2) sc_l_box.nd rfl (.inl rfl) (gMod (gTy call_int1 lInt (by rfl) G.n_int (by decide +kernel) (gCons (gAdd (gAdd (gMul (gv 2) gInt) (gMul (gv 3) gInt)) gInt) gNil)) gInt)))) (hOne (hRet (gLst (gCons (gv 1) (gCons (gv 2) (gCons (gB call_len lLen (by rfl) G.n_len (by decide +kernel) (gCons (gv 0) gNil)) gNil))))))))))
theorem d_l_draw (G : Env P w K mg base a)  {f : Addr} {cdv : Value} {A : Around} {outer : List PySem.Env} {s : Shared} {H : Hp} {E : XK} (hr : Room (l_l_draw - 1) (A.deeper (envOfC "_law_draw" (defScope s_l_draw) s.heap.objs.size f cdv))) :
    PSs (cxOf (L2.CX P w) P w K mg base N_l_draw "_law_draw" (defScope s_l_draw) f cdv A outer s H E) (defBody s_l_draw) (dS (fun c d _ H => E c d H) (r_l_draw K a)) := by
  have tk : Takes (cxOf (L2.CX P w) P w K mg base N_l_draw "_law_draw" (defScope s_l_draw) f cdv A outer s H E) (fun c d _ H => E c d H) := takes_of rfl rfl rfl rfl
  have hp : PassesOwn (model P w) (cxOf (L2.CX P w) P w K mg base N_l_draw "_law_draw" (defScope s_l_draw) f cdv A outer s H E).A (cxOf (L2.CX P w) P w K mg base N_l_draw "_law_draw" (defScope s_l_draw) f cdv A outer s H E).env (cxOf (L2.CX P w) P w K mg base N_l_draw "_law_draw" (defScope s_l_draw) f cdv A outer s H E).xe := passes_of rfl
  exact (hCons (hIf (gTGt (gIx (gv 0) gInt (by intro _ _; rfl)) gInt) (hCons (hSet (i := 2) sc_l_draw.nd rfl (.inl rfl) (gMod (gTy call_int1 lInt (by rfl) G.n_int (by decide +kernel) (gCons (gIx (gv 0) gInt (by intro _ _; rfl)) gNil)) (gv 1))) (hCons (hAsg (gFdv (gTy call_int1 lInt (by rfl) G.n_int (by decide +kernel) (gCons (gIx (gv 0) gInt (by intro _ _; rfl)) gNil)) (gv 1)) (ggSub (gv 0) gInt)) (hOne (hRet (gv 2))))) hNil) (hCons (hAsg (gAdd (gIx (gv 0) gInt (by intro _ _; rfl)) gInt) (ggSub (gv 0) gInt)) (hCons (hAsg (gMod (gTy call_int1 lInt (by rfl) G.n_int (by decide +kernel) (gCons (gAdd (gAdd (gMul (gIx (gv 0) gInt (by intro _ _; rfl)) gInt) (gMul (gIx (gv 0) gInt (by intro _ _; rfl)) gInt)) gInt) gNil)) gInt) (ggSub (gv 0) gInt)) (hCons (hSet (i := 3) sc_l_draw.nd rfl (.inl rfl) (gMod (gTy call_int1 lInt (by rfl) G.n_int (by decide +kernel) (gCons (gAdd (gAdd (gMul (gIx (gv 0) gInt (by intro _ _; rfl)) (gIx (gv 0) gInt (by intro _ _; rfl))) (gMul (gIx (gv 0) gInt (by intro _ _; rfl)) gInt)) (gIx (gv 0) gInt (by intro _ _; rfl))) gNil)) gInt)) (hOne (hRet (gMod (gTy call_int1 lInt (by rfl) G.n_int (by decide +kernel) (gCons (gFdv (gv 3) gInt) gNil)) (gv 1))))))))
theorem d_l_all_trees (G : Env P w K mg base a)  {f : Addr} {cdv : Value} {A : Around} {outer : List PySem.Env} {s : Shared} {H : Hp} {E : XK} (hr : Room (l_l_all_trees - 1) (A.deeper (envOfC "_law_all_trees" (defScope s_l_all_trees) s.heap.objs.size f cdv))) :
    PSs (cxOf (L2.CX P w) P w K mg base N_l_all_trees "_law_all_trees" (defScope s_l_all_trees) f cdv A outer s H E) (defBody s_l_all_trees) (dS (fun c d _ H => E c d H) (r_l_all_trees K a)) := by
  have tk : Takes (cxOf (L2.CX P w) P w K mg base N_l_all_trees "_law_all_trees" (defScope s_l_all_trees) f cdv A outer s H E) (fun c d _ H => E c d H) := takes_of rfl rfl rfl rfl
  have hp : PassesOwn (model P w) (cxOf (L2.CX P w) P w K mg base N_l_all_trees "_law_all_trees" (defScope s_l_all_trees) f cdv A outer s H E).A (cxOf (L2.CX P w) P w K mg base N_l_all_trees "_law_all_trees" (defScope s_l_all_trees) f cdv A outer s H E).env (cxOf (L2.CX P w) P w K mg base N_l_all_trees "_law_all_trees" (defScope s_l_all_trees) f cdv A outer s H E).xe := passes_of rfl
  exact (hCons (hSet (i := 1) sc_l_all_trees.nd rfl (.inl rfl) (gLst (gCons (gLst gNil) gNil))) (hCons (hFor hp rfl (iR2 (by rfl) G.n_range (gCons gInt (gCons (gv 0) gNil))) (ggName (i := 2) sc_l_all_trees.nd rfl (.inl rfl)) (hCons (hSet (i := 3) sc_l_all_trees.nd rfl (.inl rfl) (gLst gNil)) (hCons (hFor hp rfl (iSeq (gv 1)) (ggName (i := 4) sc_l_all_trees.nd rfl (.inl rfl)) (hOne (hFor hp rfl (iSeq (gAdd (gLc (own := [("_law_one", 8)]) rfl sc_l_all_trees.nd (iR1 (by rfl) G.n_range (gCons (gv 2) gNil)) (blkOk_by (own := [("_law_one", 8)]) (N := N_l_all_trees) (sc := defScope s_l_all_trees) (by decide +kernel)) (fun _ _ _ _ _ => (ggName (i := 8) sc_l_all_trees.nd rfl (.inl rfl))) (fun _ _ _ _ _ => gNoIf) (fun _ _ _ _ _ => (gTup (gCons (gv 8) gNil)))) (gv 4))) (ggName (i := 5) sc_l_all_trees.nd rfl (.inl rfl)) (hCons (hSet (i := 6) sc_l_all_trees.nd rfl (.inl rfl) (gLst (gCons (gAddT (gv 5) (gTup (gCons (gv 2) gNil))) gNil))) (hCons (hFor hp rfl (iSeq (gv 4)) (ggName (i := 7) sc_l_all_trees.nd rfl (.inl rfl)) (hOne (hIf (PW.pt (gAnd (gTIn (gIx (gv 5) gInt (by intro _ _; rfl)) (gv 7) (by rfl)) (gAnd1 (gTGt (gB call_len lLen (by rfl) G.n_len (by decide +kernel) (gCons (gv 7) gNil)) (gB call_len lLen (by rfl) G.n_len (by decide +kernel) (gCons (gv 5) gNil)))))) (hOne (hExpr (gM PySem.F.plainAttrs_list PySem.F.slot_list_append PySem.F.type_list_append mt_append lAppend (gv 6) (gCons (gAddT (gv 7) (gTup (gCons (gv 2) gNil))) gNil)))) (hOne (hExpr (gM PySem.F.plainAttrs_list PySem.F.slot_list_append PySem.F.type_list_append mt_append lAppend (gv 6) (gCons (gv 7) gNil))))))) (hOne (hExpr (gM PySem.F.plainAttrs_list PySem.F.slot_list_append PySem.F.type_list_append mt_append lAppend (gv 3) (gCons (gv 6) gNil))))))))) (hOne (hSet (i := 1) sc_l_all_trees.nd rfl (.inl rfl) (gv 3)))))) (hOne (hRet (gv 1)))))
theorem d_l_half (G : Env P w K mg base a)  {f : Addr} {cdv : Value} {A : Around} {outer : List PySem.Env} {s : Shared} {H : Hp} {E : XK} (hr : Room (l_l_half - 1) (A.deeper (envOfC "_law_half" (defScope s_l_half) s.heap.objs.size f cdv))) :
    PSs (cxOf (L2.CX P w) P w K mg base N_l_half "_law_half" (defScope s_l_half) f cdv A outer s H E) (defBody s_l_half) (dS (fun c d _ H => E c d H) (r_l_half K a)) := by
  have tk : Takes (cxOf (L2.CX P w) P w K mg base N_l_half "_law_half" (defScope s_l_half) f cdv A outer s H E) (fun c d _ H => E c d H) := takes_of rfl rfl rfl rfl
  have hp : PassesOwn (model P w) (cxOf (L2.CX P w) P w K mg base N_l_half "_law_half" (defScope s_l_half) f cdv A outer s H E).A (cxOf (L2.CX P w) P w K mg base N_l_half "_law_half" (defScope s_l_half) f cdv A outer s H E).env (cxOf (L2.CX P w) P w K mg base N_l_half "_law_half" (defScope s_l_half) f cdv A outer s H E).xe := passes_of rfl
  exact (hCons (hSet (i := 2) sc_l_half.nd rfl (.inl rfl) (gTup (gCons (gIx (gv 1) gInt (by intro _ _; rfl)) gNil))) (hCons (hFor hp rfl (iSeq (gv 0)) (ggName (i := 3) sc_l_half.nd rfl (.inl rfl)) (hOne (hIf (PW.pt (gAnd (gTEq hr.units (gIx (gv 3) gInt (by intro _ _; rfl)) (gIx (gv 1) gInt (by intro _ _; rfl))) (gAnd1 (gTchain (OpR.or op_lt op_lt_str) (OpR.or op_lt op_lt_str) lOrd lOrd (gB call_len lLen (by rfl) G.n_len (by decide +kernel) (gCons (gv 2) gNil)) (gB call_len lLen (by rfl) G.n_len (by decide +kernel) (gCons (gv 3) gNil)) (gB call_len lLen (by rfl) G.n_len (by decide +kernel) (gCons (gv 1) gNil)))))) (hOne (hSet (i := 2) sc_l_half.nd rfl (.inl rfl) (gv 3))) hNil))) (hOne (hRet (gv 2)))))
theorem d_l_victim (G : Env P w K mg base a) (T_l_half : DefC P w K mg base "_law_half" ["_law_groups", "_law_node"] l_l_half [] (p_l_half K a)) {f : Addr} {cdv : Value} {A : Around} {outer : List PySem.Env} {s : Shared} {H : Hp} {E : XK} (hr : Room (l_l_victim - 1) (A.deeper (envOfC "_law_victim" (defScope s_l_victim) s.heap.objs.size f cdv))) :
    PSs (cxOf (L2.CX P w) P w K mg base N_l_victim "_law_victim" (defScope s_l_victim) f cdv A outer s H E) (defBody s_l_victim) (dS (fun c d _ H => E c d H) (r_l_victim K a)) := by
  have tk : Takes (cxOf (L2.CX P w) P w K mg base N_l_victim "_law_victim" (defScope s_l_victim) f cdv A outer s H E) (fun c d _ H => E c d H) := takes_of rfl rfl rfl rfl
  have hp : PassesOwn (model P w) (cxOf (L2.CX P w) P w K mg base N_l_victim "_law_victim" (defScope s_l_victim) f cdv A outer s H E).A (cxOf (L2.CX P w) P w K mg base N_l_victim "_law_victim" (defScope s_l_victim) f cdv A outer s H E).env (cxOf (L2.CX P w) P w K mg base N_l_victim "_law_victim" (defScope s_l_victim) f cdv A outer s H E).xe := passes_of rfl
  exact (hCons (hSet (i := 3) sc_l_victim.nd rfl (.inr rfl) (gRgT rfl (by rfl) G.n_tuple (by rfl) G.n_range (gv 2))) (hCut (hFor hp rfl (iR1 (by rfl) G.n_range (gCons (gv 2) gNil)) (ggName (i := 4) sc_l_victim.nd rfl (.inl rfl)) (hCons (hIf (gTEq hr.units (gB call_len lLen (by rfl) G.n_len (by decide +kernel) (gCons (gv 3) gNil)) gInt) (hOne hBreak) hNil) (hCons (hSet (i := 5) sc_l_victim.nd rfl (.inr rfl) (gCall1 c_l_half T_l_half hr (by decide) (by rfl) tk (gCons (gv 0) (gCons (gv 3) gNil)))) (hCons (hSet (i := 6) sc_l_victim.nd rfl (.inl rfl) (gIx (gLc (own := [("_law_slot", 7)]) rfl sc_l_victim.nd (iSeq (gv 1)) (blkOk_by (own := [("_law_slot", 7)]) (N := N_l_victim) (sc := defScope s_l_victim) (by decide +kernel)) (fun _ _ _ _ _ => (ggName (i := 7) sc_l_victim.nd rfl (.inl rfl))) (fun _ _ _ _ _ => (gOneIf (gTIn (gv 7) (gv 3) (by rfl)))) (fun _ _ _ _ _ => (gv 7))) gInt (by intro _ _; rfl))) (hOne (hIf (gTIn (gv 6) (gv 5) (by rfl)) (hOne (hSet (i := 3) sc_l_victim.nd rfl (.inr rfl) (gTuple (by rfl) G.n_tuple (gLc (own := [("_law_slot", 7)]) rfl sc_l_victim.nd (iSeq (gv 3)) (blkOk_by (own := [("_law_slot", 7)]) (N := N_l_victim) (sc := defScope s_l_victim) (by decide +kernel)) (fun _ _ _ _ _ => (ggName (i := 7) sc_l_victim.nd rfl (.inl rfl))) (fun _ _ _ _ _ => (gOneIf (gTNotIn (gv 7) (gv 5) (by rfl)))) (fun _ _ _ _ _ => (gv 7)))))) (hOne (hSet (i := 3) sc_l_victim.nd rfl (.inr rfl) (gv 5))))))))) (hOne (hRet (gIx (gv 3) gInt (by intro _ _; rfl))))))
theorem d_l_order (G : Env P w K mg base a) (T_l_draw : DefC P w K mg base "_law_draw" ["_law_box_here", "_law_many"] l_l_draw [] (p_l_draw K a)) {f : Addr} {cdv : Value} {A : Around} {outer : List PySem.Env} {s : Shared} {H : Hp} {E : XK} (hr : Room (l_l_order - 1) (A.deeper (envOfC "_law_order" (defScope s_l_order) s.heap.objs.size f cdv))) :
    PSs (cxOf (L2.CX P w) P w K mg base N_l_order "_law_order" (defScope s_l_order) f cdv A outer s H E) (defBody s_l_order) (dS (fun c d _ H => E c d H) (r_l_order K a)) := by
  have tk : Takes (cxOf (L2.CX P w) P w K mg base N_l_order "_law_order" (defScope s_l_order) f cdv A outer s H E) (fun c d _ H => E c d H) := takes_of rfl rfl rfl rfl
  have hp : PassesOwn (model P w) (cxOf (L2.CX P w) P w K mg base N_l_order "_law_order" (defScope s_l_order) f cdv A outer s H E).A (cxOf (L2.CX P w) P w K mg base N_l_order "_law_order" (defScope s_l_order) f cdv A outer s H E).env (cxOf (L2.CX P w) P w K mg base N_l_order "_law_order" (defScope s_l_order) f cdv A outer s H E).xe := passes_of rfl
  exact (hCons (hSet (i := 2) sc_l_order.nd rfl (.inl rfl) (gRgL rfl (by rfl) G.n_list (by rfl) G.n_range (gv 1))) (hCons (hSet (i := 3) sc_l_order.nd rfl (.inl rfl) (gLst gNil)) (hCons (hFor hp rfl (iR1 (by rfl) G.n_range (gCons (gv 1) gNil)) (ggName (i := 4) sc_l_order.nd rfl (.inl rfl)) (hOne (hExpr (gM PySem.F.plainAttrs_list PySem.F.slot_list_append PySem.F.type_list_append mt_append lAppend (gv 3) (gCons (gM PySem.F.plainAttrs_list PySem.F.slot_list_pop PySem.F.type_list_pop mt_popAt lPopAt (gv 2) (gCons (gCall1 c_l_draw T_l_draw hr (by decide) (by rfl) tk (gCons (gv 0) (gCons (gB call_len lLen (by rfl) G.n_len (by decide +kernel) (gCons (gv 2) gNil)) gNil))) gNil)) gNil))))) (hOne (hRet (gv 3))))))
theorem d_l_by_listing (G : Env P w K mg base a) (T_l_all_trees : DefC P w K mg base "_law_all_trees" ["_law_many"] l_l_all_trees [] (p_l_all_trees K a)) (T_l_victim : DefC P w K mg base "_law_victim" ["_law_groups", "_law_order_here", "_law_many"] l_l_victim [] (p_l_victim K a)) {f : Addr} {cdv : Value} {A : Around} {outer : List PySem.Env} {s : Shared} {H : Hp} {E : XK} (hr : Room (l_l_by_listing - 1) (A.deeper (envOfC "_law_by_listing" (defScope s_l_by_listing) s.heap.objs.size f cdv))) :
    PSs (cxOf (L2.CX P w) P w K mg base N_l_by_listing "_law_by_listing" (defScope s_l_by_listing) f cdv A outer s H E) (defBody s_l_by_listing) (dS (fun c d _ H => E c d H) (r_l_by_listing K a)) := by
  have tk : Takes (cxOf (L2.CX P w) P w K mg base N_l_by_listing "_law_by_listing" (defScope s_l_by_listing) f cdv A outer s H E) (fun c d _ H => E c d H) := takes_of rfl rfl rfl rfl
  have hp : PassesOwn (model P w) (cxOf (L2.CX P w) P w K mg base N_l_by_listing "_law_by_listing" (defScope s_l_by_listing) f cdv A outer s H E).A (cxOf (L2.CX P w) P w K mg base N_l_by_listing "_law_by_listing" (defScope s_l_by_listing) f cdv A outer s H E).env (cxOf (L2.CX P w) P w K mg base N_l_by_listing "_law_by_listing" (defScope s_l_by_listing) f cdv A outer s H E).xe := passes_of rfl
  exact (hCons (hSet (i := 2) sc_l_by_listing.nd rfl (.inl rfl) (gMul (gLst (gCons gInt gNil)) (gv 1))) (hCons (hFor hp rfl (iSeq (gCall1 c_l_all_trees T_l_all_trees hr (by decide) (by rfl) tk (gCons (gv 1) gNil))) (ggName (i := 3) sc_l_by_listing.nd rfl (.inl rfl)) (hCons (hSet (i := 4) sc_l_by_listing.nd rfl (.inl rfl) (gM PySem.F.plainAttrs_list PySem.F.slot_list_index PySem.F.type_list_index mt_index lIdx (gv 0) (gCons (gCall1 c_l_victim T_l_victim hr (by decide) (by rfl) tk (gCons (gv 3) (gCons (gv 0) (gCons (gv 1) gNil)))) gNil))) (hOne (hAsg (gAdd (gIx (gv 2) (gv 4) (by intro _ _; rfl)) gInt) (ggSub (gv 2) (gv 4)))))) (hOne (hRet (gv 2)))))
theorem d_l_by_depths (G : Env P w K mg base a)  {f : Addr} {cdv : Value} {A : Around} {outer : List PySem.Env} {s : Shared} {H : Hp} {E : XK} (hr : Room (l_l_by_depths - 1) (A.deeper (envOfC "_law_by_depths" (defScope s_l_by_depths) s.heap.objs.size f cdv))) :
    PSs (cxOf (L2.CX P w) P w K mg base N_l_by_depths "_law_by_depths" (defScope s_l_by_depths) f cdv A outer s H E) (defBody s_l_by_depths) (dS (fun c d _ H => E c d H) (r_l_by_depths K a)) := by
  have tk : Takes (cxOf (L2.CX P w) P w K mg base N_l_by_depths "_law_by_depths" (defScope s_l_by_depths) f cdv A outer s H E) (fun c d _ H => E c d H) := takes_of rfl rfl rfl rfl
  have hp : PassesOwn (model P w) (cxOf (L2.CX P w) P w K mg base N_l_by_depths "_law_by_depths" (defScope s_l_by_depths) f cdv A outer s H E).A (cxOf (L2.CX P w) P w K mg base N_l_by_depths "_law_by_depths" (defScope s_l_by_depths) f cdv A outer s H E).env (cxOf (L2.CX P w) P w K mg base N_l_by_depths "_law_by_depths" (defScope s_l_by_depths) f cdv A outer s H E).xe := passes_of rfl
  exact (hCons (hSet (i := 1) sc_l_by_depths.nd rfl (.inl rfl) (gLst (gCons (gLst (gCons gInt gNil)) gNil))) (hCons (hFor hp rfl (iR2 (by rfl) G.n_range (gCons gInt (gCons (gv 0) gNil))) (ggName (i := 2) sc_l_by_depths.nd rfl (.inr rfl)) (hCons (hSet (i := 3) sc_l_by_depths.nd rfl (.inr rfl) (gMul (gLst (gCons gInt gNil)) (gv 2))) (hCons (hSet (i := 4) sc_l_by_depths.nd rfl (.inl rfl) (gLst gNil)) (hCons (hFor hp rfl (iSeq (gv 1)) (ggName (i := 5) sc_l_by_depths.nd rfl (.inr rfl)) (hCons (hFor hp rfl (iR1 (by rfl) G.n_range (gCons (gB call_len lLen (by rfl) G.n_len (by decide +kernel) (gCons (gv 5) gNil)) gNil)) (ggName (i := 6) sc_l_by_depths.nd rfl (.inl rfl)) (hOne (hAsg (gAdd (gIx (gv 3) (gv 6) (by intro _ _; rfl)) (gIx (gv 5) (gv 6) (by intro _ _; rfl))) (ggSub (gv 3) (gv 6))))) (hOne (hExpr (gM PySem.F.plainAttrs_list PySem.F.slot_list_append PySem.F.type_list_append mt_append lAppend (gv 4) (gCons (gLc (own := [("_law_depth", 6)]) rfl sc_l_by_depths.nd (iR1 (by rfl) G.n_range (gCons (gB call_len lLen (by rfl) G.n_len (by decide +kernel) (gCons (gv 5) gNil)) gNil)) (blkOk_by (own := [("_law_depth", 6)]) (N := N_l_by_depths) (sc := defScope s_l_by_depths) (by decide +kernel)) (fun _ _ _ _ _ => (ggName (i := 6) sc_l_by_depths.nd rfl (.inl rfl))) (fun _ _ _ _ _ => gNoIf) (fun _ _ _ _ _ => (gMul (gIx (gv 5) (gv 6) (by intro _ _; rfl)) (gSub (gSub (gMul gInt (gv 2)) gInt) (gv 6))))) gNil)))))) (hCons (hExpr (gM PySem.F.plainAttrs_list PySem.F.slot_list_append PySem.F.type_list_append mt_append lAppend (gv 4) (gCons (gAdd (gLst (gCons gInt gNil)) (gLc (own := [("_law_depth", 6)]) rfl sc_l_by_depths.nd (iR1 (by rfl) G.n_range (gCons (gv 2) gNil)) (blkOk_by (own := [("_law_depth", 6)]) (N := N_l_by_depths) (sc := defScope s_l_by_depths) (by decide +kernel)) (fun _ _ _ _ _ => (ggName (i := 6) sc_l_by_depths.nd rfl (.inl rfl))) (fun _ _ _ _ _ => gNoIf) (fun _ _ _ _ _ => (gB (cr_sum rfl) lSum (by rfl) G.n_sum (by decide +kernel) (gCons (gSl (gv 3) (gPart (gv 6)) gNoP) gNil))))) gNil))) (hOne (hSet (i := 1) sc_l_by_depths.nd rfl (.inl rfl) (gv 4)))))))) (hOne (hRet (gLc (own := [("_law_row", 5)]) rfl sc_l_by_depths.nd (iSeq (gv 1)) (blkOk_by (own := [("_law_row", 5)]) (N := N_l_by_depths) (sc := defScope s_l_by_depths) (by decide +kernel)) (fun _ _ _ _ _ => (ggName (i := 5) sc_l_by_depths.nd rfl (.inl rfl))) (fun _ _ _ _ _ => gNoIf) (fun _ _ _ _ _ => (gB (cr_sum rfl) lSum (by rfl) G.n_sum (by decide +kernel) (gCons (gv 5) gNil))))))))
theorem d_l_same (G : Env P w K mg base a) (T_l_is_integer : DefC P w K mg base "_law_is_integer" ["_law_value"] l_l_is_integer [] (p_l_is_integer K a)) {f : Addr} {cdv : Value} {A : Around} {outer : List PySem.Env} {s : Shared} {H : Hp} {E : XK} (hr : Room (l_l_same - 1) (A.deeper (envOfC "_law_same" (defScope s_l_same) s.heap.objs.size f cdv))) :
    PSs (cxOf (L2.CX P w) P w K mg base N_l_same "_law_same" (defScope s_l_same) f cdv A outer s H E) (defBody s_l_same) (dS (fun c d _ H => E c d H) (r_l_same K a)) := by
  have tk : Takes (cxOf (L2.CX P w) P w K mg base N_l_same "_law_same" (defScope s_l_same) f cdv A outer s H E) (fun c d _ H => E c d H) := takes_of rfl rfl rfl rfl
  have hp : PassesOwn (model P w) (cxOf (L2.CX P w) P w K mg base N_l_same "_law_same" (defScope s_l_same) f cdv A outer s H E).A (cxOf (L2.CX P w) P w K mg base N_l_same "_law_same" (defScope s_l_same) f cdv A outer s H E).env (cxOf (L2.CX P w) P w K mg base N_l_same "_law_same" (defScope s_l_same) f cdv A outer s H E).xe := passes_of rfl
  exact (hCons (hIf (PW.pt (gOr (gTNot (gTru (gIsi (by rfl) G.n_isinstance (gv 0) (by decide) (by rfl) G.n_list (by decide +kernel)))) (gOr1 (gTNe hr.units (gB call_len lLen (by rfl) G.n_len (by decide +kernel) (gCons (gv 0) gNil)) (gB call_len lLen (by rfl) G.n_len (by decide +kernel) (gCons (gv 1) gNil)))))) (hOne (hRet gBl)) hNil) (hOne (hRet (gAndV (gEq hr.units (gLc (own := [("_law_one", 2)]) rfl sc_l_same.nd (iSeq (gv 0)) (blkOk_by (own := [("_law_one", 2)]) (N := N_l_same) (sc := defScope s_l_same) (by decide +kernel)) (fun _ _ _ _ _ => (ggName (i := 2) sc_l_same.nd rfl (.inl rfl))) (fun _ _ _ _ _ => (gOneIf (gTNot (gTru (gCall1 c_l_is_integer T_l_is_integer hr (by decide) (by rfl) takes0 (gCons (gv 2) gNil)))))) (fun _ _ _ _ _ => (gv 2))) (gLst gNil)) (gOneV (gEq hr.units (gv 0) (gv 1)))))))
theorem d_l_holds (G : Env P w K mg base a) (T_l_is_integer : DefC P w K mg base "_law_is_integer" ["_law_value"] l_l_is_integer [] (p_l_is_integer K a)) (T_l_same : DefC P w K mg base "_law_same" ["_law_answer", "_law_due"] l_l_same [] (p_l_same K a)) (T_rank_counts : DefC P w K mg base "rank_counts" ["slots"] l_rank_counts [] (p_rank_counts K a)) (T_tree_total : DefC P w K mg base "tree_total" ["slots"] l_tree_total [] (p_tree_total K a)) {f : Addr} {cdv : Value} {A : Around} {outer : List PySem.Env} {s : Shared} {H : Hp} {E : XK} (hr : Room (l_l_holds - 1) (A.deeper (envOfC "_law_holds" (defScope s_l_holds) s.heap.objs.size f cdv))) :
    PSs (cxOf (L2.CX P w) P w K mg base N_l_holds "_law_holds" (defScope s_l_holds) f cdv A outer s H E) (defBody s_l_holds) (dS (fun c d _ H => E c d H) (r_l_holds K a)) := by
  have tk : Takes (cxOf (L2.CX P w) P w K mg base N_l_holds "_law_holds" (defScope s_l_holds) f cdv A outer s H E) (fun c d _ H => E c d H) := takes_of rfl rfl rfl rfl
  have hp : PassesOwn (model P w) (cxOf (L2.CX P w) P w K mg base N_l_holds "_law_holds" (defScope s_l_holds) f cdv A outer s H E).A (cxOf (L2.CX P w) P w K mg base N_l_holds "_law_holds" (defScope s_l_holds) f cdv A outer s H E).env (cxOf (L2.CX P w) P w K mg base N_l_holds "_law_holds" (defScope s_l_holds) f cdv A outer s H E).xe := passes_of rfl
  exact (hCons (hSet (i := 2) sc_l_holds.nd rfl (.inl rfl) gInt) (hCons (hFor hp rfl (iR2 (by rfl) G.n_range (gCons gInt (gCons (gAdd (gv 0) gInt) gNil))) (ggName (i := 3) sc_l_holds.nd rfl (.inl rfl)) (hOne (hSet (i := 2) sc_l_holds.nd rfl (.inl rfl) (gMul (gv 2) (gSub (gMul gInt (gv 3)) gInt))))) (hCons (hSet (i := 4) sc_l_holds.nd rfl (.inl rfl) (gCall1 c_rank_counts T_rank_counts hr (by decide) (by rfl) tk (gCons (gv 0) gNil))) (hCons (hIf (PW.pt (gOr (gTNot (gTru (gCall1 c_l_same T_l_same hr (by decide) (by rfl) tk (gCons (gv 4) (gCons (gv 1) gNil))))) (gOr1 (gTNe hr.units (gB (cr_sum rfl) lSum (by rfl) G.n_sum (by decide +kernel) (gCons (gv 4) gNil)) (gv 2))))) (hOne (hRet gBl)) hNil) (hCons (hAsg (gAdd (gIx (gv 4) gInt (by intro _ _; rfl)) gInt) (ggSub (gv 4) gInt)) (hCons (hExpr (gM PySem.F.plainAttrs_list PySem.F.slot_list_append PySem.F.type_list_append mt_append lAppend (gv 4) (gCons gInt gNil))) (hCons (hSet (i := 5) sc_l_holds.nd rfl (.inl rfl) (gCall1 c_tree_total T_tree_total hr (by decide) (by rfl) tk (gCons (gv 0) gNil))) (hCons (hIf (PW.pt (gOr (gTNot (gTru (gCall1 c_l_is_integer T_l_is_integer hr (by decide) (by rfl) tk (gCons (gv 5) gNil)))) (gOr1 (gTNe hr.units (gv 5) (gv 2))))) (hOne (hRet gBl)) hNil) (hOne (hRet (gCall1 c_l_same T_l_same hr (by decide) (by rfl) tk (gCons (gCall1 c_rank_counts T_rank_counts hr (by decide) (by rfl) tk (gCons (gv 0) gNil)) (gCons (gv 1) gNil)))))))))))))
theorem d_l_refusal (G : Env P w K mg base a) (T_rank_counts : DefC P w K mg base "rank_counts" ["slots"] l_rank_counts [] (p_rank_counts K a)) (T_tree_total : DefC P w K mg base "tree_total" ["slots"] l_tree_total [] (p_tree_total K a)) {f : Addr} {cdv : Value} {A : Around} {outer : List PySem.Env} {s : Shared} {H : Hp} {E : XK} (hr : Room (l_l_refusal - 1) (A.deeper (envOfC "_law_refusal" (defScope s_l_refusal) s.heap.objs.size f cdv))) :
    PSs (cxOf (L2.CX P w) P w K mg base N_l_refusal "_law_refusal" (defScope s_l_refusal) f cdv A outer s H E) (defBody s_l_refusal) (dS (fun c d _ H => E c d H) (r_l_refusal K a)) := by
  have tk : Takes (cxOf (L2.CX P w) P w K mg base N_l_refusal "_law_refusal" (defScope s_l_refusal) f cdv A outer s H E) (fun c d _ H => E c d H) := takes_of rfl rfl rfl rfl
  have hp : PassesOwn (model P w) (cxOf (L2.CX P w) P w K mg base N_l_refusal "_law_refusal" (defScope s_l_refusal) f cdv A outer s H E).A (cxOf (L2.CX P w) P w K mg base N_l_refusal "_law_refusal" (defScope s_l_refusal) f cdv A outer s H E).env (cxOf (L2.CX P w) P w K mg base N_l_refusal "_law_refusal" (defScope s_l_refusal) f cdv A outer s H E).xe := passes_of rfl
  exact (hCut (hTryG rfl rfl sc_l_refusal.nd tk (fun W1 pn xe tk1 hp1 => (hOne (hIf (gTEq hr.units (gv 0) gInt) (hOne (hExpr (gCall1 c_rank_counts T_rank_counts hr (by decide) (by rfl) tk1 (gCons (gv 1) gNil)))) (hOne (hExpr (gCall1 c_tree_total T_tree_total hr (by decide) (by rfl) tk1 (gCons (gv 1) gNil))))))) (.as ⟨by rfl, by decide, .inl G.g_InvalidNumber⟩ rfl rfl (fun ea oe cls ed pn hz hf => (hOne (hRet (gTup (gCons gInt (gCons (gXf G.e_InvalidNumber.xf G.e_InvalidNumber.no hz hf (gv 2)) (gCons (gOrV (gIsY hz hf (by rfl) G.n_isinstance (gCons (gv 2) (gCons (gClV (by rfl) G.g_InvalidItem) gNil))) (gOneV (gNotV (gIsY hz hf (by rfl) G.n_isinstance (gCons (gv 2) (gCons (gClV (by rfl) G.g_CacheError) gNil)))))) gNil))))))) (.no ⟨by rfl, by decide, .inl G.g_CacheError⟩ (fun ea oe cls ed pn hz hf => (hOne (hRet (gTup (gCons gInt (gCons gInt (gCons gBl gNil))))))) .nil))) (hOne (hRet (gTup (gCons gInt (gCons gInt (gCons gBl gNil)))))))
theorem d_l_refuses (G : Env P w K mg base a) (T_l_draw : DefC P w K mg base "_law_draw" ["_law_box_here", "_law_many"] l_l_draw [] (p_l_draw K a)) (T_l_refusal : DefC P w K mg base "_law_refusal" ["_law_door", "_law_number"] l_l_refusal [] (p_l_refusal K a)) {f : Addr} {cdv : Value} {A : Around} {outer : List PySem.Env} {s : Shared} {H : Hp} {E : XK} (hr : Room (l_l_refuses - 1) (A.deeper (envOfC "_law_refuses" (defScope s_l_refuses) s.heap.objs.size f cdv))) :
    PSs (cxOf (L2.CX P w) P w K mg base N_l_refuses "_law_refuses" (defScope s_l_refuses) f cdv A outer s H E) (defBody s_l_refuses) (dS (fun c d _ H => E c d H) (r_l_refuses K a)) := by
  have tk : Takes (cxOf (L2.CX P w) P w K mg base N_l_refuses "_law_refuses" (defScope s_l_refuses) f cdv A outer s H E) (fun c d _ H => E c d H) := takes_of rfl rfl rfl rfl
  have hp : PassesOwn (model P w) (cxOf (L2.CX P w) P w K mg base N_l_refuses "_law_refuses" (defScope s_l_refuses) f cdv A outer s H E).A (cxOf (L2.CX P w) P w K mg base N_l_refuses "_law_refuses" (defScope s_l_refuses) f cdv A outer s H E).env (cxOf (L2.CX P w) P w K mg base N_l_refuses "_law_refuses" (defScope s_l_refuses) f cdv A outer s H E).xe := passes_of rfl
  exact (hCons (hSet (i := 1) sc_l_refuses.nd rfl (.inl rfl) (gLst (gCons gInt (gCons gInt (gCons (gNeg gInt) (gCons gNon (gCons gStr (gCons (gAdd gInt (gCall1 c_l_draw T_l_draw hr (by decide) (by rfl) tk (gCons (gv 0) (gCons gInt gNil)))) (gCons (gSub (gNeg gInt) (gCall1 c_l_draw T_l_draw hr (by decide) (by rfl) tk (gCons (gv 0) (gCons gInt gNil)))) (gCons (gPow gInt gInt) (gCons (gLst (gCons gInt gNil)) (gCons (gTup (gCons gInt gNil)) gNil)))))))))))) (hCons (hFor hp rfl (iR1 (by rfl) G.n_range (gCons gInt gNil)) (ggName (i := 2) sc_l_refuses.nd rfl (.inl rfl)) (hCons (hSet (i := 3) sc_l_refuses.nd rfl (.inl rfl) (gIx (gv 1) (gCall1 c_l_draw T_l_draw hr (by decide) (by rfl) tk (gCons (gv 0) (gCons gInt gNil))) (by intro _ _; rfl))) (hOne (hIf (gTNe hr.units (gCall1 c_l_refusal T_l_refusal hr (by decide) (by rfl) tk (gCons (gv 2) (gCons (gv 3) gNil))) (gTup (gCons gInt (gCons (gv 3) (gCons gBl gNil))))) (hOne (hRet gBl)) hNil)))) (hOne (hRet gBl))))
theorem d_law (G : Env P w K mg base a) (T_l_box : DefC P w K mg base "_law_box" ["_law_script"] l_l_box [] (p_l_box K a)) (T_l_by_depths : DefC P w K mg base "_law_by_depths" ["_law_many"] l_l_by_depths [] (p_l_by_depths K a)) (T_l_by_listing : DefC P w K mg base "_law_by_listing" ["_law_order_here", "_law_many"] l_l_by_listing [] (p_l_by_listing K a)) (T_l_draw : DefC P w K mg base "_law_draw" ["_law_box_here", "_law_many"] l_l_draw [] (p_l_draw K a)) (T_l_holds : DefC P w K mg base "_law_holds" ["_law_many", "_law_due"] l_l_holds [] (p_l_holds K a)) (T_l_order : DefC P w K mg base "_law_order" ["_law_box_here", "_law_many"] l_l_order [] (p_l_order K a)) (T_l_refuses : DefC P w K mg base "_law_refuses" ["_law_box_here"] l_l_refuses [] (p_l_refuses K a)) (T_l_same : DefC P w K mg base "_law_same" ["_law_answer", "_law_due"] l_l_same [] (p_l_same K a)) (T_next_victims : DefC P w K mg base "next_victims" ["slots", "run"] l_next_victims [] (p_next_victims K a)) {f : Addr} {cdv : Value} {A : Around} {outer : List PySem.Env} {s : Shared} {H : Hp} {E : XK} (hr : Room (l_law - 1) (A.deeper (envOfC "law" (defScope s_law) s.heap.objs.size f cdv))) :
    PSs (cxOf (L2.CX P w) P w K mg base N_law "law" (defScope s_law) f cdv A outer s H E) (defBody s_law) (dS (fun c d _ H => E c d H) (r_law K a)) := by
  have tk : Takes (cxOf (L2.CX P w) P w K mg base N_law "law" (defScope s_law) f cdv A outer s H E) (fun c d _ H => E c d H) := takes_of rfl rfl rfl rfl
  have hp : PassesOwn (model P w) (cxOf (L2.CX P w) P w K mg base N_law "law" (defScope s_law) f cdv A outer s H E).A (cxOf (L2.CX P w) P w K mg base N_law "law" (defScope s_law) f cdv A outer s H E).env (cxOf (L2.CX P w) P w K mg base N_law "law" (defScope s_law) f cdv A outer s H E).xe := passes_of rfl
  exact (hCons (hSet (i := 1) sc_law.nd rfl (.inl rfl) (gCall1 c_l_box T_l_box hr (by decide) (by rfl) tk (gCons (gv 0) gNil))) (hCons (hSet (i := 2) sc_law.nd rfl (.inl rfl) (gIx (gLst (gCons gInt (gCons gInt (gCons gInt (gCons gInt (gCons gInt (gCons gInt (gCons gInt (gCons gInt (gCons gInt (gCons gInt (gCons gInt (gCons gInt (gCons gInt (gCons gInt (gCons gInt (gCons gInt gNil))))))))))))))))) (gCall1 c_l_draw T_l_draw hr (by decide) (by rfl) tk (gCons (gv 1) (gCons gInt gNil))) (by intro _ _; rfl))) (hCons (hSet (i := 3) sc_law.nd rfl (.inr rfl) (gCall1 c_l_order T_l_order hr (by decide) (by rfl) tk (gCons (gv 1) (gCons (gv 2) gNil)))) (hCons (hSet (i := 4) sc_law.nd rfl (.inl rfl) (gCall1 c_l_by_listing T_l_by_listing hr (by decide) (by rfl) tk (gCons (gv 3) (gCons (gv 2) gNil)))) (hCons (hIf (PW.pt (gOr (gTNot (gTru (gCall1 c_l_holds T_l_holds hr (by decide) (by rfl) tk (gCons (gv 2) (gCons (gv 4) gNil))))) (gOr1 (gTNe hr.units (gv 4) (gCall1 c_l_by_depths T_l_by_depths hr (by decide) (by rfl) tk (gCons (gv 2) gNil)))))) (hOne (hRet gBl)) hNil) (hCut (hIf (gTGt (gv 2) gInt) (hCons (hSet (i := 5) sc_law.nd rfl (.inl rfl) (gCall1 c_next_victims T_next_victims hr (by decide) (by rfl) tk (gCons (gv 2) (gCons (gLc (own := [("_law_slot", 6)]) rfl sc_law.nd (iRev (by rfl) G.n_reversed (gv 3)) (blkOk_by (own := [("_law_slot", 6)]) (N := N_law) (sc := defScope s_law) (by decide +kernel)) (fun _ _ _ _ _ => (ggName (i := 6) sc_law.nd rfl (.inl rfl))) (fun _ _ _ _ _ => gNoIf) (fun _ _ _ _ _ => (gTup (gCons gStr (gCons (gv 6) gNil))))) gNil)))) (hOne (hIf (gTNot (gTru (gCall1 c_l_same T_l_same hr (by decide) (by rfl) tk (gCons (gv 5) (gCons (gLc (own := [("_law_slot", 6)]) rfl sc_law.nd (iR1 (by rfl) G.n_range (gCons (gv 2) gNil)) (blkOk_by (own := [("_law_slot", 6)]) (N := N_law) (sc := defScope s_law) (by decide +kernel)) (fun _ _ _ _ _ => (ggName (i := 6) sc_law.nd rfl (.inl rfl))) (fun _ _ _ _ _ => (gOneIf (gTNe hr.units (gv 6) (gIx (gv 3) gInt (by intro _ _; rfl))))) (fun _ _ _ _ _ => (gv 6))) gNil))))) (hOne (hRet gBl)) hNil))) hNil) (hCut (hIf (gTEq hr.units (gCall1 c_l_draw T_l_draw hr (by decide) (by rfl) tk (gCons (gv 1) (gCons gInt gNil))) gInt) (hCons (hSet (i := 2) sc_law.nd rfl (.inl rfl) (gAdd gInt (gCall1 c_l_draw T_l_draw hr (by decide) (by rfl) tk (gCons (gv 1) (gCons gInt gNil))))) (hOne (hIf (gTNot (gTru (gCall1 c_l_holds T_l_holds hr (by decide) (by rfl) tk (gCons (gv 2) (gCons (gCall1 c_l_by_depths T_l_by_depths hr (by decide) (by rfl) tk (gCons (gv 2) gNil)) gNil))))) (hOne (hRet gBl)) hNil))) hNil) (hOne (hRet (gCall1 c_l_refuses T_l_refuses hr (by decide) (by rfl) tk (gCons (gv 1) gNil)))))))))))
end
local macro_rules | `(tactic| walk_at "w") => `(tactic| conv => whnf)
local macro_rules | `(tactic| walk_at "b") => `(tactic| ((conv => whnf); split <;> (rename_i hb; simp only [decide_eq_true_eq, decide_eq_false_iff_not, Bool.not_eq_true', Bool.not_eq_false', Int.not_lt, Int.not_le, bne_iff_ne, ne_eq, Bool.not_eq_true, V.int.injEq, beq_iff_eq, reduceCtorEq] at hb)))
local macro_rules | `(tactic| walk_at "p") => `(tactic| (show (0 : Int) < _; decide))
local macro_rules | `(tactic| walk_at "z") => `(tactic| (show _ ≤ sizeLine; simp only [List.length_cons, List.length_nil]; decide))
/-! ### the bodies -/
section
variable {K : PySem.W.Frag} {a : Ads}
theorem vc_is_integer {vs : List V} {H : Hp} (g : V × TY) (h : (ct_is_integer K).pre g vs H) : ∃ S, Own S H ∧ r_is_integer K a (endsC (ct_is_integer K) g H) (start N_is_integer vs) S := by
  obtain ⟨x, t⟩ := g
  obtain ⟨rfl, ht⟩ := h
  refine ⟨⟨H, []⟩, Own.base H, ?_⟩
  have fin : ∀ H', Own ⟨H, []⟩ H' → Ext H H' := fun H' o a u e => o.fr a u e
  cases x with
  | non => exact fun H' o => ⟨rfl, fin H' o⟩
  | bl b => exact fun H' o => ⟨rfl, fin H' o⟩
  | int b => exact fun H' o => ⟨rfl, fin H' o⟩
  | str b => exact fun H' o => ⟨rfl, fin H' o⟩
  | ref p =>
    have ht' : isiTy K (.ref p) ⟨H, []⟩ t := ht
    refine ⟨t, ht', ?_⟩
    rcases ht' with ⟨rfl, _⟩ | ⟨rfl, _⟩ | ⟨rfl, _⟩
    · exact fun H' o => ⟨rfl, fin H' o⟩
    · exact fun H' o => ⟨rfl, fin H' o⟩
    · exact fun H' o => ⟨rfl, fin H' o⟩
  | byt b => exact ht.elim
  | flt b => exact ht.elim
  | ty b => exact ht.elim
theorem isInt_false {x : V} (h : isInt x = false) (l : Int) (m : Option Int) : okN x l m = false := by
  cases x <;> first | rfl | cases h
theorem vc_checked_number {vs : List V} {H : Hp} (g : V × TY × Int × Option Int) (h : (ct_checked_number K a).pre g vs H) : ∃ S, Own S H ∧ r_checked_number K a (endsC (ct_checked_number K a) g H) (start N_checked_number vs) S := by
  obtain ⟨x, t, l, m⟩ := g
  obtain ⟨rfl, ht⟩ := h
  refine ⟨⟨H, []⟩, Own.base H, ?_⟩
  have fin : ∀ H', Own ⟨H, []⟩ H' → Ext H H' := fun H' o a u e => o.fr a u e
  refine ⟨(x, t), fun H' o => ⟨rfl, ht.ex (fin H' o)⟩, fun H1 v H2 o ⟨e, ex⟩ => ⟨⟨H, []⟩, o.ex ex, ?_⟩, fun _ _ _ _ _ q => q.elim⟩
  subst e
  have bad : okN x l m = false → ∀ d H', Own (SH.new ⟨H, []⟩ d (.xd [("number", x)])) H' → (ct_checked_number K a).exn (x, t, l, m) H (.ref a.InvalidNumber) (some d) H' := fun e d H' o =>
    ⟨e, rfl, d, rfl, (o.gs (d, .xd [("number", x)]) List.mem_cons_self).2, fun a u e => o.fr a u e, (o.gs (d, .xd [("number", x)]) List.mem_cons_self).1⟩
  cases hx : isInt x with
  | false => exact bad (isInt_false hx l m)
  | true =>
    cases x with
    | int i =>
      walk_at "b"
      · rename_i hb
        refine bad ?_
        show (decide (l ≤ i) && _) = false
        rw [decide_eq_false (by omega), Bool.false_and]
      · cases m with
        | none =>
          refine fun H' o => ⟨?_, rfl, fin H' o⟩
          show (decide (l ≤ i) && true) = true
          rw [decide_eq_true (by omega)]
          rfl
        | some m =>
          rename_i h1
          walk_at "b"
          · rename_i hb
            refine bad ?_
            show (decide (l ≤ i) && decide (i ≤ m)) = false
            rw [decide_eq_false (p := i ≤ m) (by omega), Bool.and_false]
          · refine fun H' o => ⟨?_, rfl, fin H' o⟩
            show (decide (l ≤ i) && decide (i ≤ m)) = true
            rw [decide_eq_true (by omega), decide_eq_true (by omega)]
            rfl
    | _ => cases hx
theorem ext0 {H H' : Hp} (o : Own ⟨H, []⟩ H') : Ext H H' := fun a u e => o.fr a u e
theorem vc_l_is_integer {vs : List V} {H : Hp} (g : V × TY) (h : (ct_is_integer K).pre g vs H) : ∃ S, Own S H ∧ r_l_is_integer K a (endsC (ct_is_integer K) g H) (start N_l_is_integer vs) S := vc_is_integer (a := a) g h
theorem use_check {W : sWX} {σ : L2.St} {S : SH} {Q : V → SH → Prop} {vs : List V} {x : V} {l : Int} {m : Option Int} (t : TY) (e : vs = [x, .int l, optV m]) (ht : ∀ H, Own S H → Ty0 K H x t) (h1 : okN x l m = true → Q x S) (h2 : okN x l m = false → ∀ d, W (.ref a.InvalidNumber) (some d) σ (S.new d (.xd [("number", x)]))) :
    rC (ct_checked_number K a) W vs σ S Q := by
  refine ⟨(x, t, l, m), fun H o => ⟨e, ht H o⟩, fun H v H' o q => ?_, fun H c d H' o q => ?_⟩
  · obtain ⟨q1, rfl, q2⟩ := q
    exact ⟨S, o.ex q2, h1 q1⟩
  · obtain ⟨q1, rfl, dd, rfl, q2, q3, q4⟩ := q
    exact ⟨_, o.new q2 q3 q4, h2 q1 dd⟩
theorem okN_60 {x : V} (h : okN x 1 (some 60) = true) : ∃ n : Nat, x = .int n ∧ 1 ≤ n ∧ n ≤ 60 := by
  cases x with
  | int i =>
    have h : (decide (1 ≤ i) && decide (i ≤ 60)) = true := h
    obtain ⟨h1, h2⟩ := Bool.and_eq_true_iff.mp h
    have h1 := of_decide_eq_true h1
    have h2 := of_decide_eq_true h2
    exact ⟨i.toNat, by rw [Int.toNat_of_nonneg (by omega)], by omega, by omega⟩
  | _ => cases h
theorem vc_tree_total {vs : List V} {H : Hp} (g : V × TY) (h : (ct_tree_total K a).pre g vs H) : ∃ S, Own S H ∧ r_tree_total K a (endsC (ct_tree_total K a) g H) (start N_tree_total vs) S := by
  obtain ⟨x, t⟩ := g
  obtain ⟨rfl, ht⟩ := h
  refine ⟨⟨H, []⟩, Own.base H, ?_⟩
  refine use_check (m := some 60) t rfl (fun H' o => ht.ex (ext0 o)) (fun ok => ?_) (fun ok d H' o => ⟨ok, rfl, d, rfl, (o.gs (d, .xd [("number", x)]) List.mem_cons_self).2, fun a u e => o.fr a u e, (o.gs (d, .xd [("number", x)]) List.mem_cons_self).1⟩)
  obtain ⟨n, rfl, h1, h2⟩ := okN_60 ok
  refine ⟨by unfold rngOk; omega, by unfold rngOk; omega, ?_⟩
  refine ⟨fun i σ S => ∃ y, σ = [some (.int (n : Nat)), some (.int (totF (i + 1) : Nat)), y] ∧ S = ⟨H, []⟩, ⟨none, rfl, rfl⟩, fun _ _ _ _ _ => trivial, ?_, ?_⟩
  · rintro i σ S hi ⟨y, rfl, rfl⟩
    have hi : i < ((n : Int) + 1 - 2).toNat := hi
    refine ⟨.inl (by unfold sm64; omega), ?_⟩
    refine ⟨.inr (by unfold sm64; omega), ?_⟩
    refine ⟨_, SLe.refl _, some (.int (2 + (i : Nat))), ?_, rfl⟩
    have e : ((totF (i + 2) : Nat) : Int) = (totF (i + 1) : Nat) * (2 * (2 + (i : Int)) - 3) := by
      show (((totF (i + 1) * (2 * i + 1) : Nat)) : Int) = _
      push_cast
      congr 1
      omega
    show _ = [some (V.int (n : Nat)), some (V.int ((totF (i + 2) : Nat) : Int)), some (V.int (2 + (i : Nat)))]
    rw [e]
    rfl
  · rintro σ S ⟨y, rfl, rfl⟩
    refine fun H' o => ⟨n, rfl, h1, h2, ?_, ext0 o⟩
    show V.int ((totF (((n : Int) + 1 - 2).toNat + 1) : Nat) : Int) = V.int ((totF n : Nat) : Int)
    rw [show ((n : Int) + 1 - 2).toNat + 1 = n by omega]
theorem vc_is_place {vs : List V} {H : Hp} (o : Ot) (h : f_is_place vs = some o) : r_is_place K a (endsV o H) (start N_is_place vs) ⟨H, []⟩ := by
  unfold f_is_place at h
  split at h
  · cases h
    rename_i m v
    refine ⟨(.int v, .int), fun H' o => ⟨rfl, rfl⟩, fun H1 w H2 o ⟨e, ex⟩ => ⟨⟨H, []⟩, o.ex ex, ?_⟩, fun _ _ _ _ _ q => q.elim⟩
    subst e
    walk_at "w"
    dsimp only
    split
    · rename_i e
      have e : decide (0 ≤ v) = true := V.bl.inj e
      refine ⟨?_, fun a u q => q⟩
      show V.bl (decide (v < m)) = V.bl (decide (0 ≤ v) && decide (v < m))
      rw [e, Bool.true_and]
    · rename_i e
      have e : decide (0 ≤ v) = false := V.bl.inj e
      refine ⟨?_, fun a u q => q⟩
      show V.bl false = V.bl (decide (0 ≤ v) && decide (v < m))
      rw [e, Bool.false_and]
    · rename_i h1 h2
      cases hd : decide (0 ≤ v) with
      | true => exact (h1 (by rw [hd])).elim
      | false => exact (h2 (by rw [hd])).elim
  · cases h
theorem use_V {f : List V → Option Ot} {W : sWX} {σ : L2.St} {S : SH} {Q : V → SH → Prop} {vs : List V} (v : V) (e : f vs = some (.ok v)) (h : Q v S) : rV f W vs σ S Q := by
  unfold rV
  rw [e]
  exact h
/-- what the written part says of this law -/
structure Kit (K : PySem.W.Frag) (a : Ads) : Prop where
  kinds : ∀ H, SqT K H a.KINDS [.str "hit", .str "load"]
  isc : ExcC K a.InvalidNumber
  exm : PySem.W.exmOne K (.ref a.InvalidNumber) (.ref a.InvalidNumber) = some true
  k1 : PySem.W.kitOne K (.ref a.InvalidNumber) (.ref a.InvalidItem) = some false
  k2 : PySem.W.kitOne K (.ref a.InvalidNumber) (.ref a.CacheError) = some true
theorem SqT.up {H H' : Hp} {p : Addr} {xs : List V} (e : Ext H H') (h : SqT K H p xs) : SqT K H' p xs := by
  rcases h with (h | ⟨o, h⟩) | h
  · exact .inl (.inl (e _ _ h))
  · exact .inl (.inr ⟨o, e _ _ h⟩)
  · exact .inr h
theorem SqL.up {H H' : Hp} {p : Addr} {xs : List V} (e : Ext H H') (h : SqL K H p xs) : SqL K H' p xs := by
  rcases h with (h | ⟨o, h⟩) | h
  · exact .inl (.inl (e _ _ h))
  · exact .inl (.inr ⟨o, e _ _ h⟩)
  · exact .inr h
theorem vc_is_line (T : Kit K a) {vs : List V} {H : Hp} (g : Int × V × Nat) (h : (ct_is_line K).pre g vs H) : ∃ S, Own S H ∧ r_is_line K a (endsC (ct_is_line K) g H) (start N_is_line vs) S := by
  obtain ⟨m, x, s⟩ := g
  obtain ⟨rfl, ⟨p, e, hp⟩, hs⟩ := h
  have e : x = .ref p := e
  subst e
  have hp : SqT K H p [.str "hit", .int (s : Nat)] := hp
  have hs : (s : Int) < m := hs
  have hu : ∀ G, sU K ⟨H, G⟩ p [.str "hit", .int (s : Nat)] := fun G => .inr hp
  refine ⟨⟨H, []⟩, Own.base H, ?_⟩
  refine ⟨.tuple, .inr (.inl ⟨rfl, _, hu _⟩), ?_⟩
  refine ⟨_, .inr (hu _), ?_⟩
  refine ⟨_, _, .inr (hu _), rfl, ?_⟩
  refine ⟨_, .inr (.inr (T.kinds H)), rfl, rfl, ?_⟩
  walk_at "w"
  refine ⟨_, _, .inr (hu _), rfl, ?_⟩
  walk_at "w"
  refine fun H' o => ⟨?_, ext0 o⟩
  show V.bl (decide (0 ≤ ((s : Nat) : Int)) && decide (((s : Nat) : Int) < m)) = V.bl true
  rw [decide_eq_true (by omega), decide_eq_true hs]
  rfl
end
section
variable {K : PySem.W.Frag} {a : Ads}
theorem ixN_nat {n i : Nat} (h : i < n) : ixN n (i : Int) = some i := by
  unfold ixN
  rw [if_pos (by omega), if_pos (by omega), Int.toNat_natCast]
theorem atI_at {α : Type} {xs : List α} {i : Nat} {x : α} (h : xs[i]? = some x) : atI xs (i : Int) = some x := by
  unfold atI
  rw [ixN_nat (List.getElem?_eq_some_iff.mp h).1, Option.bind_some, h]
/-- a draw, from the symbolic heap -/
theorem use_draw {α : Type} {args : α → List V} {res : α → Hp → V → Hp → Prop} {ok : α → Hp → Prop} {W : sWX} {vs : List V} {σ : L2.St} {S : SH} {Q : V → SH → Prop} (g : α) (i : Nat) {b : Addr} {u t m : Int} (hi : S.G[i]? = some (b, boxO u t m)) (hu : 0 ≤ u) (ht : 0 ≤ t ∧ t < 2147483647) (e : vs = .ref b :: args g) (hok : ∀ H, Own S H → ok g H)
    (k : ∀ H v H' u' t' m', 0 ≤ u' → (0 ≤ t' ∧ t' < 2147483647) → Own S H → Own (S.put i b (boxO u' t' m')) H' → res g H v H' → ∃ S', Own S' H' ∧ Q v S') : rC (ct_draw args res ok) W vs σ S Q := by
  refine ⟨(b, g), fun H o => ⟨e, ⟨u, t, m, o.g hi, hu, ht⟩, hok H o⟩, fun H v H' o q => ?_, fun _ _ _ _ _ q => q.elim⟩
  obtain ⟨q1, ⟨u', t', m', q2, q3, q4⟩, q5⟩ := q
  exact k H v H' u' t' m' q3 q4 o (o.put hi (fun c x hc hx => q5 c x hc hx) q2) q1
theorem use_take {W : sWX} {vs : List V} {σ : L2.St} {S : SH} {Q : V → SH → Prop} (i : Nat) {b : Addr} {u t m size : Int} (hi : S.G[i]? = some (b, boxO u t m)) (hu : 0 ≤ u) (ht : 0 ≤ t ∧ t < 2147483647) (e : vs = [.ref b, .int size]) (hs : 0 < size ∧ size < 1073741824)
    (k : ∀ (r : Nat) u' t' m', (r : Int) < size → 0 ≤ u' → (0 ≤ t' ∧ t' < 2147483647) → Q (.int (r : Nat)) (S.put i b (boxO u' t' m'))) : rC ct_l_draw W vs σ S Q :=
  use_draw size i hi hu ht e (fun _ _ => hs) fun H v H' u' t' m' h1 h2 o o' ⟨r, e, h4⟩ => ⟨_, o', by subst e; exact k r u' t' m' h4 h1 h2⟩
/-- a body that draws -/
theorem body_draw {H : Hp} {b : Addr} (h : IsBox H b) : ∃ u t m, 0 ≤ u ∧ (0 ≤ t ∧ t < 2147483647) ∧ Own ⟨without H b, [(b, boxO u t m)]⟩ H := by
  obtain ⟨u, t, m, h1, h2, h3⟩ := h
  exact ⟨u, t, m, h2, h3, Own.only h1⟩
theorem end_draw {H H' : Hp} {S : SH} {b : Addr} {u t m : Int} (i : Nat) (o : Own S H') (hi : S.G[i]? = some (b, boxO u t m)) (hF : S.F = without H b) (hu : 0 ≤ u) (ht : 0 ≤ t ∧ t < 2147483647) : IsBox H' b ∧ Rest b H H' :=
  ⟨⟨u, t, m, o.g hi, hu, ht⟩, fun c x hc hx => o.fr c x (by rw [hF, without_ne hc]; exact hx)⟩
theorem modNat {x m : Int} (h : 0 < m) : ∃ r : Nat, x % m = (r : Int) ∧ (r : Int) < m :=
  ⟨(x % m).toNat, (Int.toNat_of_nonneg (Int.emod_nonneg _ (by omega))).symm, by rw [Int.toNat_of_nonneg (Int.emod_nonneg _ (by omega))]; exact Int.emod_lt_of_pos _ h⟩
theorem vc_l_draw {vs : List V} {H : Hp} (g : Addr × Int) (h : ct_l_draw.pre g vs H) : ∃ S, Own S H ∧ r_l_draw K a (endsC ct_l_draw g H) (start N_l_draw vs) S := by
  obtain ⟨b, size⟩ := g
  obtain ⟨rfl, hbx, hs1, hs2⟩ := h
  obtain ⟨u, t, m, hu, ht, o⟩ := body_draw hbx
  refine ⟨_, o, ?_⟩
  have hs1 : (0 : Int) < size := hs1
  have hs2 : size < (1073741824 : Int) := hs2
  refine ⟨[.int u, .int t, .int m], .int u, .inl (.inl ⟨0, rfl⟩), rfl, ?_⟩
  walk_at "b"
  · refine ⟨[.int u, .int t, .int m], .int u, .inl (.inl ⟨0, rfl⟩), rfl, ?_⟩
    refine ⟨hs1, ?_⟩
    refine ⟨[.int u, .int t, .int m], .int u, .inl (.inl ⟨0, rfl⟩), rfl, ?_⟩
    refine ⟨⟨hs1, hs2⟩, ?_⟩
    refine ⟨0, [.int u, .int t, .int m], 0, rfl, rfl, ?_⟩
    intro H' o'
    obtain ⟨r, e, hr⟩ := modNat (x := u) hs1
    exact ⟨⟨r, congrArg V.int e, hr⟩, end_draw (u := u / size) (t := t) (m := m) 0 o' rfl rfl (Int.ediv_nonneg hu (by omega)) ht⟩
  · refine ⟨[.int u, .int t, .int m], .int m, .inl (.inl ⟨0, rfl⟩), rfl, ?_⟩
    refine ⟨0, [.int u, .int t, .int m], 2, rfl, rfl, ?_⟩
    refine ⟨[.int u, .int t, .int (m + 1)], .int t, .inl (.inl ⟨0, rfl⟩), rfl, ?_⟩
    refine ⟨.inr (by unfold sm64; omega), ?_⟩
    refine ⟨[.int u, .int t, .int (m + 1)], .int (m + 1), .inl (.inl ⟨0, rfl⟩), rfl, ?_⟩
    refine ⟨.inr (by unfold sm64; omega), ?_⟩
    refine ⟨(by walk_at "p"), ?_⟩
    refine ⟨0, [.int u, .int t, .int (m + 1)], 1, rfl, rfl, ?_⟩
    refine ⟨[.int u, .int ((t * 48271 + (m + 1) * 69621 + 101) % 2147483647), .int (m + 1)], .int ((t * 48271 + (m + 1) * 69621 + 101) % 2147483647), .inl (.inl ⟨0, rfl⟩), rfl, ?_⟩
    refine ⟨[.int u, .int ((t * 48271 + (m + 1) * 69621 + 101) % 2147483647), .int (m + 1)], .int ((t * 48271 + (m + 1) * 69621 + 101) % 2147483647), .inl (.inl ⟨0, rfl⟩), rfl, ?_⟩
    refine ⟨.inr (by unfold sm64; omega), ?_⟩
    refine ⟨[.int u, .int ((t * 48271 + (m + 1) * 69621 + 101) % 2147483647), .int (m + 1)], .int ((t * 48271 + (m + 1) * 69621 + 101) % 2147483647), .inl (.inl ⟨0, rfl⟩), rfl, ?_⟩
    refine ⟨.inr (by unfold sm64; omega), ?_⟩
    refine ⟨[.int u, .int ((t * 48271 + (m + 1) * 69621 + 101) % 2147483647), .int (m + 1)], .int (m + 1), .inl (.inl ⟨0, rfl⟩), rfl, ?_⟩
    refine ⟨(by walk_at "p"), ?_⟩
    refine ⟨⟨by decide, by decide⟩, ?_⟩
    refine ⟨hs1, ?_⟩
    intro H' o'
    obtain ⟨r, e, hr⟩ := modNat (x := (((t * 48271 + (m + 1) * 69621 + 101) % 2147483647) * ((t * 48271 + (m + 1) * 69621 + 101) % 2147483647) + ((t * 48271 + (m + 1) * 69621 + 101) % 2147483647) * 40503 + (m + 1)) % 1000000007 / 16) hs1
    exact ⟨⟨r, congrArg V.int e, hr⟩, end_draw (u := u) (t := ((t * 48271 + (m + 1) * 69621 + 101) % 2147483647)) (m := m + 1) 0 o' rfl rfl hu ⟨Int.emod_nonneg _ (by decide), Int.emod_lt_of_pos _ (by decide)⟩⟩
theorem vc_l_box {vs : List V} {H : Hp} (g : Addr × List Int) (h : (ct_l_box K).pre g vs H) : ∃ S, Own S H ∧ r_l_box K a (endsC (ct_l_box K) g H) (start N_l_box vs) S := by
  obtain ⟨p, ns⟩ := g
  obtain ⟨rfl, hs⟩ := h
  have hs : SqL K H p (ns.map V.int) := hs
  refine ⟨⟨H, []⟩, Own.base H, ?_⟩
  refine ⟨fun σ S => ∃ u, 0 ≤ u ∧ σ = [some (.ref p), some (.int u), none, none] ∧ S = ⟨H, []⟩, ?_, ?_⟩
  · refine .inl ⟨ns.map V.int, .inr hs, ?_⟩
    cases ns with
    | nil => exact ⟨_, SLe.refl _, 0, Int.le_refl 0, rfl, rfl⟩
    | cons n ns =>
      refine ⟨V.int n :: ns.map V.int, .int n, .inl (.inr hs), atI_at (i := 0) rfl, ?_⟩
      refine ⟨⟨by decide, by decide, by decide⟩, ?_⟩
      walk_at "b"
      · rename_i hb
        have hb : (10 : Int) ^ 18 ≤ n := hb
        refine ⟨V.int n :: ns.map V.int, .int n, .inl (.inr hs), atI_at (i := 0) rfl, ?_⟩
        exact ⟨_, SLe.refl _, n, by omega, rfl, rfl⟩
      · exact ⟨_, SLe.refl _, 0, Int.le_refl 0, rfl, rfl⟩
  · rintro σ S ⟨u, hu, rfl, rfl⟩
    refine .inl ⟨ns.map V.int, .inr hs, fun r => ?_⟩
    refine .inl ⟨_, .inl ⟨0, rfl⟩, ?_⟩
    refine ⟨fun i σ S => ∃ (t : Int) (c : Option V), (0 ≤ t ∧ t < 2147483647) ∧ σ = [some (.ref p), some (.int u), some (.int t), c] ∧ S = ⟨H, [(r, .lst (cutV (ns.map V.int) none (some 63)))]⟩, ⟨17, none, by decide, rfl, rfl⟩, ?_, ?_, ?_⟩
    · rintro i σ S _ ⟨t, c, _, rfl, rfl⟩
      exact .inl ⟨0, rfl⟩
    · rintro i σ S hi ⟨t, c, ht, rfl, rfl⟩ v hv
      obtain ⟨z, rfl⟩ : ∃ z, v = .int z := by
        have q := List.mem_of_getElem? hv
        unfold cutV at q
        have q := List.mem_of_mem_drop (List.mem_of_mem_take q)
        obtain ⟨z, _, e⟩ := List.mem_map.mp q
        exact ⟨z, e.symm⟩
      refine ⟨.inr (by unfold sm64; omega), ?_⟩
      refine ⟨.inr (by unfold sm64; omega), ?_⟩
      refine ⟨(by walk_at "p"), ?_⟩
      exact ⟨_, SLe.refl _, _, some (.int z), ⟨Int.emod_nonneg _ (by decide), Int.emod_lt_of_pos _ (by decide)⟩, rfl, rfl⟩
    · rintro σ S ⟨t, c, ht, rfl, rfl⟩
      refine ⟨ns.map V.int, .inl (.inr hs), ?_⟩
      refine ⟨(by walk_at "z"), fun b => ?_⟩
      intro H' o
      exact ⟨b, rfl, (o.gs _ List.mem_cons_self).2, ⟨u, t, _, o.g (i := 0) rfl, hu, ht⟩, fun a u e => o.fr a u e⟩
end
section
variable {K : PySem.W.Frag} {a : Ads}
theorem rgS_nV (n : Nat) : rgS (n : Int) = nV (List.range n) := by
  unfold rgS nV
  rw [Int.toNat_natCast]
theorem nV_len (ns : List Nat) : (nV ns).length = ns.length := List.length_map _
theorem nV_at {ns : List Nat} {i x : Nat} (h : ns[i]? = some x) : (nV ns)[i]? = some (.int (x : Nat)) := by
  unfold nV
  rw [List.getElem?_map, h]
  rfl
theorem nV_append (xs ys : List Nat) : nV (xs ++ ys) = nV xs ++ nV ys := List.map_append
theorem nV_erase (xs : List Nat) (i : Nat) : (nV xs).eraseIdx i = nV (xs.eraseIdx i) := by
  unfold nV
  induction xs generalizing i with
  | nil => rfl
  | cons x xs ih =>
    cases i with
    | zero => rfl
    | succ i => exact congrArg (V.int (x : Nat) :: ·) (ih i)
theorem small_nV {ns : List Nat} {n : Nat} (h : ns.length ≤ n) (hn : n ≤ 16777216) : (nV ns).length ≤ sizeLine := by
  rw [nV_len]
  exact Nat.le_trans h (Nat.le_trans hn (by decide))
theorem pops_more {k : Nat} {rest w : List Nat} {r : Nat} (hr : r < rest.length) (hw : w ∈ pops k (rest.eraseIdx r)) : rest.getD r 0 :: w ∈ pops (k + 1) rest :=
  List.mem_flatMap.mpr ⟨r, List.mem_range.mpr hr, List.mem_map.mpr ⟨w, hw, rfl⟩⟩
theorem vc_l_order {vs : List V} {H : Hp} (g : Addr × Nat) (h : (ct_l_order K).pre g vs H) : ∃ S, Own S H ∧ r_l_order K a (endsC (ct_l_order K) g H) (start N_l_order vs) S := by
  obtain ⟨b, n⟩ := g
  obtain ⟨rfl, hbx, hn⟩ := h
  have hn : n ≤ 6 := hn
  obtain ⟨u, t, m, hu, ht, o⟩ := body_draw hbx
  refine ⟨_, o, ?_⟩
  refine ⟨⟨by omega, by omega⟩, fun pr => ?_⟩
  refine ⟨(by walk_at "z"), fun po => ?_⟩
  refine ⟨by unfold rngOk; omega, ?_⟩
  refine ⟨fun i σ S => ∃ (acc rest : List Nat) (u t m : Int) (x : Option V), acc.length = i ∧ rest.length = n - i ∧ (∀ w ∈ pops (n - i) rest, acc ++ w ∈ pops n (List.range n)) ∧ 0 ≤ u ∧ (0 ≤ t ∧ t < 2147483647) ∧ σ = [some (.ref b), some (.int (n : Nat)), some (.ref pr), some (.ref po), x] ∧ S = ⟨without H b, [(po, .lst (nV acc)), (pr, .lst (nV rest)), (b, boxO u t m)]⟩, ?_, fun _ _ _ _ _ => trivial, ?_, ?_⟩
  · refine ⟨[], List.range n, u, t, m, none, rfl, List.length_range, fun w hw => hw, hu, ht, rfl, ?_⟩
    show SH.mk (without H b) [(po, .lst []), (pr, .lst (rgS (n : Int))), (b, boxO u t m)] = _
    rw [rgS_nV]
    rfl
  · rintro i σ S hi ⟨acc, rest, u, t, m, x, hacc, hrest, hp, hu, ht, rfl, rfl⟩
    have hi : i < ((n : Nat) : Int).toNat := hi
    rw [Int.toNat_natCast] at hi
    refine ⟨.inl ⟨rfl, _, .inl ⟨0, rfl⟩⟩, ?_⟩
    refine ⟨.inl ⟨rfl, _, .inl ⟨1, rfl⟩⟩, ?_⟩
    refine ⟨_, .inl (.inl ⟨1, rfl⟩), ?_⟩
    refine use_take (u := u) (t := t) (m := m) (size := ((nV rest).length : Int)) 2 (by rfl) hu ht (by rfl) ⟨by rw [nV_len]; omega, by rw [nV_len]; omega⟩ fun r u t m hr hu ht => ?_
    have hr : (r : Int) < ((nV rest).length : Int) := hr
    rw [nV_len] at hr
    have hr : r < rest.length := by omega
    obtain ⟨k, hk⟩ : ∃ k, n - i = k + 1 := ⟨n - i - 1, by omega⟩
    have hget : rest[r]? = some (rest.getD r 0) := by
      rw [List.getD_eq_getElem?_getD, List.getElem?_eq_getElem hr]
      rfl
    refine ⟨1, nV rest, r, .int (rest.getD r 0 : Nat), rfl, by omega, ?_, nV_at hget, ?_⟩
    · have e := seqIndex_of (k := (r : Int)) (n := (nV rest).length) (by omega) (by rw [nV_len]; omega)
      rw [Int.toNat_natCast] at e
      exact e
    refine ⟨0, nV acc, rfl, by rw [nV_len]; exact Nat.lt_of_lt_of_le (show acc.length < 7 by omega) (by decide), ?_⟩
    refine ⟨_, SLe.refl _, acc ++ [rest.getD r 0], rest.eraseIdx r, u, t, m, some (.int (0 + (i : Nat))), by rw [List.length_append, hacc]; rfl, by rw [List.length_eraseIdx, if_pos hr, hrest]; omega, fun w hw => ?_, hu, ht, rfl, ?_⟩
    · rw [List.append_assoc]
      refine hp _ ?_
      rw [hk]
      refine pops_more hr ?_
      rw [show n - (i + 1) = k by omega] at hw
      exact hw
    · rw [nV_append, ← nV_erase]
      rfl
  · rintro σ S ⟨acc, rest, u, t, m, x, hacc, hrest, hp, hu, ht, rfl, rfl⟩
    have hacc : acc.length = ((n : Nat) : Int).toNat := hacc
    intro H' o'
    refine ⟨⟨acc, po, ?_, rfl, ?_, o'.g (i := 0) rfl⟩, end_draw (u := u) (t := t) (m := m) 2 o' rfl rfl hu ht⟩
    · have hp : ∀ w ∈ pops (n - ((n : Nat) : Int).toNat) rest, acc ++ w ∈ pops n (List.range n) := hp
      rw [show n - ((n : Nat) : Int).toNat = 0 by omega] at hp
      have q := hp [] (List.mem_singleton.mpr rfl)
      rw [List.append_nil] at q
      exact q
    · have e := (o'.gs (po, .lst (nV acc)) List.mem_cons_self).2
      have hne : po ≠ b := fun z => by
        have nd := o'.nd
        rw [z] at nd
        exact (List.nodup_cons.mp nd).1 (List.mem_cons_of_mem _ List.mem_cons_self)
      rw [← without_ne (H := H) hne]
      exact e
end
section
variable {K : PySem.W.Frag} {a : Ads}
/-- the data of a list of numbers -/
def nD (ns : List Nat) : List PyData := ns.map fun n => PyData.int (n : Nat)
theorem dpAll_n (H : Hp) : ∀ ns : List Nat, DpAll K H (nV ns) (nD ns)
  | [] => .nil
  | n :: ns => .cons (.int _) (dpAll_n H ns)
theorem nD_lay : ∀ ns : List Nat, PyData.canLayAll0 (nD ns) = true
  | [] => rfl
  | n :: ns => by
    show (PyData.canLay0 (.int _) && PyData.canLayAll0 (nD ns)) = true
    rw [nD_lay ns]
    rfl
theorem nD_deep : ∀ ns : List Nat, PyData.depthAll (nD ns) = 0
  | [] => rfl
  | n :: ns => by
    show max (PyData.depth (.int _)) (PyData.depthAll (nD ns)) = 0
    rw [nD_deep ns]
    rfl
theorem nD_shaped (ns : List Nat) : SeqAt.shaped (.list (nD ns)) = true := by
  have h : (PyData.list (nD ns)).canLay0 = true := nD_lay ns
  unfold SeqAt.shaped
  rw [h, Bool.true_and]
  refine decide_eq_true ?_
  show PyData.depthAll (nD ns) + 1 ≤ 64
  rw [nD_deep]
  decide
theorem nD_eqv (ns : List Nat) : PyData.eqv (.list (nD ns)) (.list (nD ns)) = true := SeqAt.eqv_refl _ (nD_lay ns)
theorem sD_n {S : SH} {p : Addr} {ns : List Nat} (h : sL K S p (nV ns)) : sD K S (.ref p) (.list (nD ns)) := fun H o => .lst (o.l h) (dpAll_n H ns)
theorem use_isint {W : sWX} {σ : L2.St} {S : SH} {Q : V → SH → Prop} {vs : List V} (i : Int) (e : vs = [.int i]) (h : Q (.bl true) S) : rC (ct_is_integer K) W vs σ S Q :=
  ⟨(.int i, .int), fun _ _ => ⟨e, rfl⟩, fun H v H' o q => ⟨S, o.ex q.2, by rw [q.1]; exact h⟩, fun _ _ _ _ _ q => q.elim⟩
theorem vc_l_same {vs : List V} {H : Hp} (g : V × V × List Nat) (h : (ct_l_same K).pre g vs H) : ∃ S, Own S H ∧ r_l_same K a (endsC (ct_l_same K) g H) (start N_l_same vs) S := by
  obtain ⟨x, y, ns⟩ := g
  obtain ⟨rfl, ⟨p, e1, hp⟩, ⟨q, e2, hq⟩⟩ := h
  have e1 : x = .ref p := e1
  have e2 : y = .ref q := e2
  subst e1
  subst e2
  have hp : ∀ G, sL K ⟨H, G⟩ p (nV ns) := fun G => .inr hp
  have hq : ∀ G, sL K ⟨H, G⟩ q (nV ns) := fun G => .inr hq
  refine ⟨⟨H, []⟩, Own.base H, ?_⟩
  refine ⟨.list, .inl ⟨rfl, _, hp _⟩, ?_⟩
  refine ⟨_, .inl (hp _), _, .inl (hq _), ?_⟩
  walk_at "b"
  · rename_i hb
    exact absurd trivial hb
  refine .inl ⟨_, hp _, fun D => ?_⟩
  refine ⟨fun i S => S = ⟨H, [(D, .lst [])]⟩, rfl, ?_, ?_, ?_⟩
  · rintro i S _ rfl
    exact hp _
  · rintro i S hi rfl v hv
    obtain ⟨n, rfl⟩ : ∃ n : Nat, v = .int (n : Nat) := by
      obtain ⟨n, _, e⟩ := List.mem_map.mp (List.mem_of_getElem? hv)
      exact ⟨n, e.symm⟩
    refine ⟨rfl, ?_⟩
    refine use_isint (n : Nat) (by rfl) ?_
    exact ⟨_, SLe.refl _, rfl⟩
  · rintro S rfl
    refine ⟨(by walk_at "z"), fun r => ?_⟩
    refine ⟨.list [], .list [], fun H o => .lst (o.l (.inl ⟨1, rfl⟩)) .nil, fun H o => .lst (o.l (.inl ⟨0, rfl⟩)) .nil, rfl, rfl, ?_⟩
    walk_at "w"
    refine ⟨_, _, sD_n (hp _), sD_n (hq _), nD_shaped ns, nD_shaped ns, ?_⟩
    rw [nD_eqv]
    exact fun H' o => ⟨rfl, fun a u e => o.fr a u e⟩
end
section
variable {K : PySem.W.Frag} {a : Ads}
theorem allV_len {α : Type} {R : V → α → Prop} : ∀ {vs : List V} {xs : List α}, allV R vs xs → vs.length = xs.length
  | [], [], _ => rfl
  | _ :: _, _ :: _, h => congrArg (· + 1) (allV_len h.2)
  | [], _ :: _, h => h.elim
  | _ :: _, [], h => h.elim
theorem allV_at {α : Type} {R : V → α → Prop} : ∀ {vs : List V} {xs : List α}, allV R vs xs → ∀ {i : Nat} {v : V}, vs[i]? = some v → ∃ x, xs[i]? = some x ∧ R v x
  | [], [], _, i, v, e => by cases e
  | v0 :: vs, x0 :: xs, h, 0, v, e => by
    cases e
    exact ⟨x0, rfl, h.1⟩
  | v0 :: vs, x0 :: xs, h, i + 1, v, e => allV_at h.2 (i := i) e
  | [], _ :: _, h, _, _, _ => h.elim
  | _ :: _, [], h, _, _, _ => h.elim
theorem allV_ex {α : Type} {R R' : V → α → Prop} (hr : ∀ v x, R v x → R' v x) : ∀ {vs : List V} {xs : List α}, allV R vs xs → allV R' vs xs
  | [], [], _ => trivial
  | _ :: _, _ :: _, h => ⟨hr _ _ h.1, allV_ex hr h.2⟩
  | [], _ :: _, h => h.elim
  | _ :: _, [], h => h.elim
theorem allV_snoc {α : Type} {R : V → α → Prop} {v : V} {x : α} (h2 : R v x) : ∀ {vs : List V} {xs : List α}, allV R vs xs → allV R (vs ++ [v]) (xs ++ [x])
  | [], [], _ => ⟨h2, trivial⟩
  | _ :: _, _ :: _, h => ⟨h.1, allV_snoc h2 h.2⟩
  | [], _ :: _, h => h.elim
  | _ :: _, [], h => h.elim
theorem take_more {α : Type} {xs : List α} {i : Nat} {x : α} (h : xs[i]? = some x) : xs.take (i + 1) = xs.take i ++ [x] := by
  rw [List.take_add_one, h]
  rfl
def hStep (node : List Nat) (h g : List Nat) : List Nat := if g.headD 0 == node.headD 0 && (decide (h.length < g.length) && decide (g.length < node.length)) then g else h
theorem halfN_eq (gs : List (List Nat)) (node : List Nat) : halfN gs node = gs.foldl (hStep node) [node.headD 0] := rfl
theorem vc_l_half {vs : List V} {H : Hp} (g : V × List (List Nat) × V × List Nat) (h : (ct_l_half K).pre g vs H) : ∃ S, Own S H ∧ r_l_half K a (endsC (ct_l_half K) g H) (start N_l_half vs) S := by
  obtain ⟨gv, gs, nv, node⟩ := g
  obtain ⟨rfl, ⟨pg, ws, e1, hg, hall⟩, ⟨pn, e2, hn⟩, hne, hgs⟩ := h
  have e1 : gv = .ref pg := e1
  have e2 : nv = .ref pn := e2
  subst e1
  subst e2
  obtain ⟨n0, nr, rfl⟩ : ∃ n0 nr, node = n0 :: nr := by
    cases node with
    | nil => exact absurd rfl hne
    | cons n0 nr => exact ⟨n0, nr, rfl⟩
  have hg : ∀ G, sL K ⟨H, G⟩ pg ws := fun G => .inr hg
  have hn : ∀ G, sU K ⟨H, G⟩ pn (nV (n0 :: nr)) := fun G => .inr hn
  have hall : allV (tupN K H) ws gs := hall
  refine ⟨⟨H, []⟩, Own.base H, ?_⟩
  refine ⟨_, _, .inr (hn _), atI_at (i := 0) rfl, ?_⟩
  refine ⟨(by walk_at "z"), fun t0 => ?_⟩
  refine .inl ⟨ws, hg _, ?_⟩
  refine ⟨fun i σ S => ∃ (p : Addr) (x : Option V), σ = [some (.ref pg), some (.ref pn), some (.ref p), x] ∧ S = ⟨H, [(t0, .tup [.int (n0 : Nat)])]⟩ ∧ sU K S p (nV ((gs.take i).foldl (hStep (n0 :: nr)) [n0])), ?_, ?_, ?_, ?_⟩
  · exact ⟨t0, none, rfl, rfl, .inl ⟨0, rfl⟩⟩
  · rintro i σ S _ ⟨p, x, rfl, rfl, _⟩
    exact hg _
  · rintro i σ S hi ⟨p, x, rfl, rfl, hp⟩ v hv
    obtain ⟨grp, hgi, ⟨q, rfl, hq⟩⟩ := allV_at hall hv
    have hq : ∀ G, sU K ⟨H, G⟩ q (nV grp) := fun G => .inr hq
    obtain ⟨x0, xr, rfl⟩ : ∃ x0 xr, grp = x0 :: xr := by
      cases grp with
      | nil => exact absurd rfl (hgs [] (List.mem_of_getElem? hgi))
      | cons x0 xr => exact ⟨x0, xr, rfl⟩
    refine ⟨_, _, .inr (hq _), atI_at (i := 0) rfl, ?_⟩
    refine ⟨_, _, .inr (hn _), atI_at (i := 0) rfl, ?_⟩
    generalize hc : (gs.take i).foldl (hStep (n0 :: nr)) [n0] = cur at hp
    have stepE : (gs.take (i + 1)).foldl (hStep (n0 :: nr)) [n0] = hStep (n0 :: nr) cur (x0 :: xr) := by
      rw [take_more hgi, List.foldl_append, hc]
      rfl
    have no : hStep (n0 :: nr) cur (x0 :: xr) = cur → Wk (fun S => ∃ (p' : Addr) (x : Option V), [some (V.ref pg), some (.ref pn), some (.ref p), some (.ref q)] = [some (.ref pg), some (.ref pn), some (.ref p'), x] ∧ S = ⟨H, [(t0, .tup [.int (n0 : Nat)])]⟩ ∧ sU K S p' (nV ((gs.take (i + 1)).foldl (hStep (n0 :: nr)) [n0]))) ⟨H, [(t0, .tup [.int (n0 : Nat)])]⟩ := fun e =>
      ⟨_, SLe.refl _, p, _, rfl, rfl, by rw [stepE, e]; exact hp⟩
    walk_at "b"
    · rename_i hb
      refine ⟨_, .inr hp, _, .inr (hq _), ?_⟩
      walk_at "w"
      dsimp only
      rw [nV_len, nV_len]
      split
      · rename_i e1
        have e1 := of_decide_eq_true (V.bl.inj e1)
        refine ⟨_, .inr (hn _), ?_⟩
        walk_at "b"
        · rename_i hd
          refine ⟨_, SLe.refl _, q, some (.ref q), rfl, rfl, ?_⟩
          rw [stepE]
          have e : hStep (n0 :: nr) cur (x0 :: xr) = x0 :: xr := by
            unfold hStep
            have f1 : ((x0 :: xr).headD 0 == (n0 :: nr).headD 0) = true := beq_iff_eq.mpr (show x0 = n0 by omega)
            have f2 : cur.length < (x0 :: xr).length := by omega
            have f3 : (x0 :: xr).length < (n0 :: nr).length := by
              rw [nV_len] at hd
              omega
            rw [f1, decide_eq_true f2, decide_eq_true f3]
            rfl
          rw [e]
          exact hq _
        · rename_i hd
          refine no ?_
          unfold hStep
          have f3 : ¬ (x0 :: xr).length < (n0 :: nr).length := by
            rw [nV_len] at hd
            omega
          rw [decide_eq_false f3, Bool.and_false, Bool.and_false]
          rfl
      · rename_i e1
        have e1 := of_decide_eq_false (V.bl.inj e1)
        refine no ?_
        unfold hStep
        have f2 : ¬ cur.length < (x0 :: xr).length := by omega
        rw [decide_eq_false f2, Bool.false_and, Bool.and_false]
        rfl
      · rename_i h1 h2
        cases hd : decide ((cur.length : Int) < ((x0 :: xr).length : Int)) with
        | true => exact (h1 (congrArg V.bl hd)).elim
        | false => exact (h2 (congrArg V.bl hd)).elim
    · rename_i hb
      refine no ?_
      unfold hStep
      have f1 : ((x0 :: xr).headD 0 == (n0 :: nr).headD 0) = false := beq_eq_false_iff_ne.mpr (show x0 ≠ n0 by omega)
      rw [f1, Bool.false_and]
      rfl
  · rintro σ S ⟨p, x, rfl, rfl, hp⟩
    refine fun H' o => ⟨⟨p, rfl, ?_⟩, fun a u e => o.fr a u e⟩
    have q := o.u hp
    have e : (itL K pg ws).n = gs.length := allV_len hall
    rw [e, List.take_length] at q
    exact q
end
section
variable {K : PySem.W.Frag} {a : Ads}
def neCheck (n : Nat) : Bool := (allG n).all fun gs => gs.all fun g => !g.isEmpty
theorem ne_ok {n : Nat} (hn : n ≤ 6) {gs : List (List Nat)} (h : gs ∈ allG n) : ∀ g ∈ gs, g ≠ [] := by
  have : ∀ n ∈ List.range 7, neCheck n = true := by decide +kernel
  have q := List.all_eq_true.mp (this n (List.mem_range.mpr (by omega))) gs h
  intro g hg e
  have := List.all_eq_true.mp q g hg
  rw [e] at this
  cases this
theorem halfN_ne {node : List Nat} {gs : List (List Nat)} (h : ∀ g ∈ gs, g ≠ []) : halfN gs node ≠ [] := by
  rw [halfN_eq]
  have : ∀ (l : List (List Nat)) (h0 : List Nat), (∀ g ∈ l, g ≠ []) → h0 ≠ [] → l.foldl (hStep node) h0 ≠ [] := by
    intro l
    induction l with
    | nil => intro h0 _ q; exact q
    | cons x l ih =>
      intro h0 hl q
      rw [List.foldl_cons]
      refine ih _ (fun g hg => hl g (.tail _ hg)) ?_
      unfold hStep
      split
      · exact hl x (.head _)
      · exact q
  exact this gs _ h (by simp)
theorem halfN_len {node : List Nat} (gs : List (List Nat)) (h : node.length ≤ 6) : (halfN gs node).length ≤ 6 := by
  rw [halfN_eq]
  have : ∀ (l : List (List Nat)) (h0 : List Nat), h0.length ≤ 6 → (l.foldl (hStep node) h0).length ≤ 6 := by
    intro l
    induction l with
    | nil => intro h0 q; exact q
    | cons x l ih =>
      intro h0 q
      rw [List.foldl_cons]
      refine ih _ ?_
      unfold hStep
      split
      · rename_i hh
        have h2 := of_decide_eq_true (Bool.and_eq_true_iff.mp (Bool.and_eq_true_iff.mp hh).2).2
        omega
      · exact q
  exact this gs _ (by show 1 ≤ 6; decide)
theorem good_ne {gs : List (List Nat)} (hgs : ∀ g ∈ gs, g ≠ []) : ∀ {k : Nat} {node : List Nat}, good gs k node = true → node ≠ []
  | 0, _, h, _ => by cases h
  | k + 1, _, h, rfl => by
    have h : ((halfN gs []).all (fun x => ([] : List Nat).contains x) && good gs k (halfN gs []) && good gs k (restN [] (halfN gs []))) = true := h
    have q := (Bool.and_eq_true_iff.mp (Bool.and_eq_true_iff.mp h).1).1
    cases e : halfN gs [] with
    | nil => exact halfN_ne hgs e
    | cons x l =>
      rw [e] at q
      simp at q
theorem eqV_n (x y : Nat) : eqV (.int (x : Nat)) (.int (y : Nat)) = (x == y) := by
  show (((x : Nat) : Int) == ((y : Nat) : Int)) = (x == y)
  rw [Bool.eq_iff_iff, beq_iff_eq, beq_iff_eq]
  omega
theorem inV_n (s : Nat) : ∀ ns : List Nat, inV (.int (s : Nat)) (nV ns) = ns.contains s
  | [] => rfl
  | n :: ns => by
    show (eqV (.int (n : Nat)) (.int (s : Nat)) || inV (.int (s : Nat)) (nV ns)) = _
    rw [inV_n s ns, eqV_n, List.contains_cons]
    congr 1
    rw [Bool.eq_iff_iff, beq_iff_eq, beq_iff_eq]
    exact eq_comm
theorem flat_n : ∀ ns : List Nat, (nV ns).all flatV = true
  | [] => rfl
  | n :: ns => flat_n ns
theorem filter_more {p : Nat → Bool} {xs : List Nat} {i x : Nat} (h : xs[i]? = some x) : (xs.take (i + 1)).filter p = (xs.take i).filter p ++ (if p x then [x] else []) := by
  rw [take_more h, List.filter_append, List.filter_cons]
  cases p x <;> rfl
theorem nV_get {ns : List Nat} {i : Nat} {v : V} (h : (nV ns)[i]? = some v) : ∃ x : Nat, ns[i]? = some x ∧ v = .int (x : Nat) := by
  unfold nV at h
  rw [List.getElem?_map] at h
  cases e : ns[i]? with
  | none =>
    rw [e] at h
    cases h
  | some x =>
    rw [e] at h
    exact ⟨x, rfl, (Option.some.inj h).symm⟩
theorem tupN.up {H H' : Hp} {v : V} {ns : List Nat} (e : Ext H H') (h : tupN K H v ns) : tupN K H' v ns := let ⟨p, e1, h⟩ := h; ⟨p, e1, SqT.up e h⟩
theorem lstN.up {H H' : Hp} {v : V} {ns : List Nat} (e : Ext H H') (h : lstN K H v ns) : lstN K H' v ns := let ⟨p, e1, h⟩ := h; ⟨p, e1, SqL.up e h⟩
theorem grpV.up {H H' : Hp} {v : V} {gs : List (List Nat)} (e : Ext H H') (h : grpV K H v gs) : grpV K H' v gs := let ⟨p, vs, e1, h, al⟩ := h; ⟨p, vs, e1, SqL.up e h, allV_ex (fun _ _ q => tupN.up e q) al⟩
theorem vc_l_victim {vs : List V} {H : Hp} (g : V × List (List Nat) × V × List Nat × Nat) (h : (ct_l_victim K).pre g vs H) : ∃ S, Own S H ∧ r_l_victim K a (endsC (ct_l_victim K) g H) (start N_l_victim vs) S := by
  obtain ⟨gv, gs, ov, o, n⟩ := g
  obtain ⟨rfl, hg, ho, hn1, hn, hgs, hop⟩ := h
  have hn1 : 1 ≤ n := hn1
  have hn : n ≤ 6 := hn
  have hgs : gs ∈ allG n := hgs
  have hop : o ∈ pops n (List.range n) := hop
  have hg : grpV K H gv gs := hg
  obtain ⟨po, e1, ho⟩ := ho
  have e1 : ov = .ref po := e1
  subst e1
  have ho : SqL K H po (nV o) := ho
  have ne := ne_ok hn hgs
  have gd := List.all_eq_true.mp (gd_ok hn hn1) gs hgs
  refine ⟨⟨H, []⟩, Own.base H, ?_⟩
  refine ⟨⟨by omega, by omega⟩, fun p0 => ?_⟩
  refine ⟨fun σ S => ∃ (p : Addr) (v : Nat) (x4 x5 x6 : Option V), σ = [some gv, some (.ref po), some (.int (n : Nat)), some (.ref p), x4, x5, x6, none] ∧ Ext H S.F ∧ sU K S p (nV [v]) ∧ vicN gs o n (List.range n) = [v], ?_, ?_⟩
  rotate_left
  · rintro σ S ⟨p, v, x4, x5, x6, rfl, hF, hp, hv⟩
    refine ⟨_, _, .inr hp, atI_at (i := 0) rfl, ?_⟩
    refine fun H' o' => ⟨?_, fun a u e => o'.fr a u (hF a u e)⟩
    show V.int (v : Nat) = V.int ((vicN gs o n (List.range n)).headD 0 : Nat)
    rw [hv]
    rfl
  refine ⟨by unfold rngOk; omega, ?_⟩
  refine ⟨fun i σ S => ∃ (p : Addr) (node : List Nat) (x4 x5 x6 : Option V), σ = [some gv, some (.ref po), some (.int (n : Nat)), some (.ref p), x4, x5, x6, none] ∧ Ext H S.F ∧ sU K S p (nV node) ∧ good gs (n - i) node = true ∧ vicN gs o n (List.range n) = vicN gs o (n - i) node ∧ (∀ x ∈ node, x ∈ o) ∧ node.length ≤ 6, ?_, fun _ _ _ _ _ => trivial, ?_, ?_⟩
  · obtain ⟨hc, _, _⟩ := pops_covers hn hop
    refine ⟨p0, List.range n, none, none, none, rfl, fun a u e => e, .inl ⟨0, by rw [← rgS_nV]; rfl⟩, gd, rfl, fun x hx => hc x (List.mem_range.mp hx), by rw [List.length_range]; exact hn⟩
  · rintro i σ S hi ⟨p, node, x4, x5, x6, rfl, hF, hp, hgd, hv, hmem, hl6⟩
    have hi : i < ((n : Nat) : Int).toNat := hi
    obtain ⟨k, hk⟩ : ∃ k, n - i = k + 1 := ⟨n - i - 1, by omega⟩
    rw [hk] at hgd hv
    refine ⟨_, .inr hp, ?_⟩
    rw [nV_len]
    walk_at "b"
    · rename_i hb
      have hl : node.length = 1 := by omega
      obtain ⟨v, rfl⟩ : ∃ v, node = [v] := by
        match node, hl with
        | [v], _ => exact ⟨v, rfl⟩
      refine ⟨_, SLe.refl _, p, v, some (.int (0 + (i : Nat))), x5, x6, rfl, hF, hp, ?_⟩
      rw [hv]
      rfl
    · rename_i hb
      have hl : ¬ node.length = 1 := by omega
      have hgd : (if node.length = 1 then true else (halfN gs node).all (fun x => node.contains x) && good gs k (halfN gs node) && good gs k (restN node (halfN gs node))) = true := hgd
      rw [if_neg hl] at hgd
      obtain ⟨g1, g3⟩ := Bool.and_eq_true_iff.mp hgd
      obtain ⟨g1, g2⟩ := Bool.and_eq_true_iff.mp g1
      refine ⟨(gv, gs, .ref p, node), fun H1 o1 => ⟨rfl, grpV.up (fun a u e => o1.fr a u (hF a u e)) hg, ⟨p, rfl, o1.u hp⟩, good_ne ne (k := k + 1) (by show (if node.length = 1 then true else (halfN gs node).all (fun x => node.contains x) && good gs k (halfN gs node) && good gs k (restN node (halfN gs node))) = true; rw [if_neg hl]; exact hgd), ne⟩, fun H1 hv2 H2 o1 q => ?_, fun _ _ _ _ _ q => q.elim⟩
      obtain ⟨⟨ph, rfl, hph⟩, hE⟩ := q
      have hph : SqT K H2 ph (nV (halfN gs node)) := hph
      have hp2 : SqT K H2 p (nV node) := SqT.up hE (o1.u hp)
      have hH : Ext H H2 := fun a u e => hE a u (o1.fr a u (hF a u e))
      refine ⟨⟨H2, []⟩, Own.base H2, ?_⟩
      refine .inl ⟨nV o, .inr (SqL.up hH ho), fun D => ?_⟩
      have hv : vicN gs o n (List.range n) = (if node.length = 1 then node else if (halfN gs node).contains ((o.filter fun x => node.contains x).headD 0) then vicN gs o k (restN node (halfN gs node)) else vicN gs o k (halfN gs node)) := hv
      rw [if_neg hl] at hv
      have nk : n - (i + 1) = k := by omega
      refine ⟨fun j S => S = ⟨H2, [(D, .lst (nV ((o.take j).filter fun x => node.contains x)))]⟩, rfl, ?_, ?_, ?_⟩
      · rintro j S _ rfl
        exact .inr (SqL.up hH ho)
      · rintro j S hj rfl v hv2
        obtain ⟨x, hx, rfl⟩ := nV_get hv2
        refine ⟨rfl, ?_⟩
        refine ⟨nV node, .inr (.inr hp2), rfl, flat_n node, ?_⟩
        have e := inV_n x node
        have fm := filter_more (p := fun x => node.contains x) hx
        walk_at "w"
        rw [e]
        cases hc : node.contains x with
        | true =>
          refine ⟨0, _, rfl, ?_, ⟨_, SLe.refl _, ?_⟩⟩
          · rw [nV_len]
            have hjl : j < 7 := by
              have q := (List.getElem?_eq_some_iff.mp hx).1
              have q2 : o.length = n := (pops_covers hn hop).2.1
              omega
            exact Nat.lt_of_le_of_lt (Nat.le_trans (List.length_filter_le _ _) (List.length_take_le _ _)) (Nat.lt_of_lt_of_le hjl (by decide))
          · show _ = SH.mk H2 [(D, .lst (nV ((o.take (j + 1)).filter (fun x => node.contains x))))]
            rw [fm, if_pos hc, nV_append]
            rfl
        | false =>
          refine ⟨_, SLe.refl _, ?_⟩
          show _ = SH.mk H2 [(D, .lst (nV ((o.take (j + 1)).filter (fun x => node.contains x))))]
          rw [fm, if_neg (by rw [hc]; decide), List.append_nil]
      · rintro S rfl
        have eo : (itL K po (nV o)).n = o.length := nV_len o
        rw [eo, List.take_length]
        obtain ⟨y, hy⟩ := List.exists_mem_of_ne_nil node (good_ne ne (k := k + 1) (by show (if node.length = 1 then true else (halfN gs node).all (fun x => node.contains x) && good gs k (halfN gs node) && good gs k (restN node (halfN gs node))) = true; rw [if_neg hl]; exact hgd))
        have hyf : y ∈ o.filter fun x => node.contains x := List.mem_filter.mpr ⟨hmem y hy, List.contains_iff_mem.mpr hy⟩
        obtain ⟨w, wr, hw⟩ : ∃ w wr, (o.filter fun x => node.contains x) = w :: wr := by
          cases e : o.filter fun x => node.contains x with
          | nil =>
            rw [e] at hyf
            cases hyf
          | cons w wr => exact ⟨w, wr, rfl⟩
        rw [hw] at hv ⊢
        refine ⟨_, _, .inl (.inl ⟨0, rfl⟩), atI_at (i := 0) rfl, ?_⟩
        refine ⟨nV (halfN gs node), .inr (.inr hph), rfl, flat_n _, ?_⟩
        have e := inV_n w (halfN gs node)
        walk_at "w"
        rw [e]
        have hv : vicN gs o n (List.range n) = (if (halfN gs node).contains w then vicN gs o k (restN node (halfN gs node)) else vicN gs o k (halfN gs node)) := hv
        cases hc : (halfN gs node).contains w with
        | false =>
          rw [hc, if_neg (by decide)] at hv
          refine ⟨_, SLe.refl _, ph, halfN gs node, some (.int (0 + (i : Nat))), some (.ref ph), some (.int (w : Nat)), rfl, hH, .inr hph, by rw [nk]; exact g2, by rw [nk]; exact hv, fun x hx => hmem x (List.contains_iff_mem.mp (List.all_eq_true.mp g1 x hx)), halfN_len gs hl6⟩
        | true =>
          rw [hc, if_pos rfl] at hv
          refine .inr ⟨nV node, .inr hp2, fun D2 => ?_⟩
          refine ⟨fun j S => S = ⟨H2, [(D2, .lst (nV ((node.take j).filter fun x => !(halfN gs node).contains x))), (D, .lst (nV (w :: wr)))]⟩, rfl, ?_, ?_, ?_⟩
          · rintro j S _ rfl
            exact .inr hp2
          · rintro j S hj rfl v hv2
            obtain ⟨x, hx, rfl⟩ := nV_get hv2
            refine ⟨rfl, ?_⟩
            refine ⟨nV (halfN gs node), .inr (.inr hph), rfl, flat_n _, ?_⟩
            have e := inV_n x (halfN gs node)
            have fm := filter_more (p := fun x => !(halfN gs node).contains x) hx
            walk_at "w"
            rw [e]
            cases hc2 : (halfN gs node).contains x with
            | false =>
              refine ⟨0, _, rfl, ?_, ⟨_, SLe.refl _, ?_⟩⟩
              · rw [nV_len]
                have hjl : j < 7 := by
                  have q := (List.getElem?_eq_some_iff.mp hx).1
                  omega
                exact Nat.lt_of_le_of_lt (Nat.le_trans (List.length_filter_le _ _) (List.length_take_le _ _)) (Nat.lt_of_lt_of_le hjl (by decide))
              · show _ = SH.mk H2 [(D2, .lst (nV ((node.take (j + 1)).filter fun x => !(halfN gs node).contains x))), (D, .lst (nV (w :: wr)))]
                rw [fm, if_pos (by rw [hc2]; rfl), nV_append]
                rfl
            | true =>
              refine ⟨_, SLe.refl _, ?_⟩
              show _ = SH.mk H2 [(D2, .lst (nV ((node.take (j + 1)).filter fun x => !(halfN gs node).contains x))), (D, .lst (nV (w :: wr)))]
              rw [fm, if_neg (by rw [hc2]; decide), List.append_nil]
          · rintro S rfl
            have en : (itU K p (nV node)).n = node.length := nV_len node
            rw [en, List.take_length]
            refine .inl ⟨_, .inl ⟨0, rfl⟩, fun q => ?_⟩
            exact ⟨_, SLe.refl _, q, restN node (halfN gs node), some (.int (0 + (i : Nat))), some (.ref ph), some (.int (w : Nat)), rfl, hH, .inl ⟨0, rfl⟩, by rw [nk]; exact g3, by rw [nk]; exact hv, fun x hx => hmem x (List.mem_filter.mp hx).1, Nat.le_trans (List.length_filter_le _ _) hl6⟩
  · rintro σ S ⟨p, node, x4, x5, x6, rfl, hF, hp, hgd, hv, _, _⟩
    have hgd : good gs (n - ((n : Nat) : Int).toNat) node = true := hgd
    rw [show n - ((n : Nat) : Int).toNat = 0 by omega] at hgd
    cases hgd
end
section
variable {K : PySem.W.Frag} {a : Ads}
theorem without_t {H : Hp} {q c : Addr} {xs ys : List V} (hc : H c = some (.lst ys)) (h : SqT K H q xs) : SqT K (without H c) q xs := by
  rcases h with (h | ⟨o, h⟩) | h
  · have ne : q ≠ c := fun e => by rw [e, hc] at h; cases h
    exact .inl (.inl (by rw [without_ne ne]; exact h))
  · have ne : q ≠ c := fun e => by rw [e, hc] at h; cases h
    exact .inl (.inr ⟨o, by rw [without_ne ne]; exact h⟩)
  · exact .inr h
theorem without_l {H : Hp} {q c : Addr} {xs ys : List V} (hc : H c = some (.lst ys)) (hx : xs ≠ ys) (h : SqL K H q xs) : SqL K (without H c) q xs := by
  rcases h with (h | ⟨o, h⟩) | h
  · have ne : q ≠ c := fun e => by
      rw [e, hc] at h
      exact hx (HO.lst.inj (Option.some.inj h)).symm
    exact .inl (.inl (by rw [without_ne ne]; exact h))
  · have ne : q ≠ c := fun e => by rw [e, hc] at h; cases h
    exact .inl (.inr ⟨o, by rw [without_ne ne]; exact h⟩)
  · exact .inr h
theorem refs_ne {α : Type} {R : V → α → Prop} (hr : ∀ v x, R v x → ∃ p, v = .ref p) {c : Nat} {cs : List Nat} : ∀ {vs : List V} {xs : List α}, allV R vs xs → vs ≠ nV (c :: cs)
  | [], _, _ => fun e => by cases e
  | v :: vs, x :: xs, h => fun e => by
    obtain ⟨p, e2⟩ := hr v x h.1
    rw [e2] at e
    cases e
  | _ :: _, [], h => h.elim
theorem without_grp {H : Hp} {c : Addr} {k : Nat} {cs : List Nat} (hc : H c = some (.lst (nV (k :: cs)))) {v : V} {gs : List (List Nat)} (h : grpV K H v gs) : grpV K (without H c) v gs := by
  obtain ⟨p, vs, e, h, al⟩ := h
  exact ⟨p, vs, e, without_l hc (refs_ne (fun _ _ q => let ⟨p, e, _⟩ := q; ⟨p, e⟩) al) h, allV_ex (fun _ _ q => let ⟨p, e, q⟩ := q; ⟨p, e, without_t hc q⟩) al⟩
theorem without_trees {H : Hp} {c : Addr} {k : Nat} {cs : List Nat} (hc : H c = some (.lst (nV (k :: cs)))) {v : V} {ts : List (List (List Nat))} (h : lstR K (grpV K) H v ts) : lstR K (grpV K) (without H c) v ts := by
  obtain ⟨p, vs, e, h, al⟩ := h
  exact ⟨p, vs, e, without_l hc (refs_ne (fun _ _ q => let ⟨p, _, e, _⟩ := q; ⟨p, e⟩) al) h, allV_ex (fun _ _ q => without_grp hc q) al⟩
theorem nV_zero (n : Nat) : (List.replicate n [V.int 0]).flatten = nV (List.replicate n 0) := by
  induction n with
  | zero => rfl
  | succ n ih =>
    rw [List.replicate_succ, List.replicate_succ, List.flatten_cons, ih]
    rfl
theorem nV_set (ns : List Nat) (i x : Nat) : (nV ns).set i (.int (x : Nat)) = nV (ns.set i x) := by
  unfold nV
  rw [List.map_set]
/-- the counts behind some trees -/
def cntB (n : Nat) (o : List Nat) (ts : List (List (List Nat))) : List Nat := (List.range n).map fun r => ts.countP fun gs => ((vicN gs o n (List.range n)).headD 0) == o.getD r 6
theorem first_at {w : Nat} : ∀ {o : List Nat}, w ∈ o → ∃ j, o[j]? = some w ∧ ∀ (m : Nat) z, m < j → o[m]? = some z → z ≠ w
  | x :: o, h => by
    by_cases e : x = w
    · exact ⟨0, congrArg some e, fun m z hm => absurd hm (Nat.not_lt_zero m)⟩
    · have hw : w ∈ o := by
        cases h with
        | head => exact absurd rfl e
        | tail _ h => exact h
      obtain ⟨j, h1, h2⟩ := first_at hw
      refine ⟨j + 1, h1, fun m z hm hz => ?_⟩
      cases m with
      | zero =>
        cases hz
        exact e
      | succ m => exact h2 m z (by omega) hz
theorem pops_nodup {n : Nat} (hn : n ≤ 6) {o : List Nat} (ho : o ∈ pops n (List.range n)) : o.Nodup := by
  have : ∀ n ∈ List.range 7, ((pops n (List.range n)).all fun o => decide o.Nodup) = true := by decide +kernel
  exact of_decide_eq_true (List.all_eq_true.mp (this n (List.mem_range.mpr (by omega))) o ho)
theorem cntB_more {n : Nat} {o : List Nat} {ts : List (List (List Nat))} {i j w : Nat} {gs : List (List Nat)} (hi : ts[i]? = some gs) (hl : o.length = n) (nd : o.Nodup) (hj : o[j]? = some w) (hw : (vicN gs o n (List.range n)).headD 0 = w) :
    cntB n o (ts.take (i + 1)) = (cntB n o (ts.take i)).set j ((cntB n o (ts.take i)).getD j 0 + 1) := by
  have hjn : j < n := by
    have := (List.getElem?_eq_some_iff.mp hj).1
    omega
  have at_ : ∀ (l : List (List (List Nat))) (r : Nat), (cntB n o l)[r]? = if r < n then some (l.countP fun gs => ((vicN gs o n (List.range n)).headD 0) == o.getD r 6) else none := fun l r => by
    unfold cntB
    rw [List.getElem?_map]
    by_cases hr : r < n
    · rw [if_pos hr, List.getElem?_range hr]
      rfl
    · rw [if_neg hr, List.getElem?_eq_none (by rw [List.length_range]; omega)]
      rfl
  refine List.ext_getElem? fun r => ?_
  rw [at_, List.getElem?_set, at_, take_more hi, List.countP_append]
  by_cases hr : r < n
  · rw [if_pos hr]
    have og : o.getD r 6 = o[r]'(by omega) := by
      rw [List.getD_eq_getElem?_getD, List.getElem?_eq_getElem (by omega)]
      rfl
    by_cases e : j = r
    · subst e
      have e1 : o.getD j 6 = w := by
        rw [List.getD_eq_getElem?_getD, hj]
        rfl
      have e2 : (cntB n o (ts.take i)).getD j 0 = (ts.take i).countP fun gs => ((vicN gs o n (List.range n)).headD 0) == o.getD j 6 := by
        rw [List.getD_eq_getElem?_getD, at_, if_pos hr]
        rfl
      have hlen : j < (cntB n o (ts.take i)).length := by
        unfold cntB
        rw [List.length_map, List.length_range]
        exact hr
      rw [if_pos rfl, if_pos hlen, e2]
      congr 2
      rw [List.countP_singleton, hw, e1, if_pos (beq_self_eq_true w)]
    · rw [if_neg e, if_pos hr]
      have ne : ¬ (w == o.getD r 6) = true := fun q => by
        have q := beq_iff_eq.mp q
        rw [og] at q
        have h2 : o[r]? = some w := by rw [List.getElem?_eq_getElem (by omega), q]
        have h3 : j < o.length := by omega
        have h4 : r < o.length := by omega
        have e5 : o[j] = o[r] := by
          have a1 : o[j]? = some o[j] := List.getElem?_eq_getElem h3
          have a2 : o[r]? = some o[r] := List.getElem?_eq_getElem h4
          rw [hj] at a1
          rw [h2] at a2
          exact (Option.some.inj a1).symm.trans (Option.some.inj a2)
        exact e ((List.getElem_inj nd).mp e5)
      rw [List.countP_singleton, hw, if_neg ne]
      rfl
  · rw [if_neg hr, if_neg (by omega), if_neg hr]
theorem vc_l_by_listing {vs : List V} {H : Hp} (g : V × List Nat × Nat) (h : (ct_l_by_listing K).pre g vs H) : ∃ S, Own S H ∧ r_l_by_listing K a (endsC (ct_l_by_listing K) g H) (start N_l_by_listing vs) S := by
  obtain ⟨ov, o, n⟩ := g
  obtain ⟨rfl, ⟨po, e1, ho⟩, hn1, hn, hop⟩ := h
  have e1 : ov = .ref po := e1
  subst e1
  have ho : SqL K H po (nV o) := ho
  have hn1 : 1 ≤ n := hn1
  have hn : n ≤ 6 := hn
  have hop : o ∈ pops n (List.range n) := hop
  refine ⟨⟨H, []⟩, Own.base H, ?_⟩
  refine ⟨(by walk_at "z"), fun p0 => ?_⟩
  refine ⟨[.int 0], .inl ⟨0, rfl⟩, by omega, ?_, fun pc => ?_⟩
  · show 1 * ((n : Nat) : Int).toNat ≤ sizeLine
    rw [Int.toNat_natCast, Nat.one_mul]
    exact Nat.le_trans hn (by decide)
  rw [Int.toNat_natCast, nV_zero]
  refine ⟨n, fun H1 o1 => ⟨rfl, hn1, hn⟩, fun H1 v H2 o1 q => ?_, fun _ _ _ _ _ q => q.elim⟩
  obtain ⟨q, hE⟩ := q
  have hc : H2 pc = some (.lst (nV (List.replicate n 0))) := hE _ _ (o1.g (i := 0) rfl)
  have hpc : H pc = none := (o1.gs _ List.mem_cons_self).2
  refine ⟨⟨without H2 pc, [(pc, .lst (nV (List.replicate n 0)))]⟩, Own.only hc, ?_⟩
  have hc' : H2 pc = some (.lst (nV (0 :: List.replicate (n - 1) 0))) := by
    rw [hc, ← List.replicate_succ, show n - 1 + 1 = n by omega]
  obtain ⟨pt, ts, rfl, ht, hal⟩ := without_trees hc' q
  have hF : Ext H (without H2 pc) := fun a u e => by
    have ne : a ≠ pc := fun z => by rw [z, hpc] at e; cases e
    rw [without_ne ne]
    exact hE a u (o1.fr a u e)
  refine .inl ⟨ts, .inr ht, ?_⟩
  refine ⟨fun i σ S => ∃ (F : Hp) (x y : Option V), σ = [some (.ref po), some (.int (n : Nat)), some (.ref pc), x, y] ∧ S = ⟨F, [(pc, .lst (nV (cntB n o ((allG n).take i))))]⟩ ∧ Ext (without H2 pc) F, ?_, ?_, ?_, ?_⟩
  · refine ⟨_, none, none, rfl, ?_, fun a u e => e⟩
    have e : cntB n o ((allG n).take 0) = List.replicate n 0 := by
      unfold cntB
      refine List.ext_getElem? fun j => ?_
      rw [List.getElem?_map, List.getElem?_replicate]
      by_cases hj : j < n
      · rw [if_pos hj, List.getElem?_range hj]
        rfl
      · rw [if_neg hj, List.getElem?_eq_none (by rw [List.length_range]; omega)]
        rfl
    rw [e]
  · rintro i σ S _ ⟨F, x, y, rfl, rfl, hFF⟩
    exact .inr (SqL.up hFF ht)
  · rintro i σ S hi ⟨F, x, y, rfl, rfl, hFF⟩ v hv
    obtain ⟨gs, hgi, hgv⟩ := allV_at hal hv
    have hgm : gs ∈ allG n := List.mem_of_getElem? hgi
    obtain ⟨w, hw, hwo, hwn⟩ := vic_in hn hn1 hop hgm
    have hoF : SqL K F po (nV o) := SqL.up hFF (SqL.up hF ho)
    refine ⟨.inl ⟨rfl, nV o, .inr hoF⟩, ?_⟩
    refine ⟨(v, gs, .ref po, o, n), fun H1 o1 => ⟨rfl, grpV.up (fun a u e => o1.fr a u (hFF a u e)) hgv, ⟨po, rfl, SqL.up (fun a u e => o1.fr a u e) hoF⟩, hn1, hn, hgm, hop⟩, fun H1 v2 H3 o1 q => ⟨_, o1.ex q.2, ?_⟩, fun _ _ _ _ _ q => q.elim⟩
    obtain ⟨rfl, _⟩ := q
    obtain ⟨j, hj, hj2⟩ := first_at hwo
    have hl : o.length = n := (pops_covers hn hop).2.1
    have hjn : j < n := by
      have := (List.getElem?_eq_some_iff.mp hj).1
      omega
    have hwh : (vicN gs o n (List.range n)).headD 0 = w := by rw [hw]; rfl
    refine ⟨nV o, j, .int (w : Nat), .inr hoF, rfl, flat_n o, nV_at hj, ?_, ?_, ?_⟩
    · rw [show (V.int (((vicN gs o n (List.range n)).headD 0 : Nat) : Int)) = V.int ((w : Nat) : Int) by rw [hwh], eqV_n]
      exact beq_self_eq_true w
    · intro m z hm hz
      obtain ⟨z, hz3, rfl⟩ := nV_get hz
      rw [show (V.int (((vicN gs o n (List.range n)).headD 0 : Nat) : Int)) = V.int ((w : Nat) : Int) by rw [hwh], eqV_n]
      exact beq_eq_false_iff_ne.mpr (hj2 m z hm hz3)
    have hc0 : (cntB n o ((allG n).take i))[j]? = some ((cntB n o ((allG n).take i)).getD j 0) := by
      rw [List.getD_eq_getElem?_getD]
      have : j < (cntB n o ((allG n).take i)).length := by
        unfold cntB
        rw [List.length_map, List.length_range]
        exact hjn
      rw [List.getElem?_eq_getElem this]
      rfl
    refine ⟨_, _, .inl (.inl ⟨0, rfl⟩), atI_at (nV_at hc0), ?_⟩
    refine ⟨0, _, j, rfl, ixN_nat (by rw [nV_len]; unfold cntB; rw [List.length_map, List.length_range]; exact hjn), _, SLe.refl _, F, some v, some (.int (j : Nat)), rfl, ?_, hFF⟩
    rw [cntB_more hgi hl (pops_nodup hn hop) hj hwh, ← nV_set]
    rfl
  · rintro σ S ⟨F, x, y, rfl, rfl, hFF⟩
    refine fun H' o' => ⟨⟨pc, rfl, hpc, ?_⟩, fun a u e => o'.fr a u (hFF a u (hF a u e))⟩
    have q := o'.g (i := 0) rfl
    have el : (itL K pt ts).n = (allG n).length := allV_len hal
    rw [el, List.take_length] at q
    rw [q]
    congr 3
    exact listing hn hn1 hop
end
section
variable {K : PySem.W.Frag} {a : Ads}
def sideStep (l r : List Nat) (b : Str) (s : Nat) : Str := if l.contains s then "L" else if r.contains s then "R" else b
theorem vc_last_side {vs : List V} {H : Hp} (g : V × List Nat × V × List Nat × V × List Nat) (h : (ct_last_side K).pre g vs H) : ∃ S, Own S H ∧ r_last_side K a (endsC (ct_last_side K) g H) (start N_last_side vs) S := by
  obtain ⟨rv, slots, lv, l, rrv, r⟩ := g
  obtain ⟨rfl, ⟨pr, ws, e1, hr, hal⟩, ⟨pl, e2, hl⟩, ⟨pq, e3, hq⟩⟩ := h
  have e1 : rv = .ref pr := e1
  have e2 : lv = .ref pl := e2
  have e3 : rrv = .ref pq := e3
  subst e1
  subst e2
  subst e3
  have hl : sU K ⟨H, []⟩ pl (nV l) := .inr hl
  have hq : sU K ⟨H, []⟩ pq (nV r) := .inr hq
  have hr : sL K ⟨H, []⟩ pr ws := .inr hr
  have hal : allV (hitV K H) ws slots := hal
  refine ⟨⟨H, []⟩, Own.base H, ?_⟩
  refine .inl ⟨ws, hr, ?_⟩
  refine ⟨fun i σ S => ∃ (x y z : Option V), σ = [some (.ref pr), some (.ref pl), some (.ref pq), some (.str (sideF l r (slots.take i))), x, y, z] ∧ S = ⟨H, []⟩, ⟨none, none, none, rfl, rfl⟩, ?_, ?_, ?_⟩
  · rintro i σ S _ ⟨x, y, z, rfl, rfl⟩
    exact hr
  · rintro i σ S hi ⟨x, y, z, rfl, rfl⟩ v hv
    obtain ⟨s, hs, ⟨p, rfl, hp⟩⟩ := allV_at hal hv
    have st : sideF l r (slots.take (i + 1)) = sideStep l r (sideF l r (slots.take i)) s := by
      unfold sideF
      rw [take_more hs, List.foldl_append]
      rfl
    refine ⟨_, .inr hp, rfl, ?_⟩
    have el := inV_n s l
    have er := inV_n s r
    refine ⟨_, .inr hl, rfl, flat_n l, ?_⟩
    walk_at "w"
    rw [el]
    cases hc : l.contains s with
    | true =>
      refine ⟨_, .inr hl, rfl, flat_n l, ?_⟩
      walk_at "w"
      rw [el, hc]
      refine ⟨_, SLe.refl _, some (.str "hit"), some (.int (s : Nat)), some (.str "L"), ?_, rfl⟩
      rw [st]
      unfold sideStep
      rw [if_pos hc]
      rfl
    | false =>
      refine ⟨_, .inr hq, rfl, flat_n r, ?_⟩
      walk_at "w"
      rw [er]
      cases hd : r.contains s with
      | true =>
        refine ⟨_, .inr hl, rfl, flat_n l, ?_⟩
        walk_at "w"
        rw [el, hc]
        refine ⟨_, SLe.refl _, some (.str "hit"), some (.int (s : Nat)), some (.str "R"), ?_, rfl⟩
        rw [st]
        unfold sideStep
        rw [if_neg (by rw [hc]; decide), if_pos hd]
        rfl
      | false =>
        refine ⟨_, SLe.refl _, some (.str "hit"), some (.int (s : Nat)), z, ?_, rfl⟩
        rw [st]
        unfold sideStep
        rw [if_neg (by rw [hc]; decide), if_neg (by rw [hd]; decide)]
        rfl
  · rintro σ S ⟨x, y, z, rfl, rfl⟩
    refine fun H' o' => ⟨?_, fun a u e => o'.fr a u e⟩
    have en : (itL K pr ws).n = slots.length := allV_len hal
    rw [en, List.take_length]
end
section
variable {K : PySem.W.Frag} {a : Ads}
theorem door_no {res : Nat → Hp → V → Hp → Prop} {x : V} {t : TY} {W : sWX} {σ : L2.St} {S : SH} {Q : V → SH → Prop} {vs : List V} (e : vs = [x]) (ht : ∀ H, Own S H → Ty0 K H x t) (hx : okN x 1 (some 60) = false)
    (k : ∀ d, W (.ref a.InvalidNumber) (some d) σ (S.new d (.xd [("number", x)]))) : rC (ct_door K a res) W vs σ S Q := by
  refine ⟨(x, t), fun H o => ⟨e, ht H o⟩, fun H v H' o q => ?_, fun H c d H' o q => ?_⟩
  · obtain ⟨n, e1, h1, h2, _⟩ := q
    have e1 : x = .int (n : Nat) := e1
    rw [e1] at hx
    have hx : (decide ((1 : Int) ≤ (n : Nat)) && decide (((n : Nat) : Int) ≤ 60)) = false := hx
    rw [decide_eq_true (by omega), decide_eq_true (by omega)] at hx
    cases hx
  · obtain ⟨_, rfl, dd, rfl, q2, q3, q4⟩ := q
    exact ⟨_, o.new q2 q3 q4, k dd⟩
theorem vc_l_refusal (T : Kit K a) {vs : List V} {H : Hp} (g : Int × V × TY) (h : (ct_l_refusal K).pre g vs H) : ∃ S, Own S H ∧ r_l_refusal K a (endsC (ct_l_refusal K) g H) (start N_l_refusal vs) S := by
  obtain ⟨i, x, t⟩ := g
  obtain ⟨rfl, ht, hx⟩ := h
  refine ⟨⟨H, []⟩, Own.base H, ?_⟩
  refine ⟨fun _ _ => False, ?_, fun _ _ z => z.elim⟩
  have suite : ∀ dd, sHan K { nx := fun σ' => Wk fun _ => False, rt := (endsC (ct_l_refusal K) (i, x, t) H).rt, bk := (endsC (ct_l_refusal K) (i, x, t) H).bk, ct := (endsC (ct_l_refusal K) (i, x, t) H).ct, ex := (endsC (ct_l_refusal K) (i, x, t) H).ex }
      [(.ref a.InvalidNumber, some 2, fun ea cls ed => sRet (sTup (sCons (sC (.int 1)) (sCons (sXf ea cls ed a.InvalidNumber ("number" : Str) (sVar 2)) (sCons (sOrV (sCall1 (nIsY K ea cls ed) (sCons (sVar 2) (sCons (sC (.ref a.InvalidItem)) (sNil)))) (sNotV K (sCall1 (nIsY K ea cls ed) (sCons (sVar 2) (sCons (sC (.ref a.CacheError)) (sNil)))))) (sNil)))))), (.ref a.CacheError, none, fun ea cls ed => sRet (sTup (sCons (sC (.int 2)) (sCons (sC (.int 0)) (sCons (sC (.bl true)) (sNil))))))]
      (.ref a.InvalidNumber) (some dd) (start N_l_refusal [.int i, x]) (SH.new ⟨H, []⟩ dd (.xd [("number", x)])) := fun dd => by
    refine ⟨true, T.exm, fun _ ea => ?_, fun z => nomatch z⟩
    refine ⟨rfl, rfl, dd, _, x, rfl, .inl ⟨0, rfl⟩, by simp [List.lookup], ?_⟩
    refine ⟨rfl, _, dd, _, false, _, rfl, rfl, T.isc, .inl ⟨0, rfl⟩, fun u r => r, T.k1, ?_⟩
    refine ⟨rfl, _, dd, _, true, _, rfl, rfl, T.isc, .inl ⟨0, rfl⟩, fun u r => r, T.k2, ?_⟩
    refine ⟨(by walk_at "z"), fun q => ?_⟩
    intro H' o'
    exact ⟨q, rfl, (o'.gs _ List.mem_cons_self).2, o'.g (i := 0) rfl, fun a u e => o'.fr a u e⟩
  walk_at "b"
  · exact door_no (t := t) rfl (fun H' o => ht.ex (ext0 o)) hx suite
  · exact door_no (t := t) rfl (fun H' o => ht.ex (ext0 o)) hx suite
end
section
variable {K : PySem.W.Frag} {a : Ads}
/-- a wrong number, as the state knows it -/
def NumOk (K : PySem.W.Frag) (S : SH) (v : V) : Prop := ∃ (t : TY) (d : PyData), (∀ H, Own S H → Ty0 K H v t) ∧ sD K S v d ∧ SeqAt.shaped (.tuple [.int 1, d, .bool false]) = true ∧ okN v 1 (some 60) = false
theorem NumOk.le {S S' : SH} {v : V} (h : NumOk K S v) (le : SLe S' S) : NumOk K S' v := by
  obtain ⟨t, d, h1, h2, h3, h4⟩ := h
  exact ⟨t, d, fun H o => h1 H (le H o), fun H o => h2 H (le H o), h3, h4⟩
theorem num_int {S : SH} {i : Int} (h : i < 1 ∨ 60 < i) : NumOk K S (.int i) := by
  refine ⟨.int, .int i, fun _ _ => rfl, fun _ _ => .int i, rfl, ?_⟩
  show (decide (1 ≤ i) && decide (i ≤ 60)) = false
  rcases h with h | h
  · rw [decide_eq_false (by omega)]
    rfl
  · rw [decide_eq_false (p := i ≤ 60) (by omega), Bool.and_false]
theorem sle_new {S : SH} {p : Addr} {o : HO} : SLe (S.new p o) S := sle_sub (.cons _ (.refl _))
theorem use_refusal {W : sWX} {σ : L2.St} {S : SH} {Q : V → SH → Prop} {vs : List V} (i : Int) (x : V) (e : vs = [.int i, x]) (hx : NumOk K S x) (k : ∀ p, Q (.ref p) (S.new p (.tup [.int 1, x, .bl false]))) : rC (ct_l_refusal K) W vs σ S Q := by
  obtain ⟨t, d, h1, _, _, h4⟩ := hx
  refine ⟨(i, x, t), fun H o => ⟨e, h1 H o, h4⟩, fun H v H' o q => ?_, fun _ _ _ _ _ q => q.elim⟩
  obtain ⟨p, rfl, q1, q2, q3⟩ := q
  exact ⟨_, o.new q1 q3 q2, k p⟩
theorem odd_at {S : SH} {pl pt : Addr} {r1 r2 r : Nat} (hl : sL K S pl [.int 6]) (ht : sU K S pt [.int 6]) (hr : (r : Int) < 10) :
    ∃ v, [V.int 0, .int 61, .int (-1), .non, .str "6", .int (62 + (r1 : Nat)), .int (-1 - (r2 : Nat)), .int (10 ^ 30), .ref pl, .ref pt][r]? = some v ∧ NumOk K S v := by
  have : r = 0 ∨ r = 1 ∨ r = 2 ∨ r = 3 ∨ r = 4 ∨ r = 5 ∨ r = 6 ∨ r = 7 ∨ r = 8 ∨ r = 9 := by omega
  rcases this with rfl | rfl | rfl | rfl | rfl | rfl | rfl | rfl | rfl | rfl
  · exact ⟨_, rfl, num_int (by omega)⟩
  · exact ⟨_, rfl, num_int (by omega)⟩
  · exact ⟨_, rfl, num_int (by omega)⟩
  · exact ⟨_, rfl, .non, .none, fun _ _ => rfl, fun _ _ => .non, rfl, rfl⟩
  · exact ⟨_, rfl, .str, .str "6", fun _ _ => rfl, fun _ _ => .str "6", by decide +kernel, rfl⟩
  · exact ⟨_, rfl, num_int (by omega)⟩
  · exact ⟨_, rfl, num_int (by omega)⟩
  · exact ⟨_, rfl, num_int (.inr (by decide))⟩
  · exact ⟨_, rfl, .list, .list [.int 6], fun H o => .inl ⟨rfl, _, .inr (o.l hl)⟩, fun H o => .lst (o.l hl) (.cons (.int 6) .nil), rfl, rfl⟩
  · exact ⟨_, rfl, .tuple, .tuple [.int 6], fun H o => .inr (.inl ⟨rfl, _, .inr (o.u ht)⟩), fun H o => .tup (o.u ht) (.cons (.int 6) .nil), rfl, rfl⟩
theorem vc_l_refuses {vs : List V} {H : Hp} (g : Addr × Unit) (h : ct_l_refuses.pre g vs H) : ∃ S, Own S H ∧ r_l_refuses K a (endsC ct_l_refuses g H) (start N_l_refuses vs) S := by
  obtain ⟨b, _⟩ := g
  obtain ⟨rfl, hbx, _⟩ := h
  obtain ⟨u, t, m, hu, ht, o⟩ := body_draw hbx
  refine ⟨_, o, ?_⟩
  refine use_take (u := u) (t := t) (m := m) (size := 1000) 0 (by rfl) hu ht (by rfl) ⟨by decide, by decide⟩ fun r1 u t m _ hu ht => ?_
  refine use_take (u := u) (t := t) (m := m) (size := 1000) 0 (by rfl) hu ht (by rfl) ⟨by decide, by decide⟩ fun r2 u t m _ hu ht => ?_
  refine ⟨⟨by decide, by decide, by decide⟩, ?_⟩
  refine ⟨(by walk_at "z"), fun pl => ?_⟩
  refine ⟨(by walk_at "z"), fun pt => ?_⟩
  refine ⟨(by walk_at "z"), fun po => ?_⟩
  refine ⟨by unfold rngOk; omega, ?_⟩
  refine ⟨fun i σ S => ∃ (u t m : Int) (x y : Option V), 0 ≤ u ∧ (0 ≤ t ∧ t < 2147483647) ∧ σ = [some (.ref b), some (.ref po), x, y] ∧ S = ⟨without H b, [(po, .lst [V.int 0, .int 61, .int (-1), .non, .str "6", .int (62 + (r1 : Nat)), .int (-1 - (r2 : Nat)), .int (10 ^ 30), .ref pl, .ref pt]), (pt, .tup [.int 6]), (pl, .lst [.int 6]), (b, boxO u t m)]⟩, ⟨u, t, m, none, none, hu, ht, rfl, rfl⟩, fun _ _ _ _ _ => trivial, ?_, ?_⟩
  · rintro i σ S hi ⟨u, t, m, x, y, hu, ht, rfl, rfl⟩
    refine use_take (u := u) (t := t) (m := m) (size := 10) 3 (by rfl) hu ht (by rfl) ⟨by decide, by decide⟩ fun r u t m hr hu ht => ?_
    obtain ⟨v, hv, hk⟩ := odd_at (K := K) (S := ⟨without H b, [(po, .lst [V.int 0, .int 61, .int (-1), .non, .str "6", .int (62 + (r1 : Nat)), .int (-1 - (r2 : Nat)), .int (10 ^ 30), .ref pl, .ref pt]), (pt, .tup [.int 6]), (pl, .lst [.int 6]), (b, boxO u t m)]⟩) (pl := pl) (pt := pt) (r1 := r1) (r2 := r2) (.inl ⟨2, rfl⟩) (.inl ⟨1, rfl⟩) hr
    refine ⟨_, v, .inl (.inl ⟨0, rfl⟩), atI_at hv, ?_⟩
    refine use_refusal (0 + (i : Nat)) v (by rfl) hk fun p => ?_
    refine ⟨(by walk_at "z"), fun q => ?_⟩
    obtain ⟨ty, d, _, hd, hsh, _⟩ := hk
    refine ⟨.tuple [.int 1, d, .bool false], .tuple [.int 1, d, .bool false], fun H1 o1 => .tup (o1.u (.inl ⟨1, rfl⟩)) (.cons (.int 1) (.cons (hd H1 (sle_new _ (sle_new _ o1))) (.cons (.bl false) .nil))), fun H1 o1 => .tup (o1.u (.inl ⟨0, rfl⟩)) (.cons (.int 1) (.cons (hd H1 (sle_new _ (sle_new _ o1))) (.cons (.bl false) .nil))), hsh, hsh, ?_⟩
    rw [SeqAt.eqv_refl _ (SeqAt.canLay_of_shaped hsh)]
    exact ⟨_, sle_sub (.cons _ (.cons _ (.refl _))), u, t, m, _, _, hu, ht, rfl, rfl⟩
  · rintro σ S ⟨u, t, m, x, y, hu, ht, rfl, rfl⟩
    exact fun H' o' => ⟨rfl, end_draw (u := u) (t := t) (m := m) 3 o' rfl rfl hu ht⟩
end
section
variable {K : PySem.W.Frag} {a : Ads}
theorem hitV.up {H H' : Hp} {v : V} {s : Nat} (e : Ext H H') (h : hitV K H v s) : hitV K H' v s := let ⟨p, e1, h⟩ := h; ⟨p, e1, SqT.up e h⟩
theorem hitsV.up {H H' : Hp} {v : V} {ss : List Nat} (e : Ext H H') (h : hitsV K H v ss) : hitsV K H' v ss := let ⟨p, vs, e1, h, al⟩ := h; ⟨p, vs, e1, SqL.up e h, allV_ex (fun _ _ q => hitV.up e q) al⟩
theorem vc_checked_lines {vs : List V} {H : Hp} (g : Int × V × List Nat) (h : (ct_checked_lines K).pre g vs H) : ∃ S, Own S H ∧ r_checked_lines K a (endsC (ct_checked_lines K) g H) (start N_checked_lines vs) S := by
  obtain ⟨m, rv, ss⟩ := g
  obtain ⟨rfl, ⟨pr, ws, e1, hr, hal⟩, hss⟩ := h
  have e1 : rv = .ref pr := e1
  subst e1
  have hr : ∀ G, sL K ⟨H, G⟩ pr ws := fun G => .inr hr
  have hal : allV (hitV K H) ws ss := hal
  have hss : ∀ s ∈ ss, (s : Int) < m := hss
  refine ⟨⟨H, []⟩, Own.base H, ?_⟩
  refine ⟨.list, .inl ⟨rfl, _, hr _⟩, ?_⟩
  refine ⟨ws, hr _, ?_⟩
  refine ⟨fun i σ S => ∃ (x y : Option V), σ = [some (.int m), some (.ref pr), x, y] ∧ S = ⟨H, []⟩, ⟨none, none, rfl, rfl⟩, ?_, ?_, ?_⟩
  · rintro i σ S _ ⟨x, y, rfl, rfl⟩
    exact hr _
  · rintro i σ S hi ⟨x, y, rfl, rfl⟩ v hv r
    obtain ⟨s, hs, hv2⟩ := allV_at hal hv
    refine ⟨_, .inl ⟨0, rfl⟩, rfl, ?_⟩
    refine ⟨(m, v, s), fun H1 o1 => ⟨rfl, hitV.up (fun a u e => o1.fr a u e) hv2, hss s (List.mem_of_getElem? hs)⟩, fun H1 w H2 o1 q => ⟨_, o1.ex q.2, ?_⟩, fun _ _ _ _ _ q => q.elim⟩
    obtain ⟨rfl, _⟩ := q
    exact ⟨_, sle_new, _, _, rfl, rfl⟩
  · rintro σ S ⟨x, y, rfl, rfl⟩
    refine ⟨ws, .inl (hr _), fun q => ?_⟩
    intro H' o'
    refine ⟨⟨q, ws, rfl, .inl (.inl (o'.g (i := 0) rfl)), allV_ex (fun _ _ z => hitV.up (fun a u e => o'.fr a u e) z) hal⟩, fun a u e => o'.fr a u e⟩
theorem sorted_range : ∀ n : Nat, (List.range n).Pairwise (· < ·) := fun n => List.pairwise_lt_range
theorem vc_next_victims {vs : List V} {H : Hp} (g : Nat × V × List Nat) (h : (ct_next_victims K).pre g vs H) : ∃ S, Own S H ∧ r_next_victims K a (endsC (ct_next_victims K) g H) (start N_next_victims vs) S := by
  obtain ⟨n, rv, ss⟩ := g
  obtain ⟨rfl, hr, h2, h6, hss, hcov⟩ := h
  have h2 : 2 ≤ n := h2
  have h6 : n ≤ 6 := h6
  have hss : ∀ s ∈ ss, s < n := hss
  have hcov : ∀ x, x < n → x ∈ ss := hcov
  have hr : hitsV K H rv ss := hr
  refine ⟨⟨H, []⟩, Own.base H, ?_⟩
  refine use_check (a := a) (m := some 6) .int rfl (fun H' o => rfl) (fun ok => ?_) (fun ok => ?_)
  · refine ⟨(n, rv, ss), fun H1 o1 => ⟨rfl, hitsV.up (ext0 o1) hr, fun s hs => by have := hss s hs; show (s : Int) < (n : Nat); omega⟩, fun H1 w H2 o1 q => ⟨⟨H2, []⟩, Own.base H2, ?_⟩, fun _ _ _ _ _ q => q.elim⟩
    obtain ⟨hw, hE⟩ := q
    refine ⟨⟨by omega, by omega⟩, fun q => ?_⟩
    refine ⟨(.ref q, List.range n, w, ss), fun H3 o3 => ⟨rfl, ⟨q, rfl, o3.u (.inl ⟨0, by rw [← rgS_nV]; rfl⟩)⟩, hitsV.up (fun a u e => o3.fr a u e) hw, by intro e; have := congrArg List.length e; simp at this; omega, by rw [List.length_range]; exact h6, by rw [List.length_range]; exact h6, sorted_range n, fun x hx => hcov x (List.mem_range.mp hx)⟩, fun H3 y H4 o3 z => ⟨⟨H4, []⟩, Own.base H4, ?_⟩, fun _ _ _ _ _ z => z.elim⟩
    obtain ⟨⟨p, rfl, z1, z2⟩, z3⟩ := z
    have hx : Ext H H4 := fun a u e => z3 a u (o3.fr a u (hE a u (o1.fr a u e)))
    intro H' o'
    refine ⟨⟨p, rfl, ?_, o'.fr p _ z2⟩, fun a u e => o'.fr a u (hx a u e)⟩
    cases e : H p with
    | none => rfl
    | some u =>
      have := o3.fr p u (hE p u (o1.fr p u e))
      rw [z1] at this
      cases this
  · exfalso
    have ok : (decide ((1 : Int) ≤ (n : Nat)) && decide (((n : Nat) : Int) ≤ 6)) = false := ok
    rw [decide_eq_true (by omega), decide_eq_true (by omega)] at ok
    cases ok
end
section
variable {K : PySem.W.Frag} {a : Ads}
theorem okN_yes {n : Nat} (h1 : 1 ≤ n) (hn : n ≤ 60) : okN (.int (n : Nat)) 1 (some 60) = true := by
  show (decide ((1 : Int) ≤ (n : Nat)) && decide (((n : Nat) : Int) ≤ 60)) = true
  rw [decide_eq_true (by omega), decide_eq_true (by omega)]
  rfl
theorem use_counts {W : sWX} {σ : L2.St} {S : SH} {Q : V → SH → Prop} {vs : List V} (n : Nat) (h1 : 1 ≤ n) (hn : n ≤ 60) (e : vs = [.int (n : Nat)]) (k : ∀ p, Q (.ref p) (S.new p (.lst (nV (bdF n))))) : rC (ct_rank_counts K a) W vs σ S Q := by
  refine ⟨(.int (n : Nat), .int), fun H o => ⟨e, rfl⟩, fun H v H' o q => ?_, fun H c d H' o q => ?_⟩
  · obtain ⟨m, e1, _, _, ⟨p, rfl, q1, q2⟩, q3⟩ := q
    have e1 : V.int (n : Nat) = V.int (m : Nat) := e1
    have e2 : n = m := by have := V.int.inj e1; omega
    subst e2
    exact ⟨_, o.new q1 q3 q2, k p⟩
  · have q := q.1
    rw [okN_yes h1 hn] at q
    cases q
theorem use_total {W : sWX} {σ : L2.St} {S : SH} {Q : V → SH → Prop} {vs : List V} (n : Nat) (h1 : 1 ≤ n) (hn : n ≤ 60) (e : vs = [.int (n : Nat)]) (k : Q (.int (totF n : Nat)) S) : rC (ct_tree_total K a) W vs σ S Q := by
  refine ⟨(.int (n : Nat), .int), fun H o => ⟨e, rfl⟩, fun H v H' o q => ?_, fun H c d H' o q => ?_⟩
  · obtain ⟨m, e1, _, _, rfl, q3⟩ := q
    have e1 : V.int (n : Nat) = V.int (m : Nat) := e1
    have e2 : n = m := by have := V.int.inj e1; omega
    subst e2
    exact ⟨S, o.ex q3, k⟩
  · have q := q.1
    rw [okN_yes h1 hn] at q
    cases q
theorem use_same {W : sWX} {σ : L2.St} {S : SH} {Q : V → SH → Prop} {vs : List V} (x y : V) (ns : List Nat) (e : vs = [x, y]) (hx : ∀ H, Own S H → lstN K H x ns) (hy : ∀ H, Own S H → lstN K H y ns) (k : Q (.bl true) S) : rC (ct_l_same K) W vs σ S Q :=
  ⟨(x, y, ns), fun H o => ⟨e, hx H o, hy H o⟩, fun H v H' o q => ⟨S, o.ex q.2, by rw [q.1]; exact k⟩, fun _ _ _ _ _ q => q.elim⟩
theorem nV_ints (ns : List Nat) : nV ns = (ns.map fun n : Nat => (n : Int)).map V.int := by
  unfold nV
  rw [List.map_map]
  rfl
theorem sum_ints (ns : List Nat) : (ns.map fun n : Nat => (n : Int)).sum = ((ns.sum : Nat) : Int) := by
  induction ns with
  | nil => rfl
  | cons n ns ih =>
    rw [List.map_cons, List.sum_cons, List.sum_cons, ih]
    omega
theorem vc_l_holds {vs : List V} {H : Hp} (g : Nat × V) (h : (ct_l_holds K).pre g vs H) : ∃ S, Own S H ∧ r_l_holds K a (endsC (ct_l_holds K) g H) (start N_l_holds vs) S := by
  obtain ⟨n, dv⟩ := g
  obtain ⟨rfl, hd, h1, hn⟩ := h
  have h1 : 1 ≤ n := h1
  have hn : n ≤ 60 := hn
  have hd : lstN K H dv (bdF n) := hd
  obtain ⟨hsum, hlen⟩ := bd_sum h1
  refine ⟨⟨H, []⟩, Own.base H, ?_⟩
  refine ⟨by unfold rngOk; omega, by unfold rngOk; omega, ?_⟩
  refine ⟨fun i σ S => ∃ y, σ = [some (.int (n : Nat)), some dv, some (.int (totF (i + 1) : Nat)), y, none, none] ∧ S = ⟨H, []⟩, ⟨none, rfl, rfl⟩, fun _ _ _ _ _ => trivial, ?_, ?_⟩
  · rintro i σ S hi ⟨y, rfl, rfl⟩
    have hi : i < ((n : Int) + 1 - 2).toNat := hi
    refine ⟨.inl (by unfold sm64; omega), ?_⟩
    refine ⟨.inr (by unfold sm64; omega), ?_⟩
    refine ⟨_, SLe.refl _, some (.int (2 + (i : Nat))), ?_, rfl⟩
    have e : ((totF (i + 2) : Nat) : Int) = (totF (i + 1) : Nat) * (2 * (2 + (i : Int)) - 3) := by
      show (((totF (i + 1) * (2 * i + 1) : Nat)) : Int) = _
      push_cast
      congr 1
      omega
    show _ = [some (V.int (n : Nat)), some dv, some (V.int ((totF (i + 2) : Nat) : Int)), some (V.int (2 + (i : Nat))), none, none]
    rw [e]
    rfl
  · rintro σ S ⟨y, rfl, rfl⟩
    have et : totF (((n : Int) + 1 - 2).toNat + 1) = totF n := by rw [show ((n : Int) + 1 - 2).toNat + 1 = n by omega]
    show (sSeq _ _) _ [some (V.int (n : Nat)), some dv, some (V.int ((totF (((n : Int) + 1 - 2).toNat + 1) : Nat) : Int)), y, none, none] _
    rw [et]
    refine use_counts n h1 hn (by rfl) fun p => ?_
    refine use_same (.ref p) dv (bdF n) (by rfl) (fun H' o => ⟨p, rfl, o.l (.inl ⟨0, rfl⟩)⟩) (fun H' o => lstN.up (fun a u e => o.fr a u e) hd) ?_
    have es := sum_ints (bdF n)
    rw [hsum] at es
    refine ⟨(bdF n).map fun n : Nat => (n : Int), .inl ⟨0, by rw [← nV_ints]; rfl⟩, ?_⟩
    rw [es]
    walk_at "b"
    · rename_i hb
      exact absurd trivial hb
    obtain ⟨c0, cr, ec⟩ : ∃ c0 cr, bdF n = c0 :: cr := by
      cases e : bdF n with
      | nil =>
        rw [e] at hlen
        simp at hlen
        omega
      | cons c0 cr => exact ⟨c0, cr, rfl⟩
    refine ⟨nV (bdF n), _, .inl (.inl ⟨0, rfl⟩), by rw [ec]; exact atI_at (i := 0) rfl, ?_⟩
    refine ⟨0, nV (bdF n), 0, rfl, ixN_nat (i := 0) (by rw [nV_len, hlen]; exact h1), ?_⟩
    refine ⟨.inl ⟨rfl, _, .inl ⟨0, rfl⟩⟩, ?_⟩
    refine ⟨0, _, rfl, ?_, ?_⟩
    · rw [List.length_set, nV_len, hlen]
      exact Nat.lt_of_le_of_lt hn (by decide)
    refine use_total n h1 hn (by rfl) ?_
    refine use_isint (totF n : Nat) (by rfl) ?_
    walk_at "b"
    · rename_i hb
      exact absurd trivial hb
    refine use_counts n h1 hn (by rfl) fun p2 => ?_
    refine use_same (.ref p2) dv (bdF n) (by rfl) (fun H' o => ⟨p2, rfl, o.l (.inl ⟨0, rfl⟩)⟩) (fun H' o => lstN.up (fun a u e => o.fr a u e) hd) ?_
    exact fun H' o' => ⟨rfl, fun a u e => o'.fr a u e⟩
end
/-! ### all that is made stays known -/
section
variable {K : PySem.W.Frag} {a : Ads}
def mT (K : PySem.W.Frag) (F : Hp) (G : List (Addr × HO)) (p : Addr) (xs : List V) : Prop := (p, HO.tup xs) ∈ G ∨ SqT K F p xs
def mL (K : PySem.W.Frag) (F : Hp) (G : List (Addr × HO)) (p : Addr) (xs : List V) : Prop := (p, HO.lst xs) ∈ G ∨ SqL K F p xs
theorem mT.s {F : Hp} {G : List (Addr × HO)} {p : Addr} {xs : List V} (h : mT K F G p xs) {G' : List (Addr × HO)} (s : G ⊆ G') : sU K ⟨F, G'⟩ p xs := h.elim (fun h => .inl (List.mem_iff_getElem?.mp (s h))) .inr
theorem mL.s {F : Hp} {G : List (Addr × HO)} {p : Addr} {xs : List V} (h : mL K F G p xs) {G' : List (Addr × HO)} (s : G ⊆ G') : sL K ⟨F, G'⟩ p xs := h.elim (fun h => .inl (List.mem_iff_getElem?.mp (s h))) .inr
theorem mT.sub {F : Hp} {G G' : List (Addr × HO)} {p : Addr} {xs : List V} (h : mT K F G p xs) (s : G ⊆ G') : mT K F G' p xs := h.imp_left fun h => s h
theorem mL.sub {F : Hp} {G G' : List (Addr × HO)} {p : Addr} {xs : List V} (h : mL K F G p xs) (s : G ⊆ G') : mL K F G' p xs := h.imp_left fun h => s h
theorem mT.own {F H' : Hp} {G : List (Addr × HO)} {p : Addr} {xs : List V} (h : mT K F G p xs) (o : Own ⟨F, G⟩ H') : SqT K H' p xs := o.u (h.s (List.Subset.refl _))
theorem mL.own {F H' : Hp} {G : List (Addr × HO)} {p : Addr} {xs : List V} (h : mL K F G p xs) (o : Own ⟨F, G⟩ H') : SqL K H' p xs := o.l (h.s (List.Subset.refl _))
def tupM (K : PySem.W.Frag) (F : Hp) (G : List (Addr × HO)) (v : V) (ns : List Nat) : Prop := ∃ p, v = .ref p ∧ mT K F G p (nV ns)
def lstM (K : PySem.W.Frag) (F : Hp) (G : List (Addr × HO)) (v : V) (ns : List Nat) : Prop := ∃ p, v = .ref p ∧ mL K F G p (nV ns)
theorem tupM.sub {F : Hp} {G G' : List (Addr × HO)} {v : V} {ns : List Nat} (h : tupM K F G v ns) (s : G ⊆ G') : tupM K F G' v ns := let ⟨p, e, h⟩ := h; ⟨p, e, h.sub s⟩
theorem lstM.sub {F : Hp} {G G' : List (Addr × HO)} {v : V} {ns : List Nat} (h : lstM K F G v ns) (s : G ⊆ G') : lstM K F G' v ns := let ⟨p, e, h⟩ := h; ⟨p, e, h.sub s⟩
def pairM (K : PySem.W.Frag) (F : Hp) (G : List (Addr × HO)) (v : V) (q : List Nat × List Nat) : Prop := ∃ p l r, v = .ref p ∧ mT K F G p [l, r] ∧ tupM K F G l q.1 ∧ tupM K F G r q.2
theorem pairM.sub {F : Hp} {G G' : List (Addr × HO)} {v : V} {q : List Nat × List Nat} (h : pairM K F G v q) (s : G ⊆ G') : pairM K F G' v q := let ⟨p, l, r, e, h, h1, h2⟩ := h; ⟨p, l, r, e, h.sub s, h1.sub s, h2.sub s⟩
theorem pairM.own {F H' : Hp} {G : List (Addr × HO)} {v : V} {q : List Nat × List Nat} (h : pairM K F G v q) (o : Own ⟨F, G⟩ H') : pairV K H' v q :=
  let ⟨p, l, r, e, h, ⟨p1, e1, h1⟩, ⟨p2, e2, h2⟩⟩ := h
  ⟨p, l, r, e, h.own o, ⟨p1, e1, h1.own o⟩, ⟨p2, e2, h2.own o⟩⟩
/-- the list that a comprehension fills, in its place -/
theorem at_mid {E G : List (Addr × HO)} {x : Addr × HO} : (E ++ x :: G)[E.length]? = some x := by
  rw [List.getElem?_append_right (Nat.le_refl _), Nat.sub_self]
  rfl
theorem set_mid {E G : List (Addr × HO)} {x y : Addr × HO} : (E ++ x :: G).set E.length y = E ++ y :: G := by
  rw [List.set_append_right _ _ (Nat.le_refl _), Nat.sub_self]
  rfl
theorem lc_put {P : SH → Prop} {F : Hp} {E G : List (Addr × HO)} {D : Addr} {acc : List V} {y : V} (ha : acc.length < sizeLine) (h : P ⟨F, E ++ (D, .lst (acc ++ [y])) :: G⟩) :
    ∃ k acc', (SH.mk F (E ++ (D, .lst acc) :: G)).G[k]? = some (D, .lst acc') ∧ acc'.length < sizeLine ∧ Wk P (SH.put ⟨F, E ++ (D, .lst acc) :: G⟩ k D (.lst (acc' ++ [y]))) := by
  refine ⟨E.length, acc, at_mid, ha, ⟨_, SLe.refl _, ?_⟩⟩
  show P ⟨F, (E ++ (D, .lst acc) :: G).set E.length (D, .lst (acc ++ [y]))⟩
  rw [set_mid]
  exact h
theorem sub_mid {E G : List (Addr × HO)} {x : Addr × HO} : (E ++ G) ⊆ (E ++ x :: G) := fun z hz => (List.mem_append.mp hz).elim (fun h => List.mem_append_left _ h) fun h => List.mem_append_right _ (.tail _ h)
theorem sub_right {E G : List (Addr × HO)} : G ⊆ E ++ G := fun z hz => List.mem_append_right _ hz
theorem sub_midr {E G : List (Addr × HO)} {x : Addr × HO} : G ⊆ (E ++ x :: G) := fun z hz => List.mem_append_right _ (.tail _ hz)
theorem small_of {n m : Nat} (h : n ≤ m) (hm : m < 16777216) : n < sizeLine := Nat.lt_of_le_of_lt h hm
theorem map_more {α β : Type} {f : α → β} {xs : List α} {i : Nat} {x : α} (h : xs[i]? = some x) : (xs.take (i + 1)).map f = (xs.take i).map f ++ [f x] := by
  rw [take_more h, List.map_append]
  rfl
theorem allV_append {α : Type} {R : V → α → Prop} : ∀ {vs ws : List V} {xs ys : List α}, allV R vs xs → allV R ws ys → allV R (vs ++ ws) (xs ++ ys)
  | [], _, [], _, _, h2 => h2
  | _ :: _, _, _ :: _, _, h, h2 => ⟨h.1, allV_append h.2 h2⟩
  | [], _, _ :: _, _, h, _ => h.elim
  | _ :: _, _, [], _, h, _ => h.elim
/-! ### partings -/
def partStep (found : List (List Nat × List Nat)) (x : Nat) : List (List Nat × List Nat) := (found.map fun q => (q.1 ++ [x], q.2)) ++ found.map fun q => (q.1, q.2 ++ [x])
theorem partStep_len (fs : List (List Nat × List Nat)) (x : Nat) : (partStep fs x).length = 2 * fs.length := by
  unfold partStep
  rw [List.length_append, List.length_map, List.length_map]
  omega
/-- x + (m,) -/
theorem use_addT {W : sWX} {σ : L2.St} {F : Hp} {N G : List (Addr × HO)} {Q : V → SH → Prop} {i j : Nat} {v : V} {xs : List Nat} {m : Nat} (hi : σ[i]? = some (some v)) (hj : σ[j]? = some (some (.int (m : Nat)))) (hs : N ⊆ G) (hv : tupM K F N v xs) (hl : xs.length ≤ 100)
    (k : ∀ r E, tupM K F (E ++ N) r (xs ++ [m]) → Q r ⟨F, E ++ G⟩) : sOp (oAddT K) (sVar i) (sTup (sCons (sVar j) sNil)) W σ ⟨F, G⟩ Q := by
  obtain ⟨p, rfl, hp⟩ := hv
  unfold sOp sVar
  rw [hi]
  unfold sTup sCons sNil
  show (match σ[j]? with | some (some v) => _ | _ => False)
  rw [hj]
  refine ⟨show 1 ≤ sizeLine by decide, fun pt => ?_⟩
  refine ⟨nV xs, [.int (m : Nat)], hp.s (fun z hz => .tail _ (hs hz)), .inl ⟨0, rfl⟩, ?_, fun e => ?_, fun _ e => (nomatch e), fun _ _ r => ?_⟩
  · rw [nV_len]
    exact Nat.le_trans (Nat.add_le_add_right hl 1) (by decide)
  · have e2 : xs = [] := by
      cases xs with
      | nil => rfl
      | cons x xs => cases e
    subst e2
    exact k (.ref pt) [(pt, .tup [.int (m : Nat)])] ⟨pt, rfl, .inl (.head _)⟩
  · refine k (.ref r) [(r, .tup (nV xs ++ [.int (m : Nat)])), (pt, .tup [.int (m : Nat)])] ⟨r, rfl, .inl ?_⟩
    rw [nV_append]
    exact .head _
theorem te_left {F : Hp} {N G : List (Addr × HO)} {Q : V → SH → Prop} {q : Option V} {m0 : Option V} {l r : V} {pr : List Nat × List Nat} {m : Nat} (hs : N ⊆ G) (hl : tupM K F N l pr.1) (hr : tupM K F N r pr.2) (hle : pr.1.length ≤ 100)
    (k : ∀ y E, pairM K F (E ++ N) y (pr.1 ++ [m], pr.2) → Q y ⟨F, E ++ G⟩) :
    sTup (sCons (sOp (oAddT K) (sVar 4) (sTup (sCons (sVar 2) sNil))) (sCons (sVar 3) sNil)) noW [m0, q, some (.int (m : Nat)), some r, some l] ⟨F, G⟩ Q := by
  unfold sTup sCons
  dsimp only
  refine use_addT (σ := [m0, q, some (.int (m : Nat)), some r, some l]) (i := 4) (j := 2) (m := m) rfl rfl hs hl hle fun r2 E hE => ?_
  refine ⟨show 2 ≤ sizeLine by decide, fun p => ?_⟩
  exact k (.ref p) ((p, .tup [r2, r]) :: E) ⟨p, r2, r, rfl, .inl (.head _), hE.sub (fun z hz => .tail _ hz), hr.sub (fun z hz => .tail _ (List.mem_append_right _ hz))⟩
theorem te_right {F : Hp} {N G : List (Addr × HO)} {Q : V → SH → Prop} {q : Option V} {m0 : Option V} {l r : V} {pr : List Nat × List Nat} {m : Nat} (hs : N ⊆ G) (hl : tupM K F N l pr.1) (hr : tupM K F N r pr.2) (hle : pr.2.length ≤ 100)
    (k : ∀ y E, pairM K F (E ++ N) y (pr.1, pr.2 ++ [m]) → Q y ⟨F, E ++ G⟩) :
    sTup (sCons (sVar 4) (sCons (sOp (oAddT K) (sVar 3) (sTup (sCons (sVar 2) sNil))) sNil)) noW [m0, q, some (.int (m : Nat)), some r, some l] ⟨F, G⟩ Q := by
  show sOp (oAddT K) (sVar 3) (sTup (sCons (sVar 2) sNil)) noW [m0, q, some (.int (m : Nat)), some r, some l] ⟨F, G⟩ _
  refine use_addT (σ := [m0, q, some (.int (m : Nat)), some r, some l]) (i := 3) (j := 2) (m := m) rfl rfl hs hr hle fun r2 E hE => ?_
  refine ⟨show 2 ≤ sizeLine by decide, fun p => ?_⟩
  exact k (.ref p) ((p, .tup [l, r2]) :: E) ⟨p, l, r2, rfl, .inl (.head _), hl.sub (fun z hz => .tail _ (List.mem_append_right _ hz)), hE.sub (fun z hz => .tail _ hz)⟩
/-- the pairs walked, each made anew -/
theorem walk_pairs {F : Hp} {G0 : List (Addr × HO)} {W : sWX} {Q : V → SH → Prop} {q : Addr} {fs : List (List Nat × List Nat)} {vs : List V} {te : sE} {m r0 x3 x4 : Option V} (f : List Nat × List Nat → List Nat × List Nat)
    (hq : mL K F G0 q vs) (hal : allV (pairM K F G0) vs fs) (hfs : fs.length ≤ 100)
    (step : ∀ G pr l r Q', G0 ⊆ G → pr ∈ fs → tupM K F G0 l pr.1 → tupM K F G0 r pr.2 → (∀ y E, pairM K F (E ++ G0) y (f pr) → Q' y ⟨F, E ++ G⟩) → te noW [m, some (.ref q), r0, some r, some l] ⟨F, G⟩ Q')
    (k : ∀ D E ws, allV (pairM K F (E ++ G0)) ws (fs.map f) → Q (.ref D) ⟨F, E ++ (D, .lst ws) :: G0⟩) :
    sLc (siSeq K (sVar 1)) (sgTup K 2 (sgCons (sgName 4) (sgCons (sgName 3) sgNil))) sYes te [4, 3] W [m, some (.ref q), r0, x3, x4] ⟨F, G0⟩ Q := by
  refine .inl ⟨vs, hq.s (List.Subset.refl _), fun D => ?_⟩
  refine ⟨fun i S => ∃ E ws, S = ⟨F, E ++ (D, .lst ws) :: G0⟩ ∧ allV (pairM K F (E ++ G0)) ws ((fs.take i).map f), ⟨[], [], rfl, trivial⟩, ?_, ?_, ?_⟩
  · rintro i S _ ⟨E, ws, rfl, _⟩
    exact hq.s sub_midr
  · rintro i S hi ⟨E, ws, rfl, hws⟩ v hv
    obtain ⟨pr, hpr, ⟨p, l, r, rfl, hp, hl, hr⟩⟩ := allV_at hal hv
    refine ⟨[l, r], hp.s sub_midr, rfl, ?_⟩
    refine ⟨rfl, ?_⟩
    refine step (E ++ (D, .lst ws) :: G0) pr l r _ sub_midr (List.mem_of_getElem? hpr) hl hr fun y E2 hy => ?_
    have hlen : ws.length ≤ 100 := by
      have := allV_len hws
      rw [List.length_map, List.length_take] at this
      omega
    have e : E2 ++ (E ++ (D, .lst ws) :: G0) = (E2 ++ E) ++ (D, .lst ws) :: G0 := (List.append_assoc _ _ _).symm
    show ∃ k acc, (SH.mk F (E2 ++ (E ++ (D, .lst ws) :: G0))).G[k]? = some (D, .lst acc) ∧ acc.length < sizeLine ∧ Wk _ ((SH.mk F (E2 ++ (E ++ (D, .lst ws) :: G0))).put k D (.lst (acc ++ [y])))
    rw [e]
    refine lc_put (small_of hlen (by decide)) ⟨E2 ++ E, _, rfl, ?_⟩
    rw [map_more hpr]
    refine allV_snoc ?_ (allV_ex (fun _ _ z => z.sub ?_) hws)
    · refine hy.sub ?_
      rw [List.append_assoc]
      exact fun z hz => (List.mem_append.mp hz).elim (fun h => List.mem_append_left _ h) fun h => List.mem_append_right _ (List.mem_append_right _ h)
    · rw [List.append_assoc]
      exact sub_right
  · rintro S ⟨E, ws, rfl, hws⟩
    have el : (itL K q vs).n = fs.length := allV_len hal
    rw [el, List.take_length] at hws
    exact k D E ws hws
/-- the sizes of what the partings are made of -/
theorem part_fold (ms : List Nat) : ∀ (fs : List (List Nat × List Nat)) (n : Nat), (∀ q ∈ fs, q.1.length + q.2.length = n) → (ms.foldl partStep fs).length = fs.length * 2 ^ ms.length ∧ ∀ q ∈ ms.foldl partStep fs, q.1.length + q.2.length = n + ms.length := by
  induction ms with
  | nil => exact fun fs n h => ⟨by simp, h⟩
  | cons m ms ih =>
    intro fs n h
    obtain ⟨h1, h2⟩ := ih (partStep fs m) (n + 1) fun q hq => by
      rcases List.mem_append.mp hq with hq | hq
      · obtain ⟨z, hz, rfl⟩ := List.mem_map.mp hq
        have := h z hz
        simp only [List.length_append, List.length_cons, List.length_nil]
        omega
      · obtain ⟨z, hz, rfl⟩ := List.mem_map.mp hq
        have := h z hz
        simp only [List.length_append, List.length_cons, List.length_nil]
        omega
    refine ⟨?_, fun q hq => ?_⟩
    · rw [List.foldl_cons, h1, partStep_len, List.length_cons, Nat.pow_succ, Nat.mul_assoc, Nat.mul_left_comm, Nat.mul_comm (2 ^ ms.length) 2]
    · rw [List.length_cons]
      have := h2 q hq
      omega
theorem vc_partings {vs : List V} {H : Hp} (g : V × List Nat) (h : (ct_partings K).pre g vs H) : ∃ S, Own S H ∧ r_partings K a (endsC (ct_partings K) g H) (start N_partings vs) S := by
  obtain ⟨mv, ms⟩ := g
  obtain ⟨rfl, ⟨pm, e1, hm⟩, hne, hl6⟩ := h
  have e1 : mv = .ref pm := e1
  subst e1
  have hl6 : ms.length ≤ 6 := hl6
  obtain ⟨m0, mr, rfl⟩ : ∃ m0 mr, ms = m0 :: mr := by
    cases ms with
    | nil => exact absurd rfl hne
    | cons m0 mr => exact ⟨m0, mr, rfl⟩
  have hm : SqT K H pm (nV (m0 :: mr)) := hm
  have hl5 : mr.length ≤ 5 := by simpa using hl6
  refine ⟨⟨H, []⟩, Own.base H, ?_⟩
  refine ⟨_, _, .inr (.inr hm), atI_at (i := 0) rfl, ?_⟩
  refine ⟨(by walk_at "z"), fun t1 => ?_⟩
  refine ⟨(by walk_at "z"), fun t2 => ?_⟩
  refine ⟨(by walk_at "z"), fun t3 => ?_⟩
  refine ⟨(by walk_at "z"), fun q0 => ?_⟩
  refine .inr ⟨_, .inr hm, ?_, fun pc => ?_⟩
  · intro q
    have q := q.1
    rw [show ((1 : Int)) = ((1 : Nat) : Int) from rfl, HT.sIx_nat, nV_len, List.length_cons] at q
    omega
  have hcut : cutV (nV (m0 :: mr)) (some 1) none = nV mr := by
    unfold cutV
    rw [show ((1 : Int)) = ((1 : Nat) : Int) from rfl, HT.sIx_nat, HT.sIx_none, nV_len, List.length_cons, show min 1 (mr.length + 1) = 1 by omega]
    show (nV mr).take (mr.length + 1 - 1) = nV mr
    exact List.take_of_length_le (by rw [nV_len]; omega)
  rw [hcut]
  have hstart : ∀ q ∈ [([m0], ([] : List Nat))], q.1.length + q.2.length = 1 := fun q hq => by
    cases hq with
    | head => rfl
    | tail _ hq => cases hq
  have sizes : ∀ i, ((mr.take i).foldl partStep [([m0], [])]).length ≤ 100 ∧ ∀ q ∈ (mr.take i).foldl partStep [([m0], [])], q.1.length ≤ 100 ∧ q.2.length ≤ 100 := fun i => by
    obtain ⟨h1, h2⟩ := part_fold (mr.take i) [([m0], [])] 1 hstart
    have hl : (mr.take i).length ≤ 5 := by
      rw [List.length_take]
      omega
    refine ⟨?_, fun q hq => ?_⟩
    · rw [h1]
      exact Nat.le_trans (Nat.mul_le_mul (Nat.le_refl 1) (Nat.pow_le_pow_right (by decide) hl)) (by decide)
    · have := h2 q hq
      omega
  refine .inr ⟨nV mr, .inl ⟨0, rfl⟩, ?_⟩
  refine ⟨fun i σ S => ∃ (G : List (Addr × HO)) (q : Addr) (vs : List V) (x2 x3 x4 : Option V), σ = [some (.ref pm), some (.ref q), x2, x3, x4] ∧ S = ⟨H, G⟩ ∧ (q, .lst vs) ∈ G ∧ (pc, .tup (nV mr)) ∈ G ∧ allV (pairM K H G) vs ((mr.take i).foldl partStep [([m0], [])]), ?_, ?_, ?_, ?_⟩
  · refine ⟨_, q0, [.ref t3], none, none, none, rfl, rfl, .tail _ (.head _), .head _, ?_⟩
    exact ⟨⟨t3, .ref t1, .ref t2, rfl, .inl (.tail _ (.tail _ (.head _))), ⟨t1, rfl, .inl (.tail _ (.tail _ (.tail _ (.tail _ (.head _)))))⟩, ⟨t2, rfl, .inl (.tail _ (.tail _ (.tail _ (.head _))))⟩⟩, trivial⟩
  · rintro i σ S _ ⟨G, q, vs, x2, x3, x4, rfl, rfl, hq, hpc, hal⟩
    exact (show mT K H G pc (nV mr) from .inl hpc).s (List.Subset.refl _)
  · rintro i σ S hi ⟨G, q, vs, x2, x3, x4, rfl, rfl, hq, hpc, hal⟩ v hv
    obtain ⟨m, hm2, rfl⟩ := nV_get hv
    obtain ⟨s1, s2⟩ := sizes i
    have st : (mr.take (i + 1)).foldl partStep [([m0], [])] = partStep ((mr.take i).foldl partStep [([m0], [])]) m := by
      rw [take_more hm2, List.foldl_append]
      rfl
    obtain ⟨fs, hfs⟩ : ∃ fs, (mr.take i).foldl partStep [([m0], [])] = fs := ⟨_, rfl⟩
    rw [hfs] at hal s1 s2 st
    unfold sgName sSet sOp
    dsimp only
    refine walk_pairs (fun q => (q.1 ++ [m], q.2)) (.inl hq) hal s1 (fun G' pr l r Q' hs hpr hl hr hk => te_left hs hl hr (s2 _ hpr).1 hk) fun D1 E1 ws1 hws1 => ?_
    · have sub1 : G ⊆ E1 ++ (D1, HO.lst ws1) :: G := sub_midr
      refine walk_pairs (fun q => (q.1, q.2 ++ [m])) (.inl (sub1 hq)) (allV_ex (fun _ _ z => z.sub sub1) hal) s1 (fun G' pr l r Q' hs hpr hl hr hk => te_right hs hl hr (s2 _ hpr).2 hk) fun D2 E2 ws2 hws2 => ?_
      · have sub2 : E1 ++ (D1, HO.lst ws1) :: G ⊆ E2 ++ (D2, HO.lst ws2) :: (E1 ++ (D1, HO.lst ws1) :: G) := sub_midr
        have l1 := allV_len hws1
        have l2 := allV_len hws2
        rw [List.length_map] at l1 l2
        refine ⟨ws1, ws2, .inl (List.mem_iff_getElem?.mp (sub2 (List.mem_append_right _ (.head _)))), .inl (List.mem_iff_getElem?.mp (List.mem_append_right _ (.head _))), ?_, fun q' => ?_⟩
        · rw [l1, l2]
          exact Nat.le_trans (Nat.add_le_add s1 s1) (by decide)
        refine ⟨_, SLe.refl _, (q', .lst (ws1 ++ ws2)) :: (E2 ++ (D2, HO.lst ws2) :: (E1 ++ (D1, HO.lst ws1) :: G)), q', ws1 ++ ws2, _, _, _, rfl, rfl, .head _, .tail _ (sub2 (sub1 hpc)), ?_⟩
        rw [st]
        refine allV_append (allV_ex (fun _ _ z => z.sub ?_) hws1) (allV_ex (fun _ _ z => z.sub ?_) hws2)
        · exact fun z hz => .tail _ (sub2 (sub_mid hz))
        · exact fun z hz => .tail _ (sub_mid hz)
  · rintro σ S ⟨G, q, vs, x2, x3, x4, rfl, rfl, hq, hpc, hal⟩
    have el : (itU K pc (nV mr)).n = mr.length := nV_len mr
    rw [el, List.take_length] at hal
    have s1 : (mr.foldl partStep [([m0], [])]).length ≤ 100 := by
      have := (sizes mr.length).1
      rw [List.take_length] at this
      exact this
    have eF : partF (m0 :: mr) = (mr.foldl partStep [([m0], [])]).filter fun q => decide (0 < q.2.length) := rfl
    generalize mr.foldl partStep [([m0], [])] = fs at hal s1 eF
    refine .inl ⟨vs, (show mL K H G q vs from .inl hq).s (List.Subset.refl _), fun D => ?_⟩
    refine ⟨fun i S => ∃ E ws, S = ⟨H, E ++ (D, .lst ws) :: G⟩ ∧ allV (pairM K H (E ++ G)) ws ((fs.take i).filter fun q => decide (0 < q.2.length)), ⟨[], [], rfl, trivial⟩, ?_, ?_, ?_⟩
    · rintro i S _ ⟨E, ws, rfl, _⟩
      exact (show mL K H G q vs from .inl hq).s sub_midr
    · rintro i S hi ⟨E, ws, rfl, hws⟩ v hv
      obtain ⟨pr, hpr, ⟨p, l, r, rfl, hp, hl, ⟨pr2, rfl, hr⟩⟩⟩ := allV_at hal hv
      have fm : (fs.take (i + 1)).filter (fun q => decide (0 < q.2.length)) = (fs.take i).filter (fun q => decide (0 < q.2.length)) ++ if 0 < pr.2.length then [pr] else [] := by
        rw [take_more hpr, List.filter_append, List.filter_cons, List.filter_nil]
        congr 1
        by_cases h : 0 < pr.2.length
        · rw [if_pos h, if_pos (decide_eq_true h)]
        · rw [if_neg h, if_neg (by rw [decide_eq_true_eq]; exact h)]
      refine ⟨[l, .ref pr2], hp.s sub_midr, rfl, ?_⟩
      refine ⟨rfl, ?_⟩
      refine ⟨nV pr.2, .inr (hr.s sub_midr), ?_⟩
      walk_at "w"
      dsimp only
      rw [nV_len]
      have hlen : ws.length ≤ 100 := by
        have h1 := allV_len hws
        have h2 := List.length_filter_le (fun q : List Nat × List Nat => decide (0 < q.2.length)) (fs.take i)
        have h3 := List.length_take_le i fs
        rw [List.length_take] at h3 h2
        omega
      cases hc : decide ((0 : Int) < (pr.2.length : Nat)) with
      | true =>
        have hc := of_decide_eq_true hc
        refine ⟨show 2 ≤ sizeLine by decide, fun t => ?_⟩
        have := lc_put (P := fun S => ∃ E ws, S = ⟨H, E ++ (D, .lst ws) :: G⟩ ∧ allV (pairM K H (E ++ G)) ws ((fs.take (i + 1)).filter fun q => decide (0 < q.2.length))) (F := H) (E := (t, .tup [l, .ref pr2]) :: E) (G := G) (D := D) (acc := ws) (y := .ref t) (small_of hlen (by decide)) ⟨_, _, rfl, ?_⟩
        · exact this
        · rw [fm, if_pos (by omega)]
          refine allV_snoc ⟨t, l, .ref pr2, rfl, .inl (.head _), hl.sub (fun z hz => .tail _ (List.mem_append_right _ hz)), ⟨pr2, rfl, hr.sub (fun z hz => .tail _ (List.mem_append_right _ hz))⟩⟩ (allV_ex (fun _ _ z => z.sub fun z hz => .tail _ hz) hws)
      | false =>
        have hc := of_decide_eq_false hc
        refine ⟨_, SLe.refl _, E, ws, rfl, ?_⟩
        rw [fm, if_neg (by omega), List.append_nil]
        exact hws
    · rintro S ⟨E, ws, rfl, hws⟩
      have el : (itL K q vs).n = fs.length := allV_len hal
      rw [el, List.take_length] at hws
      rw [← eF] at hws
      refine fun H' o' => ⟨⟨D, ws, rfl, o'.l (.inl (List.mem_iff_getElem?.mp (List.mem_append_right _ (.head _)))), ?_⟩, fun a u e => o'.fr a u e⟩
      exact allV_ex (fun _ _ z => (z.sub (sub_mid (x := (D, .lst ws)))).own o') hws
end
/-! ### the victims over members -/
def PI (q : List Nat × List Nat) (d : List Nat) : Prop := q.1.Sublist d ∧ q.2.Sublist d ∧ (q.1 ++ q.2).Perm d ∧ q.1 ≠ []
theorem part_inv (ms : List Nat) : ∀ (fs : List (List Nat × List Nat)) (d : List Nat), (∀ q ∈ fs, PI q d) → ∀ q ∈ ms.foldl partStep fs, PI q (d ++ ms) := by
  induction ms with
  | nil =>
    intro fs d h q hq
    rw [List.append_nil]
    exact h q hq
  | cons m ms ih =>
    intro fs d h q hq
    have := ih (partStep fs m) (d ++ [m]) (fun q hq => ?_) q hq
    · rw [List.append_assoc] at this
      exact this
    rcases List.mem_append.mp hq with hq | hq
    · obtain ⟨z, hz, rfl⟩ := List.mem_map.mp hq
      obtain ⟨h1, h2, h3, h4⟩ := h z hz
      refine ⟨h1.append (.refl _), h2.trans (List.sublist_append_left _ _), ?_, by simp⟩
      show ((z.1 ++ [m]) ++ z.2).Perm (d ++ [m])
      rw [List.append_assoc]
      exact (List.Perm.append_left _ List.perm_append_comm).trans (by rw [← List.append_assoc]; exact h3.append_right _)
    · obtain ⟨z, hz, rfl⟩ := List.mem_map.mp hq
      obtain ⟨h1, h2, h3, h4⟩ := h z hz
      refine ⟨h1.trans (List.sublist_append_left _ _), h2.append (.refl _), ?_, h4⟩
      show (z.1 ++ (z.2 ++ [m])).Perm (d ++ [m])
      rw [← List.append_assoc]
      exact h3.append_right _
theorem part_split (p : Nat → Bool) (ms : List Nat) : ∀ (fs : List (List Nat × List Nat)) (L R : List Nat), (L, R) ∈ fs → (L ++ ms.filter (fun x => !p x), R ++ ms.filter p) ∈ ms.foldl partStep fs := by
  induction ms with
  | nil =>
    intro fs L R h
    simp only [List.filter_nil, List.append_nil]
    exact h
  | cons m ms ih =>
    intro fs L R h
    rw [List.foldl_cons, List.filter_cons, List.filter_cons]
    cases hp : p m with
    | true =>
      have := ih (partStep fs m) L (R ++ [m]) (List.mem_append_right _ (List.mem_map.mpr ⟨(L, R), h, rfl⟩))
      rw [List.append_assoc] at this
      exact this
    | false =>
      have := ih (partStep fs m) (L ++ [m]) R (List.mem_append_left _ (List.mem_map.mpr ⟨(L, R), h, rfl⟩))
      rw [List.append_assoc] at this
      exact this
theorem partF_inv {ms : List Nat} {q : List Nat × List Nat} (h : q ∈ partF ms) : PI q ms ∧ q.2 ≠ [] := by
  cases ms with
  | nil => cases h
  | cons m ms =>
    obtain ⟨h1, h2⟩ := List.mem_filter.mp h
    refine ⟨part_inv ms [([m], [])] [m] (fun q hq => ?_) q h1, fun e => ?_⟩
    · cases hq with
      | head => exact ⟨.refl _, List.nil_sublist _, .refl _, by simp⟩
      | tail _ hq => cases hq
    · rw [e] at h2
      cases h2
/-- each member stands alone once -/
theorem partF_alone {ms : List Nat} (nd : ms.Nodup) (h2 : 2 ≤ ms.length) {x : Nat} (hx : x ∈ ms) : ∃ q ∈ partF ms, q.1 = [x] ∨ q.2 = [x] := by
  cases ms with
  | nil => cases hx
  | cons m ms =>
    have hm : ms ≠ [] := by
      rintro rfl
      simp at h2
    by_cases e : x = m
    · subst e
      refine ⟨_, List.mem_filter.mpr ⟨part_split (fun _ => true) ms [([x], [])] [x] [] (.head _), ?_⟩, .inl ?_⟩
      · refine decide_eq_true ?_
        show 0 < ([] ++ ms.filter fun _ => true).length
        rw [List.filter_eq_self.mpr (fun _ _ => rfl)]
        exact List.length_pos_iff.mpr hm
      · show [x] ++ ms.filter (fun _ => !true) = [x]
        have : ms.filter (fun _ => !true) = [] := List.filter_eq_nil_iff.mpr fun _ _ h => by cases h
        rw [this]
        rfl
    · have hx : x ∈ ms := by
        cases hx with
        | head => exact absurd rfl e
        | tail _ h => exact h
      have ef : ms.filter (fun y => y == x) = [x] := by
        have nd2 := (List.nodup_cons.mp nd).2
        clear e h2 hm nd
        induction ms with
        | nil => cases hx
        | cons y ms ih =>
          obtain ⟨n1, n2⟩ := List.nodup_cons.mp nd2
          rw [List.filter_cons]
          by_cases ey : y = x
          · subst ey
            rw [if_pos (by simp)]
            have : ms.filter (fun z => z == y) = [] := List.filter_eq_nil_iff.mpr fun z hz h => n1 (by rw [beq_iff_eq.mp h] at hz; exact hz)
            rw [this]
          · rw [if_neg (by simp [ey])]
            have hx2 : x ∈ ms := by
              cases hx with
              | head => exact absurd rfl ey
              | tail _ h => exact h
            first
              | exact ih hx2 n2
              | exact ih (.tail _ hx2) hx2 n2
      refine ⟨_, List.mem_filter.mpr ⟨part_split (fun y => y == x) ms [([m], [])] [m] [] (.head _), ?_⟩, .inr ?_⟩
      · refine decide_eq_true ?_
        show 0 < ([] ++ ms.filter fun y => y == x).length
        rw [ef]
        exact Nat.zero_lt_one
      · show [] ++ ms.filter (fun y => y == x) = [x]
        rw [ef]
        rfl
theorem side_fold (l r : List Nat) : ∀ (slots : List Nat) (b : Str), slots.foldl (sideStep l r) b = match (slots.filter fun s => l.contains s || r.contains s).getLast? with
    | none => b
    | some s => if l.contains s then ("L" : Str) else "R" := by
  intro slots
  induction slots with
  | nil => exact fun b => rfl
  | cons s slots ih =>
    intro b
    rw [List.foldl_cons, ih, List.filter_cons]
    cases hp : (l.contains s || r.contains s) with
    | true =>
      rw [if_pos rfl, List.getLast?_cons]
      cases (slots.filter fun s => l.contains s || r.contains s).getLast? with
      | some z => rfl
      | none =>
        show sideStep l r b s = if l.contains s then ("L" : Str) else "R"
        unfold sideStep
        cases hl : l.contains s with
        | true => rfl
        | false =>
          rw [hl, Bool.false_or] at hp
          rw [if_neg (by decide), if_pos hp]
          rfl
    | false =>
      rw [if_neg (by decide)]
      have : sideStep l r b s = b := by
        obtain ⟨h1, h2⟩ := Bool.or_eq_false_iff.mp hp
        unfold sideStep
        rw [h1, h2]
        rfl
      rw [this]
theorem lastIn_mem {ms slots : List Nat} (h : ∃ x ∈ ms, x ∈ slots) : lastIn ms slots ∈ ms := by
  obtain ⟨x, h1, h2⟩ := h
  unfold lastIn
  have hf : x ∈ slots.filter fun s => ms.contains s := List.mem_filter.mpr ⟨h2, List.contains_iff_mem.mpr h1⟩
  cases e : (slots.filter fun s => ms.contains s).getLast? with
  | none =>
    rw [List.getLast?_eq_none_iff.mp e] at hf
    cases hf
  | some z =>
    have := List.mem_of_getLast? e
    exact List.contains_iff_mem.mp (List.mem_filter.mp this).2
theorem sideF_is {ms slots : List Nat} {q : List Nat × List Nat} (hq : PI q ms) (h : ∃ x ∈ ms, x ∈ slots) : sideF q.1 q.2 slots = if q.1.contains (lastIn ms slots) then ("L" : Str) else "R" := by
  have e : (fun s => q.1.contains s || q.2.contains s) = fun s => ms.contains s := by
    funext s
    rw [Bool.eq_iff_iff, Bool.or_eq_true, List.contains_iff_mem, List.contains_iff_mem, List.contains_iff_mem, ← hq.2.2.1.mem_iff, List.mem_append]
  have f := side_fold q.1 q.2 slots "?"
  rw [e] at f
  show slots.foldl (sideStep q.1 q.2) "?" = _
  rw [f]
  obtain ⟨x, h1, h2⟩ := h
  have hf : x ∈ slots.filter fun s => ms.contains s := List.mem_filter.mpr ⟨h2, List.contains_iff_mem.mpr h1⟩
  unfold lastIn
  cases e : (slots.filter fun s => ms.contains s).getLast? with
  | none =>
    rw [List.getLast?_eq_none_iff.mp e] at hf
    cases hf
  | some z => rfl
theorem voF_sub {ms slots : List Nat} {x : Nat} (h : x ∈ voF ms slots) : x ∈ ms := by
  unfold voF at h
  split at h
  · exact h
  · exact (List.mem_filter.mp h).1
theorem voF_ne {ms slots : List Nat} (nd : ms.Nodup) (h : ms ≠ []) : voF ms slots ≠ [] := by
  unfold voF
  split
  · exact h
  · rename_i h1
    intro e
    match ms, h with
    | [x], _ => exact h1 rfl
    | x :: y :: r, _ =>
      have f := List.filter_eq_nil_iff.mp e
      have a1 := f x (.head _)
      have a2 := f y (.tail _ (.head _))
      simp only [decide_eq_true_eq, ne_eq, Decidable.not_not] at a1 a2
      have := (List.nodup_cons.mp nd).1
      exact this (by rw [a1.trans a2.symm]; exact .head _)
/-- what one parting adds -/
def addN (ks : List Nat) (x : Nat) : List Nat := if x ∈ ks then ks else ks ++ [x]
theorem addN_mem {ks : List Nat} {x y : Nat} : y ∈ addN ks x ↔ y ∈ ks ∨ y = x := by
  unfold addN
  split
  · rename_i h
    exact ⟨.inl, fun q => q.elim id fun e => by rw [e]; exact h⟩
  · rw [List.mem_append, List.mem_singleton]
theorem addN_nd {ks : List Nat} {x : Nat} (h : ks.Nodup) : (addN ks x).Nodup := by
  unfold addN
  split
  · exact h
  · rename_i hx
    exact List.nodup_append.mpr ⟨h, by simp, fun a ha b hb e => hx (by rw [← List.mem_singleton.mp hb, ← e]; exact ha)⟩
theorem adds_mem (xs : List Nat) : ∀ {ks : List Nat} {y : Nat}, y ∈ xs.foldl addN ks ↔ y ∈ ks ∨ y ∈ xs := by
  induction xs with
  | nil => exact fun {ks y} => ⟨.inl, fun q => q.elim id fun h => nomatch h⟩
  | cons x xs ih =>
    intro ks y
    rw [List.foldl_cons, ih, addN_mem, List.mem_cons, or_assoc]
theorem adds_nd (xs : List Nat) : ∀ {ks : List Nat}, ks.Nodup → (xs.foldl addN ks).Nodup := by
  induction xs with
  | nil => exact fun h => h
  | cons x xs ih => exact fun h => ih (addN_nd h)
theorem sorted_eq : ∀ {xs ys : List Nat}, xs.Pairwise (· < ·) → ys.Pairwise (· < ·) → (∀ x, x ∈ xs ↔ x ∈ ys) → xs = ys
  | [], [], _, _, _ => rfl
  | [], y :: ys, _, _, h => nomatch (h y).mpr (.head _)
  | x :: xs, [], _, _, h => nomatch (h x).mp (.head _)
  | x :: xs, y :: ys, h1, h2, h => by
    have a1 := List.pairwise_cons.mp h1
    have a2 := List.pairwise_cons.mp h2
    have e : x = y := by
      have b1 : x = y ∨ y < x := by
        cases (h x).mp (.head _) with
        | head => exact .inl rfl
        | tail _ q => exact .inr (a2.1 x q)
      have b2 : y = x ∨ x < y := by
        cases (h y).mpr (.head _) with
        | head => exact .inl rfl
        | tail _ q => exact .inr (a1.1 y q)
      omega
    subst e
    rw [sorted_eq a1.2 a2.2 fun z => ?_]
    constructor
    · intro hz
      cases (h z).mp (.tail _ hz) with
      | head => exact absurd (a1.1 _ hz) (Nat.lt_irrefl _)
      | tail _ q => exact q
    · intro hz
      cases (h z).mpr (.tail _ hz) with
      | head => exact absurd (a2.1 _ hz) (Nat.lt_irrefl _)
      | tail _ q => exact q
theorem nodup_len : ∀ {ks ms : List Nat}, ks.Nodup → (∀ x ∈ ks, x ∈ ms) → ks.length ≤ ms.length
  | [], _, _, _ => Nat.zero_le _
  | k :: ks, ms, nd, h => by
    obtain ⟨n1, n2⟩ := List.nodup_cons.mp nd
    have hk := h k (.head _)
    have ih := nodup_len (ms := ms.erase k) n2 fun x hx => (List.mem_erase_of_ne (fun e => n1 (by rw [← e]; exact hx))).mpr (h x (.tail _ hx))
    rw [List.length_erase_of_mem hk] at ih
    have : 0 < ms.length := List.length_pos_of_mem hk
    rw [List.length_cons]
    omega
def KS (kvs : List (Key × V)) (ks : List Nat) : Prop := kvs.map (·.1) = ks.map fun n : Nat => (Sum.inl (n : Int) : Key)
theorem KS.len {kvs : List (Key × V)} {ks : List Nat} (h : KS kvs ks) : kvs.length = ks.length := by
  have := congrArg List.length h
  rw [List.length_map, List.length_map] at this
  exact this
theorem KS.put {kvs : List (Key × V)} {ks : List Nat} (h : KS kvs ks) (x : Nat) (v : V) : KS (putK kvs (.inl (x : Int)) v) (addN ks x) := by
  have e : (kvs.any fun kv => decide (kv.1 = .inl (x : Int))) = decide (x ∈ ks) := by
    have : (kvs.any fun kv => decide (kv.1 = .inl (x : Int))) = (kvs.map (·.1)).any fun k => decide (k = .inl (x : Int)) := by
      rw [List.any_map]
      rfl
    unfold KS at h
    rw [this, h, List.any_map, Bool.eq_iff_iff, List.any_eq_true, decide_eq_true_eq]
    constructor
    · rintro ⟨y, hy, hh⟩
      have hh := Sum.inl.inj (of_decide_eq_true hh)
      have : y = x := by omega
      rw [← this]
      exact hy
    · exact fun hx => ⟨x, hx, decide_eq_true rfl⟩
  unfold putK addN
  rw [e]
  by_cases hx : x ∈ ks
  · rw [if_pos (decide_eq_true hx), if_pos hx]
    unfold KS at h ⊢
    rw [List.map_map, ← h]
    refine List.map_congr_left fun kv _ => ?_
    show (if kv.1 = .inl (x : Int) then (kv.1, v) else kv).1 = kv.1
    split <;> rfl
  · rw [if_neg (by rw [decide_eq_true_eq]; exact hx), if_neg hx]
    unfold KS at h ⊢
    rw [List.map_append, List.map_append, h]
    rfl
theorem adds_len (xs : List Nat) : ∀ ks : List Nat, (xs.foldl addN ks).length ≤ ks.length + xs.length := by
  induction xs with
  | nil => exact fun ks => Nat.le_refl _
  | cons x xs ih =>
    intro ks
    refine Nat.le_trans (ih _) ?_
    have : (addN ks x).length ≤ ks.length + 1 := by
      unfold addN
      split
      · omega
      · rw [List.length_append]
        exact Nat.le_refl _
    rw [List.length_cons]
    omega
section
variable {K : PySem.W.Frag} {a : Ads}
theorem without_tK {H : Hp} {q c : Addr} {xs : List V} {kvs : List (Key × V)} (hc : H c = some (.dK kvs)) (h : SqT K H q xs) : SqT K (without H c) q xs := by
  rcases h with (h | ⟨o, h⟩) | h
  · have ne : q ≠ c := fun e => by rw [e, hc] at h; cases h
    exact .inl (.inl (by rw [without_ne ne]; exact h))
  · have ne : q ≠ c := fun e => by rw [e, hc] at h; cases h
    exact .inl (.inr ⟨o, by rw [without_ne ne]; exact h⟩)
  · exact .inr h
theorem without_lK {H : Hp} {q c : Addr} {xs : List V} {kvs : List (Key × V)} (hc : H c = some (.dK kvs)) (h : SqL K H q xs) : SqL K (without H c) q xs := by
  rcases h with (h | ⟨o, h⟩) | h
  · have ne : q ≠ c := fun e => by rw [e, hc] at h; cases h
    exact .inl (.inl (by rw [without_ne ne]; exact h))
  · have ne : q ≠ c := fun e => by rw [e, hc] at h; cases h
    exact .inl (.inr ⟨o, by rw [without_ne ne]; exact h⟩)
  · exact .inr h
theorem walk_adds {F : Hp} {A : List (Addr × HO)} {D : sEnds} {i : Nat} {p pd : Addr} {m r x3 x4 x6 x7 x80 : Option V} {side c : Str} {lows ks : List Nat} {kvs0 : List (Key × V)}
    (hi : ∀ x8, ([m, r, some (.ref pd), x3, x4, some (.str side), x6, x7, x8] : L2.St)[i]? = some (some (.ref p))) (hp : (p, HO.lst (nV lows)) ∈ A) (h0 : KS kvs0 ks) (hk : ks.length ≤ 50) (hl : lows.length ≤ 50)
    (k : ∀ kvs x8, KS kvs (if side = c then ks else lows.foldl addN ks) → D.nx [m, r, some (.ref pd), x3, x4, some (.str side), x6, x7, x8] ⟨F, A ++ [(pd, .dK kvs)]⟩) :
    sFor (siSeq K (sVar i)) (sgName 8) (sIfS (sTst (sOp (oNe K) (sVar 5) (sC (.str c)))) (sDPutK (sVar 2) (sVar 8) (sC (.bl true))) sNext) D [m, r, some (.ref pd), x3, x4, some (.str side), x6, x7, x80] ⟨F, A ++ [(pd, .dK kvs0)]⟩ := by
  have hA : ∀ kvs : List (Key × V), sL K ⟨F, A ++ [(pd, .dK kvs)]⟩ p (nV lows) := fun kvs => .inl (List.mem_iff_getElem?.mp (List.mem_append_left _ hp))
  unfold sFor siSeq sVar
  show (match ([m, r, some (.ref pd), x3, x4, some (.str side), x6, x7, x80] : L2.St)[i]? with | some (some v) => _ | _ => False)
  rw [hi]
  refine .inl ⟨nV lows, hA _, ?_⟩
  refine ⟨fun j σ S => ∃ kvs x8, σ = [m, r, some (.ref pd), x3, x4, some (.str side), x6, x7, x8] ∧ S = ⟨F, A ++ [(pd, .dK kvs)]⟩ ∧ KS kvs (if side = c then ks else (lows.take j).foldl addN ks), ⟨kvs0, x80, rfl, rfl, ?_⟩, ?_, ?_, ?_⟩
  · split
    · exact h0
    · exact h0
  · rintro j σ S _ ⟨kvs, x8, rfl, rfl, _⟩
    exact hA _
  · rintro j σ S hj ⟨kvs, x8, rfl, rfl, h⟩ v hv
    obtain ⟨x, hx, rfl⟩ := nV_get hv
    by_cases hc : side = c
    · rw [if_pos hc] at h
      walk_at "b"
      · rename_i hb
        exact absurd (congrArg V.str hc) hb
      · refine ⟨_, SLe.refl _, kvs, some (.int (x : Nat)), rfl, rfl, ?_⟩
        rw [if_pos hc]
        exact h
    · rw [if_neg hc] at h
      walk_at "b"
      · have hlen : kvs.length ≤ 100 := by
          rw [h.len]
          have := adds_len (lows.take j) ks
          rw [List.length_take] at this
          omega
        refine ⟨A.length, kvs, .inl (x : Int), at_mid, rfl, small_of hlen (by decide), ?_⟩
        refine ⟨⟨F, A ++ [(pd, HO.dK (putK kvs (.inl (x : Int)) (.bl true)))]⟩, ?_, _, some (.int (x : Nat)), rfl, rfl, ?_⟩
        · show SLe ⟨F, (A ++ [(pd, HO.dK kvs)]).set A.length (pd, HO.dK (putK kvs (.inl (x : Int)) (.bl true)))⟩ _
          rw [set_mid]
          exact SLe.refl _
        · rw [if_neg hc, take_more hx, List.foldl_append]
          exact h.put x _
      · rename_i hb
        exact absurd (V.str.inj hb) hc
  · rintro σ S ⟨kvs, x8, rfl, rfl, h⟩
    have el : (itL K p (nV lows)).n = lows.length := nV_len lows
    rw [el, List.take_length] at h
    exact k _ _ h
theorem vc_victims_over {n : Nat} {vs : List V} {H : Hp} (g : V × List Nat × V × List Nat) (h : (ct_victims_over K (n + 1)).pre g vs H) : ∃ S, Own S H ∧ r_victims_over K a n (endsC (ct_victims_over K (n + 1)) g H) (start N_victims_over vs) S := by
  obtain ⟨mv, ms, rv, slots⟩ := g
  obtain ⟨rfl, ⟨pm, e1, hm⟩, hr, hne, hln, hl6, hsort, hcov⟩ := h
  have e1 : mv = .ref pm := e1
  subst e1
  have hm : SqT K H pm (nV ms) := hm
  have hr : hitsV K H rv slots := hr
  have hne : ms ≠ [] := hne
  have hln : ms.length ≤ n + 1 := hln
  have hl6 : ms.length ≤ 6 := hl6
  have hsort : ms.Pairwise (· < ·) := hsort
  have hcov : ∀ x ∈ ms, x ∈ slots := hcov
  have nd : ms.Nodup := hsort.imp fun h => Nat.ne_of_lt h
  refine ⟨⟨H, []⟩, Own.base H, ?_⟩
  refine ⟨_, .inr (.inr hm), ?_⟩
  rw [nV_len]
  walk_at "b"
  · rename_i hb
    have h1 : ms.length = 1 := by omega
    refine ⟨nV ms, .inr (.inr hm), fun r => ?_⟩
    intro H' o'
    have e : voF ms slots = ms := if_pos h1
    refine ⟨⟨r, rfl, ?_, ?_⟩, fun a u e => o'.fr a u e⟩
    · exact (o'.gs (r, .lst (nV ms)) (.head _)).2
    · show H' r = some (.lst (nV (voF ms slots)))
      rw [e]
      exact o'.g (i := 0) rfl
  · rename_i hb
    have h2 : 2 ≤ ms.length := by
      have : 0 < ms.length := List.length_pos_iff.mpr hne
      omega
    have hw : ∃ x ∈ ms, x ∈ slots := by
      obtain ⟨x, hx⟩ := List.exists_mem_of_ne_nil ms hne
      exact ⟨x, hx, hcov x hx⟩
    have hwm := lastIn_mem hw
    obtain ⟨w, hwe⟩ : ∃ w, lastIn ms slots = w := ⟨_, rfl⟩
    rw [hwe] at hwm
    intro pd
    refine ⟨(.ref pm, ms), fun H1 o1 => ⟨rfl, ⟨pm, rfl, SqT.up (fun a u e => o1.fr a u e) hm⟩, hne, hl6⟩, fun H1 v H2 o1 q => ?_, fun _ _ _ _ _ q => q.elim⟩
    obtain ⟨⟨pq, ws, rfl, hpq, hal⟩, hE⟩ := q
    have hc : H2 pd = some (.dK []) := hE _ _ (o1.g (i := 0) rfl)
    have hpd : H pd = none := (o1.gs _ List.mem_cons_self).2
    have hF : Ext H (without H2 pd) := fun a u e => by
      have ne : a ≠ pd := fun z => by rw [z, hpd] at e; cases e
      rw [without_ne ne]
      exact hE a u (o1.fr a u e)
    have hFn : ∀ r, without H2 pd r = none → r ≠ pd → H r = none := fun r e ne => by
      rw [without_ne ne] at e
      cases e2 : H r with
      | none => rfl
      | some u =>
        have := hE r u (o1.fr r u e2)
        rw [e] at this
        cases this
    have hpq : SqL K (without H2 pd) pq ws := without_lK hc hpq
    have hal : allV (pairV K (without H2 pd)) ws (partF ms) := allV_ex (fun _ _ ⟨p, l, r, e, h, ⟨p1, e1, h1⟩, ⟨p2, e2, h2⟩⟩ => ⟨p, l, r, e, without_tK hc h, ⟨p1, e1, without_tK hc h1⟩, ⟨p2, e2, without_tK hc h2⟩⟩) hal
    refine ⟨⟨without H2 pd, [(pd, .dK [])]⟩, Own.only hc, ?_⟩
    generalize without H2 pd = F at hF hFn hpq hal
    refine .inl ⟨ws, .inr hpq, ?_⟩
    refine ⟨fun i σ S => ∃ (kvs : List (Key × V)) (ks : List Nat) (x3 x4 x5 x6 x7 x8 : Option V), σ = [some (.ref pm), some rv, some (.ref pd), x3, x4, x5, x6, x7, x8] ∧ S = ⟨F, [(pd, .dK kvs)]⟩ ∧ KS kvs ks ∧ ks.Nodup ∧ (∀ x ∈ ks, x ∈ ms ∧ x ≠ w) ∧ ∀ (j : Nat) q, j < i → (partF ms)[j]? = some q → ∀ x, (q.1 = [x] ∨ q.2 = [x]) → x ≠ w → x ∈ ks, ?_, ?_, ?_, ?_⟩
    · exact ⟨[], [], none, none, none, none, none, none, rfl, rfl, rfl, List.nodup_nil, (fun x hx => by cases hx), fun j q hj => absurd hj (Nat.not_lt_zero j)⟩
    · rintro i σ S _ ⟨kvs, ks, x3, x4, x5, x6, x7, x8, rfl, rfl, _⟩
      exact .inr hpq
    · rintro i σ S hi ⟨kvs, ks, x3, x4, x5, x6, x7, x8, rfl, rfl, hks, hnd, hsub, hall⟩ v hv
      obtain ⟨q, hq, ⟨p, l, r, rfl, hp, hl, hr2⟩⟩ := allV_at hal hv
      have hqm : q ∈ partF ms := List.mem_of_getElem? hq
      obtain ⟨hPI, hq2⟩ := partF_inv hqm
      obtain ⟨b1, b2, b3, b4⟩ := hPI
      have hlen : q.1.length + q.2.length = ms.length := by
        rw [← List.length_append]
        exact b3.length_eq
      have p1 : 0 < q.1.length := List.length_pos_iff.mpr b4
      have p2 : 0 < q.2.length := List.length_pos_iff.mpr hq2
      have side := sideF_is ⟨b1, b2, b3, b4⟩ hw
      rw [hwe] at side
      have ndq : (q.1 ++ q.2).Nodup := b3.nodup_iff.mpr nd
      have dis : ∀ x, x ∈ q.1 → x ∈ q.2 → False := fun x h1 h2 => (List.nodup_append.mp ndq).2.2 x h1 x h2 rfl
      have w12 : w ∈ q.1 ∨ w ∈ q.2 := List.mem_append.mp (b3.mem_iff.mpr hwm)
      refine ⟨[l, r], .inr hp, rfl, ?_⟩
      refine ⟨(rv, slots, l, q.1, r, q.2), fun H3 o3 => ⟨rfl, hitsV.up (fun a u e => o3.fr a u (hF a u e)) hr, tupN.up (fun a u e => o3.fr a u e) hl, tupN.up (fun a u e => o3.fr a u e) hr2⟩, fun H3 y H4 o3 z => ⟨_, o3.ex z.2, ?_⟩, fun _ _ _ _ _ z => z.elim⟩
      obtain ⟨rfl, _⟩ := z
      refine ⟨(l, q.1, rv, slots), fun H5 o5 => ⟨rfl, tupN.up (fun a u e => o5.fr a u e) hl, hitsV.up (fun a u e => o5.fr a u (hF a u e)) hr, b4, by show q.1.length ≤ n; omega, by show q.1.length ≤ 6; omega, hsort.sublist b1, fun x hx => hcov x (b1.subset hx)⟩, fun H5 y H6 o5 z => ?_, fun _ _ _ _ _ z => z.elim⟩
      obtain ⟨⟨pl, rfl, z1, z2⟩, z3⟩ := z
      refine ⟨_, o5.new z1 z3 z2, ?_⟩
      refine ⟨(r, q.2, rv, slots), fun H7 o7 => ⟨rfl, tupN.up (fun a u e => o7.fr a u e) hr2, hitsV.up (fun a u e => o7.fr a u (hF a u e)) hr, hq2, by show q.2.length ≤ n; omega, by show q.2.length ≤ 6; omega, hsort.sublist b2, fun x hx => hcov x (b2.subset hx)⟩, fun H7 y H8 o7 z => ?_, fun _ _ _ _ _ z => z.elim⟩
      obtain ⟨⟨ph, rfl, y1, y2⟩, y3⟩ := z
      refine ⟨_, o7.new y1 y3 y2, ?_⟩
      have n1 := voF_ne (slots := slots) (nd.sublist b1) b4
      have n2 := voF_ne (slots := slots) (nd.sublist b2) hq2
      refine ⟨_, .inl (.inl ⟨1, rfl⟩), ?_⟩
      rw [nV_len]
      walk_at "b"
      · refine ⟨_, .inl (.inl ⟨0, rfl⟩), ?_⟩
        rw [nV_len]
        walk_at "b"
        · have key : ∃ zs : List Nat, (∀ ks : List Nat, (if sideF q.1 q.2 slots = "R" then (if sideF q.1 q.2 slots = "L" then ks else (voF q.1 slots).foldl addN ks) else (voF q.2 slots).foldl addN (if sideF q.1 q.2 slots = "L" then ks else (voF q.1 slots).foldl addN ks)) = zs.foldl addN ks) ∧ (∀ x ∈ zs, x ∈ ms ∧ x ≠ w) ∧ ∀ x, (q.1 = [x] ∨ q.2 = [x]) → x ≠ w → x ∈ zs := by
            rw [side]
            have one : ∀ (t : List Nat) (x : Nat), t = [x] → x ∈ voF t slots := fun t x e => by
              rw [e]
              show x ∈ (if [x].length = 1 then [x] else _)
              rw [if_pos (show [x].length = 1 from rfl)]
              exact .head _
            cases hcw : q.1.contains w with
            | true =>
              have hcw := List.contains_iff_mem.mp hcw
              refine ⟨voF q.2 slots, fun ks => ?_, fun x hx => ⟨b2.subset (voF_sub hx), fun e => dis w hcw (by rw [← e]; exact voF_sub hx)⟩, fun x hx hxw => ?_⟩
              · rw [if_neg (by decide), if_pos (by decide)]
              · rcases hx with hx | hx
                · rw [hx] at hcw
                  exact absurd (List.mem_singleton.mp hcw).symm hxw
                · exact one _ x hx
            | false =>
              have hcw : ¬ w ∈ q.1 := fun h => by rw [List.contains_iff_mem.mpr h] at hcw; cases hcw
              have hw2 : w ∈ q.2 := w12.elim (fun h => absurd h hcw) id
              refine ⟨voF q.1 slots, fun ks => ?_, fun x hx => ⟨b1.subset (voF_sub hx), fun e => dis w (by rw [← e]; exact voF_sub hx) hw2⟩, fun x hx hxw => ?_⟩
              · rw [if_pos (by decide), if_neg (by decide)]
              · rcases hx with hx | hx
                · exact one _ x hx
                · rw [hx] at hw2
                  exact absurd (List.mem_singleton.mp hw2).symm hxw
          obtain ⟨zs, k1, k2, k3⟩ := key
          have ksl : ks.length ≤ 6 := Nat.le_trans (nodup_len hnd fun x hx => (hsub x hx).1) hl6
          have v1 : (voF q.1 slots).length ≤ 6 := by
            refine Nat.le_trans ?_ (show q.1.length ≤ 6 by omega)
            unfold voF
            split
            · exact Nat.le_refl _
            · exact List.length_filter_le _ _
          have v2 : (voF q.2 slots).length ≤ 6 := by
            refine Nat.le_trans ?_ (show q.2.length ≤ 6 by omega)
            unfold voF
            split
            · exact Nat.le_refl _
            · exact List.length_filter_le _ _
          generalize sideF q.1 q.2 slots = sd at k1
          show (sFor (siSeq K (sVar 6)) (sgName 8) _) _ [some (.ref pm), some rv, some (.ref pd), some l, some r, some (.str sd), some (.ref pl), some (.ref ph), x8] ⟨F, [(ph, HO.lst (nV (voF q.2 slots))), (pl, HO.lst (nV (voF q.1 slots)))] ++ [(pd, HO.dK kvs)]⟩
          refine walk_adds (i := 6) (p := pl) (pd := pd) (m := some (.ref pm)) (r := some rv) (x3 := some l) (x4 := some r) (x6 := some (.ref pl)) (x7 := some (.ref ph)) (side := sd) (A := [(ph, HO.lst (nV (voF q.2 slots))), (pl, HO.lst (nV (voF q.1 slots)))]) (fun x8 => rfl) (.tail _ (.head _)) hks (by omega) (by omega) fun kvs2 x82 h2 => ?_
          have l2 : (if sd = "L" then ks else (voF q.1 slots).foldl addN ks).length ≤ 50 := by
            split
            · omega
            · have := adds_len (voF q.1 slots) ks
              omega
          refine walk_adds (i := 7) (p := ph) (pd := pd) (m := some (.ref pm)) (r := some rv) (x3 := some l) (x4 := some r) (x6 := some (.ref pl)) (x7 := some (.ref ph)) (side := sd) (A := [(ph, HO.lst (nV (voF q.2 slots))), (pl, HO.lst (nV (voF q.1 slots)))]) (fun x8 => rfl) (.head _) h2 l2 (by omega) fun kvs3 x83 h3 => ?_
          rw [k1] at h3
          refine ⟨⟨F, [(pd, .dK kvs3)]⟩, sle_sub (.cons _ (.cons _ (.refl _))), kvs3, zs.foldl addN ks, _, _, _, _, _, _, rfl, rfl, h3, adds_nd zs hnd, fun x hx => ?_, fun j q2 hj hq2 x hx hxw => adds_mem zs |>.mpr ?_⟩
          · exact (adds_mem zs |>.mp hx).elim (hsub x) (k2 x)
          · by_cases e : j = i
            · subst e
              rw [hq] at hq2
              cases hq2
              exact .inr (k3 x hx hxw)
            · exact .inl (hall j q2 (by omega) hq2 x hx hxw)
        · rename_i hb
          have : 0 < (voF q.2 slots).length := List.length_pos_iff.mpr n2
          exfalso
          omega
      · rename_i hb
        have : 0 < (voF q.1 slots).length := List.length_pos_iff.mpr n1
        exfalso
        omega
    · rintro σ S ⟨kvs, ks, x3, x4, x5, x6, x7, x8, rfl, rfl, hks, hnd, hsub, hall⟩
      have el : (itL K pq ws).n = (partF ms).length := allV_len hal
      rw [el] at hall
      have ksl : ks.length ≤ 6 := Nat.le_trans (nodup_len hnd fun x hx => (hsub x hx).1) hl6
      refine ⟨kvs, ks.map fun n : Nat => (n : Int), .inl ⟨0, rfl⟩, ?_, ?_, fun ys r hperm hs => ?_⟩
      · unfold KS at hks
        rw [hks, List.map_map]
        rfl
      · rw [List.length_map]
        omega
      · intro H' o'
        have h0 := o'.gs (r, .lst (ys.map V.int)) (.head _)
        have hrp : r ≠ pd := fun e => by
          have nd := o'.nd
          rw [e] at nd
          exact (List.nodup_cons.mp nd).1 (.head _)
        refine ⟨⟨r, rfl, hFn r h0.2 hrp, ?_⟩, fun a u e => o'.fr a u (hF a u e)⟩
        show H' r = some (.lst (nV (voF ms slots)))
        rw [h0.1]
        have e1 : ys = (ys.map Int.toNat).map fun n : Nat => (n : Int) := by
          rw [List.map_map]
          conv => lhs; rw [← List.map_id ys]
          refine List.map_congr_left fun y hy => ?_
          obtain ⟨x, _, rfl⟩ := List.mem_map.mp (hperm.mem_iff.mp hy)
          rfl
        have e2 : ys.map Int.toNat = voF ms slots := by
          refine sorted_eq ?_ ?_ fun x => ?_
          · have nd2 : ys.Nodup := hperm.nodup_iff.mpr (List.Pairwise.map _ (fun a b (h : a ≠ b) e => h (by omega)) hnd)
            refine List.pairwise_map.mpr (List.Pairwise.imp_of_mem (fun {a b} ha hb h => ?_) (hs.and nd2))
            obtain ⟨x, _, rfl⟩ := List.mem_map.mp (hperm.mem_iff.mp ha)
            obtain ⟨y, _, rfl⟩ := List.mem_map.mp (hperm.mem_iff.mp hb)
            have h1 := h.1
            have h2 := h.2
            show x < y
            omega
          · unfold voF
            rw [if_neg (by omega)]
            exact hsort.filter _
          · have m1 : x ∈ ys.map Int.toNat ↔ x ∈ ks := by
              rw [List.mem_map]
              constructor
              · rintro ⟨y, hy, rfl⟩
                obtain ⟨z, hz, rfl⟩ := List.mem_map.mp (hperm.mem_iff.mp hy)
                exact hz
              · exact fun hx => ⟨(x : Int), hperm.mem_iff.mpr (List.mem_map.mpr ⟨x, hx, rfl⟩), rfl⟩
            have m2 : x ∈ voF ms slots ↔ x ∈ ms ∧ x ≠ w := by
              unfold voF
              rw [if_neg (by omega), List.mem_filter, decide_eq_true_eq, hwe]
            rw [m1, m2]
            refine ⟨hsub x, fun ⟨h1, h3⟩ => ?_⟩
            obtain ⟨q, hq, hx⟩ := partF_alone nd h2 h1
            obtain ⟨j, hj⟩ := List.mem_iff_getElem?.mp hq
            exact hall j q (List.getElem?_eq_some_iff.mp hj).1 hj x hx h3
        rw [e1, e2, ← nV_ints]
end
/-! ### the counts by ranks -/
def padR (k : Nat) (row : List Nat) : List Nat := (List.range k).map fun d => row.getD d 0
theorem padR_len (k : Nat) (row : List Nat) : (padR k row).length = k := by
  unfold padR
  rw [List.length_map, List.length_range]
theorem padR_at {k d : Nat} (row : List Nat) (h : d < k) : (padR k row)[d]? = some (row.getD d 0) := by
  unfold padR
  rw [List.getElem?_map, List.getElem?_range h]
  rfl
theorem padR_sum {k : Nat} {row : List Nat} (h : row.length ≤ k) : (padR k row).sum = row.sum := sum_getD k row h
theorem padR_self {k : Nat} {l : List Nat} (h : l.length = k) : padR k l = l := by
  refine List.ext_getElem? fun d => ?_
  by_cases hd : d < k
  · rw [padR_at l hd, List.getD_eq_getElem?_getD, List.getElem?_eq_getElem (by omega)]
    rfl
  · rw [List.getElem?_eq_none (by rw [padR_len]; omega), List.getElem?_eq_none (by omega)]
/-- the longer row, as the program makes it -/
theorem padR_next {k c : Nat} {row : List Nat} (h : row.length ≤ k) : padR (k + 1) (row.mapIdx fun d x => x * (c - d)) = ((List.range k).map fun d => (c - d) * row.getD d 0) ++ [0] := by
  have at_ : ∀ d, (row.mapIdx fun d x => x * (c - d)).getD d 0 = (c - d) * row.getD d 0 := fun d => by
    rw [List.getD_eq_getElem?_getD, List.getD_eq_getElem?_getD, List.getElem?_mapIdx]
    cases row[d]? with
    | none => rfl
    | some x => exact Nat.mul_comm _ _
  unfold padR
  rw [List.range_succ, List.map_append]
  congr 1
  · exact List.map_congr_left fun d _ => at_ d
  · show [(row.mapIdx fun d x => x * (c - d)).getD k 0] = [0]
    rw [at_, List.getD_eq_getElem?_getD, List.getElem?_eq_none h]
    rfl
def rcRows (k : Nat) : List (List Nat) := (bdRows k).map (padR k)
theorem rcRows_next (k : Nat) : rcRows (k + 2) = ((bdRows (k + 1)).map fun row => ((List.range (k + 1)).map fun d => (2 * (k + 1) - 2 - d) * row.getD d 0) ++ [0]) ++ [0 :: (List.range (k + 1)).map fun d => ((bdSums (k + 1) (bdRows (k + 1))).drop d).sum] := by
  obtain ⟨_, h⟩ := bdRows_len k
  unfold rcRows
  show (bdStep (k + 1) (bdRows (k + 1))).map (padR (k + 2)) = _
  unfold bdStep
  rw [List.map_append, List.map_map]
  congr 1
  · refine List.map_congr_left fun row hr => ?_
    exact padR_next (h row hr)
  · show [padR (k + 2) _] = _
    rw [padR_self (by rw [List.length_cons, List.length_map, List.length_range])]
/-! single steps of the readings -/
theorem yldR_go {lo : Int} {n i : Nat} {S : SH} {k : V → SH → Prop} (h : k (.int (lo + (i : Nat))) S) : (itR lo n).yld i S k := h
theorem nm_go {i : Nat} {W : sWX} {v : V} {σ : L2.St} {S : SH} {Q : L2.St → SH → Prop} (h : Q (σ.set i (some v)) S) : sgName i W v σ S Q := h
theorem seq_go {t u : sS} {D : sEnds} {σ : L2.St} {S : SH} (h : t { D with nx := u D } σ S) : sSeq t u D σ S := h
theorem set_go {te : sE} {i : Nat} {D : sEnds} {σ : L2.St} {S : SH} (h : te D.ex σ S fun x S1 => D.nx (σ.set i (some x)) S1) : sSet te i D σ S := h
theorem ret_go {te : sE} {D : sEnds} {σ : L2.St} {S : SH} (h : te D.ex σ S D.rt) : sRet te D σ S := h
theorem op_go {r : s2} {ta tb : sE} {W : sWX} {σ : L2.St} {S : SH} {Q : V → SH → Prop} (h : ta W σ S fun x S1 => tb W σ S1 fun y S2 => r x y S2 Q) : sOp r ta tb W σ S Q := h
section
variable {K : PySem.W.Frag} {a : Ads}
theorem get_n {ns : List Nat} {i : Nat} (h : i < ns.length) : ns[i]? = some (ns.getD i 0) := by
  rw [List.getD_eq_getElem?_getD, List.getElem?_eq_getElem h]
  rfl
theorem range_more (f : Nat → Nat) (i : Nat) : nV ((List.range (i + 1)).map f) = nV ((List.range i).map f) ++ [.int (f i : Nat)] := by
  rw [List.range_succ, List.map_append, nV_append]
  rfl
theorem range_len (f : Nat → Nat) (i : Nat) : (nV ((List.range i).map f)).length = i := by
  rw [nV_len, List.length_map, List.length_range]
/-- a column of the rows -/
theorem walk_col {W : sWX} {F : Hp} {N G : List (Addr × HO)} {Q : V → SH → Prop} {q : Addr} {vs : List V} {rows : List (List Nat)} {j : Int} {d : Nat} {s0 x2 x3 x4 x5 x7 x8 : Option V} (hj : j = (d : Nat)) (hs : N ⊆ G)
    (hq : mL K F N q vs) (hal : allV (lstM K F N) vs rows) (hd : ∀ row ∈ rows, d < row.length) (hl : rows.length ≤ 100)
    (k : ∀ D, Q (.ref D) ⟨F, (D, .lst (nV (rows.map fun row => row.getD d 0))) :: G⟩) :
    sLc (siSeq K (sVar 1)) (sgName 7) sYes (sOp (oIx K) (sVar 7) (sVar 6)) [7] W [s0, some (.ref q), x2, x3, x4, x5, some (.int j), x7, x8] ⟨F, G⟩ Q := by
  subst hj
  refine .inl ⟨vs, hq.s hs, fun D => ?_⟩
  refine ⟨fun i S => S = ⟨F, (D, .lst (nV ((rows.take i).map fun row => row.getD d 0))) :: G⟩, rfl, ?_, ?_, ?_⟩
  · rintro i S _ rfl
    exact hq.s fun z hz => .tail _ (hs hz)
  · rintro i S hi rfl v hv
    obtain ⟨row, hr, ⟨p, rfl, hp⟩⟩ := allV_at hal hv
    refine ⟨rfl, ?_⟩
    refine ⟨_, .int (row.getD d 0 : Nat), .inl (hp.s fun z hz => .tail _ (hs hz)), atI_at (nV_at (get_n (hd row (List.mem_of_getElem? hr)))), ?_⟩
    refine ⟨0, _, rfl, ?_, ⟨_, SLe.refl _, ?_⟩⟩
    · rw [nV_len, List.length_map, List.length_take]
      exact small_of (show min i rows.length ≤ 100 by omega) (by decide)
    · show _ = SH.mk F ((D, .lst (nV ((rows.take (i + 1)).map fun row => row.getD d 0))) :: G)
      rw [map_more hr, nV_append]
      rfl
  · rintro S rfl
    have el : (itL K q vs).n = rows.length := allV_len hal
    rw [el, List.take_length]
    exact k D
/-- the sums of the columns -/
theorem walk_tots {W : sWX} {F : Hp} {N : List (Addr × HO)} {Q : V → SH → Prop} {q : Addr} {vs : List V} {rows : List (List Nat)} {c : Int} {k : Nat} {s0 x3 x4 x5 x6 x7 x8 : Option V} (hc : c = (k : Nat)) (hk : k ≤ 100)
    (hq : mL K F N q vs) (hal : allV (lstM K F N) vs rows) (hd : ∀ row ∈ rows, k ≤ row.length) (hl : rows.length ≤ 100)
    (kk : ∀ D E, Q (.ref D) ⟨F, E ++ (D, .lst (nV ((List.range k).map fun d => (rows.map fun row => row.getD d 0).sum))) :: N⟩) :
    sLc (siR1 (sCons (sVar 2) sNil)) (sgName 6) sYes (sCall1 (nSum K) (sCons (sLc (siSeq K (sVar 1)) (sgName 7) sYes (sOp (oIx K) (sVar 7) (sVar 6)) [7]) sNil)) [6] W [s0, some (.ref q), some (.int c), x3, x4, x5, x6, x7, x8] ⟨F, N⟩ Q := by
  subst hc
  refine ⟨by unfold rngOk; omega, fun D => ?_⟩
  refine ⟨fun i S => i ≤ k ∧ ∃ E, S = ⟨F, E ++ (D, .lst (nV ((List.range i).map fun d => (rows.map fun row => row.getD d 0).sum))) :: N⟩, ⟨Nat.zero_le _, [], rfl⟩, fun _ _ _ _ => trivial, ?_, ?_⟩
  · rintro i S hi ⟨_, E, rfl⟩
    have hi : i < ((k : Nat) : Int).toNat := hi
    rw [Int.toNat_natCast] at hi
    refine ⟨rfl, ?_⟩
    unfold sYes sCall1 sCons sNil
    dsimp only
    refine walk_col (d := i) (Int.zero_add _) sub_midr hq hal (fun row hr => Nat.lt_of_lt_of_le hi (hd row hr)) hl fun D2 => ?_
    refine ⟨(rows.map fun row => row.getD i 0).map fun n : Nat => (n : Int), .inl ⟨0, by rw [← nV_ints]; rfl⟩, ?_⟩
    rw [sum_ints]
    refine lc_put (P := fun S => i + 1 ≤ k ∧ ∃ E, S = ⟨F, E ++ (D, .lst (nV ((List.range (i + 1)).map fun d => (rows.map fun row => row.getD d 0).sum))) :: N⟩) (acc := nV ((List.range i).map fun d => (rows.map fun row => row.getD d 0).sum)) (E := (D2, .lst (nV (rows.map fun row => row.getD i 0))) :: E) (by rw [range_len]; exact small_of (show i ≤ 100 by omega) (by decide)) ⟨by omega, (D2, .lst (nV (rows.map fun row => row.getD i 0))) :: E, ?_⟩
    rw [range_more]
  · rintro S ⟨_, E, rfl⟩
    show Q (.ref D) ⟨F, E ++ (D, .lst (nV ((List.range ((k : Nat) : Int).toNat).map fun d => (rows.map fun row => row.getD d 0).sum))) :: N⟩
    rw [Int.toNat_natCast]
    exact kk D E
/-- the sums from each place on -/
theorem walk_news {W : sWX} {F : Hp} {N : List (Addr × HO)} {Q : V → SH → Prop} {q : Addr} {tot : List Nat} {c : Int} {k : Nat} {s0 x1 x4 x5 x6 x7 x8 : Option V} (hc : c = (k : Nat)) (hk : k ≤ 100)
    (hq : mL K F N q (nV tot)) (hl : tot.length = k)
    (kk : ∀ D E, Q (.ref D) ⟨F, E ++ (D, .lst (nV ((List.range k).map fun d => (tot.drop d).sum))) :: N⟩) :
    sLc (siR1 (sCons (sVar 2) sNil)) (sgName 6) sYes (sCall1 (nSum K) (sCons (sSl K (sVar 3) (sPart (sVar 6)) sNoP) sNil)) [6] W [s0, x1, some (.int c), some (.ref q), x4, x5, x6, x7, x8] ⟨F, N⟩ Q := by
  subst hc
  refine ⟨by unfold rngOk; omega, fun D => ?_⟩
  refine ⟨fun i S => i ≤ k ∧ ∃ E, S = ⟨F, E ++ (D, .lst (nV ((List.range i).map fun d => (tot.drop d).sum))) :: N⟩, ⟨Nat.zero_le _, [], rfl⟩, fun _ _ _ _ => trivial, ?_, ?_⟩
  · rintro i S hi ⟨_, E, rfl⟩
    have hi : i < ((k : Nat) : Int).toNat := hi
    rw [Int.toNat_natCast] at hi
    refine ⟨rfl, ?_⟩
    refine .inl ⟨nV tot, hq.s sub_midr, fun r => ?_⟩
    have hcut : cutV (nV tot) (some (0 + (i : Nat))) none = nV (tot.drop i) := by
      unfold cutV
      rw [Int.zero_add, HT.sIx_nat, HT.sIx_none, nV_len, show min i tot.length = i by omega]
      unfold nV
      rw [← List.map_drop, List.take_of_length_le (by rw [List.length_map, List.length_drop]; omega)]
    rw [hcut]
    refine ⟨(tot.drop i).map fun n : Nat => (n : Int), .inl ⟨0, by rw [← nV_ints]; rfl⟩, ?_⟩
    rw [sum_ints]
    refine lc_put (E := (r, .lst (nV (tot.drop i))) :: E) (by rw [range_len]; exact small_of (show i ≤ 100 by omega) (by decide)) ⟨by omega, (r, .lst (nV (tot.drop i))) :: E, ?_⟩
    rw [range_more]
  · rintro S ⟨_, E, rfl⟩
    show Q (.ref D) ⟨F, E ++ (D, .lst (nV ((List.range ((k : Nat) : Int).toNat).map fun d => (tot.drop d).sum))) :: N⟩
    rw [Int.toNat_natCast]
    exact kk D E
/-- a row, made longer -/
theorem walk_row {W : sWX} {F : Hp} {N G : List (Addr × HO)} {Q : V → SH → Prop} {q : Addr} {row : List Nat} {c : Int} {k : Nat} {s0 x1 x3 x4 x5 x6 x8 : Option V} (hc : c = ((k + 1 : Nat) : Int)) (hk : k ≤ 100) (hs : N ⊆ G)
    (hq : mL K F N q (nV (padR (k + 1) row)))
    (kk : ∀ D E, Q (.ref D) ⟨F, E ++ (D, .lst (nV ((List.range (k + 1)).map fun d => (2 * (k + 1) - 2 - d) * row.getD d 0))) :: G⟩) :
    sLc (siEn K (sCons (sVar 7) sNil)) (sgTup K 2 (sgCons (sgName 6) (sgCons (sgName 8) sgNil))) sYes (sOp oMul (sOp oSub (sOp oSub (sOp oMul (sC (.int 2)) (sVar 2)) (sC (.int 2))) (sVar 6)) (sVar 8)) [6, 8] W [s0, x1, some (.int c), x3, x4, x5, x6, some (.ref q), x8] ⟨F, G⟩ Q := by
  subst hc
  refine ⟨_, hq.s hs, fun D => ?_⟩
  refine ⟨fun i S => i ≤ k + 1 ∧ ∃ E, S = ⟨F, E ++ (D, .lst (nV ((List.range i).map fun d => (2 * (k + 1) - 2 - d) * row.getD d 0))) :: G⟩, ⟨Nat.zero_le _, [], rfl⟩, ?_, ?_, ?_⟩
  · rintro i S _ ⟨_, E, rfl⟩
    exact hq.s fun z hz => sub_midr (hs hz)
  · rintro i S hi ⟨_, E, rfl⟩ v hv r
    have hi : i < (nV (padR (k + 1) row)).length := hi
    rw [nV_len, padR_len] at hi
    have e := (nV_at (padR_at row hi)).symm.trans hv
    cases e
    refine ⟨_, .inl ⟨0, rfl⟩, rfl, ?_⟩
    refine ⟨rfl, ?_⟩
    refine ⟨.inl (by unfold sm64; omega), ?_⟩
    refine ⟨.inl (by unfold sm64; omega), ?_⟩
    have ev : V.int ((2 * ((k + 1 : Nat) : Int) - 2 - (i : Nat)) * (row.getD i 0 : Nat)) = V.int (((2 * (k + 1) - 2 - i) * row.getD i 0 : Nat) : Int) := by
      rw [Int.natCast_mul]
      congr 2
      omega
    rw [ev]
    refine lc_put (E := (r, .tup [.int (i : Nat), .int (row.getD i 0 : Nat)]) :: E) (by rw [range_len]; exact small_of (show i ≤ 101 by omega) (by decide)) ⟨by omega, (r, .tup [.int (i : Nat), .int (row.getD i 0 : Nat)]) :: E, ?_⟩
    rw [range_more]
  · rintro S ⟨_, E, rfl⟩
    show Q (.ref D) ⟨F, E ++ (D, .lst (nV ((List.range (nV (padR (k + 1) row)).length).map fun d => (2 * (k + 1) - 2 - d) * row.getD d 0))) :: G⟩
    rw [nV_len, padR_len]
    exact kk D E
/-- all rows, made longer -/
theorem walk_elder {W : sWX} {F : Hp} {N : List (Addr × HO)} {Q : V → SH → Prop} {q : Addr} {vs : List V} {rows : List (List Nat)} {c : Int} {k : Nat} {s0 x3 x4 x5 x6 x7 x8 : Option V} (hc : c = ((k + 1 : Nat) : Int)) (hk : k ≤ 100) (hl : rows.length ≤ 100)
    (hq : mL K F N q vs) (hal : allV (lstM K F N) vs (rows.map (padR (k + 1))))
    (kk : ∀ D E ws, allV (lstM K F E) ws (rows.map fun row => ((List.range (k + 1)).map fun d => (2 * (k + 1) - 2 - d) * row.getD d 0) ++ [0]) → Q (.ref D) ⟨F, E ++ (D, .lst ws) :: N⟩) :
    sLc (siSeq K (sVar 1)) (sgName 7) sYes (sOp oAdd (sLc (siEn K (sCons (sVar 7) sNil)) (sgTup K 2 (sgCons (sgName 6) (sgCons (sgName 8) sgNil))) sYes (sOp oMul (sOp oSub (sOp oSub (sOp oMul (sC (.int 2)) (sVar 2)) (sC (.int 2))) (sVar 6)) (sVar 8)) [6, 8]) (sLst (sCons (sC (.int 0)) sNil))) [7] W [s0, some (.ref q), some (.int c), x3, x4, x5, x6, x7, x8] ⟨F, N⟩ Q := by
  refine .inl ⟨vs, hq.s (List.Subset.refl _), fun D => ?_⟩
  refine ⟨fun i S => ∃ E ws, S = ⟨F, E ++ (D, .lst ws) :: N⟩ ∧ allV (lstM K F E) ws ((rows.take i).map fun row => ((List.range (k + 1)).map fun d => (2 * (k + 1) - 2 - d) * row.getD d 0) ++ [0]), ⟨[], [], rfl, trivial⟩, ?_, ?_, ?_⟩
  · rintro i S _ ⟨E, ws, rfl, _⟩
    exact hq.s sub_midr
  · rintro i S hi ⟨E, ws, rfl, hws⟩ v hv
    obtain ⟨prow, hr, ⟨p, rfl, hp⟩⟩ := allV_at hal hv
    rw [List.getElem?_map] at hr
    obtain ⟨row, hr2, rfl⟩ := Option.map_eq_some_iff.mp hr
    refine ⟨rfl, ?_⟩
    unfold sYes sOp
    dsimp only
    refine walk_row hc hk sub_midr hp fun D2 E2 => ?_
    refine ⟨show 1 ≤ sizeLine by decide, fun z => ?_⟩
    refine ⟨_, _, .inl (List.mem_iff_getElem?.mp (.tail _ (List.mem_append_right _ (.head _)))), .inl ⟨0, rfl⟩, ?_, fun y => ?_⟩
    · rw [range_len]
      exact Nat.le_trans (show k + 1 + 1 ≤ 102 by omega) (by decide)
    have hlen : ws.length ≤ 100 := by
      have := allV_len hws
      rw [List.length_map, List.length_take] at this
      omega
    have e : (SH.mk F ((y, .lst (nV ((List.range (k + 1)).map fun d => (2 * (k + 1) - 2 - d) * row.getD d 0) ++ [.int 0])) :: (z, .lst [.int 0]) :: (E2 ++ (D2, .lst (nV ((List.range (k + 1)).map fun d => (2 * (k + 1) - 2 - d) * row.getD d 0))) :: (E ++ (D, .lst ws) :: N)))) = SH.mk F (((y, .lst (nV ((List.range (k + 1)).map fun d => (2 * (k + 1) - 2 - d) * row.getD d 0) ++ [.int 0])) :: (z, .lst [.int 0]) :: (E2 ++ (D2, .lst (nV ((List.range (k + 1)).map fun d => (2 * (k + 1) - 2 - d) * row.getD d 0))) :: E)) ++ (D, .lst ws) :: N) := by
      simp only [List.cons_append, List.append_assoc]
    show ∃ k' acc, (SH.mk F ((y, .lst (nV ((List.range (k + 1)).map fun d => (2 * (k + 1) - 2 - d) * row.getD d 0) ++ [.int 0])) :: (z, .lst [.int 0]) :: (E2 ++ (D2, .lst (nV ((List.range (k + 1)).map fun d => (2 * (k + 1) - 2 - d) * row.getD d 0))) :: (E ++ (D, .lst ws) :: N)))).G[k']? = some (D, .lst acc) ∧ acc.length < sizeLine ∧ Wk _ ((SH.mk F ((y, .lst (nV ((List.range (k + 1)).map fun d => (2 * (k + 1) - 2 - d) * row.getD d 0) ++ [.int 0])) :: (z, .lst [.int 0]) :: (E2 ++ (D2, .lst (nV ((List.range (k + 1)).map fun d => (2 * (k + 1) - 2 - d) * row.getD d 0))) :: (E ++ (D, .lst ws) :: N)))).put k' D (.lst (acc ++ [.ref y])))
    rw [e]
    refine lc_put (small_of hlen (by decide)) ⟨_, _, rfl, ?_⟩
    rw [map_more hr2]
    refine allV_snoc ⟨y, rfl, .inl ?_⟩ (allV_ex (fun _ _ z => z.sub ?_) hws)
    · rw [nV_append]
      exact .head _
    · exact fun z hz => .tail _ (.tail _ (List.mem_append_right _ (.tail _ hz)))
  · rintro S ⟨E, ws, rfl, hws⟩
    have el : (itL K q vs).n = rows.length := (allV_len hal).trans (List.length_map _)
    rw [el, List.take_length] at hws
    exact kk D E ws hws
theorem use_check60 {W : sWX} {σ : L2.St} {S : SH} {Q : V → SH → Prop} {vs : List V} {x : V} (t : TY) (e : vs = [x, .int 1, .int 60]) (ht : ∀ H, Own S H → Ty0 K H x t) (h1 : okN x 1 (some 60) = true → Q x S) (h2 : okN x 1 (some 60) = false → ∀ d, W (.ref a.InvalidNumber) (some d) σ (S.new d (.xd [("number", x)]))) :
    rC (ct_checked_number K a) W vs σ S Q := use_check (m := some 60) t e ht h1 h2
theorem vc_rank_counts {vs : List V} {H : Hp} (g : V × TY) (h : (ct_rank_counts K a).pre g vs H) : ∃ S, Own S H ∧ r_rank_counts K a (endsC (ct_rank_counts K a) g H) (start N_rank_counts vs) S := by
  obtain ⟨x, t⟩ := g
  obtain ⟨rfl, ht⟩ := h
  refine ⟨⟨H, []⟩, Own.base H, ?_⟩
  refine use_check60 t rfl (fun H' o => ht.ex (ext0 o)) (fun ok => ?_) (fun ok d H' o => ⟨ok, rfl, d, rfl, (o.gs (d, .xd [("number", x)]) List.mem_cons_self).2, fun a u e => o.fr a u e, (o.gs (d, .xd [("number", x)]) List.mem_cons_self).1⟩)
  obtain ⟨n, rfl, h1, h2⟩ := okN_60 ok
  refine ⟨show 1 ≤ sizeLine by decide, fun p1 => ?_⟩
  refine ⟨show 1 ≤ sizeLine by decide, fun p2 => ?_⟩
  refine ⟨by unfold rngOk; omega, by unfold rngOk; omega, ?_⟩
  refine ⟨fun i σ S => ∃ (N : List (Addr × HO)) (q : Addr) (vs : List V) (x2 x3 x4 x5 x6 x7 x8 : Option V), σ = [some (.int (n : Nat)), some (.ref q), x2, x3, x4, x5, x6, x7, x8] ∧ S = ⟨H, N⟩ ∧ (q, .lst vs) ∈ N ∧ allV (lstM K H N) vs (rcRows (i + 1)), ?_, fun _ _ _ _ _ => trivial, ?_, ?_⟩
  · exact ⟨_, p2, [.ref p1], none, none, none, none, none, none, none, rfl, rfl, .head _, ⟨p1, rfl, .inl (.tail _ (.head _))⟩, trivial⟩
  · rintro i σ S hi ⟨N, q, vs, x2, x3, x4, x5, x6, x7, x8, rfl, rfl, hq, hal⟩
    have hi : i < ((n : Nat) - 1 : Int).toNat := hi
    obtain ⟨l1, l2⟩ := bdRows_len i
    have rl : (rcRows (i + 1)).length ≤ 100 := by
      unfold rcRows
      rw [List.length_map, l1]
      omega
    refine yldR_go (nm_go (seq_go (set_go ?_)))
    refine walk_tots (k := i + 1) (show (1 : Int) + (i : Nat) = ((i + 1 : Nat) : Int) by omega) (by omega) (.inl hq) hal (fun row hr => ?_) rl fun D1 E1 => ?_
    · obtain ⟨r, _, rfl⟩ := List.mem_map.mp hr
      rw [padR_len]
      exact Nat.le_refl _
    have tot : ((List.range (i + 1)).map fun d => ((rcRows (i + 1)).map fun row => row.getD d 0).sum) = bdSums (i + 1) (bdRows (i + 1)) := by
      unfold bdSums rcRows
      refine List.map_congr_left fun d hd => ?_
      rw [List.map_map]
      congr 1
      refine List.map_congr_left fun row _ => ?_
      show (padR (i + 1) row).getD d 0 = row.getD d 0
      rw [List.getD_eq_getElem?_getD, padR_at row (List.mem_range.mp hd)]
      rfl
    rw [tot]
    have sub1 : N ⊆ E1 ++ (D1, HO.lst (nV (bdSums (i + 1) (bdRows (i + 1))))) :: N := sub_midr
    dsimp only
    refine seq_go (set_go (op_go ?_))
    refine ⟨show 1 ≤ sizeLine by decide, fun z0 => ?_⟩
    refine walk_news (k := i + 1) (tot := bdSums (i + 1) (bdRows (i + 1))) (show (1 : Int) + (i : Nat) = ((i + 1 : Nat) : Int) by omega) (by omega) (.inl (.tail _ (List.mem_append_right _ (.head _)))) (by unfold bdSums; rw [List.length_map, List.length_range]) fun D2 E2 => ?_
    refine ⟨[.int 0], _, .inl (List.mem_iff_getElem?.mp (sub_midr (.head _))), .inl (List.mem_iff_getElem?.mp (List.mem_append_right _ (.head _))), ?_, fun y => ?_⟩
    · rw [range_len]
      exact Nat.le_trans (show 1 + (i + 1) ≤ 100 by omega) (by decide)
    dsimp only
    refine seq_go (set_go ?_)
    have sub3 : N ⊆ (y, HO.lst ([.int 0] ++ nV ((List.range (i + 1)).map fun d => ((bdSums (i + 1) (bdRows (i + 1))).drop d).sum))) :: (E2 ++ (D2, HO.lst (nV ((List.range (i + 1)).map fun d => ((bdSums (i + 1) (bdRows (i + 1))).drop d).sum))) :: (z0, HO.lst [.int 0]) :: (E1 ++ (D1, HO.lst (nV (bdSums (i + 1) (bdRows (i + 1))))) :: N)) := fun z hz => .tail _ (sub_midr (.tail _ (sub1 hz)))
    refine walk_elder (k := i) (rows := bdRows (i + 1)) (show (1 : Int) + (i : Nat) = ((i + 1 : Nat) : Int) by omega) (by omega) (by omega) (.inl (sub3 hq)) (allV_ex (fun _ _ z => z.sub sub3) hal) fun D3 E3 ws hws => ?_
    dsimp only
    refine set_go (op_go ?_)
    refine ⟨show 1 ≤ sizeLine by decide, fun z2 => ?_⟩
    refine ⟨ws, [.ref y], .inl (List.mem_iff_getElem?.mp (.tail _ (List.mem_append_right _ (.head _)))), .inl ⟨0, rfl⟩, ?_, fun w => ?_⟩
    · have := allV_len hws
      rw [List.length_map, l1] at this
      rw [this]
      exact Nat.le_trans (show i + 1 + 1 ≤ 100 by omega) (by decide)
    refine ⟨_, SLe.refl _, _, w, ws ++ [.ref y], _, _, _, _, _, _, _, rfl, rfl, .head _, ?_⟩
    rw [rcRows_next]
    refine allV_append (allV_ex (fun _ _ z => z.sub fun z hz => .tail _ (.tail _ (List.mem_append_left _ hz))) hws) ⟨⟨y, rfl, .inl (.tail _ (.tail _ (List.mem_append_right _ (.tail _ (.head _)))))⟩, trivial⟩
  · rintro σ S ⟨N, q, vs, x2, x3, x4, x5, x6, x7, x8, rfl, rfl, hq, hal⟩
    have en : (((n : Nat) : Int) - 1).toNat + 1 = n := by omega
    have hal : allV (lstM K H N) vs (rcRows ((((n : Nat) : Int) - 1).toNat + 1)) := hal
    rw [en] at hal
    obtain ⟨m, rfl⟩ : ∃ m, n = m + 1 := ⟨n - 1, by omega⟩
    obtain ⟨l1, l2⟩ := bdRows_len m
    have rl : (rcRows (m + 1)).length ≤ 100 := by
      unfold rcRows
      rw [List.length_map, l1]
      omega
    have hq' : mL K H N q vs := .inl hq
    refine .inl ⟨vs, hq'.s (List.Subset.refl _), fun D => ?_⟩
    refine ⟨fun i S => S = ⟨H, (D, .lst (nV (((rcRows (m + 1)).take i).map List.sum))) :: N⟩, rfl, ?_, ?_, ?_⟩
    · rintro i S _ rfl
      exact hq'.s fun z hz => .tail _ hz
    · rintro i S hi rfl v hv
      obtain ⟨row, hr, ⟨p, rfl, hp⟩⟩ := allV_at hal hv
      refine ⟨rfl, ?_⟩
      refine ⟨row.map fun n : Nat => (n : Int), by rw [← nV_ints]; exact hp.s fun z hz => .tail _ hz, ?_⟩
      rw [sum_ints]
      refine ⟨0, _, rfl, ?_, ⟨_, SLe.refl _, ?_⟩⟩
      · rw [nV_len, List.length_map, List.length_take]
        exact small_of (show min i (rcRows (m + 1)).length ≤ 100 by omega) (by decide)
      · show _ = SH.mk H ((D, .lst (nV (((rcRows (m + 1)).take (i + 1)).map List.sum))) :: N)
        rw [map_more hr, nV_append]
        rfl
    · rintro S rfl
      have el : (itL K q vs).n = (rcRows (m + 1)).length := allV_len hal
      rw [el, List.take_length]
      have es : (rcRows (m + 1)).map List.sum = bdF (m + 1) := by
        unfold rcRows bdF
        rw [List.map_map]
        exact List.map_congr_left fun row hr => padR_sum (l2 row hr)
      rw [es]
      intro H' o'
      have h0 := o'.gs (D, .lst (nV (bdF (m + 1)))) (.head _)
      exact ⟨m + 1, rfl, h1, h2, ⟨D, rfl, h0.2, h0.1⟩, ext0 ⟨o'.fr, fun _ z => (nomatch z), List.nodup_nil⟩⟩
end
/-! ### all trees -/
theorem small_trees {n : Nat} (hn : n ≤ 6) : (allG n).length ≤ 1000 ∧ ∀ gs ∈ allG n, gs.length ≤ 10 ∧ ∀ g ∈ gs, g.length ≤ 10 := by
  have : ∀ n ∈ List.range 7, (decide ((allG n).length ≤ 1000) && (allG n).all fun gs => decide (gs.length ≤ 10) && gs.all fun g => decide (g.length ≤ 10)) = true := by decide +kernel
  obtain ⟨h1, h2⟩ := Bool.and_eq_true_iff.mp (this n (List.mem_range.mpr (by omega)))
  refine ⟨of_decide_eq_true h1, fun gs hg => ?_⟩
  obtain ⟨h3, h4⟩ := Bool.and_eq_true_iff.mp (List.all_eq_true.mp h2 gs hg)
  exact ⟨of_decide_eq_true h3, fun g hg => of_decide_eq_true (List.all_eq_true.mp h4 g hg)⟩
theorem flat_len {α β : Type} {f : α → List β} {c : Nat} : ∀ (xs : List α), (∀ x ∈ xs, (f x).length ≤ c) → (xs.flatMap f).length ≤ xs.length * c
  | [], _ => Nat.zero_le _
  | x :: xs, h => by
    rw [List.flatMap_cons, List.length_append, List.length_cons, Nat.add_mul, Nat.one_mul]
    have := flat_len xs fun y hy => h y (.tail _ hy)
    have := h x (.head _)
    omega
theorem flat_more {α β : Type} {f : α → List β} {xs : List α} {i : Nat} {x : α} (h : xs[i]? = some x) : (xs.take (i + 1)).flatMap f = (xs.take i).flatMap f ++ f x := by
  rw [take_more h, List.flatMap_append, List.flatMap_singleton]
section
variable {K : PySem.W.Frag} {a : Ads}
def grpM (K : PySem.W.Frag) (F : Hp) (G : List (Addr × HO)) (v : V) (gs : List (List Nat)) : Prop := ∃ p vs, v = .ref p ∧ (p, HO.lst vs) ∈ G ∧ allV (tupM K F G) vs gs
theorem grpM.sub {F : Hp} {G G' : List (Addr × HO)} {v : V} {gs : List (List Nat)} (h : grpM K F G v gs) (s : G ⊆ G') : grpM K F G' v gs := let ⟨p, vs, e, h, al⟩ := h; ⟨p, vs, e, s h, allV_ex (fun _ _ z => z.sub s) al⟩
theorem app_go {F : Hp} {E G : List (Addr × HO)} {D : Addr} {acc : List V} {y : V} {Q : V → SH → Prop} (ha : acc.length < sizeLine) (h : Q .non ⟨F, E ++ (D, .lst (acc ++ [y])) :: G⟩) : mAppend (.ref D) [y] ⟨F, E ++ (D, .lst acc) :: G⟩ Q := by
  refine ⟨E.length, acc, at_mid, ha, ?_⟩
  show Q .non ⟨F, (E ++ (D, .lst acc) :: G).set E.length (D, .lst (acc ++ [y]))⟩
  rw [set_mid]
  exact h
theorem cons_go {t : sE} {r : sA} {W : sWX} {σ : L2.St} {S : SH} {Q : List V → SH → Prop} (h : t W σ S fun x S1 => r W σ S1 fun xs S2 => Q (x :: xs) S2) : sCons t r W σ S Q := h
theorem nil_go {W : sWX} {σ : L2.St} {S : SH} {Q : List V → SH → Prop} (h : Q [] S) : sNil W σ S Q := h
theorem var_go {i : Nat} {v : V} {W : sWX} {σ : L2.St} {S : SH} {Q : V → SH → Prop} (e : σ[i]? = some (some v)) (h : Q v S) : sVar i W σ S Q := by
  unfold sVar
  rw [e]
  exact h
theorem seqI_go {tl : sE} {W : sWX} {σ : L2.St} {S : SH} {R : SIt → SH → Prop} (h : tl W σ S fun x S1 => match x with | .ref a => (∃ xs, sL K S1 a xs ∧ R (itL K a xs) S1) ∨ ∃ xs, sU K S1 a xs ∧ R (itU K a xs) S1 | _ => False) : siSeq K tl W σ S R := h
theorem lst_go {t : sA} {W : sWX} {σ : L2.St} {S : SH} {Q : V → SH → Prop} (h : t W σ S fun xs S1 => xs.length ≤ sizeLine ∧ ∀ p, Q (.ref p) (S1.new p (.lst xs))) : sLst t W σ S Q := h
theorem sub_app {E G G' : List (Addr × HO)} (h : G ⊆ G') : E ++ G ⊆ E ++ G' := fun z hz => (List.mem_append.mp hz).elim (fun q => List.mem_append_left _ q) fun q => List.mem_append_right _ (h q)
theorem drop_go {te : sE} {D : sEnds} {σ : L2.St} {S : SH} (h : te D.ex σ S fun _ S1 => D.nx σ S1) : sDrop te D σ S := h
theorem mt_go {T : String} {r : sM} {to : sE} {t : sA} {W : sWX} {σ : L2.St} {S : SH} {Q : V → SH → Prop} (h : to W σ S fun x S1 => sTy K T x S1 ∧ t W σ S1 fun vs S2 => r x vs S2 Q) : sMt K T r to t W σ S Q := h
def growG (k : Nat) (p g : List Nat) : List Nat := if g.contains (p.headD 0) && decide (p.length < g.length) then g ++ [k] else g
/-- the groups, with the new slot where the place stands in them -/
theorem walk_groups {F : Hp} {E0 N M : List (Addr × HO)} {D : sEnds} {q pg : Addr} {gvs : List V} {gs : List (List Nat)} {place : List Nat} {pv gv0 : V} {c : Int} {k : Nat} {s0 s1 s3 x70 x8 : Option V} (hc : c = (k : Nat)) (hs : N ⊆ M)
    (hq : (q, HO.lst gvs) ∈ N) (hal : allV (tupM K F N) gvs gs) (hpv : tupM K F N pv place) (hne : place ≠ []) (h0 : tupM K F (E0 ++ N) gv0 (place ++ [k])) (hl : gs.length ≤ 10) (hg : ∀ g ∈ gs, g.length ≤ 10)
    (kk : ∀ E gv x7, allV (tupM K F (E ++ N)) gv (grow k gs place) → D.nx [s0, s1, some (.int c), s3, some (.ref q), some pv, some (.ref pg), x7, x8] ⟨F, E ++ (pg, .lst gv) :: M⟩) :
    sFor (siSeq K (sVar 4)) (sgName 7) (sIfS (sAnd (sTst (sOp (oIn K false) (sOp (oIx K) (sVar 5) (sC (.int 0))) (sVar 7))) (sTst (sOp oGt (sCall1 (nLen K) (sCons (sVar 7) (sNil))) (sCall1 (nLen K) (sCons (sVar 5) (sNil)))))) (sDrop (sMt K "list" mAppend (sVar 6) (sCons (sOp (oAddT K) (sVar 7) (sTup (sCons (sVar 2) (sNil)))) (sNil)))) (sDrop (sMt K "list" mAppend (sVar 6) (sCons (sVar 7) (sNil))))) D
      [s0, s1, some (.int c), s3, some (.ref q), some pv, some (.ref pg), x70, x8] ⟨F, E0 ++ (pg, .lst [gv0]) :: M⟩ := by
  subst hc
  obtain ⟨pp, rfl, hpp⟩ := hpv
  obtain ⟨p0, pr, rfl⟩ : ∃ p0 pr, place = p0 :: pr := by
    cases place with
    | nil => exact absurd rfl hne
    | cons p0 pr => exact ⟨p0, pr, rfl⟩
  have hq' : mL K F N q gvs := .inl hq
  refine .inl ⟨gvs, hq'.s fun z hz => sub_midr (hs hz), ?_⟩
  refine ⟨fun i σ S => ∃ E gv x7, σ = [s0, s1, some (.int (k : Nat)), s3, some (.ref q), some (.ref pp), some (.ref pg), x7, x8] ∧ S = ⟨F, E ++ (pg, .lst gv) :: M⟩ ∧ allV (tupM K F (E ++ N)) gv (((p0 :: pr) ++ [k]) :: (gs.take i).map (growG k (p0 :: pr))), ⟨E0, [gv0], x70, rfl, rfl, h0, trivial⟩, ?_, ?_, ?_⟩
  · rintro i σ S _ ⟨E, gv, x7, rfl, rfl, _⟩
    exact hq'.s fun z hz => sub_midr (hs hz)
  · rintro i σ S hi ⟨E, gv, x7, rfl, rfl, hgv⟩ v hv
    obtain ⟨g, hgi, hgt⟩ := allV_at hal hv
    obtain ⟨pt, rfl, hpt⟩ := hgt
    have hgl : g.length ≤ 10 := hg g (List.mem_of_getElem? hgi)
    have inM : N ⊆ E ++ (pg, HO.lst gv) :: M := fun z hz => sub_midr (hs hz)
    have hlen : gv.length ≤ 100 := by
      have := allV_len hgv
      rw [List.length_cons, List.length_map, List.length_take] at this
      omega
    have hty : sTy K "list" (.ref pg) ⟨F, E ++ (pg, .lst gv) :: M⟩ := .inl ⟨rfl, _, .inl ⟨_, at_mid⟩⟩
    have no : growG k (p0 :: pr) g = g → (sDrop (sMt K "list" mAppend (sVar 6) (sCons (sVar 7) sNil))) { D with nx := fun σ' => Wk fun S' => ∃ E gv x7, σ' = [s0, s1, some (.int (k : Nat)), s3, some (.ref q), some (.ref pp), some (.ref pg), x7, x8] ∧ S' = ⟨F, E ++ (pg, .lst gv) :: M⟩ ∧ allV (tupM K F (E ++ N)) gv (((p0 :: pr) ++ [k]) :: (gs.take (i + 1)).map (growG k (p0 :: pr))), ct := fun σ' => Wk fun S' => ∃ E gv x7, σ' = [s0, s1, some (.int (k : Nat)), s3, some (.ref q), some (.ref pp), some (.ref pg), x7, x8] ∧ S' = ⟨F, E ++ (pg, .lst gv) :: M⟩ ∧ allV (tupM K F (E ++ N)) gv (((p0 :: pr) ++ [k]) :: (gs.take (i + 1)).map (growG k (p0 :: pr))), bk := D.nx } [s0, s1, some (.int (k : Nat)), s3, some (.ref q), some (.ref pp), some (.ref pg), some (.ref pt), x8] ⟨F, E ++ (pg, .lst gv) :: M⟩ := fun e => by
      refine ⟨hty, ?_⟩
      refine cons_go (var_go (v := .ref pt) rfl (nil_go ?_))
      refine app_go (small_of hlen (by decide)) ⟨_, SLe.refl _, E, _, some (.ref pt), rfl, rfl, ?_⟩
      rw [map_more hgi, e]
      exact allV_snoc (xs := _ :: _) ⟨pt, rfl, hpt.sub sub_right⟩ hgv
    refine ⟨nV (p0 :: pr), .int (p0 : Nat), .inr (hpp.s inM), atI_at (i := 0) rfl, ?_⟩
    refine ⟨nV g, .inr (hpt.s inM), rfl, flat_n g, ?_⟩
    have e := inV_n p0 g
    walk_at "w"
    rw [e]
    cases hcg : g.contains p0 with
    | true =>
      refine ⟨nV g, .inr (hpt.s inM), nV (p0 :: pr), .inr (hpp.s inM), ?_⟩
      walk_at "w"
      dsimp only
      rw [nV_len, nV_len]
      cases hd : decide ((((p0 :: pr).length : Nat) : Int) < ((g.length : Nat) : Int)) with
      | true =>
        have hd := of_decide_eq_true hd
        have eg : growG k (p0 :: pr) g = g ++ [k] := by
          unfold growG
          rw [if_pos]
          rw [show (p0 :: pr).headD 0 = p0 from rfl, hcg, decide_eq_true (by omega)]
          rfl
        refine drop_go (mt_go ⟨hty, cons_go ?_⟩)
        refine use_addT (σ := [s0, s1, some (.int (k : Nat)), s3, some (.ref q), some (.ref pp), some (.ref pg), some (.ref pt), x8]) (i := 7) (j := 2) (m := k) (N := N) rfl rfl inM ⟨pt, rfl, hpt⟩ (by omega) fun r2 E2 hE => ?_
        refine nil_go ?_
        rw [← List.append_assoc]
        refine app_go (small_of hlen (by decide)) ⟨_, SLe.refl _, E2 ++ E, _, some (.ref pt), rfl, rfl, ?_⟩
        rw [map_more hgi, eg]
        refine allV_snoc (xs := _ :: _) (hE.sub ?_) (allV_ex (fun _ _ z => z.sub ?_) hgv)
        · rw [List.append_assoc]
          exact fun z hz => (List.mem_append.mp hz).elim (fun h => List.mem_append_left _ h) fun h => List.mem_append_right _ (List.mem_append_right _ h)
        · rw [List.append_assoc]
          exact sub_right
      | false =>
        have hd := of_decide_eq_false hd
        refine no ?_
        unfold growG
        rw [if_neg]
        rw [decide_eq_false (p := (p0 :: pr).length < g.length) (by omega), Bool.and_false]
        decide
    | false =>
      refine no ?_
      unfold growG
      rw [if_neg]
      rw [show (p0 :: pr).headD 0 = p0 from rfl, hcg, Bool.false_and]
      decide
  · rintro σ S ⟨E, gv, x7, rfl, rfl, hgv⟩
    have el : (itL K q gvs).n = gs.length := allV_len hal
    rw [el, List.take_length] at hgv
    exact kk E gv x7 hgv
/-- the places alone -/
theorem walk_ones {W : sWX} {F : Hp} {N : List (Addr × HO)} {Q : V → SH → Prop} {c : Int} {k : Nat} {s0 s1 s3 s4 s5 s6 s7 s8 : Option V} (hc : c = (k : Nat)) (hk : k ≤ 10)
    (kk : ∀ D E ws, allV (tupM K F E) ws ((List.range k).map fun i => [i]) → Q (.ref D) ⟨F, E ++ (D, .lst ws) :: N⟩) :
    sLc (siR1 (sCons (sVar 2) sNil)) (sgName 8) sYes (sTup (sCons (sVar 8) sNil)) [8] W [s0, s1, some (.int c), s3, s4, s5, s6, s7, s8] ⟨F, N⟩ Q := by
  subst hc
  refine ⟨by unfold rngOk; omega, fun D => ?_⟩
  refine ⟨fun i S => i ≤ k ∧ ∃ E ws, S = ⟨F, E ++ (D, .lst ws) :: N⟩ ∧ allV (tupM K F E) ws ((List.range i).map fun i => [i]), ⟨Nat.zero_le _, [], [], rfl, trivial⟩, fun _ _ _ _ => trivial, ?_, ?_⟩
  · rintro i S hi ⟨_, E, ws, rfl, hws⟩
    have hi : i < ((k : Nat) : Int).toNat := hi
    rw [Int.toNat_natCast] at hi
    refine ⟨rfl, ?_⟩
    refine ⟨show 1 ≤ sizeLine by decide, fun t => ?_⟩
    have hlen : ws.length ≤ 100 := by
      have := allV_len hws
      rw [List.length_map, List.length_range] at this
      omega
    refine lc_put (P := fun S => i + 1 ≤ k ∧ ∃ E ws, S = ⟨F, E ++ (D, .lst ws) :: N⟩ ∧ allV (tupM K F E) ws ((List.range (i + 1)).map fun i => [i])) (acc := ws) (E := (t, .tup [.int (0 + (i : Nat))]) :: E) (G := N) (F := F) (D := D) (small_of hlen (by decide)) ⟨by omega, _, _, rfl, ?_⟩
    rw [List.range_succ, List.map_append]
    refine allV_snoc ⟨t, rfl, .inl ?_⟩ (allV_ex (fun _ _ z => z.sub fun z hz => .tail _ hz) hws)
    rw [Int.zero_add]
    exact .head _
  · rintro S ⟨_, E, ws, rfl, hws⟩
    have hws : allV (tupM K F E) ws ((List.range ((k : Nat) : Int).toNat).map fun i => [i]) := hws
    rw [Int.toNat_natCast] at hws
    exact kk D E ws hws
theorem vc_l_all_trees {vs : List V} {H : Hp} (n : Nat) (h : (ct_l_all_trees K).pre n vs H) : ∃ S, Own S H ∧ r_l_all_trees K a (endsC (ct_l_all_trees K) n H) (start N_l_all_trees vs) S := by
  obtain ⟨rfl, h1, hn⟩ := h
  have h1 : 1 ≤ n := h1
  have hn : n ≤ 6 := hn
  refine ⟨⟨H, []⟩, Own.base H, ?_⟩
  refine ⟨show 0 ≤ sizeLine by decide, fun p1 => ?_⟩
  refine ⟨show 1 ≤ sizeLine by decide, fun p2 => ?_⟩
  refine ⟨by unfold rngOk; omega, by unfold rngOk; omega, ?_⟩
  refine ⟨fun i σ S => ∃ (N : List (Addr × HO)) (q : Addr) (vs : List V) (x2 x3 x4 x5 x6 x7 x8 : Option V), σ = [some (.int (n : Nat)), some (.ref q), x2, x3, x4, x5, x6, x7, x8] ∧ S = ⟨H, N⟩ ∧ (q, .lst vs) ∈ N ∧ allV (grpM K H N) vs (allG (i + 1)), ?_, fun _ _ _ _ _ => trivial, ?_, ?_⟩
  · exact ⟨_, p2, [.ref p1], none, none, none, none, none, none, none, rfl, rfl, .head _, ⟨p1, [], rfl, .tail _ (.head _), trivial⟩, trivial⟩
  · rintro i σ S hi ⟨N, q, vs, x2, x3, x4, x5, x6, x7, x8, rfl, rfl, hq, hal⟩
    have hi : i < ((n : Nat) - 1 : Int).toNat := hi
    have hi6 : i + 1 ≤ 6 := by omega
    have hi5 : i + 2 ≤ 6 := by omega
    obtain ⟨t1, t2⟩ := small_trees hi6
    refine yldR_go ?_
    rw [show (1 : Int) + (i : Nat) = ((i + 1 : Nat) : Int) by omega]
    refine nm_go (seq_go (set_go ?_))
    refine ⟨show 0 ≤ sizeLine by decide, fun pw => ?_⟩
    have hq' : mL K H N q vs := .inl hq
    dsimp only
    refine seq_go ?_
    refine .inl ⟨vs, hq'.s fun z hz => .tail _ hz, ?_⟩
    refine ⟨fun j σ S => ∃ (E : List (Addr × HO)) (ws : List V) (x4 x5 x6 x7 x8 : Option V), σ = [some (.int (n : Nat)), some (.ref q), some (.int ((i + 1 : Nat) : Int)), some (.ref pw), x4, x5, x6, x7, x8] ∧ S = ⟨H, E ++ (pw, .lst ws) :: N⟩ ∧ allV (grpM K H (E ++ N)) ws (((allG (i + 1)).take j).flatMap fun gs => (places (i + 1) gs).map (grow (i + 1) gs)), ?_, ?_, ?_, ?_⟩
    · exact ⟨[], [], x4, x5, x6, x7, x8, rfl, rfl, trivial⟩
    · rintro j σ S _ ⟨E, ws, x4, x5, x6, x7, x8, rfl, rfl, _⟩
      exact hq'.s sub_midr
    · rintro j σ S hj ⟨E, ws, x4, x5, x6, x7, x8, rfl, rfl, hws⟩ v hv
      obtain ⟨gs, hgj, ⟨pg, gvs, rfl, hpg, hgal⟩⟩ := allV_at hal hv
      have hgm := List.mem_of_getElem? hgj
      obtain ⟨g1, g2⟩ := t2 gs hgm
      have gne := ne_ok hi6 hgm
      refine nm_go ?_
      show (siSeq K (sOp oAdd (sLc (siR1 (sCons (sVar 2) sNil)) (sgName 8) sYes (sTup (sCons (sVar 8) sNil)) [8]) (sVar 4))) _ [some (.int (n : Nat)), some (.ref q), some (.int ((i + 1 : Nat) : Int)), some (.ref pw), some (.ref pg), x5, x6, x7, x8] ⟨H, E ++ (pw, .lst ws) :: N⟩ _
      refine seqI_go (op_go ?_)
      refine walk_ones (K := K) (k := i + 1) rfl (by omega) fun D1 E1 ones hones => ?_
      refine var_go (v := .ref pg) rfl ?_
      have l1 := allV_len hones
      have l2 := allV_len hgal
      rw [List.length_map, List.length_range] at l1
      refine ⟨ones, gvs, .inl (List.mem_iff_getElem?.mp (List.mem_append_right _ (.head _))), .inl (List.mem_iff_getElem?.mp (List.mem_append_right _ (.tail _ (List.mem_append_right _ (.tail _ hpg))))), ?_, fun pp => ?_⟩
      · rw [l1, l2]
        exact Nat.le_trans (show i + 1 + gs.length ≤ 100 by omega) (by decide)
      have hpl : allV (tupM K H (E1 ++ N)) (ones ++ gvs) (places (i + 1) gs) := allV_append (allV_ex (fun _ _ z => z.sub fun z hz => List.mem_append_left _ hz) hones) (allV_ex (fun _ _ z => z.sub sub_right) hgal)
      refine .inl ⟨ones ++ gvs, .inl ⟨0, rfl⟩, ?_⟩
      refine ⟨fun m σ S => ∃ (E' : List (Addr × HO)) (ws' : List V) (x5 x6 x7 x8 : Option V), σ = [some (.int (n : Nat)), some (.ref q), some (.int ((i + 1 : Nat) : Int)), some (.ref pw), some (.ref pg), x5, x6, x7, x8] ∧ S = ⟨H, E' ++ (pw, .lst ws') :: N⟩ ∧ (pp, .lst (ones ++ gvs)) ∈ E' ∧ allV (tupM K H (E' ++ N)) (ones ++ gvs) (places (i + 1) gs) ∧ (pg, .lst gvs) ∈ E' ++ N ∧ allV (tupM K H (E' ++ N)) gvs gs ∧ allV (grpM K H (E' ++ N)) ws' (((allG (i + 1)).take j).flatMap (fun gs => (places (i + 1) gs).map (grow (i + 1) gs)) ++ ((places (i + 1) gs).take m).map (grow (i + 1) gs)), ?_, ?_, ?_, ?_⟩
      · refine ⟨(pp, .lst (ones ++ gvs)) :: (E1 ++ (D1, .lst ones) :: E), ws, x5, x6, x7, x8, rfl, ?_, .head _, allV_ex (fun _ _ z => z.sub ?_) hpl, List.mem_append_right _ hpg, allV_ex (fun _ _ z => z.sub sub_right) hgal, ?_⟩
        · show SH.mk H ((pp, .lst (ones ++ gvs)) :: (E1 ++ (D1, .lst ones) :: (E ++ (pw, .lst ws) :: N))) = SH.mk H ((pp, .lst (ones ++ gvs)) :: (E1 ++ (D1, .lst ones) :: E) ++ (pw, .lst ws) :: N)
          simp only [List.cons_append, List.append_assoc]
        · show allV _ ws (_ ++ [])
          rw [List.append_nil]
          refine allV_ex (fun _ _ z => z.sub ?_) hws
          intro z hz
          simp only [List.mem_append, List.mem_cons] at hz ⊢
          rcases hz with h | h <;> simp [h]
        · intro z hz
          simp only [List.mem_append, List.mem_cons] at hz ⊢
          rcases hz with h | h <;> simp [h]
      · rintro m σ S _ ⟨E', ws', x5, x6, x7, x8, rfl, rfl, hpp, _⟩
        exact .inl (List.mem_iff_getElem?.mp (List.mem_append_left _ hpp))
      · rintro m σ S hm ⟨E', ws', x5, x6, x7, x8, rfl, rfl, hpp, hpl, hpg, hgal, hws'⟩ v hv
        obtain ⟨place, hplm, hplv⟩ := allV_at hpl hv
        have hplmem := List.mem_of_getElem? hplm
        have hpl1 : place ≠ [] ∧ place.length ≤ 10 := by
          rcases List.mem_append.mp hplmem with h | h
          · obtain ⟨i', _, rfl⟩ := List.mem_map.mp h
            exact ⟨by simp, by simp⟩
          · exact ⟨gne _ h, g2 _ h⟩
        refine nm_go (seq_go (set_go (lst_go (cons_go ?_))))
        refine use_addT (σ := [some (.int (n : Nat)), some (.ref q), some (.int ((i + 1 : Nat) : Int)), some (.ref pw), some (.ref pg), some v, x6, x7, x8]) (i := 5) (j := 2) (m := i + 1) (N := E' ++ N) rfl rfl sub_mid hplv (by omega) fun r2 E2 hE => ?_
        refine nil_go ⟨show 1 ≤ sizeLine by decide, fun pgr => ?_⟩
        dsimp only
        refine seq_go ?_
        refine walk_groups (E0 := []) (N := E2 ++ (E' ++ N)) (M := E2 ++ (E' ++ (pw, .lst ws') :: N)) (k := i + 1) (gs := gs) rfl (sub_app sub_mid) (List.mem_append_right _ hpg) (allV_ex (fun _ _ z => z.sub sub_right) hgal) (hplv.sub sub_right) hpl1.1 hE g1 g2 fun E4 gv x7' hgv => ?_
        have eM : E4 ++ (pgr, HO.lst gv) :: (E2 ++ (E' ++ (pw, .lst ws') :: N)) = (E4 ++ (pgr, .lst gv) :: (E2 ++ E')) ++ (pw, .lst ws') :: N := by
          simp only [List.cons_append, List.append_assoc]
        have sM : E4 ++ (E2 ++ (E' ++ N)) ⊆ (E4 ++ (pgr, HO.lst gv) :: (E2 ++ E')) ++ N := by
          intro z hz
          simp only [List.mem_append, List.mem_cons] at hz ⊢
          rcases hz with h | h | h | h <;> simp [h]
        have sM2 : E' ++ N ⊆ (E4 ++ (pgr, HO.lst gv) :: (E2 ++ E')) ++ N := fun z hz => sM (sub_right (sub_right hz))
        rw [eM]
        dsimp only
        refine drop_go (mt_go (var_go (v := .ref pw) rfl ?_))
        refine ⟨.inl ⟨rfl, _, .inl ⟨_, at_mid⟩⟩, ?_⟩
        refine cons_go (var_go (v := .ref pgr) rfl (nil_go ?_))
        have hlen : ws'.length ≤ 30000 := by
          have e1 := allV_len hws'
          have e2 := flat_len (f := fun gs => (places (i + 1) gs).map (grow (i + 1) gs)) (c := 20) ((allG (i + 1)).take j) fun gs hg => by
            have := (t2 gs (List.mem_of_mem_take hg)).1
            rw [List.length_map]
            unfold places
            rw [List.length_append, List.length_map, List.length_range]
            omega
          have e3 : (places (i + 1) gs).length ≤ 20 := by
            unfold places
            rw [List.length_append, List.length_map, List.length_range]
            omega
          rw [List.length_append, List.length_map, List.length_take] at e1
          rw [List.length_take] at e2
          have e4 : min j (allG (i + 1)).length * 20 ≤ 20000 := by
            have : min j (allG (i + 1)).length ≤ 1000 := by omega
            omega
          omega
        refine app_go (small_of hlen (by decide)) ⟨_, SLe.refl _, E4 ++ (pgr, .lst gv) :: (E2 ++ E'), ws' ++ [.ref pgr], _, _, _, _, rfl, rfl, ?_, allV_ex (fun _ _ z => z.sub sM2) hpl, sM2 hpg, allV_ex (fun _ _ z => z.sub sM2) hgal, ?_⟩
        · exact List.mem_append_right _ (.tail _ (List.mem_append_right _ hpp))
        · rw [map_more hplm, ← List.append_assoc]
          exact allV_snoc ⟨pgr, gv, rfl, List.mem_append_left _ (List.mem_append_right _ (.head _)), allV_ex (fun _ _ z => z.sub sM) hgv⟩ (allV_ex (fun _ _ z => z.sub sM2) hws')
      · rintro σ S ⟨E', ws', x5, x6, x7, x8, rfl, rfl, hpp, hpl, hpg, hgal, hws'⟩
        have el : (itL K pp (ones ++ gvs)).n = (places (i + 1) gs).length := allV_len hpl
        rw [el, List.take_length] at hws'
        refine ⟨_, SLe.refl _, E', ws', _, _, _, _, _, rfl, rfl, ?_⟩
        rw [flat_more hgj]
        exact hws'
    · rintro σ S ⟨E, ws, x4, x5, x6, x7, x8, rfl, rfl, hws⟩
      have el : (itL K q vs).n = (allG (i + 1)).length := allV_len hal
      rw [el, List.take_length] at hws
      dsimp only
      refine set_go (var_go (v := .ref pw) rfl ?_)
      exact ⟨_, SLe.refl _, _, pw, ws, _, _, _, _, _, _, _, rfl, rfl, List.mem_append_right _ (.head _), allV_ex (fun _ _ z => z.sub sub_mid) hws⟩
  · rintro σ S ⟨N, q, vs, x2, x3, x4, x5, x6, x7, x8, rfl, rfl, hq, hal⟩
    have en : (((n : Nat) : Int) - 1).toNat + 1 = n := by omega
    have hal : allV (grpM K H N) vs (allG ((((n : Nat) : Int) - 1).toNat + 1)) := hal
    rw [en] at hal
    intro H' o'
    refine ⟨⟨q, vs, rfl, (show mL K H N q vs from .inl hq).own o', allV_ex (fun v gs ⟨p, ws, e, hp, al⟩ => ⟨p, ws, e, (show mL K H N p ws from .inl hp).own o', allV_ex (fun _ _ ⟨p, e, z⟩ => ⟨p, e, z.own o'⟩) al⟩) hal⟩, fun a u e => o'.fr a u e⟩
end
/-! ### the counts by depths -/
def addS (sums row : List Nat) : List Nat := (List.range sums.length).map fun e => sums.getD e 0 + row.getD e 0
theorem range_at {f : Nat → Nat} {n d : Nat} (h : d < n) : ((List.range n).map f)[d]? = some (f d) := by
  rw [List.getElem?_map, List.getElem?_range h]
  rfl
theorem range_getD {f : Nat → Nat} {n d : Nat} (h : d < n) : ((List.range n).map f).getD d 0 = f d := by
  rw [List.getD_eq_getElem?_getD, range_at h]
  rfl
theorem range_set {f : Nat → Nat} {n d y : Nat} : ((List.range n).map f).set d y = (List.range n).map fun e => if e = d then y else f e := by
  refine List.ext_getElem? fun e => ?_
  by_cases he : e < n
  · rw [range_at he, List.getElem?_set, range_at he]
    by_cases h : d = e
    · subst h
      rw [if_pos rfl, if_pos (by rw [List.length_map, List.length_range]; exact he), if_pos rfl]
    · rw [if_neg h, if_neg (fun z => h z.symm)]
  · rw [List.getElem?_eq_none (by rw [List.length_set, List.length_map, List.length_range]; omega), List.getElem?_eq_none (by rw [List.length_map, List.length_range]; omega)]
theorem take_getD {row : List Nat} {d e : Nat} (h : d < row.length) : (row.take (d + 1)).getD e 0 = if e = d then row.getD d 0 else (row.take d).getD e 0 := by
  rw [List.getD_eq_getElem?_getD, List.getD_eq_getElem?_getD, List.getD_eq_getElem?_getD, List.getElem?_take, List.getElem?_take]
  by_cases h1 : e = d
  · subst h1
    rw [if_pos rfl, if_pos (by omega)]
  · rw [if_neg h1]
    by_cases h2 : e < d
    · rw [if_pos h2, if_pos (by omega)]
    · rw [if_neg h2, if_neg (by omega)]
section
variable {K : PySem.W.Frag} {a : Ads}
/-- the sums from each place on -/
theorem walk_news7 {W : sWX} {F : Hp} {N : List (Addr × HO)} {Q : V → SH → Prop} {q : Addr} {tot : List Nat} {c : Int} {k : Nat} {s0 x1 x4 x5 x6 : Option V} (hc : c = (k : Nat)) (hk : k ≤ 100)
    (hq : mL K F N q (nV tot)) (hl : tot.length = k)
    (kk : ∀ D E, Q (.ref D) ⟨F, E ++ (D, .lst (nV ((List.range k).map fun d => (tot.drop d).sum))) :: N⟩) :
    sLc (siR1 (sCons (sVar 2) sNil)) (sgName 6) sYes (sCall1 (nSum K) (sCons (sSl K (sVar 3) (sPart (sVar 6)) sNoP) sNil)) [6] W [s0, x1, some (.int c), some (.ref q), x4, x5, x6] ⟨F, N⟩ Q := by
  subst hc
  refine ⟨by unfold rngOk; omega, fun D => ?_⟩
  refine ⟨fun i S => i ≤ k ∧ ∃ E, S = ⟨F, E ++ (D, .lst (nV ((List.range i).map fun d => (tot.drop d).sum))) :: N⟩, ⟨Nat.zero_le _, [], rfl⟩, fun _ _ _ _ => trivial, ?_, ?_⟩
  · rintro i S hi ⟨_, E, rfl⟩
    have hi : i < ((k : Nat) : Int).toNat := hi
    rw [Int.toNat_natCast] at hi
    refine ⟨rfl, ?_⟩
    refine .inl ⟨nV tot, hq.s sub_midr, fun r => ?_⟩
    have hcut : cutV (nV tot) (some (0 + (i : Nat))) none = nV (tot.drop i) := by
      unfold cutV
      rw [Int.zero_add, HT.sIx_nat, HT.sIx_none, nV_len, show min i tot.length = i by omega]
      unfold nV
      rw [← List.map_drop, List.take_of_length_le (by rw [List.length_map, List.length_drop]; omega)]
    rw [hcut]
    refine ⟨(tot.drop i).map fun n : Nat => (n : Int), .inl ⟨0, by rw [← nV_ints]; rfl⟩, ?_⟩
    rw [sum_ints]
    refine lc_put (E := (r, .lst (nV (tot.drop i))) :: E) (by rw [range_len]; exact small_of (show i ≤ 100 by omega) (by decide)) ⟨by omega, (r, .lst (nV (tot.drop i))) :: E, ?_⟩
    rw [range_more]
  · rintro S ⟨_, E, rfl⟩
    show Q (.ref D) ⟨F, E ++ (D, .lst (nV ((List.range ((k : Nat) : Int).toNat).map fun d => (tot.drop d).sum))) :: N⟩
    rw [Int.toNat_natCast]
    exact kk D E

theorem asg_go {te : sE} {g : sG} {D : sEnds} {σ : L2.St} {S : SH} (h : te D.ex σ S fun x S1 => g D.ex x σ S1 D.nx) : sAsg te g D σ S := h
theorem sub_go {F : Hp} {E G : List (Addr × HO)} {D : Addr} {acc : List V} {v : V} {j : Nat} {σ : L2.St} {Q : L2.St → SH → Prop} (hj : j < acc.length) (h : Q σ ⟨F, E ++ (D, .lst (acc.set j v)) :: G⟩) :
    ∃ n xs j', (SH.mk F (E ++ (D, .lst acc) :: G)).G[n]? = some (D, .lst xs) ∧ ixN xs.length (j : Int) = some j' ∧ Q σ (SH.put ⟨F, E ++ (D, .lst acc) :: G⟩ n D (.lst (xs.set j' v))) := by
  refine ⟨E.length, acc, j, at_mid, ixN_nat hj, ?_⟩
  show Q σ ⟨F, (E ++ (D, .lst acc) :: G).set E.length (D, .lst (acc.set j v))⟩
  rw [set_mid]
  exact h
/-- a row, added to the sums -/
theorem walk_depths {F : Hp} {A M : List (Addr × HO)} {D : sEnds} {ps pr : Addr} {sums row : List Nat} {s0 s1 s2 s4 x60 : Option V} (hr : mL K F M pr (nV row)) (hl : row.length ≤ sums.length) (hs : sums.length ≤ 100)
    (kk : ∀ x6, D.nx [s0, s1, s2, some (.ref ps), s4, some (.ref pr), x6] ⟨F, A ++ (ps, .lst (nV (addS sums row))) :: M⟩) :
    sFor (siR1 (sCons (sCall1 (nLen K) (sCons (sVar 5) (sNil))) (sNil))) (sgName 6) (sAsg (sOp oAdd (sOp (oIx K) (sVar 3) (sVar 6)) (sOp (oIx K) (sVar 5) (sVar 6))) (sgSub (sVar 3) (sVar 6))) D
      [s0, s1, s2, some (.ref ps), s4, some (.ref pr), x60] ⟨F, A ++ (ps, .lst (nV sums)) :: M⟩ := by
  refine ⟨nV row, .inl (hr.s sub_midr), ?_⟩
  refine ⟨by unfold rngOk; rw [nV_len]; omega, ?_⟩
  refine ⟨fun i σ S => ∃ x6, σ = [s0, s1, s2, some (.ref ps), s4, some (.ref pr), x6] ∧ S = ⟨F, A ++ (ps, .lst (nV ((List.range sums.length).map fun e => sums.getD e 0 + (row.take i).getD e 0))) :: M⟩, ⟨x60, rfl, ?_⟩, fun _ _ _ _ _ => trivial, ?_, ?_⟩
  · have e : ((List.range sums.length).map fun e => sums.getD e 0 + (row.take 0).getD e 0) = sums := padR_self (k := sums.length) (l := sums) rfl
    rw [e]
  · rintro i σ S hi ⟨x6, rfl, rfl⟩
    have hi : i < ((nV row).length : Int).toNat := hi
    rw [nV_len, Int.toNat_natCast] at hi
    refine yldR_go ?_
    rw [Int.zero_add]
    refine nm_go ?_
    refine asg_go (op_go (op_go (var_go (v := .ref ps) rfl (var_go (v := .int (i : Nat)) rfl ?_))))
    refine ⟨_, _, .inl (.inl ⟨_, at_mid⟩), atI_at (nV_at (range_at (show i < sums.length by omega))), ?_⟩
    refine op_go (var_go (v := .ref pr) rfl (var_go (v := .int (i : Nat)) rfl ?_))
    refine ⟨_, _, .inl (hr.s sub_midr), atI_at (nV_at (get_n hi)), ?_⟩
    have e1 : V.int (((sums.getD i 0 + (row.take i).getD i 0 : Nat) : Int) + (row.getD i 0 : Nat)) = V.int ((sums.getD i 0 + row.getD i 0 : Nat) : Int) := by
      have : (row.take i).getD i 0 = 0 := by
        rw [List.getD_eq_getElem?_getD, List.getElem?_take, if_neg (by omega)]
        rfl
      rw [this]
      congr 1
    show sgSub (sVar 3) (sVar 6) _ (V.int (((sums.getD i 0 + (row.take i).getD i 0 : Nat) : Int) + (row.getD i 0 : Nat))) _ _ _
    rw [e1]
    refine sub_go (j := i) (by rw [range_len]; omega) ⟨_, SLe.refl _, some (.int (i : Nat)), rfl, ?_⟩
    rw [nV_set, range_set]
    congr 5
    refine congrArg nV (List.map_congr_left fun e _ => ?_)
    rw [take_getD hi]
    by_cases h : e = i
    · rw [if_pos h, if_pos h, h]
    · rw [if_neg h, if_neg h]
  · rintro σ S ⟨x6, rfl, rfl⟩
    have el : (itR 0 ((nV row).length : Int).toNat).n = row.length := by
      show ((nV row).length : Int).toNat = _
      rw [nV_len, Int.toNat_natCast]
    rw [el, List.take_length]
    exact kk x6
/-- a row, each number times what it grows by -/
theorem walk_mul {W : sWX} {F : Hp} {G : List (Addr × HO)} {Q : V → SH → Prop} {pr : Addr} {row : List Nat} {k : Nat} {s0 s1 s3 s4 s6 : Option V} (hk : k ≤ 100) (hr : sL K ⟨F, G⟩ pr (nV row)) (hr2 : ∀ D o, sL K ⟨F, (D, o) :: G⟩ pr (nV row)) (hl : row.length ≤ k + 1)
    (kk : ∀ D, Q (.ref D) ⟨F, (D, .lst (nV (row.mapIdx fun d x => x * (2 * (k + 1) - 2 - d)))) :: G⟩) :
    sLc (siR1 (sCons (sCall1 (nLen K) (sCons (sVar 5) (sNil))) (sNil))) (sgName 6) (sYes) (sOp oMul (sOp (oIx K) (sVar 5) (sVar 6)) (sOp oSub (sOp oSub (sOp oMul (sC (.int 2)) (sVar 2)) (sC (.int 2))) (sVar 6))) [6] W [s0, s1, some (.int ((k + 1 : Nat) : Int)), s3, s4, some (.ref pr), s6] ⟨F, G⟩ Q := by
  refine ⟨nV row, .inl hr, ?_⟩
  refine ⟨by unfold rngOk; rw [nV_len]; omega, fun D => ?_⟩
  refine ⟨fun i S => S = ⟨F, (D, .lst (nV ((row.take i).mapIdx fun d x => x * (2 * (k + 1) - 2 - d)))) :: G⟩, rfl, fun _ _ _ _ => trivial, ?_, ?_⟩
  · rintro i S hi rfl
    have hi : i < ((nV row).length : Int).toNat := hi
    rw [nV_len, Int.toNat_natCast] at hi
    refine yldR_go ?_
    rw [Int.zero_add]
    refine nm_go ⟨rfl, ?_⟩
    refine ⟨_, _, .inl (hr2 D _), atI_at (nV_at (get_n hi)), ?_⟩
    refine ⟨.inl (by unfold sm64; omega), ?_⟩
    refine ⟨.inr (by unfold sm64; omega), ?_⟩
    have ev : V.int ((row.getD i 0 : Nat) * (2 * ((k + 1 : Nat) : Int) - 2 - (i : Nat))) = V.int ((row.getD i 0 * (2 * (k + 1) - 2 - i) : Nat) : Int) := by
      rw [Int.natCast_mul]
      congr 2
      omega
    rw [ev]
    refine ⟨0, _, rfl, ?_, ⟨_, SLe.refl _, ?_⟩⟩
    · rw [nV_len, List.length_mapIdx, List.length_take]
      exact small_of (show min i row.length ≤ 102 by omega) (by decide)
    · show _ = SH.mk F ((D, .lst (nV ((row.take (i + 1)).mapIdx fun d x => x * (2 * (k + 1) - 2 - d)))) :: G)
      rw [take_more (get_n hi), List.mapIdx_append, nV_append, List.length_take, show min i row.length = i by omega]
      show SH.mk F ((D, _) :: G) = SH.mk F ((D, .lst (_ ++ [V.int ((row.getD i 0 * (2 * (k + 1) - 2 - (0 + i)) : Nat) : Int)])) :: G)
      rw [Nat.zero_add]
  · rintro S rfl
    have el : (itR 0 ((nV row).length : Int).toNat).n = row.length := by
      show ((nV row).length : Int).toNat = _
      rw [nV_len, Int.toNat_natCast]
    rw [el, List.take_length]
    exact kk D
theorem app_eq {S : SH} {F : Hp} {E G : List (Addr × HO)} {D : Addr} {acc : List V} {y : V} {Q : V → SH → Prop} (e : S = ⟨F, E ++ (D, .lst acc) :: G⟩) (ha : acc.length < sizeLine) (h : Q .non ⟨F, E ++ (D, .lst (acc ++ [y])) :: G⟩) : mAppend (.ref D) [y] S Q := by
  subst e
  exact app_go ha h
theorem sums_zero (k : Nat) (rows : List (List Nat)) : (List.replicate k 0) = (List.range k).map fun d => ((rows.take 0).map fun row => row.getD d 0).sum := by
  refine List.ext_getElem? fun d => ?_
  rw [List.getElem?_replicate]
  by_cases h : d < k
  · rw [if_pos h, range_at h]
    rfl
  · rw [if_neg h, List.getElem?_eq_none (by rw [List.length_map, List.length_range]; omega)]
theorem sums_more {k j : Nat} {rows : List (List Nat)} {row : List Nat} (h : rows[j]? = some row) : addS ((List.range k).map fun d => ((rows.take j).map fun row => row.getD d 0).sum) row = (List.range k).map fun d => ((rows.take (j + 1)).map fun row => row.getD d 0).sum := by
  unfold addS
  rw [List.length_map, List.length_range]
  refine List.map_congr_left fun d hd => ?_
  rw [range_getD (List.mem_range.mp hd), map_more h, List.sum_append]
  rfl
theorem vc_l_by_depths {vs : List V} {H : Hp} (n : Nat) (h : (ct_l_by_depths K).pre n vs H) : ∃ S, Own S H ∧ r_l_by_depths K a (endsC (ct_l_by_depths K) n H) (start N_l_by_depths vs) S := by
  obtain ⟨rfl, h1, h2⟩ := h
  have h1 : 1 ≤ n := h1
  have h2 : n ≤ 60 := h2
  refine ⟨⟨H, []⟩, Own.base H, ?_⟩
  refine ⟨show 1 ≤ sizeLine by decide, fun p1 => ?_⟩
  refine ⟨show 1 ≤ sizeLine by decide, fun p2 => ?_⟩
  refine ⟨by unfold rngOk; omega, by unfold rngOk; omega, ?_⟩
  refine ⟨fun i σ S => ∃ (N : List (Addr × HO)) (q : Addr) (vs : List V) (x2 x3 x4 x5 x6 : Option V), σ = [some (.int (n : Nat)), some (.ref q), x2, x3, x4, x5, x6] ∧ S = ⟨H, N⟩ ∧ (q, .lst vs) ∈ N ∧ allV (lstM K H N) vs (bdRows (i + 1)), ?_, fun _ _ _ _ _ => trivial, ?_, ?_⟩
  · exact ⟨_, p2, [.ref p1], none, none, none, none, none, rfl, rfl, .head _, ⟨p1, rfl, .inl (.tail _ (.head _))⟩, trivial⟩
  · rintro i σ S hi ⟨N, q, vs, x2, x3, x4, x5, x6, rfl, rfl, hq, hal⟩
    have hi : i < ((n : Nat) - 1 : Int).toNat := hi
    obtain ⟨l1, l2⟩ := bdRows_len i
    refine yldR_go ?_
    rw [show (1 : Int) + (i : Nat) = ((i + 1 : Nat) : Int) by omega]
    refine nm_go (seq_go (set_go ?_))
    refine ⟨show 1 ≤ sizeLine by decide, fun pz => ?_⟩
    refine ⟨[.int 0], .inl ⟨0, rfl⟩, by omega, ?_, fun ps => ?_⟩
    · show 1 * (((i + 1 : Nat) : Int)).toNat ≤ sizeLine
      rw [Int.toNat_natCast, Nat.one_mul]
      exact Nat.le_trans (show i + 1 ≤ 60 by omega) (by decide)
    rw [Int.toNat_natCast, nV_zero, sums_zero (i + 1) (bdRows (i + 1))]
    dsimp only
    refine seq_go (set_go ?_)
    refine ⟨show 0 ≤ sizeLine by decide, fun pw => ?_⟩
    dsimp only
    refine seq_go ?_
    have hq' : mL K H N q vs := .inl hq
    refine .inl ⟨vs, hq'.s fun z hz => .tail _ (.tail _ (.tail _ hz)), ?_⟩
    refine ⟨fun j σ S => ∃ (E : List (Addr × HO)) (ws : List V) (x5 x6 : Option V), σ = [some (.int (n : Nat)), some (.ref q), some (.int ((i + 1 : Nat) : Int)), some (.ref ps), some (.ref pw), x5, x6] ∧ S = ⟨H, E ++ (pw, .lst ws) :: (ps, .lst (nV ((List.range (i + 1)).map fun d => (((bdRows (i + 1)).take j).map fun row => row.getD d 0).sum))) :: (pz, .lst [.int 0]) :: N⟩ ∧ allV (lstM K H E) ws (((bdRows (i + 1)).take j).map fun row => row.mapIdx fun d x => x * (2 * (i + 1) - 2 - d)), ⟨[], [], x5, x6, rfl, rfl, trivial⟩, ?_, ?_, ?_⟩
    · rintro j σ S _ ⟨E, ws, x5, x6, rfl, rfl, _⟩
      exact hq'.s fun z hz => List.mem_append_right _ (.tail _ (.tail _ (.tail _ hz)))
    · rintro j σ S hj ⟨E, ws, x5, x6, rfl, rfl, hws⟩ v hv
      obtain ⟨row, hrj, ⟨pr, rfl, hpr⟩⟩ := allV_at hal hv
      have hrl : row.length ≤ i + 1 := l2 row (List.mem_of_getElem? hrj)
      refine nm_go (seq_go ?_)
      have eA : E ++ (pw, HO.lst ws) :: (ps, .lst (nV ((List.range (i + 1)).map fun d => (((bdRows (i + 1)).take j).map fun row => row.getD d 0).sum))) :: (pz, .lst [.int 0]) :: N = (E ++ [(pw, HO.lst ws)]) ++ (ps, .lst (nV ((List.range (i + 1)).map fun d => (((bdRows (i + 1)).take j).map fun row => row.getD d 0).sum))) :: (pz, .lst [.int 0]) :: N := by
        simp only [List.append_assoc, List.cons_append, List.nil_append]
      rw [eA]
      refine walk_depths (K := K) (row := row) (hpr.sub fun z hz => .tail _ hz) (by rw [List.length_map, List.length_range]; exact hrl) (by rw [List.length_map, List.length_range]; omega) fun x6' => ?_
      rw [sums_more hrj]
      dsimp only
      refine drop_go (mt_go (var_go (v := .ref pw) rfl ?_))
      have eB : (E ++ [(pw, HO.lst ws)]) ++ (ps, .lst (nV ((List.range (i + 1)).map fun d => (((bdRows (i + 1)).take (j + 1)).map fun row => row.getD d 0).sum))) :: (pz, .lst [.int 0]) :: N = E ++ (pw, HO.lst ws) :: (ps, .lst (nV ((List.range (i + 1)).map fun d => (((bdRows (i + 1)).take (j + 1)).map fun row => row.getD d 0).sum))) :: (pz, .lst [.int 0]) :: N := by
        simp only [List.append_assoc, List.cons_append, List.nil_append]
      rw [eB]
      refine ⟨.inl ⟨rfl, _, .inl ⟨_, at_mid⟩⟩, cons_go ?_⟩
      refine walk_mul (k := i) (by omega) (hpr.s fun z hz => List.mem_append_right _ (.tail _ (.tail _ (.tail _ hz)))) (fun D o => hpr.s fun z hz => .tail _ (List.mem_append_right _ (.tail _ (.tail _ (.tail _ hz))))) hrl fun D => ?_
      refine nil_go ?_
      rw [← List.cons_append]
      have hlen : ws.length ≤ 100 := by
        have := allV_len hws
        rw [List.length_map, List.length_take] at this
        omega
      refine app_go (small_of hlen (by decide)) ⟨_, SLe.refl _, _, ws ++ [.ref D], _, _, rfl, rfl, ?_⟩
      rw [map_more hrj]
      exact allV_snoc ⟨D, rfl, .inl (.head _)⟩ (allV_ex (fun _ _ z => z.sub fun z hz => .tail _ hz) hws)
    · rintro σ S ⟨E, ws, x5, x6, rfl, rfl, hws⟩
      have el : (itL K q vs).n = (bdRows (i + 1)).length := allV_len hal
      rw [el, List.take_length] at hws
      rw [el, List.take_length]
      dsimp only
      refine seq_go (drop_go (mt_go (var_go (v := .ref pw) rfl ?_)))
      refine ⟨.inl ⟨rfl, _, .inl ⟨_, at_mid⟩⟩, cons_go (op_go ?_)⟩
      refine ⟨show 1 ≤ sizeLine by decide, fun z0 => ?_⟩
      refine walk_news7 (K := K) (k := i + 1) (tot := bdSums (i + 1) (bdRows (i + 1))) rfl (by omega) (.inl (.tail _ (List.mem_append_right _ (.tail _ (.head _))))) (by unfold bdSums; rw [List.length_map, List.length_range]) fun D2 E2 => ?_
      refine ⟨[.int 0], _, .inl (List.mem_iff_getElem?.mp (sub_midr (.head _))), .inl (List.mem_iff_getElem?.mp (List.mem_append_right _ (.head _))), ?_, fun y => ?_⟩
      · rw [range_len]
        exact Nat.le_trans (show 1 + (i + 1) ≤ 100 by omega) (by decide)
      refine nil_go ?_
      have hlen : ws.length ≤ 100 := by
        have := allV_len hws
        rw [List.length_map] at this
        omega
      refine app_eq (F := H) (E := (y, .lst ([.int 0] ++ nV ((List.range (i + 1)).map fun d => ((bdSums (i + 1) (bdRows (i + 1))).drop d).sum))) :: (E2 ++ (D2, .lst (nV ((List.range (i + 1)).map fun d => ((bdSums (i + 1) (bdRows (i + 1))).drop d).sum))) :: (z0, .lst [.int 0]) :: E)) (acc := ws) (G := (ps, .lst (nV ((List.range (i + 1)).map fun d => ((bdRows (i + 1)).map fun row => row.getD d 0).sum))) :: (pz, .lst [.int 0]) :: N) ?_ (small_of hlen (by decide)) ?_
      · simp only [List.cons_append, List.append_assoc]
      dsimp only
      refine set_go (var_go (v := .ref pw) rfl ?_)
      refine ⟨_, SLe.refl _, _, pw, ws ++ [.ref y], _, _, _, _, _, rfl, rfl, List.mem_append_right _ (.head _), ?_⟩
      show allV _ (ws ++ [.ref y]) (bdStep (i + 1) (bdRows (i + 1)))
      unfold bdStep
      exact allV_append (allV_ex (fun _ _ z => z.sub fun z hz => List.mem_append_left _ (.tail _ (List.mem_append_right _ (.tail _ (.tail _ hz))))) hws) ⟨⟨y, rfl, .inl (List.mem_append_left _ (.head _))⟩, trivial⟩
  · rintro σ S ⟨N, q, vs, x2, x3, x4, x5, x6, rfl, rfl, hq, hal⟩
    have en : (((n : Nat) : Int) - 1).toNat + 1 = n := by omega
    have hal : allV (lstM K H N) vs (bdRows ((((n : Nat) : Int) - 1).toNat + 1)) := hal
    rw [en] at hal
    obtain ⟨m, rfl⟩ : ∃ m, n = m + 1 := ⟨n - 1, by omega⟩
    obtain ⟨l1, l2⟩ := bdRows_len m
    have hq' : mL K H N q vs := .inl hq
    refine .inl ⟨vs, hq'.s (List.Subset.refl _), fun D => ?_⟩
    refine ⟨fun i S => S = ⟨H, (D, .lst (nV (((bdRows (m + 1)).take i).map List.sum))) :: N⟩, rfl, ?_, ?_, ?_⟩
    · rintro i S _ rfl
      exact hq'.s fun z hz => .tail _ hz
    · rintro i S hi rfl v hv
      obtain ⟨row, hr, ⟨p, rfl, hp⟩⟩ := allV_at hal hv
      refine ⟨rfl, ?_⟩
      refine ⟨row.map fun n : Nat => (n : Int), by rw [← nV_ints]; exact hp.s fun z hz => .tail _ hz, ?_⟩
      rw [sum_ints]
      refine ⟨0, _, rfl, ?_, ⟨_, SLe.refl _, ?_⟩⟩
      · rw [nV_len, List.length_map, List.length_take]
        exact small_of (show min i (bdRows (m + 1)).length ≤ 100 by omega) (by decide)
      · show _ = SH.mk H ((D, .lst (nV (((bdRows (m + 1)).take (i + 1)).map List.sum))) :: N)
        rw [map_more hr, nV_append]
        rfl
    · rintro S rfl
      have el : (itL K q vs).n = (bdRows (m + 1)).length := allV_len hal
      rw [el, List.take_length]
      intro H' o'
      have h0 := o'.gs (D, .lst (nV (bdF (m + 1)))) (.head _)
      exact ⟨⟨D, rfl, h0.2, h0.1⟩, fun a u e => o'.fr a u e⟩
end
/-! ### the law -/
theorem pops_small {n : Nat} (hn : n ≤ 6) {o : List Nat} (ho : o ∈ pops n (List.range n)) : ∀ x ∈ o, x < n := by
  have : ∀ n ∈ List.range 7, ((pops n (List.range n)).all fun o => o.all fun x => decide (x < n)) = true := by decide +kernel
  exact fun x hx => of_decide_eq_true (List.all_eq_true.mp (List.all_eq_true.mp (this n (List.mem_range.mpr (by omega))) o ho) x hx)
theorem many_at {r : Nat} (hr : (r : Int) < 16) : ∃ n : Nat, [V.int 1, .int 2, .int 3, .int 4, .int 5, .int 3, .int 4, .int 5, .int 2, .int 3, .int 4, .int 5, .int 4, .int 5, .int 5, .int 6][r]? = some (.int (n : Nat)) ∧ 1 ≤ n ∧ n ≤ 6 := by
  have : r = 0 ∨ r = 1 ∨ r = 2 ∨ r = 3 ∨ r = 4 ∨ r = 5 ∨ r = 6 ∨ r = 7 ∨ r = 8 ∨ r = 9 ∨ r = 10 ∨ r = 11 ∨ r = 12 ∨ r = 13 ∨ r = 14 ∨ r = 15 := by omega
  rcases this with rfl | rfl | rfl | rfl | rfl | rfl | rfl | rfl | rfl | rfl | rfl | rfl | rfl | rfl | rfl | rfl
  · exact ⟨1, rfl, by decide, by decide⟩
  · exact ⟨2, rfl, by decide, by decide⟩
  · exact ⟨3, rfl, by decide, by decide⟩
  · exact ⟨4, rfl, by decide, by decide⟩
  · exact ⟨5, rfl, by decide, by decide⟩
  · exact ⟨3, rfl, by decide, by decide⟩
  · exact ⟨4, rfl, by decide, by decide⟩
  · exact ⟨5, rfl, by decide, by decide⟩
  · exact ⟨2, rfl, by decide, by decide⟩
  · exact ⟨3, rfl, by decide, by decide⟩
  · exact ⟨4, rfl, by decide, by decide⟩
  · exact ⟨5, rfl, by decide, by decide⟩
  · exact ⟨4, rfl, by decide, by decide⟩
  · exact ⟨5, rfl, by decide, by decide⟩
  · exact ⟨5, rfl, by decide, by decide⟩
  · exact ⟨6, rfl, by decide, by decide⟩
section
variable {K : PySem.W.Frag} {a : Ads}
theorem own_newP {S S2 : SH} {H H' : Hp} (o : Own S H) (o' : Own S2 H') (eF : S2.F = S.F) (eG : S2.G.map (·.1) = S.G.map (·.1)) {p : Addr} {u : HO} (hp : H p = none) (hp' : H' p = some u) : Own (S2.new p u) H' := by
  refine ⟨o'.fr, fun q hq => ?_, ?_⟩
  · cases hq with
    | head => exact ⟨hp', by show S2.F p = none; rw [eF]; exact o.f_none hp⟩
    | tail _ hq => exact o'.gs q hq
  · show ((p :: S2.G.map (·.1))).Nodup
    rw [eG]
    exact List.nodup_cons.mpr ⟨o.g_none hp, by rw [← eG]; exact o'.nd⟩
theorem use_order {W : sWX} {vs : List V} {σ : L2.St} {S : SH} {Q : V → SH → Prop} (n : Nat) (i : Nat) {b : Addr} {u t m : Int} (hi : S.G[i]? = some (b, boxO u t m)) (hu : 0 ≤ u) (ht : 0 ≤ t ∧ t < 2147483647) (e : vs = [.ref b, .int (n : Nat)]) (hn : n ≤ 6)
    (k : ∀ o p u' t' m', o ∈ pops n (List.range n) → 0 ≤ u' → (0 ≤ t' ∧ t' < 2147483647) → Q (.ref p) ((S.put i b (boxO u' t' m')).new p (.lst (nV o)))) : rC (ct_l_order K) W vs σ S Q :=
  use_draw n i hi hu ht e (fun _ _ => hn) fun H v H' u' t' m' h1 h2 o o' ⟨od, p, q1, q2, q3, q4⟩ => ⟨_, own_newP o o' rfl (set_fst hi) q3 q4, by subst q2; exact k od p u' t' m' q1 h1 h2⟩
theorem use_refuses {W : sWX} {vs : List V} {σ : L2.St} {S : SH} {Q : V → SH → Prop} (i : Nat) {b : Addr} {u t m : Int} (hi : S.G[i]? = some (b, boxO u t m)) (hu : 0 ≤ u) (ht : 0 ≤ t ∧ t < 2147483647) (e : vs = [.ref b])
    (k : ∀ u' t' m', Q (.bl true) (S.put i b (boxO u' t' m'))) : rC ct_l_refuses W vs σ S Q :=
  use_draw () i hi hu ht e (fun _ _ => trivial) fun H v H' u' t' m' h1 h2 o o' q => ⟨_, o', by
    have q : v = .bl true := q
    subst q
    exact k u' t' m'⟩
theorem use_takeE {W : sWX} {vs : List V} {σ : L2.St} {F : Hp} {E : List (Addr × HO)} {Q : V → SH → Prop} {b : Addr} {u t m size : Int} (hu : 0 ≤ u) (ht : 0 ≤ t ∧ t < 2147483647) (e : vs = [.ref b, .int size]) (hs : 0 < size ∧ size < 1073741824)
    (k : ∀ (r : Nat) u' t' m', (r : Int) < size → 0 ≤ u' → (0 ≤ t' ∧ t' < 2147483647) → Q (.int (r : Nat)) ⟨F, E ++ [(b, boxO u' t' m')]⟩) : rC ct_l_draw W vs σ ⟨F, E ++ [(b, boxO u t m)]⟩ Q :=
  use_take E.length at_mid hu ht e hs fun r u' t' m' h1 h2 h3 => by
    have := k r u' t' m' h1 h2 h3
    show Q _ ⟨F, (E ++ [(b, boxO u t m)]).set E.length (b, boxO u' t' m')⟩
    rw [set_mid]
    exact this
theorem use_holds {W : sWX} {σ : L2.St} {S : SH} {Q : V → SH → Prop} {vs : List V} (n : Nat) (dv : V) (e : vs = [.int (n : Nat), dv]) (hd : ∀ H, Own S H → lstN K H dv (bdF n)) (h1 : 1 ≤ n) (h2 : n ≤ 60) (k : Q (.bl true) S) : rC (ct_l_holds K) W vs σ S Q :=
  ⟨(n, dv), fun H o => ⟨e, hd H o, h1, h2⟩, fun H v H' o q => ⟨S, o.ex q.2, by rw [q.1]; exact k⟩, fun _ _ _ _ _ q => q.elim⟩
theorem use_depths {W : sWX} {σ : L2.St} {S : SH} {Q : V → SH → Prop} {vs : List V} (n : Nat) (e : vs = [.int (n : Nat)]) (h1 : 1 ≤ n) (h2 : n ≤ 60) (k : ∀ p, Q (.ref p) (S.new p (.lst (nV (bdF n))))) : rC (ct_l_by_depths K) W vs σ S Q := by
  refine ⟨n, fun H o => ⟨e, h1, h2⟩, fun H v H' o q => ?_, fun _ _ _ _ _ q => q.elim⟩
  obtain ⟨⟨p, rfl, q1, q2⟩, q3⟩ := q
  exact ⟨_, o.new q1 q3 q2, k p⟩
theorem vo_order {n : Nat} (h2 : 2 ≤ n) (h6 : n ≤ 6) {o0 : Nat} {orr : List Nat} (ho : (o0 :: orr) ∈ pops n (List.range n)) : voF (List.range n) (o0 :: orr).reverse = (List.range n).filter fun x => decide (x ≠ o0) := by
  have e : (o0 :: orr).reverse.filter (fun s => (List.range n).contains s) = (o0 :: orr).reverse := List.filter_eq_self.mpr fun s hs => List.contains_iff_mem.mpr (List.mem_range.mpr (pops_small h6 ho s (List.mem_reverse.mp hs)))
  unfold voF lastIn
  rw [if_neg (by rw [List.length_range]; omega), e, List.getLast?_reverse]
  rfl
def hitM (K : PySem.W.Frag) (F : Hp) (G : List (Addr × HO)) (v : V) (s : Nat) : Prop := ∃ p, v = .ref p ∧ mT K F G p [.str "hit", .int (s : Nat)]
theorem hitM.sub {F : Hp} {G G' : List (Addr × HO)} {v : V} {s : Nat} (h : hitM K F G v s) (z : G ⊆ G') : hitM K F G' v s := let ⟨p, e, h⟩ := h; ⟨p, e, h.sub z⟩
theorem vc_law {vs : List V} {H : Hp} (g : Addr × List Int) (h : (ct_law K).pre g vs H) : ∃ S, Own S H ∧ r_law K a (endsC (ct_law K) g H) (start N_law vs) S := by
  obtain ⟨p0, ns⟩ := g
  obtain ⟨rfl, hs⟩ := h
  have hs : SqL K H p0 (ns.map V.int) := hs
  refine ⟨⟨H, []⟩, Own.base H, ?_⟩
  refine ⟨(p0, ns), fun H1 o1 => ⟨rfl, SqL.up (ext0 o1) hs⟩, fun H1 v H2 o1 q => ?_, fun _ _ _ _ _ q => q.elim⟩
  obtain ⟨b, rfl, q1, ⟨u, t, m, q2, hu, ht⟩, q3⟩ := q
  refine ⟨_, o1.new q1 q3 q2, ?_⟩
  refine ⟨show 16 ≤ sizeLine by decide, fun pl => ?_⟩
  refine use_take (u := u) (t := t) (m := m) (size := 16) 1 (by rfl) hu ht (by rfl) ⟨by decide, by decide⟩ fun r u t m hr hu ht => ?_
  obtain ⟨n, hn, h1, h6⟩ := many_at hr
  refine ⟨_, _, .inl (.inl ⟨0, rfl⟩), atI_at hn, ?_⟩
  refine use_order (K := K) (u := u) (t := t) (m := m) n 1 (by rfl) hu ht (by rfl) h6 fun o po u t m ho hu ht => ?_
  refine ⟨(.ref po, o, n), fun H3 o3 => ⟨rfl, ⟨po, rfl, o3.l (.inl ⟨0, rfl⟩)⟩, h1, h6, ho⟩, fun H3 v H4 o3 q => ?_, fun _ _ _ _ _ q => q.elim⟩
  obtain ⟨⟨pd, rfl, q1, q2⟩, q3⟩ := q
  refine ⟨_, o3.new q1 q3 q2, ?_⟩
  refine use_holds n (.ref pd) (by rfl) (fun H o => ⟨pd, rfl, o.l (.inl ⟨0, rfl⟩)⟩) h1 (by omega) ?_
  refine use_depths n (by rfl) h1 (by omega) fun pe => ?_
  refine ⟨_, _, sD_n (.inl ⟨1, rfl⟩), sD_n (.inl ⟨0, rfl⟩), nD_shaped _, nD_shaped _, ?_⟩
  rw [nD_eqv]
  refine ⟨fun σ S => ∃ (E : List (Addr × HO)) (u t m : Int) (x0 x2 x3 x4 x5 x6 : Option V), 0 ≤ u ∧ (0 ≤ t ∧ t < 2147483647) ∧ σ = [x0, some (.ref b), x2, x3, x4, x5, x6] ∧ S = ⟨H, E ++ [(b, boxO u t m)]⟩, ?_, ?_⟩
  rotate_left
  · rintro σ S ⟨E, u, t, m, x0, x2, x3, x4, x5, x6, hu, ht, rfl, rfl⟩
    refine ⟨fun σ S => ∃ (E : List (Addr × HO)) (u t m : Int) (x0 x2 x3 x4 x5 x6 : Option V), 0 ≤ u ∧ (0 ≤ t ∧ t < 2147483647) ∧ σ = [x0, some (.ref b), x2, x3, x4, x5, x6] ∧ S = ⟨H, E ++ [(b, boxO u t m)]⟩, ?_, ?_⟩
    rotate_left
    · rintro σ S ⟨E, u, t, m, x0, x2, x3, x4, x5, x6, hu, ht, rfl, rfl⟩
      refine use_refuses (u := u) (t := t) (m := m) E.length at_mid hu ht (by rfl) fun u t m => ?_
      exact fun H' o' => rfl
    · refine use_takeE (u := u) (t := t) (m := m) (size := 3) hu ht (by rfl) ⟨by decide, by decide⟩ fun r u t m hr hu ht => ?_
      walk_at "b"
      · refine use_takeE (u := u) (t := t) (m := m) (size := 60) hu ht (by rfl) ⟨by decide, by decide⟩ fun r2 u t m hr2 hu ht => ?_
        have hr2 : (r2 : Int) < 60 := hr2
        have e2 : V.int (1 + (r2 : Nat)) = V.int ((r2 + 1 : Nat) : Int) := by
          congr 1
          omega
        refine use_depths (r2 + 1) (congrArg (fun v => [v]) e2) (by omega) (by omega) fun pf => ?_
        refine use_holds (r2 + 1) (.ref pf) (congrArg (fun v => [v, V.ref pf]) e2) (fun H o => ⟨pf, rfl, o.l (.inl ⟨0, rfl⟩)⟩) (by omega) (by omega) ?_
        exact ⟨_, SLe.refl _, (pf, .lst (nV (bdF (r2 + 1)))) :: E, u, t, m, _, _, _, _, _, _, hu, ht, rfl, rfl⟩
      · exact ⟨_, SLe.refl _, E, u, t, m, _, _, _, _, _, _, hu, ht, rfl, rfl⟩
  · walk_at "b"
    · rename_i hb
      have h2 : 2 ≤ n := by omega
      have hcov := (pops_covers h6 ho).1
      have hol : o.length = n := (pops_covers h6 ho).2.1
      obtain ⟨o0, orr, rfl⟩ : ∃ o0 orr, o = o0 :: orr := by
        cases o with
        | nil =>
          simp at hol
          omega
        | cons o0 orr => exact ⟨o0, orr, rfl⟩
      generalize hG0 : [(pe, HO.lst (nV (bdF n))), (pd, .lst (nV (bdF n))), (po, .lst (nV (o0 :: orr))), (pl, .lst [V.int 1, .int 2, .int 3, .int 4, .int 5, .int 3, .int 4, .int 5, .int 2, .int 3, .int 4, .int 5, .int 4, .int 5, .int 5, .int 6])] = G0
      have hpo : (po, HO.lst (nV (o0 :: orr))) ∈ G0 ++ [(b, boxO u t m)] := by
        rw [← hG0]
        exact .tail _ (.tail _ (.head _))
      have hpo' : mL K H (G0 ++ [(b, boxO u t m)]) po (nV (o0 :: orr)) := .inl hpo
      show (sSeq _ _) _ [some (.ref p0), some (.ref b), some (.int (n : Nat)), some (.ref po), some (.ref pd), none, none] ⟨H, [(pe, HO.lst (nV (bdF n))), (pd, .lst (nV (bdF n))), (po, .lst (nV (o0 :: orr))), (pl, .lst [V.int 1, .int 2, .int 3, .int 4, .int 5, .int 3, .int 4, .int 5, .int 2, .int 3, .int 4, .int 5, .int 4, .int 5, .int 5, .int 6])] ++ [(b, boxO u t m)]⟩
      rw [hG0]
      refine .inl ⟨nV (o0 :: orr), hpo'.s (List.Subset.refl _), fun D => ?_⟩
      refine ⟨fun i S => ∃ E ws, S = ⟨H, E ++ (D, .lst ws) :: (G0 ++ [(b, boxO u t m)])⟩ ∧ allV (hitM K H E) ws ((o0 :: orr).reverse.take i), ⟨[], [], rfl, trivial⟩, ?_, ?_, ?_⟩
      · rintro i S _ ⟨E, ws, rfl, _⟩
        exact hpo'.s sub_midr
      · rintro i S hi ⟨E, ws, rfl, hws⟩ v hv
        have hi : i < (nV (o0 :: orr)).length := hi
        obtain ⟨x, hx, rfl⟩ := nV_get hv
        rw [nV_len] at hi hx
        have hx2 : (o0 :: orr).reverse[i]? = some x := by
          rw [List.getElem?_reverse hi]
          exact hx
        refine ⟨rfl, ?_⟩
        refine ⟨show 2 ≤ sizeLine by decide, fun z => ?_⟩
        have hlen : ws.length ≤ 100 := by
          have := allV_len hws
          rw [List.length_take] at this
          omega
        refine lc_put (P := fun S => ∃ E ws, S = ⟨H, E ++ (D, .lst ws) :: (G0 ++ [(b, boxO u t m)])⟩ ∧ allV (hitM K H E) ws ((o0 :: orr).reverse.take (i + 1))) (F := H) (D := D) (G := G0 ++ [(b, boxO u t m)]) (acc := ws) (E := (z, .tup [.str "hit", .int (x : Nat)]) :: E) (small_of hlen (by decide)) ⟨_, _, rfl, ?_⟩
        rw [take_more hx2]
        exact allV_snoc ⟨z, rfl, .inl (.head _)⟩ (allV_ex (fun _ _ y => y.sub fun z hz => .tail _ hz) hws)
      · rintro S ⟨E, ws, rfl, hws⟩
        have el : (itLv K po (nV (o0 :: orr))).n = (o0 :: orr).reverse.length := by
          rw [List.length_reverse]
          exact nV_len _
        rw [el, List.take_length] at hws
        refine ⟨(n, .ref D, (o0 :: orr).reverse), fun H5 o5 => ⟨rfl, ⟨D, ws, rfl, o5.l (.inl ⟨_, at_mid⟩), allV_ex (fun v s ⟨p, e, hp⟩ => ⟨p, e, o5.u (hp.s fun z hz => List.mem_append_left _ hz)⟩) hws⟩, h2, h6, fun s hs => pops_small h6 ho s (List.mem_reverse.mp hs), fun x hx => List.mem_reverse.mpr (hcov x hx)⟩, fun H5 v H6 o5 q => ?_, fun _ _ _ _ _ q => q.elim⟩
        obtain ⟨⟨p5, rfl, q1, q2⟩, q3⟩ := q
        rw [show voF (List.range (n, V.ref D, (o0 :: orr).reverse).1) (n, V.ref D, (o0 :: orr).reverse).2.2 = _ from vo_order h2 h6 ho] at q2
        refine ⟨_, o5.new q1 q3 q2, ?_⟩
        have hpo2 : mL K H (E ++ (D, .lst ws) :: (G0 ++ [(b, boxO u t m)])) po (nV (o0 :: orr)) := hpo'.sub sub_midr
        refine ⟨by unfold rngOk; omega, fun D2 => ?_⟩
        refine ⟨fun i S => i ≤ n ∧ S = ⟨H, (D2, .lst (nV ((List.range i).filter fun x => decide (x ≠ o0)))) :: (p5, .lst (nV ((List.range n).filter fun x => decide (x ≠ o0)))) :: (E ++ (D, .lst ws) :: (G0 ++ [(b, boxO u t m)]))⟩, ⟨Nat.zero_le _, rfl⟩, fun _ _ _ _ => trivial, ?_, ?_⟩
        · rintro i S hi ⟨_, rfl⟩
          have hi : i < ((n : Nat) : Int).toNat := hi
          rw [Int.toNat_natCast] at hi
          refine yldR_go ?_
          rw [Int.zero_add]
          refine nm_go ⟨rfl, ?_⟩
          refine ⟨_, _, .inl (hpo2.s fun z hz => .tail _ (.tail _ hz)), atI_at (i := 0) rfl, ?_⟩
          have fl : (nV ((List.range i).filter fun x => decide (x ≠ o0))).length < sizeLine := by
            rw [nV_len]
            refine small_of (Nat.le_trans (List.length_filter_le _ _) ?_) (show 100 < 16777216 by decide)
            rw [List.length_range]
            omega
          walk_at "b"
          · rename_i hb
            refine ⟨0, _, rfl, fl, ⟨_, SLe.refl _, by omega, ?_⟩⟩
            show _ = SH.mk H ((D2, .lst (nV ((List.range (i + 1)).filter fun x => decide (x ≠ o0)))) :: (p5, .lst (nV ((List.range n).filter fun x => decide (x ≠ o0)))) :: (E ++ (D, .lst ws) :: (G0 ++ [(b, boxO u t m)])))
            rw [List.range_succ, List.filter_append, nV_append, List.filter_cons, if_pos (decide_eq_true (by omega))]
            rfl
          · rename_i hb
            refine ⟨_, SLe.refl _, by omega, ?_⟩
            rw [List.range_succ, List.filter_append, List.filter_cons, if_neg (by rw [decide_eq_true_eq]; omega)]
            rw [List.filter_nil, List.append_nil]
        · rintro S ⟨_, rfl⟩
          refine use_same (.ref p5) (.ref D2) ((List.range n).filter fun x => decide (x ≠ o0)) (by rfl) (fun H' o => ⟨p5, rfl, o.l (.inl ⟨1, rfl⟩)⟩) (fun H' o => ⟨D2, rfl, o.l (.inl ⟨0, ?_⟩)⟩) ?_
          · show some (D2, HO.lst (nV ((List.range ((n : Nat) : Int).toNat).filter fun x => decide (x ≠ o0)))) = _
            rw [Int.toNat_natCast]
          · refine ⟨_, SLe.refl _, (D2, .lst (nV ((List.range ((n : Nat) : Int).toNat).filter fun x => decide (x ≠ o0)))) :: (p5, .lst (nV ((List.range n).filter fun x => decide (x ≠ o0)))) :: (E ++ (D, .lst ws) :: G0), u, t, m, _, _, _, _, _, _, hu, ht, rfl, ?_⟩
            simp only [List.cons_append, List.append_assoc]
            rfl
    · exact ⟨_, SLe.refl _, [_, _, _, _], u, t, m, _, _, _, _, _, _, hu, ht, rfl, rfl⟩
end
theorem no_victims_over {K : PySem.W.Frag} {vs : List V} {H : Hp} {Q : VK} {E : XK} (h : spC (ct_victims_over K 0) vs H Q E) : False := by
  obtain ⟨g, ⟨_, _, _, h1, h2, _⟩, _⟩ := h
  exact h1 (List.eq_nil_of_length_eq_zero (Nat.le_zero.mp h2))
/-! ### each def keeps its promise -/
theorem sp_some {f : List V → Option Ot} {vs : List V} {H : Hp} {Q : VK} {E : XK} (h : spV f vs H Q E) : ∃ o, f vs = some o := by
  unfold spV at h
  split at h
  · exact ⟨_, by assumption⟩
  · exact ⟨_, by assumption⟩
  · exact h.elim
section
variable {P : Program} {w : World} {K : PySem.W.Frag} {mg : Str → Option Value} {base : Heap} {a : Ads}
theorem ok_is_integer (G : Env P w K mg base a)  {f : Addr} {fd : FuncData} (F : Fun K "is_integer" "is_integer" s_is_integer f fd) : FnOk P w K mg base (L2.CX P w) l_is_integer f fd ["value"] (p_is_integer K a) := by
  refine F.okX (k := l_is_integer - 1) sc_is_integer (fun vs H Q E h => ?_) fun cdv A outer s H vs Q E hr h => ⟨_, d_is_integer G  hr, ?_⟩
  · obtain ⟨g, hg, _⟩ := h
    have e := hg.1
    subst e
    rfl
  · exact body_C h fun g hg => vc_is_integer g hg
theorem ok_is_place (G : Env P w K mg base a) (T_is_integer : DefC P w K mg base "is_integer" ["value"] l_is_integer [] (p_is_integer K a)) {f : Addr} {fd : FuncData} (F : Fun K "is_place" "is_place" s_is_place f fd) : FnOk P w K mg base (L2.CX P w) l_is_place f fd ["many", "value"] (p_is_place K a) := by
  refine F.okX (k := l_is_place - 1) sc_is_place (fun vs H Q E h => ?_) fun cdv A outer s H vs Q E hr h => ⟨_, d_is_place G T_is_integer hr, ?_⟩
  · obtain ⟨o, ho⟩ := sp_some h
    unfold f_is_place at ho
    split at ho <;> first | rfl | cases ho
  · exact body_V h fun o ho => vc_is_place o ho
theorem ok_is_line (G : Env P w K mg base a) (T : Kit K a) (T_is_place : DefC P w K mg base "is_place" ["many", "value"] l_is_place [] (p_is_place K a)) {f : Addr} {fd : FuncData} (F : Fun K "is_line" "is_line" s_is_line f fd) : FnOk P w K mg base (L2.CX P w) l_is_line f fd ["many", "value"] (p_is_line K a) := by
  refine F.okX (k := l_is_line - 1) sc_is_line (fun vs H Q E h => ?_) fun cdv A outer s H vs Q E hr h => ⟨_, d_is_line G T_is_place hr, ?_⟩
  · obtain ⟨g, hg, _⟩ := h
    have e := hg.1
    subst e
    rfl
  · exact body_C h fun g hg => vc_is_line T g hg
theorem ok_checked_lines (G : Env P w K mg base a) (T_is_line : DefC P w K mg base "is_line" ["many", "value"] l_is_line [] (p_is_line K a)) {f : Addr} {fd : FuncData} (F : Fun K "checked_lines" "checked_lines" s_checked_lines f fd) : FnOk P w K mg base (L2.CX P w) l_checked_lines f fd ["many", "run"] (p_checked_lines K a) := by
  refine F.okX (k := l_checked_lines - 1) sc_checked_lines (fun vs H Q E h => ?_) fun cdv A outer s H vs Q E hr h => ⟨_, d_checked_lines G T_is_line hr, ?_⟩
  · obtain ⟨g, hg, _⟩ := h
    have e := hg.1
    subst e
    rfl
  · exact body_C h fun g hg => vc_checked_lines g hg
theorem ok_checked_number (G : Env P w K mg base a) (T_is_integer : DefC P w K mg base "is_integer" ["value"] l_is_integer [] (p_is_integer K a)) {f : Addr} {fd : FuncData} (F : FunD K "checked_number" "checked_number" (defArgs s_checked_number) (defBody s_checked_number) (defScope s_checked_number) [.non] [] f fd) : FnOk P w K mg base (L2.CX P w) l_checked_number f fd ["number", "least", "most"] (p_checked_number K a) := by
  refine F.ok (k := l_checked_number - 1) sc_checked_number (fun vs H Q E h => ?_) fun cdv A outer s H vs Q E hr h => ⟨_, d_checked_number G T_is_integer hr, ?_⟩
  · obtain ⟨g, hg, _⟩ := h
    have e := hg.1
    subst e
    rfl
  · exact body_C h fun g hg => vc_checked_number g hg
theorem ok_partings (G : Env P w K mg base a)  {f : Addr} {fd : FuncData} (F : Fun K "partings" "partings" s_partings f fd) : FnOk P w K mg base (L2.CX P w) l_partings f fd ["members"] (p_partings K a) := by
  refine F.okX (k := l_partings - 1) sc_partings (fun vs H Q E h => ?_) fun cdv A outer s H vs Q E hr h => ⟨_, d_partings G  hr, ?_⟩
  · obtain ⟨g, hg, _⟩ := h
    have e := hg.1
    subst e
    rfl
  · exact body_C h fun g hg => vc_partings g hg
theorem ok_last_side (G : Env P w K mg base a)  {f : Addr} {fd : FuncData} (F : Fun K "last_side" "last_side" s_last_side f fd) : FnOk P w K mg base (L2.CX P w) l_last_side f fd ["run", "left", "right"] (p_last_side K a) := by
  refine F.okX (k := l_last_side - 1) sc_last_side (fun vs H Q E h => ?_) fun cdv A outer s H vs Q E hr h => ⟨_, d_last_side G  hr, ?_⟩
  · obtain ⟨g, hg, _⟩ := h
    have e := hg.1
    subst e
    rfl
  · exact body_C h fun g hg => vc_last_side g hg
theorem ok_victims_over (G : Env P w K mg base a) (T_last_side : DefC P w K mg base "last_side" ["run", "left", "right"] l_last_side [] (p_last_side K a)) (T_partings : DefC P w K mg base "partings" ["members"] l_partings [] (p_partings K a)) {f : Addr} {fd : FuncData} (F : Fun K "victims_over" "victims_over" s_victims_over f fd) (hm : mg "victims_over" = some (.ref f)) (hk : PySem.W.keepIn K (.ref f) = true) : ∀ n, FnOk P w K mg base (L2.CX P w) (l_victims_over + n) f fd ["members", "run"] (p_victims_over K a n)
  | 0 => F.okX (k := l_victims_over - 1) sc_victims_over (fun vs H Q E h => (no_victims_over h).elim) fun cdv A outer s H vs Q E hr h => (no_victims_over h).elim
  | n + 1 => by
    have ih := ok_victims_over G T_last_side T_partings F hm hk n
    refine F.okX (k := l_victims_over + n) sc_victims_over (fun vs H Q E h => ?_) fun cdv A outer s H vs Q E hr h => ⟨_, d_victims_over G T_last_side T_partings ⟨_, _, [], hm, hk, ih, .nil, F.binds (ps := ["members", "run"]) fun _ _ _ _ _ _ us hl => match us, hl with | [_, _], _ => rfl⟩ (Nat.le_add_right _ _) hr, ?_⟩
    · obtain ⟨g, hg, _⟩ := h
      have e := hg.1
      subst e
      rfl
    · exact body_C h fun g hg => vc_victims_over g hg
theorem ok_tree_total (G : Env P w K mg base a) (T_checked_number : DefC P w K mg base "checked_number" ["number", "least", "most"] l_checked_number [] (p_checked_number K a)) {f : Addr} {fd : FuncData} (F : Fun K "tree_total" "tree_total" s_tree_total f fd) : FnOk P w K mg base (L2.CX P w) l_tree_total f fd ["slots"] (p_tree_total K a) := by
  refine F.okX (k := l_tree_total - 1) sc_tree_total (fun vs H Q E h => ?_) fun cdv A outer s H vs Q E hr h => ⟨_, d_tree_total G T_checked_number hr, ?_⟩
  · obtain ⟨g, hg, _⟩ := h
    have e := hg.1
    subst e
    rfl
  · exact body_C h fun g hg => vc_tree_total g hg
theorem ok_rank_counts (G : Env P w K mg base a) (T_checked_number : DefC P w K mg base "checked_number" ["number", "least", "most"] l_checked_number [] (p_checked_number K a)) {f : Addr} {fd : FuncData} (F : Fun K "rank_counts" "rank_counts" s_rank_counts f fd) : FnOk P w K mg base (L2.CX P w) l_rank_counts f fd ["slots"] (p_rank_counts K a) := by
  refine F.okX (k := l_rank_counts - 1) sc_rank_counts (fun vs H Q E h => ?_) fun cdv A outer s H vs Q E hr h => ⟨_, d_rank_counts G T_checked_number hr, ?_⟩
  · obtain ⟨g, hg, _⟩ := h
    have e := hg.1
    subst e
    rfl
  · exact body_C h fun g hg => vc_rank_counts g hg
theorem ok_next_victims (G : Env P w K mg base a) (T_checked_lines : DefC P w K mg base "checked_lines" ["many", "run"] l_checked_lines [] (p_checked_lines K a)) (T_checked_number : DefC P w K mg base "checked_number" ["number", "least", "most"] l_checked_number [] (p_checked_number K a)) (T_victims_over : DefC P w K mg base "victims_over" ["members", "run"] (l_victims_over + 6) [] (p_victims_over K a 6)) {f : Addr} {fd : FuncData} (F : Fun K "next_victims" "next_victims" s_next_victims f fd) : FnOk P w K mg base (L2.CX P w) l_next_victims f fd ["slots", "run"] (p_next_victims K a) := by
  refine F.okX (k := l_next_victims - 1) sc_next_victims (fun vs H Q E h => ?_) fun cdv A outer s H vs Q E hr h => ⟨_, d_next_victims G T_checked_lines T_checked_number T_victims_over hr, ?_⟩
  · obtain ⟨g, hg, _⟩ := h
    have e := hg.1
    subst e
    rfl
  · exact body_C h fun g hg => vc_next_victims g hg
theorem ok_l_is_integer (G : Env P w K mg base a)  {f : Addr} {fd : FuncData} (F : Fun K "_law_is_integer" "_law_is_integer" s_l_is_integer f fd) : FnOk P w K mg base (L2.CX P w) l_l_is_integer f fd ["_law_value"] (p_l_is_integer K a) := by
  refine F.okX (k := l_l_is_integer - 1) sc_l_is_integer (fun vs H Q E h => ?_) fun cdv A outer s H vs Q E hr h => ⟨_, d_l_is_integer G  hr, ?_⟩
  · obtain ⟨g, hg, _⟩ := h
    have e := hg.1
    subst e
    rfl
  · exact body_C h fun g hg => vc_l_is_integer g hg
theorem ok_l_box (G : Env P w K mg base a)  {f : Addr} {fd : FuncData} (F : Fun K "_law_box" "_law_box" s_l_box f fd) : FnOk P w K mg base (L2.CX P w) l_l_box f fd ["_law_script"] (p_l_box K a) := by
  refine F.okX (k := l_l_box - 1) sc_l_box (fun vs H Q E h => ?_) fun cdv A outer s H vs Q E hr h => ⟨_, d_l_box G  hr, ?_⟩
  · obtain ⟨g, hg, _⟩ := h
    have e := hg.1
    subst e
    rfl
  · exact body_C h fun g hg => vc_l_box g hg
theorem ok_l_draw (G : Env P w K mg base a)  {f : Addr} {fd : FuncData} (F : Fun K "_law_draw" "_law_draw" s_l_draw f fd) : FnOk P w K mg base (L2.CX P w) l_l_draw f fd ["_law_box_here", "_law_many"] (p_l_draw K a) := by
  refine F.okX (k := l_l_draw - 1) sc_l_draw (fun vs H Q E h => ?_) fun cdv A outer s H vs Q E hr h => ⟨_, d_l_draw G  hr, ?_⟩
  · obtain ⟨g, hg, _⟩ := h
    have e := hg.1
    subst e
    rfl
  · exact body_C h fun g hg => vc_l_draw g hg
theorem ok_l_all_trees (G : Env P w K mg base a)  {f : Addr} {fd : FuncData} (F : Fun K "_law_all_trees" "_law_all_trees" s_l_all_trees f fd) : FnOk P w K mg base (L2.CX P w) l_l_all_trees f fd ["_law_many"] (p_l_all_trees K a) := by
  refine F.okX (k := l_l_all_trees - 1) sc_l_all_trees (fun vs H Q E h => ?_) fun cdv A outer s H vs Q E hr h => ⟨_, d_l_all_trees G  hr, ?_⟩
  · obtain ⟨g, hg, _⟩ := h
    have e := hg.1
    subst e
    rfl
  · exact body_C h fun g hg => vc_l_all_trees g hg
theorem ok_l_half (G : Env P w K mg base a)  {f : Addr} {fd : FuncData} (F : Fun K "_law_half" "_law_half" s_l_half f fd) : FnOk P w K mg base (L2.CX P w) l_l_half f fd ["_law_groups", "_law_node"] (p_l_half K a) := by
  refine F.okX (k := l_l_half - 1) sc_l_half (fun vs H Q E h => ?_) fun cdv A outer s H vs Q E hr h => ⟨_, d_l_half G  hr, ?_⟩
  · obtain ⟨g, hg, _⟩ := h
    have e := hg.1
    subst e
    rfl
  · exact body_C h fun g hg => vc_l_half g hg
theorem ok_l_victim (G : Env P w K mg base a) (T_l_half : DefC P w K mg base "_law_half" ["_law_groups", "_law_node"] l_l_half [] (p_l_half K a)) {f : Addr} {fd : FuncData} (F : Fun K "_law_victim" "_law_victim" s_l_victim f fd) : FnOk P w K mg base (L2.CX P w) l_l_victim f fd ["_law_groups", "_law_order_here", "_law_many"] (p_l_victim K a) := by
  refine F.okX (k := l_l_victim - 1) sc_l_victim (fun vs H Q E h => ?_) fun cdv A outer s H vs Q E hr h => ⟨_, d_l_victim G T_l_half hr, ?_⟩
  · obtain ⟨g, hg, _⟩ := h
    have e := hg.1
    subst e
    rfl
  · exact body_C h fun g hg => vc_l_victim g hg
theorem ok_l_order (G : Env P w K mg base a) (T_l_draw : DefC P w K mg base "_law_draw" ["_law_box_here", "_law_many"] l_l_draw [] (p_l_draw K a)) {f : Addr} {fd : FuncData} (F : Fun K "_law_order" "_law_order" s_l_order f fd) : FnOk P w K mg base (L2.CX P w) l_l_order f fd ["_law_box_here", "_law_many"] (p_l_order K a) := by
  refine F.okX (k := l_l_order - 1) sc_l_order (fun vs H Q E h => ?_) fun cdv A outer s H vs Q E hr h => ⟨_, d_l_order G T_l_draw hr, ?_⟩
  · obtain ⟨g, hg, _⟩ := h
    have e := hg.1
    subst e
    rfl
  · exact body_C h fun g hg => vc_l_order g hg
theorem ok_l_by_listing (G : Env P w K mg base a) (T_l_all_trees : DefC P w K mg base "_law_all_trees" ["_law_many"] l_l_all_trees [] (p_l_all_trees K a)) (T_l_victim : DefC P w K mg base "_law_victim" ["_law_groups", "_law_order_here", "_law_many"] l_l_victim [] (p_l_victim K a)) {f : Addr} {fd : FuncData} (F : Fun K "_law_by_listing" "_law_by_listing" s_l_by_listing f fd) : FnOk P w K mg base (L2.CX P w) l_l_by_listing f fd ["_law_order_here", "_law_many"] (p_l_by_listing K a) := by
  refine F.okX (k := l_l_by_listing - 1) sc_l_by_listing (fun vs H Q E h => ?_) fun cdv A outer s H vs Q E hr h => ⟨_, d_l_by_listing G T_l_all_trees T_l_victim hr, ?_⟩
  · obtain ⟨g, hg, _⟩ := h
    have e := hg.1
    subst e
    rfl
  · exact body_C h fun g hg => vc_l_by_listing g hg
theorem ok_l_by_depths (G : Env P w K mg base a)  {f : Addr} {fd : FuncData} (F : Fun K "_law_by_depths" "_law_by_depths" s_l_by_depths f fd) : FnOk P w K mg base (L2.CX P w) l_l_by_depths f fd ["_law_many"] (p_l_by_depths K a) := by
  refine F.okX (k := l_l_by_depths - 1) sc_l_by_depths (fun vs H Q E h => ?_) fun cdv A outer s H vs Q E hr h => ⟨_, d_l_by_depths G  hr, ?_⟩
  · obtain ⟨g, hg, _⟩ := h
    have e := hg.1
    subst e
    rfl
  · exact body_C h fun g hg => vc_l_by_depths g hg
theorem ok_l_same (G : Env P w K mg base a) (T_l_is_integer : DefC P w K mg base "_law_is_integer" ["_law_value"] l_l_is_integer [] (p_l_is_integer K a)) {f : Addr} {fd : FuncData} (F : Fun K "_law_same" "_law_same" s_l_same f fd) : FnOk P w K mg base (L2.CX P w) l_l_same f fd ["_law_answer", "_law_due"] (p_l_same K a) := by
  refine F.okX (k := l_l_same - 1) sc_l_same (fun vs H Q E h => ?_) fun cdv A outer s H vs Q E hr h => ⟨_, d_l_same G T_l_is_integer hr, ?_⟩
  · obtain ⟨g, hg, _⟩ := h
    have e := hg.1
    subst e
    rfl
  · exact body_C h fun g hg => vc_l_same g hg
theorem ok_l_holds (G : Env P w K mg base a) (T_l_is_integer : DefC P w K mg base "_law_is_integer" ["_law_value"] l_l_is_integer [] (p_l_is_integer K a)) (T_l_same : DefC P w K mg base "_law_same" ["_law_answer", "_law_due"] l_l_same [] (p_l_same K a)) (T_rank_counts : DefC P w K mg base "rank_counts" ["slots"] l_rank_counts [] (p_rank_counts K a)) (T_tree_total : DefC P w K mg base "tree_total" ["slots"] l_tree_total [] (p_tree_total K a)) {f : Addr} {fd : FuncData} (F : Fun K "_law_holds" "_law_holds" s_l_holds f fd) : FnOk P w K mg base (L2.CX P w) l_l_holds f fd ["_law_many", "_law_due"] (p_l_holds K a) := by
  refine F.okX (k := l_l_holds - 1) sc_l_holds (fun vs H Q E h => ?_) fun cdv A outer s H vs Q E hr h => ⟨_, d_l_holds G T_l_is_integer T_l_same T_rank_counts T_tree_total hr, ?_⟩
  · obtain ⟨g, hg, _⟩ := h
    have e := hg.1
    subst e
    rfl
  · exact body_C h fun g hg => vc_l_holds g hg
theorem ok_l_refusal (G : Env P w K mg base a) (T : Kit K a) (T_rank_counts : DefC P w K mg base "rank_counts" ["slots"] l_rank_counts [] (p_rank_counts K a)) (T_tree_total : DefC P w K mg base "tree_total" ["slots"] l_tree_total [] (p_tree_total K a)) {f : Addr} {fd : FuncData} (F : Fun K "_law_refusal" "_law_refusal" s_l_refusal f fd) : FnOk P w K mg base (L2.CX P w) l_l_refusal f fd ["_law_door", "_law_number"] (p_l_refusal K a) := by
  refine F.okX (k := l_l_refusal - 1) sc_l_refusal (fun vs H Q E h => ?_) fun cdv A outer s H vs Q E hr h => ⟨_, d_l_refusal G T_rank_counts T_tree_total hr, ?_⟩
  · obtain ⟨g, hg, _⟩ := h
    have e := hg.1
    subst e
    rfl
  · exact body_C h fun g hg => vc_l_refusal T g hg
theorem ok_l_refuses (G : Env P w K mg base a) (T_l_draw : DefC P w K mg base "_law_draw" ["_law_box_here", "_law_many"] l_l_draw [] (p_l_draw K a)) (T_l_refusal : DefC P w K mg base "_law_refusal" ["_law_door", "_law_number"] l_l_refusal [] (p_l_refusal K a)) {f : Addr} {fd : FuncData} (F : Fun K "_law_refuses" "_law_refuses" s_l_refuses f fd) : FnOk P w K mg base (L2.CX P w) l_l_refuses f fd ["_law_box_here"] (p_l_refuses K a) := by
  refine F.okX (k := l_l_refuses - 1) sc_l_refuses (fun vs H Q E h => ?_) fun cdv A outer s H vs Q E hr h => ⟨_, d_l_refuses G T_l_draw T_l_refusal hr, ?_⟩
  · obtain ⟨g, hg, _⟩ := h
    have e := hg.1
    subst e
    rfl
  · exact body_C h fun g hg => vc_l_refuses g hg
theorem ok_law (G : Env P w K mg base a) (T_l_box : DefC P w K mg base "_law_box" ["_law_script"] l_l_box [] (p_l_box K a)) (T_l_by_depths : DefC P w K mg base "_law_by_depths" ["_law_many"] l_l_by_depths [] (p_l_by_depths K a)) (T_l_by_listing : DefC P w K mg base "_law_by_listing" ["_law_order_here", "_law_many"] l_l_by_listing [] (p_l_by_listing K a)) (T_l_draw : DefC P w K mg base "_law_draw" ["_law_box_here", "_law_many"] l_l_draw [] (p_l_draw K a)) (T_l_holds : DefC P w K mg base "_law_holds" ["_law_many", "_law_due"] l_l_holds [] (p_l_holds K a)) (T_l_order : DefC P w K mg base "_law_order" ["_law_box_here", "_law_many"] l_l_order [] (p_l_order K a)) (T_l_refuses : DefC P w K mg base "_law_refuses" ["_law_box_here"] l_l_refuses [] (p_l_refuses K a)) (T_l_same : DefC P w K mg base "_law_same" ["_law_answer", "_law_due"] l_l_same [] (p_l_same K a)) (T_next_victims : DefC P w K mg base "next_victims" ["slots", "run"] l_next_victims [] (p_next_victims K a)) {f : Addr} {fd : FuncData} (F : Fun K "law" "law" s_law f fd) : FnOk P w K mg base (L2.CX P w) l_law f fd ["_law_script"] (p_law K a) := by
  refine F.okX (k := l_law - 1) sc_law (fun vs H Q E h => ?_) fun cdv A outer s H vs Q E hr h => ⟨_, d_law G T_l_box T_l_by_depths T_l_by_listing T_l_draw T_l_holds T_l_order T_l_refuses T_l_same T_next_victims hr, ?_⟩
  · obtain ⟨g, hg, _⟩ := h
    have e := hg.1
    subst e
    rfl
  · exact body_C h fun g hg => vc_law g hg
end
/-! ### what the top has written -/
theorem all_mk {l : PySem.W.OpenLaw} {w : World} {K : PySem.W.Frag} {h : Heap} {mg : Str → Option Value} {fa : Addr} {c0 c1 c2 c3 qKINDS : Addr}
    {tk_MOST_COUNTED : Tok}
    {tk_MOST_SLOTS : Tok}
    {td_KINDS : Option Addr} {tn_KINDS : Nat} {ts_KINDS : Array (Option Value)} {tk_KINDS0 tk_KINDS1 : Tok}
    {f0 : Addr} {od0 an0 : Option Addr} {sl0 : Array (Option Value)} {oc0 kV0 dc0 pm0 cd0 ct0 : Value}
    {f1 : Addr} {od1 an1 : Option Addr} {sl1 : Array (Option Value)} {oc1 kV1 dc1 pm1 cd1 ct1 : Value}
    {f2 : Addr} {od2 an2 : Option Addr} {sl2 : Array (Option Value)} {oc2 kV2 dc2 pm2 cd2 ct2 : Value}
    {f3 : Addr} {od3 an3 : Option Addr} {sl3 : Array (Option Value)} {oc3 kV3 dc3 pm3 cd3 ct3 : Value}
    {t4 tn4 : Nat} {tc4 : Value} {td4 : Option Addr} {ts4 : Array (Option Value)}
    {f4 : Addr} {od4 an4 : Option Addr} {sl4 : Array (Option Value)} {oc4 kV4 dc4 pm4 cd4 ct4 : Value}
    {f5 : Addr} {od5 an5 : Option Addr} {sl5 : Array (Option Value)} {oc5 kV5 dc5 pm5 cd5 ct5 : Value}
    {f6 : Addr} {od6 an6 : Option Addr} {sl6 : Array (Option Value)} {oc6 kV6 dc6 pm6 cd6 ct6 : Value}
    {f7 : Addr} {od7 an7 : Option Addr} {sl7 : Array (Option Value)} {oc7 kV7 dc7 pm7 cd7 ct7 : Value}
    {f8 : Addr} {od8 an8 : Option Addr} {sl8 : Array (Option Value)} {oc8 kV8 dc8 pm8 cd8 ct8 : Value}
    {f9 : Addr} {od9 an9 : Option Addr} {sl9 : Array (Option Value)} {oc9 kV9 dc9 pm9 cd9 ct9 : Value}
    {f10 : Addr} {od10 an10 : Option Addr} {sl10 : Array (Option Value)} {oc10 kV10 dc10 pm10 cd10 ct10 : Value}
    {f11 : Addr} {od11 an11 : Option Addr} {sl11 : Array (Option Value)} {oc11 kV11 dc11 pm11 cd11 ct11 : Value}
    {f12 : Addr} {od12 an12 : Option Addr} {sl12 : Array (Option Value)} {oc12 kV12 dc12 pm12 cd12 ct12 : Value}
    {f13 : Addr} {od13 an13 : Option Addr} {sl13 : Array (Option Value)} {oc13 kV13 dc13 pm13 cd13 ct13 : Value}
    {f14 : Addr} {od14 an14 : Option Addr} {sl14 : Array (Option Value)} {oc14 kV14 dc14 pm14 cd14 ct14 : Value}
    {f15 : Addr} {od15 an15 : Option Addr} {sl15 : Array (Option Value)} {oc15 kV15 dc15 pm15 cd15 ct15 : Value}
    {f16 : Addr} {od16 an16 : Option Addr} {sl16 : Array (Option Value)} {oc16 kV16 dc16 pm16 cd16 ct16 : Value}
    {f17 : Addr} {od17 an17 : Option Addr} {sl17 : Array (Option Value)} {oc17 kV17 dc17 pm17 cd17 ct17 : Value}
    {f18 : Addr} {od18 an18 : Option Addr} {sl18 : Array (Option Value)} {oc18 kV18 dc18 pm18 cd18 ct18 : Value}
    {f19 : Addr} {od19 an19 : Option Addr} {sl19 : Array (Option Value)} {oc19 kV19 dc19 pm19 cd19 ct19 : Value}
    {f20 : Addr} {od20 an20 : Option Addr} {sl20 : Array (Option Value)} {oc20 kV20 dc20 pm20 cd20 ct20 : Value}
    {f21 : Addr} {od21 an21 : Option Addr} {sl21 : Array (Option Value)} {oc21 kV21 dc21 pm21 cd21 ct21 : Value}
    {f22 : Addr} {od22 an22 : Option Addr} {sl22 : Array (Option Value)} {oc22 kV22 dc22 pm22 cd22 ct22 : Value}
    {f23 : Addr} {od23 an23 : Option Addr} {sl23 : Array (Option Value)} {oc23 kV23 dc23 pm23 cd23 ct23 : Value}
    {f24 : Addr} {od24 an24 : Option Addr} {sl24 : Array (Option Value)} {oc24 kV24 dc24 pm24 cd24 ct24 : Value}
    {nm_c1 qn_c1 : Str} {N_c1 : Addr} {bs_c1 bm_c1 sub_c1 : List Value} {sn_c1 : List Str} {ab_c1 : Bool} {col_c1 : Option Bool} {dd_c1 : Option Addr} {k0_c1 k1_c1 k2_c1 k3_c1 k5_c1 : Option Value}
    {fic1 : Addr} {odc1 anc1 : Option Addr} {slc1 : Array (Option Value)} {occ1 kVc1 dcc1 pmc1 cdc1 ctc1 : Value}
    {nm_c2 qn_c2 : Str} {N_c2 : Addr} {bs_c2 bm_c2 sub_c2 : List Value} {sn_c2 : List Str} {ab_c2 : Bool} {col_c2 : Option Bool} {dd_c2 : Option Addr} {k0_c2 k1_c2 k2_c2 k3_c2 k5_c2 : Option Value}
    {fic2 : Addr} {odc2 anc2 : Option Addr} {slc2 : Array (Option Value)} {occ2 kVc2 dcc2 pmc2 cdc2 ctc2 : Value}
    (X : K.In h) (G : h.Ns mainGlobals mg) (hfa : mg "law" = some (.ref fa))
    (ac0 : PySem.W.nsIn K mainGlobals "CacheError" = some (some (.ref c0)))
    (ac1 : PySem.W.nsIn K mainGlobals "InvalidLine" = some (some (.ref c1)))
    (ac2 : PySem.W.nsIn K mainGlobals "InvalidNumber" = some (some (.ref c2)))
    (ac3 : PySem.W.nsIn K mainGlobals "InvalidItem" = some (some (.ref c3)))
    (z_bool : PySem.W.nsIn K mainGlobals "bool" = some none)
    (z_enumerate : PySem.W.nsIn K mainGlobals "enumerate" = some none)
    (z_int : PySem.W.nsIn K mainGlobals "int" = some none)
    (z_isinstance : PySem.W.nsIn K mainGlobals "isinstance" = some none)
    (z_len : PySem.W.nsIn K mainGlobals "len" = some none)
    (z_list : PySem.W.nsIn K mainGlobals "list" = some none)
    (z_range : PySem.W.nsIn K mainGlobals "range" = some none)
    (z_reversed : PySem.W.nsIn K mainGlobals "reversed" = some none)
    (z_sorted : PySem.W.nsIn K mainGlobals "sorted" = some none)
    (z_sum : PySem.W.nsIn K mainGlobals "sum" = some none)
    (z_tuple : PySem.W.nsIn K mainGlobals "tuple" = some none)
    (c_MOST_COUNTED : PySem.W.nsIn K mainGlobals "MOST_COUNTED" = some (some (.int 60 tk_MOST_COUNTED)))
    (c_MOST_SLOTS : PySem.W.nsIn K mainGlobals "MOST_SLOTS" = some (some (.int 6 tk_MOST_SLOTS)))
    (t_KINDS : PySem.W.nsIn K mainGlobals "KINDS" = some (some (.ref qKINDS)))
    (tl_KINDS : K.lookup qKINDS = some ⟨.type "tuple", td_KINDS, .seq #[.str "hit" tk_KINDS0, .str "load" tk_KINDS1] tn_KINDS, ts_KINDS⟩)
    (at0 : PySem.W.nsIn K mainGlobals "is_integer" = some (some (.ref f0)))
    (l0 : K.lookup f0 = some ⟨oc0, od0, .func (PySem.W.fnOf "is_integer" "is_integer" (defArgs s_is_integer) (defBody s_is_integer) (defScope s_is_integer) .none kV0 dc0 pm0 an0 cd0 ct0), sl0⟩)
    (co0 : PySem.W.codeIn K cd0 "is_integer" = true)
    (kp0 : PySem.W.keepIn K (.ref f0) = true)
    (at1 : PySem.W.nsIn K mainGlobals "is_place" = some (some (.ref f1)))
    (l1 : K.lookup f1 = some ⟨oc1, od1, .func (PySem.W.fnOf "is_place" "is_place" (defArgs s_is_place) (defBody s_is_place) (defScope s_is_place) .none kV1 dc1 pm1 an1 cd1 ct1), sl1⟩)
    (co1 : PySem.W.codeIn K cd1 "is_place" = true)
    (kp1 : PySem.W.keepIn K (.ref f1) = true)
    (at2 : PySem.W.nsIn K mainGlobals "is_line" = some (some (.ref f2)))
    (l2 : K.lookup f2 = some ⟨oc2, od2, .func (PySem.W.fnOf "is_line" "is_line" (defArgs s_is_line) (defBody s_is_line) (defScope s_is_line) .none kV2 dc2 pm2 an2 cd2 ct2), sl2⟩)
    (co2 : PySem.W.codeIn K cd2 "is_line" = true)
    (kp2 : PySem.W.keepIn K (.ref f2) = true)
    (at3 : PySem.W.nsIn K mainGlobals "checked_lines" = some (some (.ref f3)))
    (l3 : K.lookup f3 = some ⟨oc3, od3, .func (PySem.W.fnOf "checked_lines" "checked_lines" (defArgs s_checked_lines) (defBody s_checked_lines) (defScope s_checked_lines) .none kV3 dc3 pm3 an3 cd3 ct3), sl3⟩)
    (co3 : PySem.W.codeIn K cd3 "checked_lines" = true)
    (kp3 : PySem.W.keepIn K (.ref f3) = true)
    (at4 : PySem.W.nsIn K mainGlobals "checked_number" = some (some (.ref f4)))
    (l4 : K.lookup f4 = some ⟨oc4, od4, .func (PySem.W.fnOf "checked_number" "checked_number" (defArgs s_checked_number) (defBody s_checked_number) (defScope s_checked_number) (.ref t4) kV4 dc4 pm4 an4 cd4 ct4), sl4⟩)
    (co4 : PySem.W.codeIn K cd4 "checked_number" = true)
    (kp4 : PySem.W.keepIn K (.ref f4) = true)
    (lt4 : K.lookup t4 = some ⟨tc4, td4, .seq #[.none] tn4, ts4⟩)
    (at5 : PySem.W.nsIn K mainGlobals "partings" = some (some (.ref f5)))
    (l5 : K.lookup f5 = some ⟨oc5, od5, .func (PySem.W.fnOf "partings" "partings" (defArgs s_partings) (defBody s_partings) (defScope s_partings) .none kV5 dc5 pm5 an5 cd5 ct5), sl5⟩)
    (co5 : PySem.W.codeIn K cd5 "partings" = true)
    (kp5 : PySem.W.keepIn K (.ref f5) = true)
    (at6 : PySem.W.nsIn K mainGlobals "last_side" = some (some (.ref f6)))
    (l6 : K.lookup f6 = some ⟨oc6, od6, .func (PySem.W.fnOf "last_side" "last_side" (defArgs s_last_side) (defBody s_last_side) (defScope s_last_side) .none kV6 dc6 pm6 an6 cd6 ct6), sl6⟩)
    (co6 : PySem.W.codeIn K cd6 "last_side" = true)
    (kp6 : PySem.W.keepIn K (.ref f6) = true)
    (at7 : PySem.W.nsIn K mainGlobals "victims_over" = some (some (.ref f7)))
    (l7 : K.lookup f7 = some ⟨oc7, od7, .func (PySem.W.fnOf "victims_over" "victims_over" (defArgs s_victims_over) (defBody s_victims_over) (defScope s_victims_over) .none kV7 dc7 pm7 an7 cd7 ct7), sl7⟩)
    (co7 : PySem.W.codeIn K cd7 "victims_over" = true)
    (kp7 : PySem.W.keepIn K (.ref f7) = true)
    (at8 : PySem.W.nsIn K mainGlobals "tree_total" = some (some (.ref f8)))
    (l8 : K.lookup f8 = some ⟨oc8, od8, .func (PySem.W.fnOf "tree_total" "tree_total" (defArgs s_tree_total) (defBody s_tree_total) (defScope s_tree_total) .none kV8 dc8 pm8 an8 cd8 ct8), sl8⟩)
    (co8 : PySem.W.codeIn K cd8 "tree_total" = true)
    (kp8 : PySem.W.keepIn K (.ref f8) = true)
    (at9 : PySem.W.nsIn K mainGlobals "rank_counts" = some (some (.ref f9)))
    (l9 : K.lookup f9 = some ⟨oc9, od9, .func (PySem.W.fnOf "rank_counts" "rank_counts" (defArgs s_rank_counts) (defBody s_rank_counts) (defScope s_rank_counts) .none kV9 dc9 pm9 an9 cd9 ct9), sl9⟩)
    (co9 : PySem.W.codeIn K cd9 "rank_counts" = true)
    (kp9 : PySem.W.keepIn K (.ref f9) = true)
    (at10 : PySem.W.nsIn K mainGlobals "next_victims" = some (some (.ref f10)))
    (l10 : K.lookup f10 = some ⟨oc10, od10, .func (PySem.W.fnOf "next_victims" "next_victims" (defArgs s_next_victims) (defBody s_next_victims) (defScope s_next_victims) .none kV10 dc10 pm10 an10 cd10 ct10), sl10⟩)
    (co10 : PySem.W.codeIn K cd10 "next_victims" = true)
    (kp10 : PySem.W.keepIn K (.ref f10) = true)
    (at11 : PySem.W.nsIn K mainGlobals "_law_is_integer" = some (some (.ref f11)))
    (l11 : K.lookup f11 = some ⟨oc11, od11, .func (PySem.W.fnOf "_law_is_integer" "_law_is_integer" (defArgs s_l_is_integer) (defBody s_l_is_integer) (defScope s_l_is_integer) .none kV11 dc11 pm11 an11 cd11 ct11), sl11⟩)
    (co11 : PySem.W.codeIn K cd11 "_law_is_integer" = true)
    (kp11 : PySem.W.keepIn K (.ref f11) = true)
    (at12 : PySem.W.nsIn K mainGlobals "_law_box" = some (some (.ref f12)))
    (l12 : K.lookup f12 = some ⟨oc12, od12, .func (PySem.W.fnOf "_law_box" "_law_box" (defArgs s_l_box) (defBody s_l_box) (defScope s_l_box) .none kV12 dc12 pm12 an12 cd12 ct12), sl12⟩)
    (co12 : PySem.W.codeIn K cd12 "_law_box" = true)
    (kp12 : PySem.W.keepIn K (.ref f12) = true)
    (at13 : PySem.W.nsIn K mainGlobals "_law_draw" = some (some (.ref f13)))
    (l13 : K.lookup f13 = some ⟨oc13, od13, .func (PySem.W.fnOf "_law_draw" "_law_draw" (defArgs s_l_draw) (defBody s_l_draw) (defScope s_l_draw) .none kV13 dc13 pm13 an13 cd13 ct13), sl13⟩)
    (co13 : PySem.W.codeIn K cd13 "_law_draw" = true)
    (kp13 : PySem.W.keepIn K (.ref f13) = true)
    (at14 : PySem.W.nsIn K mainGlobals "_law_all_trees" = some (some (.ref f14)))
    (l14 : K.lookup f14 = some ⟨oc14, od14, .func (PySem.W.fnOf "_law_all_trees" "_law_all_trees" (defArgs s_l_all_trees) (defBody s_l_all_trees) (defScope s_l_all_trees) .none kV14 dc14 pm14 an14 cd14 ct14), sl14⟩)
    (co14 : PySem.W.codeIn K cd14 "_law_all_trees" = true)
    (kp14 : PySem.W.keepIn K (.ref f14) = true)
    (at15 : PySem.W.nsIn K mainGlobals "_law_half" = some (some (.ref f15)))
    (l15 : K.lookup f15 = some ⟨oc15, od15, .func (PySem.W.fnOf "_law_half" "_law_half" (defArgs s_l_half) (defBody s_l_half) (defScope s_l_half) .none kV15 dc15 pm15 an15 cd15 ct15), sl15⟩)
    (co15 : PySem.W.codeIn K cd15 "_law_half" = true)
    (kp15 : PySem.W.keepIn K (.ref f15) = true)
    (at16 : PySem.W.nsIn K mainGlobals "_law_victim" = some (some (.ref f16)))
    (l16 : K.lookup f16 = some ⟨oc16, od16, .func (PySem.W.fnOf "_law_victim" "_law_victim" (defArgs s_l_victim) (defBody s_l_victim) (defScope s_l_victim) .none kV16 dc16 pm16 an16 cd16 ct16), sl16⟩)
    (co16 : PySem.W.codeIn K cd16 "_law_victim" = true)
    (kp16 : PySem.W.keepIn K (.ref f16) = true)
    (at17 : PySem.W.nsIn K mainGlobals "_law_order" = some (some (.ref f17)))
    (l17 : K.lookup f17 = some ⟨oc17, od17, .func (PySem.W.fnOf "_law_order" "_law_order" (defArgs s_l_order) (defBody s_l_order) (defScope s_l_order) .none kV17 dc17 pm17 an17 cd17 ct17), sl17⟩)
    (co17 : PySem.W.codeIn K cd17 "_law_order" = true)
    (kp17 : PySem.W.keepIn K (.ref f17) = true)
    (at18 : PySem.W.nsIn K mainGlobals "_law_by_listing" = some (some (.ref f18)))
    (l18 : K.lookup f18 = some ⟨oc18, od18, .func (PySem.W.fnOf "_law_by_listing" "_law_by_listing" (defArgs s_l_by_listing) (defBody s_l_by_listing) (defScope s_l_by_listing) .none kV18 dc18 pm18 an18 cd18 ct18), sl18⟩)
    (co18 : PySem.W.codeIn K cd18 "_law_by_listing" = true)
    (kp18 : PySem.W.keepIn K (.ref f18) = true)
    (at19 : PySem.W.nsIn K mainGlobals "_law_by_depths" = some (some (.ref f19)))
    (l19 : K.lookup f19 = some ⟨oc19, od19, .func (PySem.W.fnOf "_law_by_depths" "_law_by_depths" (defArgs s_l_by_depths) (defBody s_l_by_depths) (defScope s_l_by_depths) .none kV19 dc19 pm19 an19 cd19 ct19), sl19⟩)
    (co19 : PySem.W.codeIn K cd19 "_law_by_depths" = true)
    (kp19 : PySem.W.keepIn K (.ref f19) = true)
    (at20 : PySem.W.nsIn K mainGlobals "_law_same" = some (some (.ref f20)))
    (l20 : K.lookup f20 = some ⟨oc20, od20, .func (PySem.W.fnOf "_law_same" "_law_same" (defArgs s_l_same) (defBody s_l_same) (defScope s_l_same) .none kV20 dc20 pm20 an20 cd20 ct20), sl20⟩)
    (co20 : PySem.W.codeIn K cd20 "_law_same" = true)
    (kp20 : PySem.W.keepIn K (.ref f20) = true)
    (at21 : PySem.W.nsIn K mainGlobals "_law_holds" = some (some (.ref f21)))
    (l21 : K.lookup f21 = some ⟨oc21, od21, .func (PySem.W.fnOf "_law_holds" "_law_holds" (defArgs s_l_holds) (defBody s_l_holds) (defScope s_l_holds) .none kV21 dc21 pm21 an21 cd21 ct21), sl21⟩)
    (co21 : PySem.W.codeIn K cd21 "_law_holds" = true)
    (kp21 : PySem.W.keepIn K (.ref f21) = true)
    (at22 : PySem.W.nsIn K mainGlobals "_law_refusal" = some (some (.ref f22)))
    (l22 : K.lookup f22 = some ⟨oc22, od22, .func (PySem.W.fnOf "_law_refusal" "_law_refusal" (defArgs s_l_refusal) (defBody s_l_refusal) (defScope s_l_refusal) .none kV22 dc22 pm22 an22 cd22 ct22), sl22⟩)
    (co22 : PySem.W.codeIn K cd22 "_law_refusal" = true)
    (kp22 : PySem.W.keepIn K (.ref f22) = true)
    (at23 : PySem.W.nsIn K mainGlobals "_law_refuses" = some (some (.ref f23)))
    (l23 : K.lookup f23 = some ⟨oc23, od23, .func (PySem.W.fnOf "_law_refuses" "_law_refuses" (defArgs s_l_refuses) (defBody s_l_refuses) (defScope s_l_refuses) .none kV23 dc23 pm23 an23 cd23 ct23), sl23⟩)
    (co23 : PySem.W.codeIn K cd23 "_law_refuses" = true)
    (kp23 : PySem.W.keepIn K (.ref f23) = true)
    (at24 : PySem.W.nsIn K mainGlobals "law" = some (some (.ref f24)))
    (l24 : K.lookup f24 = some ⟨oc24, od24, .func (PySem.W.fnOf "law" "law" (defArgs s_law) (defBody s_law) (defScope s_law) .none kV24 dc24 pm24 an24 cd24 ct24), sl24⟩)
    (co24 : PySem.W.codeIn K cd24 "law" = true)
    (kp24 : PySem.W.keepIn K (.ref f24) = true)
    (x_c1 : K.lookup c1 = some (excClassObj nm_c1 qn_c1 c1 N_c1 bs_c1 bm_c1 true sn_c1 sub_c1 ab_c1 col_c1 dd_c1 k0_c1 k1_c1 k2_c1 k3_c1 k5_c1 "ValueError.__new__"))
    (rv_c1 : PySem.HandSPX.refsVE bm_c1 = true)
    (sa_c1 : PySem.W.findIn K (.ref c1) "__setattr__" = some (some (.builtin "object.__setattr__")))
    (ex_c1 : PySem.W.subIn K (.ref c1) (.type "BaseException") = some true)
    (ty_c1 : PySem.W.typeIn K (.ref c1) = some (.type "type"))
    (kc_c1 : PySem.W.keepIn K (.ref c1) = true)
    (ga_c1 : PySem.W.findIn K (.ref c1) "__getattribute__" = some (some (.builtin "BaseException.__getattribute__")))
    (gg_c1 : PySem.W.findIn K (.ref c1) "__getattr__" = some none)
    (hd_c1 : PySem.W.hasDictIn K c1 = true)
    (ha_c1 : PySem.W.findIn K (.ref c1) "__class__" = some (some (.builtin "object.__class__")))
    (hn_c1 : PySem.W.specialIn K (.builtin "object.__class__") "__get__" = some (some (.builtin "getset_descriptor.__get__")))
    (ht_c1 : PySem.W.takesIn K (.builtin "object.__class__") = some true)
    (hm_c1 : PySem.W.mroIn K c1 (.type "object") = some true)
    (no_c1 : PySem.W.findIn K (.ref c1) "index" = some none)
    (fi_c1 : PySem.W.findIn K (.ref c1) "__init__" = some (some (.ref fic1)))
    (ft_c1 : PySem.W.typeIn K (.ref fic1) = some (.type "function"))
    (fl_c1 : K.lookup fic1 = some ⟨occ1, odc1, .func (PySem.W.fnOf "__init__" "InvalidLine.__init__" (defArgs s_InvalidLine_init) (defBody s_InvalidLine_init) (defScope s_InvalidLine_init) .none kVc1 dcc1 pmc1 anc1 cdc1 ctc1), slc1⟩)
    (fc_c1 : PySem.W.codeIn K cdc1 "InvalidLine.__init__" = true)
    (fk_c1 : PySem.W.keepIn K (.ref fic1) = true)
    (x_c2 : K.lookup c2 = some (excClassObj nm_c2 qn_c2 c2 N_c2 bs_c2 bm_c2 true sn_c2 sub_c2 ab_c2 col_c2 dd_c2 k0_c2 k1_c2 k2_c2 k3_c2 k5_c2 "ValueError.__new__"))
    (rv_c2 : PySem.HandSPX.refsVE bm_c2 = true)
    (sa_c2 : PySem.W.findIn K (.ref c2) "__setattr__" = some (some (.builtin "object.__setattr__")))
    (ex_c2 : PySem.W.subIn K (.ref c2) (.type "BaseException") = some true)
    (ty_c2 : PySem.W.typeIn K (.ref c2) = some (.type "type"))
    (kc_c2 : PySem.W.keepIn K (.ref c2) = true)
    (ga_c2 : PySem.W.findIn K (.ref c2) "__getattribute__" = some (some (.builtin "BaseException.__getattribute__")))
    (gg_c2 : PySem.W.findIn K (.ref c2) "__getattr__" = some none)
    (hd_c2 : PySem.W.hasDictIn K c2 = true)
    (ha_c2 : PySem.W.findIn K (.ref c2) "__class__" = some (some (.builtin "object.__class__")))
    (hn_c2 : PySem.W.specialIn K (.builtin "object.__class__") "__get__" = some (some (.builtin "getset_descriptor.__get__")))
    (ht_c2 : PySem.W.takesIn K (.builtin "object.__class__") = some true)
    (hm_c2 : PySem.W.mroIn K c2 (.type "object") = some true)
    (no_c2 : PySem.W.findIn K (.ref c2) "number" = some none)
    (fi_c2 : PySem.W.findIn K (.ref c2) "__init__" = some (some (.ref fic2)))
    (ft_c2 : PySem.W.typeIn K (.ref fic2) = some (.type "function"))
    (fl_c2 : K.lookup fic2 = some ⟨occ2, odc2, .func (PySem.W.fnOf "__init__" "InvalidNumber.__init__" (defArgs s_InvalidNumber_init) (defBody s_InvalidNumber_init) (defScope s_InvalidNumber_init) .none kVc2 dcc2 pmc2 anc2 cdc2 ctc2), slc2⟩)
    (fc_c2 : PySem.W.codeIn K cdc2 "InvalidNumber.__init__" = true)
    (fk_c2 : PySem.W.keepIn K (.ref fic2) = true)
    (kx : PySem.W.exmOne K (.ref c2) (.ref c2) = some true)
    (kk1 : PySem.W.kitOne K (.ref c2) (.ref c3) = some false)
    (kk2 : PySem.W.kitOne K (.ref c2) (.ref c0) = some true)
    : ∃ fd : FuncData, (∀ (s : Shared) (v : Value), BindsTo s fd ⟨[v], []⟩ [("_law_script", v)]) ∧ ∀ base : Heap, K.In base → base.Ns mainGlobals mg → FnOk l.prog w K mg base (L2.CX l.prog w) l_law fa fd ["_law_script"] (p_law K (Ads.mk c0 c1 c2 c3 qKINDS)) := by
  have e := hfa.symm.trans (PySem.W.mg_of X G at24)
  cases e
  refine ⟨PySem.W.fnOf "law" "law" (defArgs s_law) (defBody s_law) (defScope s_law) .none kV24 dc24 pm24 an24 cd24 ct24, fun s v => .of_eq rfl, fun base _ _ => ?_⟩
  have Oc1 : OexC K c1 := ⟨⟨_, _, _, _, _, _, _, _, _, _, _, _, _, _, _, x_c1, rv_c1⟩, sa_c1, ex_c1, ty_c1, kc_c1⟩
  have Ic1 := fun_mk (st := s_InvalidLine_init) fl_c1 fc_c1 fk_c1
  have e_InvalidLine : ErrC l.prog w K mg base "InvalidLine" "index" c1 := ⟨Oc1, ⟨ga_c1, gg_c1, ex_c1, hd_c1⟩, ⟨ga_c1, gg_c1, ex_c1, hd_c1, ha_c1, hn_c1, ht_c1, hm_c1⟩, no_c1, PySem.W.mg_of X G ac1, _, _, fi_c1, ft_c1, ini_InvalidLine Oc1 no_c1 Ic1, Ic1.binds (ps := ["self", "index"]) fun _ _ _ _ _ _ us hl => match us, hl with | [_, _], _ => rfl⟩
  have Oc2 : OexC K c2 := ⟨⟨_, _, _, _, _, _, _, _, _, _, _, _, _, _, _, x_c2, rv_c2⟩, sa_c2, ex_c2, ty_c2, kc_c2⟩
  have Ic2 := fun_mk (st := s_InvalidNumber_init) fl_c2 fc_c2 fk_c2
  have e_InvalidNumber : ErrC l.prog w K mg base "InvalidNumber" "number" c2 := ⟨Oc2, ⟨ga_c2, gg_c2, ex_c2, hd_c2⟩, ⟨ga_c2, gg_c2, ex_c2, hd_c2, ha_c2, hn_c2, ht_c2, hm_c2⟩, no_c2, PySem.W.mg_of X G ac2, _, _, fi_c2, ft_c2, ini_InvalidNumber Oc2 no_c2 Ic2, Ic2.binds (ps := ["self", "number"]) fun _ _ _ _ _ _ us hl => match us, hl with | [_, _], _ => rfl⟩
  have G0 : Env l.prog w K mg base (Ads.mk c0 c1 c2 c3 qKINDS) := ⟨PySem.W.mg_none_of X G z_bool, PySem.W.mg_none_of X G z_enumerate, PySem.W.mg_none_of X G z_int, PySem.W.mg_none_of X G z_isinstance, PySem.W.mg_none_of X G z_len, PySem.W.mg_none_of X G z_list, PySem.W.mg_none_of X G z_range, PySem.W.mg_none_of X G z_reversed, PySem.W.mg_none_of X G z_sorted, PySem.W.mg_none_of X G z_sum, PySem.W.mg_none_of X G z_tuple, PySem.W.mg_of X G ac0, PySem.W.mg_of X G ac3, PySem.W.mg_of X G ac1, PySem.W.mg_of X G ac2, PySem.W.mg_of X G t_KINDS, ⟨_, PySem.W.mg_of X G c_MOST_COUNTED⟩, ⟨_, PySem.W.mg_of X G c_MOST_SLOTS⟩, e_InvalidLine, e_InvalidNumber⟩
  have T : Kit K (Ads.mk c0 c1 c2 c3 qKINDS) := ⟨fun H => .inr ⟨_, _, _, tl_KINDS, rfl, rfl, (show 2 ≤ sizeLine by decide), .cons ⟨_, rfl⟩ (.cons ⟨_, rfl⟩ .nil)⟩, e_InvalidNumber.isc, kx, kk1, kk2⟩
  have F0 := fun_mk (st := s_is_integer) l0 co0 kp0
  have O0 : FnOk l.prog w K mg base (L2.CX l.prog w) l_is_integer f0 _ ["value"] (p_is_integer K (Ads.mk c0 c1 c2 c3 qKINDS)) := ok_is_integer G0  F0
  have T_is_integer : DefC l.prog w K mg base "is_integer" ["value"] l_is_integer [] (p_is_integer K (Ads.mk c0 c1 c2 c3 qKINDS)) := ⟨_, _, [], PySem.W.mg_of X G at0, kp0, O0, .nil, F0.binds (ps := ["value"]) fun _ _ _ _ _ _ us hl => match us, hl with | [_], _ => rfl⟩
  have F1 := fun_mk (st := s_is_place) l1 co1 kp1
  have O1 : FnOk l.prog w K mg base (L2.CX l.prog w) l_is_place f1 _ ["many", "value"] (p_is_place K (Ads.mk c0 c1 c2 c3 qKINDS)) := ok_is_place G0 T_is_integer F1
  have T_is_place : DefC l.prog w K mg base "is_place" ["many", "value"] l_is_place [] (p_is_place K (Ads.mk c0 c1 c2 c3 qKINDS)) := ⟨_, _, [], PySem.W.mg_of X G at1, kp1, O1, .nil, F1.binds (ps := ["many", "value"]) fun _ _ _ _ _ _ us hl => match us, hl with | [_, _], _ => rfl⟩
  have F2 := fun_mk (st := s_is_line) l2 co2 kp2
  have O2 : FnOk l.prog w K mg base (L2.CX l.prog w) l_is_line f2 _ ["many", "value"] (p_is_line K (Ads.mk c0 c1 c2 c3 qKINDS)) := ok_is_line G0 T T_is_place F2
  have T_is_line : DefC l.prog w K mg base "is_line" ["many", "value"] l_is_line [] (p_is_line K (Ads.mk c0 c1 c2 c3 qKINDS)) := ⟨_, _, [], PySem.W.mg_of X G at2, kp2, O2, .nil, F2.binds (ps := ["many", "value"]) fun _ _ _ _ _ _ us hl => match us, hl with | [_, _], _ => rfl⟩
  have F3 := fun_mk (st := s_checked_lines) l3 co3 kp3
  have O3 : FnOk l.prog w K mg base (L2.CX l.prog w) l_checked_lines f3 _ ["many", "run"] (p_checked_lines K (Ads.mk c0 c1 c2 c3 qKINDS)) := ok_checked_lines G0 T_is_line F3
  have T_checked_lines : DefC l.prog w K mg base "checked_lines" ["many", "run"] l_checked_lines [] (p_checked_lines K (Ads.mk c0 c1 c2 c3 qKINDS)) := ⟨_, _, [], PySem.W.mg_of X G at3, kp3, O3, .nil, F3.binds (ps := ["many", "run"]) fun _ _ _ _ _ _ us hl => match us, hl with | [_, _], _ => rfl⟩
  have F4 : FunD K "checked_number" "checked_number" (defArgs s_checked_number) (defBody s_checked_number) (defScope s_checked_number) [.non] [] f4 _ := ⟨⟨_, _, _, _, _, _, _, _, _, _, rfl, l4, co4, .inr ⟨(fun q => nomatch q), t4, _, [.none], _, rfl, lt4, rfl, (.cons rfl .nil)⟩, .inl rfl⟩, kp4⟩
  have O4 : FnOk l.prog w K mg base (L2.CX l.prog w) l_checked_number f4 _ ["number", "least", "most"] (p_checked_number K (Ads.mk c0 c1 c2 c3 qKINDS)) := ok_checked_number G0 T_is_integer F4
  obtain ⟨ds4, dv4, db4⟩ := FunD.binds1 (ps := ["number", "least", "most"]) F4 3 1 (fun q => nomatch q) rfl fun _ _ _ _ _ _ _ us its hu hi => match us, its, hu, hi with | [_, _, _], [_], _, _ => ⟨_, rfl, rfl⟩
  have T_checked_number : DefC l.prog w K mg base "checked_number" ["number", "least", "most"] l_checked_number [] (p_checked_number K (Ads.mk c0 c1 c2 c3 qKINDS)) := ⟨_, _, ds4, PySem.W.mg_of X G at4, kp4, O4, dv4, db4⟩
  have F5 := fun_mk (st := s_partings) l5 co5 kp5
  have O5 : FnOk l.prog w K mg base (L2.CX l.prog w) l_partings f5 _ ["members"] (p_partings K (Ads.mk c0 c1 c2 c3 qKINDS)) := ok_partings G0  F5
  have T_partings : DefC l.prog w K mg base "partings" ["members"] l_partings [] (p_partings K (Ads.mk c0 c1 c2 c3 qKINDS)) := ⟨_, _, [], PySem.W.mg_of X G at5, kp5, O5, .nil, F5.binds (ps := ["members"]) fun _ _ _ _ _ _ us hl => match us, hl with | [_], _ => rfl⟩
  have F6 := fun_mk (st := s_last_side) l6 co6 kp6
  have O6 : FnOk l.prog w K mg base (L2.CX l.prog w) l_last_side f6 _ ["run", "left", "right"] (p_last_side K (Ads.mk c0 c1 c2 c3 qKINDS)) := ok_last_side G0  F6
  have T_last_side : DefC l.prog w K mg base "last_side" ["run", "left", "right"] l_last_side [] (p_last_side K (Ads.mk c0 c1 c2 c3 qKINDS)) := ⟨_, _, [], PySem.W.mg_of X G at6, kp6, O6, .nil, F6.binds (ps := ["run", "left", "right"]) fun _ _ _ _ _ _ us hl => match us, hl with | [_, _, _], _ => rfl⟩
  have F7 := fun_mk (st := s_victims_over) l7 co7 kp7
  have O7 : FnOk l.prog w K mg base (L2.CX l.prog w) (l_victims_over + 6) f7 _ ["members", "run"] (p_victims_over K (Ads.mk c0 c1 c2 c3 qKINDS) 6) := ok_victims_over G0 T_last_side T_partings F7 (PySem.W.mg_of X G at7) kp7 6
  have T_victims_over : DefC l.prog w K mg base "victims_over" ["members", "run"] (l_victims_over + 6) [] (p_victims_over K (Ads.mk c0 c1 c2 c3 qKINDS) 6) := ⟨_, _, [], PySem.W.mg_of X G at7, kp7, O7, .nil, F7.binds (ps := ["members", "run"]) fun _ _ _ _ _ _ us hl => match us, hl with | [_, _], _ => rfl⟩
  have F8 := fun_mk (st := s_tree_total) l8 co8 kp8
  have O8 : FnOk l.prog w K mg base (L2.CX l.prog w) l_tree_total f8 _ ["slots"] (p_tree_total K (Ads.mk c0 c1 c2 c3 qKINDS)) := ok_tree_total G0 T_checked_number F8
  have T_tree_total : DefC l.prog w K mg base "tree_total" ["slots"] l_tree_total [] (p_tree_total K (Ads.mk c0 c1 c2 c3 qKINDS)) := ⟨_, _, [], PySem.W.mg_of X G at8, kp8, O8, .nil, F8.binds (ps := ["slots"]) fun _ _ _ _ _ _ us hl => match us, hl with | [_], _ => rfl⟩
  have F9 := fun_mk (st := s_rank_counts) l9 co9 kp9
  have O9 : FnOk l.prog w K mg base (L2.CX l.prog w) l_rank_counts f9 _ ["slots"] (p_rank_counts K (Ads.mk c0 c1 c2 c3 qKINDS)) := ok_rank_counts G0 T_checked_number F9
  have T_rank_counts : DefC l.prog w K mg base "rank_counts" ["slots"] l_rank_counts [] (p_rank_counts K (Ads.mk c0 c1 c2 c3 qKINDS)) := ⟨_, _, [], PySem.W.mg_of X G at9, kp9, O9, .nil, F9.binds (ps := ["slots"]) fun _ _ _ _ _ _ us hl => match us, hl with | [_], _ => rfl⟩
  have F10 := fun_mk (st := s_next_victims) l10 co10 kp10
  have O10 : FnOk l.prog w K mg base (L2.CX l.prog w) l_next_victims f10 _ ["slots", "run"] (p_next_victims K (Ads.mk c0 c1 c2 c3 qKINDS)) := ok_next_victims G0 T_checked_lines T_checked_number T_victims_over F10
  have T_next_victims : DefC l.prog w K mg base "next_victims" ["slots", "run"] l_next_victims [] (p_next_victims K (Ads.mk c0 c1 c2 c3 qKINDS)) := ⟨_, _, [], PySem.W.mg_of X G at10, kp10, O10, .nil, F10.binds (ps := ["slots", "run"]) fun _ _ _ _ _ _ us hl => match us, hl with | [_, _], _ => rfl⟩
  have F11 := fun_mk (st := s_l_is_integer) l11 co11 kp11
  have O11 : FnOk l.prog w K mg base (L2.CX l.prog w) l_l_is_integer f11 _ ["_law_value"] (p_l_is_integer K (Ads.mk c0 c1 c2 c3 qKINDS)) := ok_l_is_integer G0  F11
  have T_l_is_integer : DefC l.prog w K mg base "_law_is_integer" ["_law_value"] l_l_is_integer [] (p_l_is_integer K (Ads.mk c0 c1 c2 c3 qKINDS)) := ⟨_, _, [], PySem.W.mg_of X G at11, kp11, O11, .nil, F11.binds (ps := ["_law_value"]) fun _ _ _ _ _ _ us hl => match us, hl with | [_], _ => rfl⟩
  have F12 := fun_mk (st := s_l_box) l12 co12 kp12
  have O12 : FnOk l.prog w K mg base (L2.CX l.prog w) l_l_box f12 _ ["_law_script"] (p_l_box K (Ads.mk c0 c1 c2 c3 qKINDS)) := ok_l_box G0  F12
  have T_l_box : DefC l.prog w K mg base "_law_box" ["_law_script"] l_l_box [] (p_l_box K (Ads.mk c0 c1 c2 c3 qKINDS)) := ⟨_, _, [], PySem.W.mg_of X G at12, kp12, O12, .nil, F12.binds (ps := ["_law_script"]) fun _ _ _ _ _ _ us hl => match us, hl with | [_], _ => rfl⟩
  have F13 := fun_mk (st := s_l_draw) l13 co13 kp13
  have O13 : FnOk l.prog w K mg base (L2.CX l.prog w) l_l_draw f13 _ ["_law_box_here", "_law_many"] (p_l_draw K (Ads.mk c0 c1 c2 c3 qKINDS)) := ok_l_draw G0  F13
  have T_l_draw : DefC l.prog w K mg base "_law_draw" ["_law_box_here", "_law_many"] l_l_draw [] (p_l_draw K (Ads.mk c0 c1 c2 c3 qKINDS)) := ⟨_, _, [], PySem.W.mg_of X G at13, kp13, O13, .nil, F13.binds (ps := ["_law_box_here", "_law_many"]) fun _ _ _ _ _ _ us hl => match us, hl with | [_, _], _ => rfl⟩
  have F14 := fun_mk (st := s_l_all_trees) l14 co14 kp14
  have O14 : FnOk l.prog w K mg base (L2.CX l.prog w) l_l_all_trees f14 _ ["_law_many"] (p_l_all_trees K (Ads.mk c0 c1 c2 c3 qKINDS)) := ok_l_all_trees G0  F14
  have T_l_all_trees : DefC l.prog w K mg base "_law_all_trees" ["_law_many"] l_l_all_trees [] (p_l_all_trees K (Ads.mk c0 c1 c2 c3 qKINDS)) := ⟨_, _, [], PySem.W.mg_of X G at14, kp14, O14, .nil, F14.binds (ps := ["_law_many"]) fun _ _ _ _ _ _ us hl => match us, hl with | [_], _ => rfl⟩
  have F15 := fun_mk (st := s_l_half) l15 co15 kp15
  have O15 : FnOk l.prog w K mg base (L2.CX l.prog w) l_l_half f15 _ ["_law_groups", "_law_node"] (p_l_half K (Ads.mk c0 c1 c2 c3 qKINDS)) := ok_l_half G0  F15
  have T_l_half : DefC l.prog w K mg base "_law_half" ["_law_groups", "_law_node"] l_l_half [] (p_l_half K (Ads.mk c0 c1 c2 c3 qKINDS)) := ⟨_, _, [], PySem.W.mg_of X G at15, kp15, O15, .nil, F15.binds (ps := ["_law_groups", "_law_node"]) fun _ _ _ _ _ _ us hl => match us, hl with | [_, _], _ => rfl⟩
  have F16 := fun_mk (st := s_l_victim) l16 co16 kp16
  have O16 : FnOk l.prog w K mg base (L2.CX l.prog w) l_l_victim f16 _ ["_law_groups", "_law_order_here", "_law_many"] (p_l_victim K (Ads.mk c0 c1 c2 c3 qKINDS)) := ok_l_victim G0 T_l_half F16
  have T_l_victim : DefC l.prog w K mg base "_law_victim" ["_law_groups", "_law_order_here", "_law_many"] l_l_victim [] (p_l_victim K (Ads.mk c0 c1 c2 c3 qKINDS)) := ⟨_, _, [], PySem.W.mg_of X G at16, kp16, O16, .nil, F16.binds (ps := ["_law_groups", "_law_order_here", "_law_many"]) fun _ _ _ _ _ _ us hl => match us, hl with | [_, _, _], _ => rfl⟩
  have F17 := fun_mk (st := s_l_order) l17 co17 kp17
  have O17 : FnOk l.prog w K mg base (L2.CX l.prog w) l_l_order f17 _ ["_law_box_here", "_law_many"] (p_l_order K (Ads.mk c0 c1 c2 c3 qKINDS)) := ok_l_order G0 T_l_draw F17
  have T_l_order : DefC l.prog w K mg base "_law_order" ["_law_box_here", "_law_many"] l_l_order [] (p_l_order K (Ads.mk c0 c1 c2 c3 qKINDS)) := ⟨_, _, [], PySem.W.mg_of X G at17, kp17, O17, .nil, F17.binds (ps := ["_law_box_here", "_law_many"]) fun _ _ _ _ _ _ us hl => match us, hl with | [_, _], _ => rfl⟩
  have F18 := fun_mk (st := s_l_by_listing) l18 co18 kp18
  have O18 : FnOk l.prog w K mg base (L2.CX l.prog w) l_l_by_listing f18 _ ["_law_order_here", "_law_many"] (p_l_by_listing K (Ads.mk c0 c1 c2 c3 qKINDS)) := ok_l_by_listing G0 T_l_all_trees T_l_victim F18
  have T_l_by_listing : DefC l.prog w K mg base "_law_by_listing" ["_law_order_here", "_law_many"] l_l_by_listing [] (p_l_by_listing K (Ads.mk c0 c1 c2 c3 qKINDS)) := ⟨_, _, [], PySem.W.mg_of X G at18, kp18, O18, .nil, F18.binds (ps := ["_law_order_here", "_law_many"]) fun _ _ _ _ _ _ us hl => match us, hl with | [_, _], _ => rfl⟩
  have F19 := fun_mk (st := s_l_by_depths) l19 co19 kp19
  have O19 : FnOk l.prog w K mg base (L2.CX l.prog w) l_l_by_depths f19 _ ["_law_many"] (p_l_by_depths K (Ads.mk c0 c1 c2 c3 qKINDS)) := ok_l_by_depths G0  F19
  have T_l_by_depths : DefC l.prog w K mg base "_law_by_depths" ["_law_many"] l_l_by_depths [] (p_l_by_depths K (Ads.mk c0 c1 c2 c3 qKINDS)) := ⟨_, _, [], PySem.W.mg_of X G at19, kp19, O19, .nil, F19.binds (ps := ["_law_many"]) fun _ _ _ _ _ _ us hl => match us, hl with | [_], _ => rfl⟩
  have F20 := fun_mk (st := s_l_same) l20 co20 kp20
  have O20 : FnOk l.prog w K mg base (L2.CX l.prog w) l_l_same f20 _ ["_law_answer", "_law_due"] (p_l_same K (Ads.mk c0 c1 c2 c3 qKINDS)) := ok_l_same G0 T_l_is_integer F20
  have T_l_same : DefC l.prog w K mg base "_law_same" ["_law_answer", "_law_due"] l_l_same [] (p_l_same K (Ads.mk c0 c1 c2 c3 qKINDS)) := ⟨_, _, [], PySem.W.mg_of X G at20, kp20, O20, .nil, F20.binds (ps := ["_law_answer", "_law_due"]) fun _ _ _ _ _ _ us hl => match us, hl with | [_, _], _ => rfl⟩
  have F21 := fun_mk (st := s_l_holds) l21 co21 kp21
  have O21 : FnOk l.prog w K mg base (L2.CX l.prog w) l_l_holds f21 _ ["_law_many", "_law_due"] (p_l_holds K (Ads.mk c0 c1 c2 c3 qKINDS)) := ok_l_holds G0 T_l_is_integer T_l_same T_rank_counts T_tree_total F21
  have T_l_holds : DefC l.prog w K mg base "_law_holds" ["_law_many", "_law_due"] l_l_holds [] (p_l_holds K (Ads.mk c0 c1 c2 c3 qKINDS)) := ⟨_, _, [], PySem.W.mg_of X G at21, kp21, O21, .nil, F21.binds (ps := ["_law_many", "_law_due"]) fun _ _ _ _ _ _ us hl => match us, hl with | [_, _], _ => rfl⟩
  have F22 := fun_mk (st := s_l_refusal) l22 co22 kp22
  have O22 : FnOk l.prog w K mg base (L2.CX l.prog w) l_l_refusal f22 _ ["_law_door", "_law_number"] (p_l_refusal K (Ads.mk c0 c1 c2 c3 qKINDS)) := ok_l_refusal G0 T T_rank_counts T_tree_total F22
  have T_l_refusal : DefC l.prog w K mg base "_law_refusal" ["_law_door", "_law_number"] l_l_refusal [] (p_l_refusal K (Ads.mk c0 c1 c2 c3 qKINDS)) := ⟨_, _, [], PySem.W.mg_of X G at22, kp22, O22, .nil, F22.binds (ps := ["_law_door", "_law_number"]) fun _ _ _ _ _ _ us hl => match us, hl with | [_, _], _ => rfl⟩
  have F23 := fun_mk (st := s_l_refuses) l23 co23 kp23
  have O23 : FnOk l.prog w K mg base (L2.CX l.prog w) l_l_refuses f23 _ ["_law_box_here"] (p_l_refuses K (Ads.mk c0 c1 c2 c3 qKINDS)) := ok_l_refuses G0 T_l_draw T_l_refusal F23
  have T_l_refuses : DefC l.prog w K mg base "_law_refuses" ["_law_box_here"] l_l_refuses [] (p_l_refuses K (Ads.mk c0 c1 c2 c3 qKINDS)) := ⟨_, _, [], PySem.W.mg_of X G at23, kp23, O23, .nil, F23.binds (ps := ["_law_box_here"]) fun _ _ _ _ _ _ us hl => match us, hl with | [_], _ => rfl⟩
  have F24 := fun_mk (st := s_law) l24 co24 kp24
  have O24 : FnOk l.prog w K mg base (L2.CX l.prog w) l_law fa _ ["_law_script"] (p_law K (Ads.mk c0 c1 c2 c3 qKINDS)) := ok_law G0 T_l_box T_l_by_depths T_l_by_listing T_l_draw T_l_holds T_l_order T_l_refuses T_l_same T_next_victims F24
  exact O24
theorem walk {l : PySem.W.OpenLaw} {q : Program} {loose : List Str} {XP : (Str → Option Value) → Heap → Prop} {YP : World → Heap → Prop} {d : DefRec} {K : Params → PySem.W.Frag} (hn : l.most = some 63) (hdf : d.params.defaults = [])
    (hY : ∀ (w : World) (h : Heap), YP w h → (K w.params).In h)
    (F : ∀ (w : World) (mg : Str → Option Value) (fa : Addr) (h : Heap), (K w.params).In h → h.Ns mainGlobals mg → mg d.name = some (.ref fa) →
      ∃ fd : FuncData, (∀ (s : Shared) (u : Value), BindsTo s fd ⟨[u], []⟩ [("_law_script", u)]) ∧ ∀ base : Heap, (K w.params).In base → base.Ns mainGlobals mg → FnOk l.prog w (K w.params) mg base (L2.CX l.prog w) l_law fa fd ["_law_script"] (spC (ct_law (K w.params)))) :
    PySem.W.WalkO q loose XP YP l.row.toRowW d [] (fun f vs => PySem.call f vs) :=
  L2.walk_of (n := 63) (k := l_law) (x := "_law_script") (CX := fun w => L2.CX l.prog w) (sp := fun w => spC (ct_law (K w.params))) hn (by decide) hdf ⟨rfl, by decide, by decide⟩ hY F
    (fun _ _ a ns hl _ hS => ⟨(a, ns), ⟨rfl, hS⟩, fun _ _ q => q, fun _ _ _ q => q.elim⟩)
    fun _ _ _ _ _ z => by
      obtain ⟨_, _, _, _, _, _, _, _, _, _, _, _, z⟩ := z
      exact z.elim
end LW
open PySem PySem.W PyProof.Rows
set_option maxRecDepth 100000 in
set_option maxHeartbeats 0 in
theorem PySem.Challenge.cw_lastside_k45_rank_counts_holds : PySem.Challenge.rw_lastside_k45_rank_counts.Holds := by
  w_on; o_law; k_head; (case hw => w_witness2)
  k_fill
  refine LW.walk (l := PySem.Challenge.rw_lastside_k45_rank_counts) rfl rfl (fun w h Y => PySem.W.kIn_of Y) ?F
  case F =>
    intro w mg fa h KX G hmg
    refine' LW.all_mk KX G hmg ?ac0 ?ac1 ?ac2 ?ac3 ?z_bool ?z_enumerate ?z_int ?z_isinstance ?z_len ?z_list ?z_range ?z_reversed ?z_sorted ?z_sum ?z_tuple ?c_MOST_COUNTED ?c_MOST_SLOTS ?t_KINDS ?tl_KINDS ?at0 ?l0 ?co0 ?kp0 ?at1 ?l1 ?co1 ?kp1 ?at2 ?l2 ?co2 ?kp2 ?at3 ?l3 ?co3 ?kp3 ?at4 ?l4 ?co4 ?kp4 ?lt4 ?at5 ?l5 ?co5 ?kp5 ?at6 ?l6 ?co6 ?kp6 ?at7 ?l7 ?co7 ?kp7 ?at8 ?l8 ?co8 ?kp8 ?at9 ?l9 ?co9 ?kp9 ?at10 ?l10 ?co10 ?kp10 ?at11 ?l11 ?co11 ?kp11 ?at12 ?l12 ?co12 ?kp12 ?at13 ?l13 ?co13 ?kp13 ?at14 ?l14 ?co14 ?kp14 ?at15 ?l15 ?co15 ?kp15 ?at16 ?l16 ?co16 ?kp16 ?at17 ?l17 ?co17 ?kp17 ?at18 ?l18 ?co18 ?kp18 ?at19 ?l19 ?co19 ?kp19 ?at20 ?l20 ?co20 ?kp20 ?at21 ?l21 ?co21 ?kp21 ?at22 ?l22 ?co22 ?kp22 ?at23 ?l23 ?co23 ?kp23 ?at24 ?l24 ?co24 ?kp24 ?x_c1 ?rv_c1 ?sa_c1 ?ex_c1 ?ty_c1 ?kc_c1 ?ga_c1 ?gg_c1 ?hd_c1 ?ha_c1 ?hn_c1 ?ht_c1 ?hm_c1 ?no_c1 ?fi_c1 ?ft_c1 ?fl_c1 ?fc_c1 ?fk_c1 ?x_c2 ?rv_c2 ?sa_c2 ?ex_c2 ?ty_c2 ?kc_c2 ?ga_c2 ?gg_c2 ?hd_c2 ?ha_c2 ?hn_c2 ?ht_c2 ?hm_c2 ?no_c2 ?fi_c2 ?ft_c2 ?fl_c2 ?fc_c2 ?fk_c2 ?kx ?kk1 ?kk2
    (case ac0 => k_is)
    (case ac1 => k_is)
    (case ac2 => k_is)
    (case ac3 => k_is)
    (case z_bool => k_is)
    (case z_enumerate => k_is)
    (case z_int => k_is)
    (case z_isinstance => k_is)
    (case z_len => k_is)
    (case z_list => k_is)
    (case z_range => k_is)
    (case z_reversed => k_is)
    (case z_sorted => k_is)
    (case z_sum => k_is)
    (case z_tuple => k_is)
    (case c_MOST_COUNTED => k_is)
    (case c_MOST_SLOTS => k_is)
    (case t_KINDS => k_is)
    (case tl_KINDS => k_is)
    (case at0 => k_is)
    (case l0 => k_is)
    (case co0 => k_is)
    (case kp0 => k_is)
    (case at1 => k_is)
    (case l1 => k_is)
    (case co1 => k_is)
    (case kp1 => k_is)
    (case at2 => k_is)
    (case l2 => k_is)
    (case co2 => k_is)
    (case kp2 => k_is)
    (case at3 => k_is)
    (case l3 => k_is)
    (case co3 => k_is)
    (case kp3 => k_is)
    (case at4 => k_is)
    (case l4 => k_is)
    (case co4 => k_is)
    (case kp4 => k_is)
    (case lt4 => k_is)
    (case at5 => k_is)
    (case l5 => k_is)
    (case co5 => k_is)
    (case kp5 => k_is)
    (case at6 => k_is)
    (case l6 => k_is)
    (case co6 => k_is)
    (case kp6 => k_is)
    (case at7 => k_is)
    (case l7 => k_is)
    (case co7 => k_is)
    (case kp7 => k_is)
    (case at8 => k_is)
    (case l8 => k_is)
    (case co8 => k_is)
    (case kp8 => k_is)
    (case at9 => k_is)
    (case l9 => k_is)
    (case co9 => k_is)
    (case kp9 => k_is)
    (case at10 => k_is)
    (case l10 => k_is)
    (case co10 => k_is)
    (case kp10 => k_is)
    (case at11 => k_is)
    (case l11 => k_is)
    (case co11 => k_is)
    (case kp11 => k_is)
    (case at12 => k_is)
    (case l12 => k_is)
    (case co12 => k_is)
    (case kp12 => k_is)
    (case at13 => k_is)
    (case l13 => k_is)
    (case co13 => k_is)
    (case kp13 => k_is)
    (case at14 => k_is)
    (case l14 => k_is)
    (case co14 => k_is)
    (case kp14 => k_is)
    (case at15 => k_is)
    (case l15 => k_is)
    (case co15 => k_is)
    (case kp15 => k_is)
    (case at16 => k_is)
    (case l16 => k_is)
    (case co16 => k_is)
    (case kp16 => k_is)
    (case at17 => k_is)
    (case l17 => k_is)
    (case co17 => k_is)
    (case kp17 => k_is)
    (case at18 => k_is)
    (case l18 => k_is)
    (case co18 => k_is)
    (case kp18 => k_is)
    (case at19 => k_is)
    (case l19 => k_is)
    (case co19 => k_is)
    (case kp19 => k_is)
    (case at20 => k_is)
    (case l20 => k_is)
    (case co20 => k_is)
    (case kp20 => k_is)
    (case at21 => k_is)
    (case l21 => k_is)
    (case co21 => k_is)
    (case kp21 => k_is)
    (case at22 => k_is)
    (case l22 => k_is)
    (case co22 => k_is)
    (case kp22 => k_is)
    (case at23 => k_is)
    (case l23 => k_is)
    (case co23 => k_is)
    (case kp23 => k_is)
    (case at24 => k_is)
    (case l24 => k_is)
    (case co24 => k_is)
    (case kp24 => k_is)
    (case x_c1 => k_is)
    (case rv_c1 => decide +kernel)
    (case sa_c1 => k_is)
    (case ex_c1 => k_is)
    (case ty_c1 => k_is)
    (case kc_c1 => k_is)
    (case ga_c1 => k_is)
    (case gg_c1 => k_is)
    (case hd_c1 => k_is)
    (case ha_c1 => k_is)
    (case hn_c1 => k_is)
    (case ht_c1 => k_is)
    (case hm_c1 => k_is)
    (case no_c1 => k_is)
    (case fi_c1 => k_is)
    (case ft_c1 => k_is)
    (case fl_c1 => k_is)
    (case fc_c1 => k_is)
    (case fk_c1 => k_is)
    (case x_c2 => k_is)
    (case rv_c2 => decide +kernel)
    (case sa_c2 => k_is)
    (case ex_c2 => k_is)
    (case ty_c2 => k_is)
    (case kc_c2 => k_is)
    (case ga_c2 => k_is)
    (case gg_c2 => k_is)
    (case hd_c2 => k_is)
    (case ha_c2 => k_is)
    (case hn_c2 => k_is)
    (case ht_c2 => k_is)
    (case hm_c2 => k_is)
    (case no_c2 => k_is)
    (case fi_c2 => k_is)
    (case ft_c2 => k_is)
    (case fl_c2 => k_is)
    (case fc_c2 => k_is)
    (case fk_c2 => k_is)
    (case kx => kernel_rfl)
    (case kk1 => kernel_rfl)
    (case kk2 => kernel_rfl)
