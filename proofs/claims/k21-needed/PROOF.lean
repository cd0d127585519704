import PyProof.Rows.All
import Wide.All
import OpenK.AllK
import Wide.FinOn
import HandS.ForMost
import HandS.Flow
import HandS.IsInst
import HandS.Exc
import HandS.ExcInit
import HandS.ExcOwn
import HandS.WordsExc
import HandS.ExcIs
import HandS.ExcField
import HandS.TryMany
import HandS.CallSlots
import HandS.Defaults
import HandS.SetFor
import HandS.StrMore
import HandS.Gcd
import KE.KMathGC
import KE.KIsAll
import KE.KTryMore
import HandS.TupAny
import HandS.Rev
import HandS.Conv
import HandS.More
import HandS.Property
import HandS.New
import HandS.SortOrd
import HandS.SortRule
import HandS.Text
import HandS.RaiseMore
import OpenK.KOps
import PyProof.Draws
import PyProof.StrBlock2
import PyProof.CallFns
import PyProof.ReprRoads
import HandS.Ends
import HandS.Dict
import PyProof.ListStr
import PySem.Challenge.RW_lastside_k21_whole_needed
set_option Elab.async false
set_option linter.all false
set_option maxRecDepth 100000
set_option maxHeartbeats 4000000
namespace PySem.W
open PySem PySem.Spec PySem.Calls PyProof.Rows
section
variable {prog : Program} {w : World} {A : Around} {E : Value → Shared → Prop} {s : Shared} {K : Frag} {x D : Addr} {ox : Obj} {od : Option Obj}
theorem sy_findObj {C : Addr} {name : Str} {a g : Value} (hc : (clsIn K C).isSome = true) (ha : findIn K (.ref C) name = some (some a)) (hg : specialIn K a "__get__" = some (some g)) (ht : takesIn K a = some true) : findObj K C od name = some (.bind g a) := by
  obtain ⟨cd, hc⟩ := Option.isSome_iff_exists.mp hc
  unfold findObj
  rw [hc, Option.bind_some, ha, Option.bind_some]
  simp [hg, ht]
/-- __class__ of an own error that has its dict -/
theorem sy_classE {Q : Option Value → Shared → Prop} (hga : findIn K (.ref D) "__getattribute__" = some (some (.builtin "BaseException.__getattribute__"))) (hgt : findIn K (.ref D) "__getattr__" = some none) (hsub : subIn K (.ref D) (.type "BaseException") = some true)
    (hdct : hasDictIn K D = true) (ha : findIn K (.ref D) "__class__" = some (some (.builtin "object.__class__")))
    (hn : specialIn K (.builtin "object.__class__") "__get__" = some (some (.builtin "getset_descriptor.__get__"))) (htk : takesIn K (.builtin "object.__class__") = some true) (hm : mroIn K D (.type "object") = some true)
    (X : K.In s.heap) (I : InstAt s.heap x ox D od) (h : Q (some (.ref D)) { s with toks := s.toks + 1 }) : wpAny (model prog w) A (getAttr? (.ref x) "__class__") Q E s := by
  have hf : findObj K D od "__class__" = some (.bind (.builtin "getset_descriptor.__get__") (.builtin "object.__class__")) := sy_findObj (by obtain ⟨cd, hc, _⟩ := any_some hdct; rw [hc]; rfl) ha hn htk
  obtain ⟨hp, g, d, t, os⟩ := s
  have L0 := I.type (M := model prog w)
  have L1 := looks_findIn (M := model prog w) X hga
  have L2 := looks_findIn (M := model prog w) X hgt
  have L3 := looks_find (M := model prog w) X I hf
  have sub : Looks (model prog w) hp (isInstance (.ref x) (.type "BaseException")) true := L0.andThen (looks_subIn X hsub)
  have hx0 : (false && onTheHeap (Value.builtin "BaseException.__getattribute__")) = false := rfl
  have hx2 : (Value.builtin "BaseException.__getattribute__" == Value.builtin "object.__getattribute__") = false := by decide +kernel
  have hx1 : (onTheHeap (Value.ref D) && Value.builtin "BaseException.__getattribute__" == Value.builtin "object.__getattribute__") = false := by rw [hx2]; rfl
  unfold getAttr? getAttrBy? getAttrBy
  refine wpAny_bind (wpAny_mkText (wpAny_bind (wpAny_attempt (wpAny_holding (wpAny_bind (L0.at (wpAny_bind (L1.at ?_))))))))
  show wpAny _ _ (if (onTheHeap (Value.ref D) && Value.builtin "BaseException.__getattribute__" == Value.builtin "object.__getattribute__") = true then _ else _) _ _ _
  rw [hx1, if_neg Bool.false_ne_true]
  unfold getAttrByItsOwn hookBefore
  refine wpAny_bind ?_
  rw [if_pos (show onTheHeap (Value.ref D) = true from rfl)]
  refine L2.at ?_
  refine wpAny_bind (wpAny_attempt (wpAny_holding ?_))
  unfold callGetattribute
  rw [hx0, if_neg Bool.false_ne_true]
  unfold boundAndCalled
  rw [PySem.F.excAttr_ValueError.ga.bind (.ref x)]
  refine wpAny_bind (wpAny_pure ?_)
  show wpAny _ _ (call (.builtin "BaseException.__getattribute__") [.ref x, .str "__class__" t]) _ _ _
  refine wpAny_call (codeAny_call_builtin PySem.F.excAttr_ValueError.ga.plain PySem.F.entry_bexc_ga ?_)
  refine @check_slot (model prog w) _ _ ⟨hp, g, d, t + 1, os⟩ "BaseException.__getattribute__" "BaseException" "__getattribute__" (.ref x) [.str "__class__" t] [] _ (by decide +kernel) (by decide +kernel) sub (PySem.F.args_bexc_ga (.ref x) (.str "__class__" t)) ?_
  unfold Builtin.«object.__getattribute__»
  refine wpAny_bind (wpAny_of_eq (a := ((Value.ref x : Value), [Value.str "__class__" t])) (by first | rfl | (simp only [slotArgs]; rfl)) ?_)
  refine wpAny_bind (wpAny_pure (wpAny_bind (L0.at (wpAny_bind (L3.at ?_)))))
  show wpAny _ _ (holding [Value.builtin "object.__class__"] (call (.builtin "getset_descriptor.__get__") [.builtin "object.__class__", .ref x, .ref D]) >>= ret) _ _ _
  refine wpAny_bind (wpAny_holding (wpAny_call (class_get (s := ⟨hp, g, d, t + 1, os⟩) (ox := ox) (od := od) X I hm ?_)))
  refine wpAny_pure ?_
  show wpAny _ _ (handedOut (.ref D)) _ _ _
  rw [handedOut_of (v := .ref D) rfl]
  first
    | exact wpAny_pure (wpAny_pure h)
    | exact wpAny_pure h
    | exact wpAny_pure (wpAny_bind (wpAny_pure (wpAny_pure h)))
theorem sy_kitx (hga : findIn K (.ref D) "__getattribute__" = some (some (.builtin "BaseException.__getattribute__"))) (hgt : findIn K (.ref D) "__getattr__" = some none) (hsub : subIn K (.ref D) (.type "BaseException") = some true) (hdct : hasDictIn K D = true) (ha : findIn K (.ref D) "__class__" = some (some (.builtin "object.__class__")))
    (hn : specialIn K (.builtin "object.__class__") "__get__" = some (some (.builtin "getset_descriptor.__get__"))) (htk : takesIn K (.builtin "object.__class__") = some true) (hm : mroIn K D (.type "object") = some true) :
    KitX K (.ref x) (.ref D) (fun h => InstAt h x ox D od) where
  ty := fun _ _ _ I => I.type
  it := fun _ _ X _ => by
    obtain ⟨cdD, hcD, _⟩ := any_some hdct
    unfold clsIn at hcD
    split at hcD
    · rename_i c' d' cd' sl' ho
      intro A' Q' E' s' k q
      unfold isType loadHead
      exact wpAny_bind (wpAny_loadPart (k _ _ (X _ _ ho)) (wpAny_pure q))
    · cases hcD
  ne := fun h tp dd its n sl X htp => by
    obtain ⟨cdD, hcD, _⟩ := any_some hdct
    refine Bool.eq_false_iff.mpr fun q => ?_
    have e : D = tp := Value.ref.inj (beq_iff_eq.mp q)
    subst e
    unfold clsIn at hcD
    split at hcD
    · rename_i c' d' cd' sl' ho
      have z := (X _ _ ho).symm.trans htp
      cases z
    · cases hcD
  ca := fun X I k => sy_classE hga hgt hsub hdct ha hn htk hm X I k
end
end PySem.W
/-! A layer of our own: readings over a symbolic heap. What stands at known addresses is a written list; the rest is a frame. -/
namespace SY
open PySem L2

/-! ### the symbolic heap -/
/-- F: what stands and stays; G: the objects that are known one by one -/
structure SH where
  F : Hp
  G : List (Addr × HO)
structure Own (S : SH) (H : Hp) : Prop where
  fr : ∀ a o, S.F a = some o → H a = some o
  gs : ∀ p, p ∈ S.G → H p.1 = some p.2 ∧ S.F p.1 = none
  nd : (S.G.map (·.1)).Nodup
abbrev SH.new (S : SH) (p : Addr) (o : HO) : SH := ⟨S.F, (p, o) :: S.G⟩
abbrev SH.put (S : SH) (i : Nat) (p : Addr) (o : HO) : SH := ⟨S.F, S.G.set i (p, o)⟩
def Ext (H H' : Hp) : Prop := ∀ a o, H a = some o → H' a = some o
theorem Ext.refl (H : Hp) : Ext H H := fun _ _ h => h
theorem Ext.trans {H H1 H2 : Hp} (a : Ext H H1) (b : Ext H1 H2) : Ext H H2 := fun x o h => b x o (a x o h)
theorem Ext.new {H : Hp} {p : Addr} {o : HO} (h : H p = none) : Ext H (upd H p o) := fun a u e => by
  rw [upd_ne (ne_of_none e h)]
  exact e
theorem ext_rd {H H' : Hp} {a : Addr} {u : HO} (e : Ext H H') (h : Rd H a u) : Rd H' a u := by
  rcases h with h | ⟨o, h⟩
  · exact Or.inl (e a _ h)
  · exact Or.inr ⟨o, e a _ h⟩
theorem ext_l {K : PySem.W.Frag} {H H' : Hp} {a : Addr} {xs : List V} (e : Ext H H') (h : SqL K H a xs) : SqL K H' a xs := by
  rcases h with h | h
  · exact Or.inl (ext_rd e h)
  · exact Or.inr h
theorem ext_t {K : PySem.W.Frag} {H H' : Hp} {a : Addr} {xs : List V} (e : Ext H H') (h : SqT K H a xs) : SqT K H' a xs := by
  rcases h with h | h
  · exact Or.inl (ext_rd e h)
  · exact Or.inr h
theorem Own.ex {S : SH} {H H' : Hp} (h : Own S H) (e : Ext H H') : Own S H' := ⟨fun a o q => e a o (h.fr a o q), fun p q => ⟨e _ _ (h.gs p q).1, (h.gs p q).2⟩, h.nd⟩
theorem Own.base (H : Hp) : Own ⟨H, []⟩ H := ⟨fun _ _ q => q, fun _ q => (nomatch q), List.nodup_nil⟩
theorem Own.f_none {S : SH} {H : Hp} (h : Own S H) {p : Addr} (hp : H p = none) : S.F p = none := by
  cases e : S.F p with
  | none => rfl
  | some o => rw [h.fr p o e] at hp; cases hp
theorem Own.g_none {S : SH} {H : Hp} (h : Own S H) {p : Addr} (hp : H p = none) : p ∉ S.G.map (·.1) := fun q => by
  obtain ⟨x, hx, e⟩ := List.mem_map.mp q
  rw [← e, (h.gs x hx).1] at hp
  cases hp
/-- a new object -/
theorem Own.new {S : SH} {H H' : Hp} (h : Own S H) {p : Addr} {o : HO} (hp : H p = none) (e : Ext H H') (hp' : H' p = some o) : Own (S.new p o) H' :=
  ⟨fun a u q => e a u (h.fr a u q), fun x q => by
    cases q with
    | head => exact ⟨hp', h.f_none hp⟩
    | tail _ q => exact ⟨e _ _ (h.gs x q).1, (h.gs x q).2⟩, List.nodup_cons.mpr ⟨h.g_none hp, h.nd⟩⟩
theorem Own.newU {S : SH} {H : Hp} (h : Own S H) {p : Addr} {o : HO} (hp : H p = none) : Own (S.new p o) (upd H p o) := h.new hp (Ext.new hp) upd_same
theorem Own.g {S : SH} {H : Hp} (h : Own S H) {i : Nat} {p : Addr} {o : HO} (q : S.G[i]? = some (p, o)) : H p = some o := (h.gs (p, o) (List.mem_of_getElem? q)).1
theorem set_fst {G : List (Addr × HO)} {i : Nat} {p : Addr} {o u : HO} (q : G[i]? = some (p, o)) : (G.set i (p, u)).map (·.1) = G.map (·.1) := by
  rw [List.map_set]
  refine List.ext_getElem? fun j => ?_
  by_cases e : i = j
  · subst e
    have hi := (List.getElem?_eq_some_iff.mp q).1
    rw [List.getElem?_set_self (by simpa using hi), List.getElem?_map, q]
    rfl
  · rw [List.getElem?_set_ne e]
theorem nodup_at {α : Type} {N : List α} (hN : N.Nodup) {i j : Nat} {x : α} (a : N[i]? = some x) (b : N[j]? = some x) : i = j := by
  obtain ⟨hi, ei⟩ := List.getElem?_eq_some_iff.mp a
  obtain ⟨hj, ej⟩ := List.getElem?_eq_some_iff.mp b
  have P := List.pairwise_iff_getElem.mp hN
  rcases Nat.lt_trichotomy i j with h | h | h
  · exact absurd (ei.trans ej.symm) (P i j hi hj h)
  · exact h
  · exact absurd (ej.trans ei.symm) (P j i hj hi h)
/-- a known object becomes another -/
theorem Own.put {S : SH} {H H' : Hp} (h : Own S H) {i : Nat} {p : Addr} {o u : HO} (q : S.G[i]? = some (p, o)) (k : ∀ b x, b ≠ p → H b = some x → H' b = some x) (hp : H' p = some u) : Own (S.put i p u) H' := by
  have hf : S.F p = none := (h.gs (p, o) (List.mem_of_getElem? q)).2
  have nd := h.nd
  refine ⟨fun a x e => k a x (fun z => by rw [z, hf] at e; cases e) (h.fr a x e), fun x hx => ?_, by rw [set_fst q]; exact nd⟩
  obtain ⟨j, hj, ej⟩ := List.mem_iff_getElem.mp hx
  by_cases e : i = j
  · subst e
    have ex : x = (p, u) := by rw [← ej, List.getElem_set_self]
    subst ex
    exact ⟨hp, hf⟩
  · have hj' : j < S.G.length := by rw [List.length_set] at hj; exact hj
    rw [List.getElem_set_ne e] at ej
    have hm : x ∈ S.G := by rw [← ej]; exact List.getElem_mem hj'
    have hne : x.1 ≠ p := fun z => by
      have hi := (List.getElem?_eq_some_iff.mp q).1
      have h1 : (S.G.map (·.1))[i]? = some p := by rw [List.getElem?_map, q]; rfl
      have h2 : (S.G.map (·.1))[j]? = some p := by rw [List.getElem?_map, List.getElem?_eq_getElem hj', ej]; exact congrArg some z
      exact e (nodup_at nd h1 h2)
    exact ⟨k _ _ hne (h.gs x hm).1, (h.gs x hm).2⟩
theorem Own.putU {S : SH} {H : Hp} (h : Own S H) {i : Nat} {p : Addr} {o u : HO} (q : S.G[i]? = some (p, o)) : Own (S.put i p u) (upd H p u) :=
  h.put q (fun b x hb e => by rw [upd_ne hb]; exact e) upd_same
/-- everything that is not at a is the frame -/
def without (H : Hp) (p : Addr) : Hp := fun b => if b = p then none else H b
theorem without_ne {H : Hp} {p b : Addr} (h : b ≠ p) : without H p b = H b := if_neg h
theorem without_same {H : Hp} {p : Addr} : without H p p = none := if_pos rfl
theorem Own.only {H : Hp} {p : Addr} {o : HO} (h : H p = some o) : Own ⟨without H p, [(p, o)]⟩ H := by
  refine ⟨fun a x e => ?_, fun x q => ?_, by simp⟩
  · by_cases ha : a = p
    · subst ha
      have e' : without H a a = some x := e
      rw [without_same] at e'
      cases e'
    · have e' : without H p a = some x := e
      rw [without_ne ha] at e'
      exact e'
  · have e : x = (p, o) := List.mem_singleton.mp q
    subst e
    exact ⟨h, without_same⟩

mutual
theorem dp_ext {K : PySem.W.Frag} {H H' : Hp} (e : Ext H H') : ∀ (d : PyData) (v : V), Dp K H v d → Dp K H' v d
  | .none, _, h => by cases h; exact .non
  | .bool b, _, h => by cases h; exact .bl b
  | .int i, _, h => by cases h; exact .int i
  | .str x, _, h => by cases h; exact .str x
  | .list ds, _, h => by
    cases h with
    | lst h1 h2 => exact .lst (ext_l e h1) (dpAll_ext e ds _ h2)
  | .tuple ds, _, h => by
    cases h with
    | tup h1 h2 => exact .tup (ext_t e h1) (dpAll_ext e ds _ h2)
  | .dict _, _, h => by cases h
theorem dpAll_ext {K : PySem.W.Frag} {H H' : Hp} (e : Ext H H') : ∀ (ds : List PyData) (vs : List V), DpAll K H vs ds → DpAll K H' vs ds
  | [], _, h => by cases h; exact .nil
  | d :: ds, _, h => by
    cases h with
    | cons h1 h2 => exact .cons (dp_ext e d _ h1) (dpAll_ext e ds _ h2)
end
/-- a list (tuple) that may be read -/
def sL (K : PySem.W.Frag) (S : SH) (a : Addr) (xs : List V) : Prop := (∃ i : Nat, S.G[i]? = some (a, .lst xs)) ∨ SqL K S.F a xs
def sU (K : PySem.W.Frag) (S : SH) (a : Addr) (xs : List V) : Prop := (∃ i : Nat, S.G[i]? = some (a, .tup xs)) ∨ SqT K S.F a xs
/-- what stands at a -/
def At (S : SH) (a : Addr) (o : HO) : Prop := (∃ i : Nat, S.G[i]? = some (a, o)) ∨ S.F a = some o
theorem rd_own {S : SH} {H : Hp} (h : Own S H) {a : Addr} {u : HO} (r : Rd S.F a u) : Rd H a u := by
  rcases r with r | ⟨o, r⟩
  · exact .inl (h.fr a _ r)
  · exact .inr ⟨o, h.fr a _ r⟩
theorem Own.l {K : PySem.W.Frag} {S : SH} {H : Hp} (h : Own S H) {a : Addr} {xs : List V} (q : sL K S a xs) : SqL K H a xs := by
  rcases q with ⟨i, q⟩ | q | q
  · exact .inl (.inl (h.g q))
  · exact .inl (rd_own h q)
  · exact .inr q
theorem Own.u {K : PySem.W.Frag} {S : SH} {H : Hp} (h : Own S H) {a : Addr} {xs : List V} (q : sU K S a xs) : SqT K H a xs := by
  rcases q with ⟨i, q⟩ | q | q
  · exact .inl (.inl (h.g q))
  · exact .inl (rd_own h q)
  · exact .inr q
theorem Own.at {S : SH} {H : Hp} (h : Own S H) {a : Addr} {o : HO} (q : At S a o) : H a = some o := by
  rcases q with ⟨i, q⟩ | q
  · exact h.g q
  · exact h.fr a o q

/-! ### readings -/
/-- the wish of exceptions -/
abbrev sWX := Value → Option Addr → St → SH → Prop
abbrev sE := sWX → St → SH → (V → SH → Prop) → Prop
abbrev sT := sWX → St → SH → (Bool → SH → Prop) → Prop
abbrev sA := sWX → St → SH → (List V → SH → Prop) → Prop
abbrev s2 := V → V → SH → (V → SH → Prop) → Prop
abbrev s1 := V → SH → (V → SH → Prop) → Prop
abbrev sN := List V → SH → (V → SH → Prop) → Prop
/-- Q' over the symbolic heap gives Q -/
def Imp {α : Type} (Q' : α → SH → Prop) (Q : α → Hp → Prop) : Prop := ∀ v S H, Own S H → Q' v S → Q v H
def ImpW (W' : sWX) (W : WX) : Prop := ∀ c d σ S H, Own S H → W' c d σ S → W c d σ H
def dE (W : WX) (t : sE) : TE := fun σ H Q => ∃ S Q' W', ImpW W' W ∧ Own S H ∧ t W' σ S Q' ∧ Imp Q' Q
def dT (W : WX) (t : sT) : TT := fun σ H Q => ∃ S Q' W', ImpW W' W ∧ Own S H ∧ t W' σ S Q' ∧ Imp Q' Q
def dA (W : WX) (t : sA) : TA := fun σ H Q => ∃ S Q' W', ImpW W' W ∧ Own S H ∧ t W' σ S Q' ∧ Imp Q' Q
theorem imp_self {α : Type} {Q' : α → SH → Prop} : Imp Q' (fun v H => ∃ S, Own S H ∧ Q' v S) := fun v S H o q => ⟨S, o, q⟩
structure sEnds where
  nx : St → SH → Prop
  rt : V → SH → Prop
  bk : St → SH → Prop := fun _ _ => False
  ct : St → SH → Prop := fun _ _ => False
  ex : sWX := fun _ _ _ _ => False
abbrev sS := sEnds → St → SH → Prop
structure EImp (W : WX) (D' : sEnds) (D : Ends) : Prop where
  nx : Imp D'.nx D.nx
  rt : Imp D'.rt D.rt
  bk : Imp D'.bk D.bk
  ct : Imp D'.ct D.ct
  ex : ImpW D'.ex W
def dS (W : WX) (t : sS) : TS := fun D σ H => ∃ S D', Own S H ∧ t D' σ S ∧ EImp W D' D
theorem imp_no {α : Type} {Q : α → Hp → Prop} : Imp (fun _ _ => False) Q := fun _ _ _ _ q => q.elim

section
variable {X : Cx} {W : WX}
theorem PE.by {e : Expr} {t t' : TE} (h : PE X e t) (k : ∀ σ H Q, t' σ H Q → t σ H Q) : PE X e t' := ⟨fun pins s σ H Q I q => h.run pins s σ H Q I (k σ H Q q)⟩
theorem PT.by {e : Expr} {t t' : TT} (h : PT X e t) (k : ∀ σ H Q, t' σ H Q → t σ H Q) : PT X e t' := ⟨fun pins s σ H Q I q => h.run pins s σ H Q I (k σ H Q q)⟩
theorem PW.by {e : Expr} {t t' : TT} (h : PW X e t) (k : ∀ σ H Q, t' σ H Q → t σ H Q) : PW X e t' := ⟨fun wh pins s σ H Q I q => h.run wh pins s σ H Q I (k σ H Q q)⟩
theorem PA.by {e : List Expr} {t t' : TA} (h : PA X e t) (k : ∀ σ H Q, t' σ H Q → t σ H Q) : PA X e t' := ⟨fun pos pins s σ H Q I q => h.run pos pins s σ H Q I (k σ H Q q)⟩
theorem PK.by {e : List Keyword} {t t' : TA} (h : PK X e t) (k : ∀ σ H Q, t' σ H Q → t σ H Q) : PK X e t' := ⟨fun pos pins s σ H Q I q => h.run pos pins s σ H Q I (k σ H Q q)⟩
theorem PS.by {e : Stmt} {t t' : TS} (h : PS X e t) (k : ∀ D σ H, t' D σ H → t D σ H) : PS X e t' := ⟨fun pins s σ H Q I q => h.run pins s σ H Q I (k _ _ _ q)⟩
theorem PSs.by {e : List Stmt} {t t' : TS} (h : PSs X e t) (k : ∀ D σ H, t' D σ H → t D σ H) : PSs X e t' := ⟨fun pins s σ H Q I q => h.run pins s σ H Q I (k _ _ _ q)⟩

/-! ### names and constants -/
def sVar (i : Nat) : sE := fun _ σ S Q => match σ[i]? with
  | some (some v) => Q v S
  | _ => False
def sC (v : V) : sE := fun _ _ S Q => Q v S
theorem gVar {i : Nat} {x : Str} {pos : Pos} (hN : X.N[i]? = some x) (hv : Vis X.env.scope x) (hd : (x == ("__debug__" : Str)) = false := by decide) (hcd : (x == ("__classdict__" : Str)) = false := by decide) : PE X (.Name x pos) (dE W (sVar i)) :=
  PE.by (pe_var hN hv hd hcd) fun σ H Q ⟨S, Q', W', kw, o, h, k⟩ => by
    unfold sVar at h
    unfold tVar
    split at h
    · rename_i v e
      exact ⟨v, e, k v S H o h⟩
    · exact h.elim
theorem gC_of {e : Expr} {v : V} (h : PE X e (tC v)) : PE X e (dE W (sC v)) := PE.by h fun σ H Q ⟨S, Q', W', kw, o, h, k⟩ => k v S H o h
theorem gInt {i j pos} : PE X (.Constant (.int i) j pos) (dE W (sC (.int i))) := gC_of pe_int
theorem gBl {b j pos} : PE X (.Constant (.bool b) j pos) (dE W (sC (.bl b))) := gC_of pe_bl
theorem gNon {j pos} : PE X (.Constant .none j pos) (dE W (sC .non)) := gC_of pe_non
theorem gStr {x j pos} : PE X (.Constant (.str x) j pos) (dE W (sC (.str x))) := gC_of pe_str

/-! ### operators -/
def sOp (r : s2) (ta tb : sE) : sE := fun W σ S Q => ta W σ S fun x S1 => tb W σ S1 fun y S2 => r x y S2 Q
def Lift2 (r : s2) (R : R2) : Prop := ∀ x y S Q' H Q, Own S H → r x y S Q' → Imp Q' Q → R x y H Q
theorem lift_op {r : s2} {R : R2} (l : Lift2 r R) {ta tb : sE} : ∀ σ H Q, dE W (sOp r ta tb) σ H Q → tOp R (dE W ta) (dE W tb) σ H Q := fun σ H Q ⟨S, Q', W', kw, o, h, k⟩ =>
  ⟨S, _, W', kw, o, h, fun x S1 H1 o1 h1 => ⟨S1, _, W', kw, o1, h1, fun y S2 H2 o2 h2 => l x y S2 Q' H2 Q o2 h2 k⟩⟩
variable {a b c : Expr} {ta tb tc : sE} {pos : Pos}
theorem gOp {op : Operator} {r : s2} {R : R2} (ho : OpR X (binaryOp op) R) (l : Lift2 r R) (ha : PE X a (dE W ta)) (hb : PE X b (dE W tb)) : PE X (.BinOp a op b pos) (dE W (sOp r ta tb)) :=
  PE.by (pe_op ho ha hb) (lift_op l)
theorem gCmp {op : CmpOp} {r : s2} {R : R2} (ho : OpR X (compareOp op) R) (l : Lift2 r R) (ha : PE X a (dE W ta)) (hb : PE X b (dE W tb)) (hm : behindInMarks op b = false) : PE X (.Compare a [op] [b] pos) (dE W (sOp r ta tb)) :=
  PE.by (pe_cmpR ho ha hb hm) (lift_op l)
def s1Op (r : s1) (ta : sE) : sE := fun W σ S Q => ta W σ S fun x S1 => r x S1 Q
def Lift1 (r : s1) (R : V → Hp → VK → Prop) : Prop := ∀ x S Q' H Q, Own S H → r x S Q' → Imp Q' Q → R x H Q
theorem gUn {op : UnaryOp} {r : s1} {R : V → Hp → VK → Prop} (ho : UnR X (unaryOp op) R) (l : Lift1 r R) (ha : PE X a (dE W ta)) : PE X (.UnaryOp op a pos) (dE W (s1Op r ta)) :=
  PE.by (pe_un ho ha) fun σ H Q ⟨S, Q', W', kw, o, h, k⟩ => ⟨S, _, W', kw, o, h, fun x S1 H1 o1 h1 => l x S1 Q' H1 Q o1 h1 k⟩

/-- + -/
def oAdd : s2 := fun x y S Q => match x, y with
  | .int i, .int j => Q (.int (i + j)) S
  | .str u, .str v => u.length + v.length ≤ sizeLine ∧ Q (.str (u ++ v)) S
  | .ref p, .ref q => ∃ xs ys, At S p (.lst xs) ∧ At S q (.lst ys) ∧ xs.length + ys.length ≤ sizeLine ∧ ∀ r, Q (.ref r) (S.new r (.lst (xs ++ ys)))
  | _, _ => False
theorem lAdd : Lift2 oAdd (fun x y H Q => (rI0 fun i j => .int (i + j)) x y H Q ∨ ((fun x y H Q => ∃ i j, x = .str i ∧ y = .str j ∧ i.length + j.length ≤ sizeLine ∧ Q (.str (i ++ j)) H) x y H Q ∨ rCat x y H Q)) := by
  intro x y S Q' H Q o h k
  unfold oAdd at h
  split at h
  · exact .inl ⟨_, _, rfl, rfl, k _ _ _ o h⟩
  · exact .inr (.inl ⟨_, _, rfl, rfl, h.1, k _ _ _ o h.2⟩)
  · obtain ⟨xs, ys, h1, h2, h3, h4⟩ := h
    exact .inr (.inr ⟨_, _, xs, ys, rfl, rfl, o.at h1, o.at h2, h3, fun p hp => k _ _ _ (o.newU hp) (h4 p)⟩)
  · exact h.elim
theorem gAdd (ha : PE X a (dE W ta)) (hb : PE X b (dE W tb)) : PE X (.BinOp a .Add b pos) (dE W (sOp oAdd ta tb)) := gOp (OpR.or op_add (OpR.or op_add_str op_cat)) lAdd ha hb
def oSub : s2 := fun x y S Q => match x, y with
  | .int i, .int j => Q (.int (i - j)) S
  | _, _ => False
theorem lSub : Lift2 oSub (rI0 fun i j => .int (i - j)) := by
  intro x y S Q' H Q o h k
  unfold oSub at h
  split at h
  · exact ⟨_, _, rfl, rfl, k _ _ _ o h⟩
  · exact h.elim
theorem gSub (ha : PE X a (dE W ta)) (hb : PE X b (dE W tb)) : PE X (.BinOp a .Sub b pos) (dE W (sOp oSub ta tb)) := gOp op_sub lSub ha hb
def sm64 (i : Int) : Prop := -(2 ^ 64) < i ∧ i < 2 ^ 64
def oMul : s2 := fun x y S Q => match x, y with
  | .int i, .int j => (sm64 i ∨ sm64 j) ∧ Q (.int (i * j)) S
  | .ref p, .int k => ∃ xs, At S p (.lst xs) ∧ (-(2 ^ 63) ≤ k ∧ k < 2 ^ 63) ∧ xs.length * k.toNat ≤ sizeLine ∧ ∀ r, Q (.ref r) (S.new r (.lst (List.replicate k.toNat xs).flatten))
  | _, _ => False
theorem lMul : Lift2 oMul (fun x y H Q => (rI CMul fun i j => .int (i * j)) x y H Q ∨ rRep x y H Q) := by
  intro x y S Q' H Q o h k
  unfold oMul at h
  split at h
  · exact .inl ⟨_, _, rfl, rfl, h.1, k _ _ _ o h.2⟩
  · obtain ⟨xs, h1, h2, h3, h4⟩ := h
    exact .inr ⟨_, _, xs, rfl, rfl, o.at h1, h2.1, h2.2, h3, fun p hp => k _ _ _ (o.newU hp) (h4 p)⟩
  · exact h.elim
theorem gMul (ha : PE X a (dE W ta)) (hb : PE X b (dE W tb)) : PE X (.BinOp a .Mult b pos) (dE W (sOp oMul ta tb)) := gOp (OpR.or op_mul op_rep) lMul ha hb
/-- an operator of two ints -/
def oI (C : Int → Int → Prop) (g : Int → Int → V) : s2 := fun x y S Q => match x, y with
  | .int i, .int j => C i j ∧ Q (g i j) S
  | _, _ => False
theorem lI {C : Int → Int → Prop} {g : Int → Int → V} : Lift2 (oI C g) (rI C g) := by
  intro x y S Q' H Q o h k
  unfold oI at h
  split at h
  · exact ⟨_, _, rfl, rfl, h.1, k _ _ _ o h.2⟩
  · exact h.elim
def oFdv : s2 := oI CDiv fun i j => .int (i / j)
def oMod : s2 := oI (fun _ j => 0 < j) fun i j => .int (i % j)
def oPow : s2 := oI CPow fun i j => .int (i ^ j.toNat)
theorem gFdv (ha : PE X a (dE W ta)) (hb : PE X b (dE W tb)) : PE X (.BinOp a .FloorDiv b pos) (dE W (sOp oFdv ta tb)) := gOp op_fdiv lI ha hb
theorem gMod (ha : PE X a (dE W ta)) (hb : PE X b (dE W tb)) : PE X (.BinOp a .Mod b pos) (dE W (sOp oMod ta tb)) := gOp op_mod lI ha hb
theorem gPow (ha : PE X a (dE W ta)) (hb : PE X b (dE W tb)) : PE X (.BinOp a .Pow b pos) (dE W (sOp oPow ta tb)) := gOp op_pow lI ha hb
def oNeg : s1 := fun x S Q => match x with
  | .int i => Q (.int (-i)) S
  | _ => False
theorem lNeg : Lift1 oNeg (rU fun i => .int (-i)) := by
  intro x S Q' H Q o h k
  unfold oNeg at h
  split at h
  · exact ⟨_, rfl, k _ _ _ o h⟩
  · exact h.elim
theorem gNeg (ha : PE X a (dE W ta)) : PE X (.UnaryOp .USub a pos) (dE W (s1Op oNeg ta)) := gUn un_neg lNeg ha

/-! ### comparisons -/
/-- data that stands: by any heap -/
def sD (K : PySem.W.Frag) (S : SH) (x : V) (d : PyData) : Prop := ∀ H, Own S H → Dp K H x d
def isRef : V → Bool
  | .ref _ => true
  | _ => false
def oEq (K : PySem.W.Frag) : s2 := fun x y S Q => if scal x y then Q (.bl (decide (x = y))) S else
  ∃ d e, sD K S x d ∧ sD K S y e ∧ SeqAt.shaped d = true ∧ SeqAt.shaped e = true ∧ Q (.bl (PyData.eqv d e)) S
def oNe (K : PySem.W.Frag) : s2 := fun x y S Q => if scal x y then Q (.bl (!decide (x = y))) S else
  ∃ d e, sD K S x d ∧ sD K S y e ∧ SeqAt.shaped d = true ∧ SeqAt.shaped e = true ∧ Q (.bl (!PyData.eqv d e)) S
theorem lEq {K : PySem.W.Frag} : Lift2 (oEq K) (fun x y H Q => rEq x y H Q ∨ rEqD K x y H Q) := by
  intro x y S Q' H Q o h k
  unfold oEq at h
  split at h
  · rename_i e
    exact .inl ⟨e, k _ _ _ o h⟩
  · obtain ⟨d, e, h1, h2, h3, h4, h5⟩ := h
    exact .inr ⟨d, e, h1 H o, h2 H o, h3, h4, k _ _ _ o h5⟩
theorem lNe {K : PySem.W.Frag} : Lift2 (oNe K) (fun x y H Q => rNe x y H Q ∨ rNeD K x y H Q) := by
  intro x y S Q' H Q o h k
  unfold oNe at h
  split at h
  · rename_i e
    exact .inl ⟨e, k _ _ _ o h⟩
  · obtain ⟨d, e, h1, h2, h3, h4, h5⟩ := h
    exact .inr ⟨d, e, h1 H o, h2 H o, h3, h4, k _ _ _ o h5⟩
theorem gEq (hu : X.A.units + 64 < cLine) (ha : PE X a (dE W ta)) (hb : PE X b (dE W tb)) : PE X (.Compare a [.Eq] [b] pos) (dE W (sOp (oEq X.K) ta tb)) := gCmp (OpR.or op_eq (op_eqD hu)) lEq ha hb (nomark _)
theorem gNe (hu : X.A.units + 64 < cLine) (ha : PE X a (dE W ta)) (hb : PE X b (dE W tb)) : PE X (.Compare a [.NotEq] [b] pos) (dE W (sOp (oNe X.K) ta tb)) := gCmp (OpR.or op_ne (op_neD hu)) lNe ha hb (nomark _)
/-- an order: of ints, of texts -/
def oOrd (f : Int → Int → Bool) (g : Str → Str → Bool) : s2 := fun x y S Q => match x, y with
  | .int i, .int j => Q (.bl (f i j)) S
  | .str i, .str j => Q (.bl (g i j)) S
  | _, _ => False
theorem lOrd {f : Int → Int → Bool} {g : Str → Str → Bool} : Lift2 (oOrd f g) (fun x y H Q => (rI0 fun i j => .bl (f i j)) x y H Q ∨ (fun x y H Q => ∃ i j, x = .str i ∧ y = .str j ∧ Q (.bl (g i j)) H) x y H Q) := by
  intro x y S Q' H Q o h k
  unfold oOrd at h
  split at h
  · exact .inl ⟨_, _, rfl, rfl, k _ _ _ o h⟩
  · exact .inr ⟨_, _, rfl, rfl, k _ _ _ o h⟩
  · exact h.elim
def oLt : s2 := oOrd (fun i j => decide (i < j)) (fun i j => decide (i.cps.toList < j.cps.toList))
def oLe : s2 := oOrd (fun i j => decide (i ≤ j)) (fun i j => !decide (j.cps.toList < i.cps.toList))
def oGt : s2 := oOrd (fun i j => decide (j < i)) (fun i j => decide (j.cps.toList < i.cps.toList))
def oGe : s2 := oOrd (fun i j => decide (j ≤ i)) (fun i j => !decide (i.cps.toList < j.cps.toList))
theorem gLt (ha : PE X a (dE W ta)) (hb : PE X b (dE W tb)) : PE X (.Compare a [.Lt] [b] pos) (dE W (sOp oLt ta tb)) := gCmp (OpR.or op_lt op_lt_str) lOrd ha hb (nomark _)
theorem gLe (ha : PE X a (dE W ta)) (hb : PE X b (dE W tb)) : PE X (.Compare a [.LtE] [b] pos) (dE W (sOp oLe ta tb)) := gCmp (OpR.or op_le op_le_str) lOrd ha hb (nomark _)
theorem gGt (ha : PE X a (dE W ta)) (hb : PE X b (dE W tb)) : PE X (.Compare a [.Gt] [b] pos) (dE W (sOp oGt ta tb)) := gCmp (OpR.or op_gt op_gt_str) lOrd ha hb (nomark _)
theorem gGe (ha : PE X a (dE W ta)) (hb : PE X b (dE W tb)) : PE X (.Compare a [.GtE] [b] pos) (dE W (sOp oGe ta tb)) := gCmp (OpR.or op_ge op_ge_str) lOrd ha hb (nomark _)
/-- is None, is not None -/
def oIsN : s2 := fun x y S Q => match y with
  | .non => Q (.bl (decide (x = .non))) S
  | _ => False
def oNotN : s2 := fun x y S Q => match y with
  | .non => Q (.bl (!decide (x = .non))) S
  | _ => False
theorem lIsN : Lift2 oIsN (fun x y H Q => y = .non ∧ Q (.bl (decide (x = .non))) H) := by
  intro x y S Q' H Q o h k
  unfold oIsN at h
  split at h
  · exact ⟨rfl, k _ _ _ o h⟩
  · exact h.elim
theorem lNotN : Lift2 oNotN (fun x y H Q => y = .non ∧ Q (.bl (!decide (x = .non))) H) := by
  intro x y S Q' H Q o h k
  unfold oNotN at h
  split at h
  · exact ⟨rfl, k _ _ _ o h⟩
  · exact h.elim
theorem gIsN (ha : PE X a (dE W ta)) (hb : PE X b (dE W tb)) : PE X (.Compare a [.Is] [b] pos) (dE W (sOp oIsN ta tb)) := gCmp op_isN lIsN ha hb (nomark _)
theorem gNotN (ha : PE X a (dE W ta)) (hb : PE X b (dE W tb)) : PE X (.Compare a [.IsNot] [b] pos) (dE W (sOp oNotN ta tb)) := gCmp op_notN lNotN ha hb (nomark _)
/-- in, not in: a text in a text; a flat thing in a list, a tuple of flat things -/
def oIn (K : PySem.W.Frag) (neg : Bool) : s2 := fun x y S Q => match y with
  | .str j => match x with
    | .str i => Q (.bl (if neg then !(!(Builtin.Str.occurrences j i 0 j.length 1).isEmpty) else !(Builtin.Str.occurrences j i 0 j.length 1).isEmpty)) S
    | _ => False
  | .ref p => ∃ xs, (sL K S p xs ∨ sU K S p xs) ∧ flatV x = true ∧ xs.all flatV = true ∧ Q (.bl (if neg then !inV x xs else inV x xs)) S
  | _ => False
theorem lIn {K : PySem.W.Frag} : Lift2 (oIn K false) (fun x y H Q => (fun x y H Q => ∃ i j, x = .str i ∧ y = .str j ∧ Q (.bl (!(Builtin.Str.occurrences j i 0 j.length 1).isEmpty)) H) x y H Q ∨ rIn K false x y H Q) := by
  intro x y S Q' H Q o h k
  unfold oIn at h
  split at h
  · split at h
    · exact .inl ⟨_, _, rfl, rfl, k _ _ _ o h⟩
    · exact h.elim
  · obtain ⟨xs, h1, h2, h3, h4⟩ := h
    exact .inr ⟨_, xs, rfl, h1.elim (fun z => .inl (o.l z)) (fun z => .inr (o.u z)), h2, h3, k _ _ _ o h4⟩
  · exact h.elim
theorem lNotIn {K : PySem.W.Frag} : Lift2 (oIn K true) (fun x y H Q => (fun x y H Q => ∃ i j, x = .str i ∧ y = .str j ∧ Q (.bl (!(!(Builtin.Str.occurrences j i 0 j.length 1).isEmpty))) H) x y H Q ∨ rIn K true x y H Q) := by
  intro x y S Q' H Q o h k
  unfold oIn at h
  split at h
  · split at h
    · exact .inl ⟨_, _, rfl, rfl, k _ _ _ o h⟩
    · exact h.elim
  · obtain ⟨xs, h1, h2, h3, h4⟩ := h
    exact .inr ⟨_, xs, rfl, h1.elim (fun z => .inl (o.l z)) (fun z => .inr (o.u z)), h2, h3, k _ _ _ o h4⟩
  · exact h.elim
theorem gIn (ha : PE X a (dE W ta)) (hb : PE X b (dE W tb)) (hm : behindInMarks .In b = false) : PE X (.Compare a [.In] [b] pos) (dE W (sOp (oIn X.K false) ta tb)) := gCmp (OpR.or op_in_str op_in_seq) lIn ha hb hm
theorem gNotIn (ha : PE X a (dE W ta)) (hb : PE X b (dE W tb)) (hm : behindInMarks .NotIn b = false) : PE X (.Compare a [.NotIn] [b] pos) (dE W (sOp (oIn X.K true) ta tb)) := gCmp (OpR.or op_notin_str op_notIn_seq) lNotIn ha hb hm
/-- a < b < c -/
def sChain (r r' : s2) (ta tb tc : sE) : sE := fun W σ S Q => ta W σ S fun x S1 => tb W σ S1 fun y S2 => r x y S2 fun z S3 => match z with
  | .bl true => tc W σ S3 fun w S4 => r' y w S4 Q
  | .bl false => Q (.bl false) S3
  | _ => False
theorem gChain {op op' : CmpOp} {r r' : s2} {R R' : R2} (ho : OpR X (compareOp op) R) (ho' : OpR X (compareOp op') R') (l : Lift2 r R) (l' : Lift2 r' R') (ha : PE X a (dE W ta)) (hb : PE X b (dE W tb)) (hc : PE X c (dE W tc))
    (hm : lastMarks [op, op'] [b, c] = false := by with_unfolding_all rfl) : PE X (.Compare a [op, op'] [b, c] pos) (dE W (sChain r r' ta tb tc)) :=
  PE.by (pe_chain ho ho' ha hb hc hm) fun σ H Q ⟨S, Q', W', kw, o, h, k⟩ => ⟨S, _, W', kw, o, h, fun x S1 H1 o1 h1 => ⟨S1, _, W', kw, o1, h1, fun y S2 H2 o2 h2 => l x y S2 _ H2 _ o2 h2 fun z S3 H3 o3 h3 => by
    split at h3
    · refine ⟨true, rfl, ?_⟩
      rw [if_pos rfl]
      exact ⟨S3, _, W', kw, o3, h3, fun w S4 H4 o4 h4 => l' y w S4 Q' H4 Q o4 h4 k⟩
    · refine ⟨false, rfl, ?_⟩
      rw [if_neg Bool.false_ne_true]
      exact k _ _ _ o3 h3
    · exact h3.elim⟩⟩

/-! ### tests -/
def sTst (t : sE) : sT := fun W σ S Q => t W σ S fun x S1 => match x with
  | .bl b => Q b S1
  | _ => False
theorem gTst {e : Expr} {t : sE} (h : PE X e (dE W t)) (he : ∀ whole, isTrue e X.env whole = (do let v ← whole; standAt e.pos; holding [v] (truthy v)) := by intro _; rfl) : PT X e (dT W (sTst t)) :=
  PT.by (pt_val h he) fun σ H Q ⟨S, Q', W', kw, o, h, k⟩ => ⟨S, _, W', kw, o, h, fun x S1 H1 o1 h1 => by
    split at h1
    · exact ⟨_, rfl, k _ _ _ o1 h1⟩
    · exact h1.elim⟩
theorem gTcmp {op : CmpOp} {r : s2} {R : R2} (ho : OpR X (compareOp op) R) (l : Lift2 r R) (ha : PE X a (dE W ta)) (hb : PE X b (dE W tb)) (hm : behindInMarks op b = false) : PT X (.Compare a [op] [b] pos) (dT W (sTst (sOp r ta tb))) :=
  PT.by (pt_cmpR ho ha hb hm) fun σ H Q ⟨S, Q', W', kw, o, h, k⟩ => ⟨S, _, W', kw, o, h, fun x S1 H1 o1 h1 => ⟨S1, _, W', kw, o1, h1, fun y S2 H2 o2 h2 => l x y S2 _ H2 _ o2 h2 fun z S3 H3 o3 h3 => by
    split at h3
    · exact ⟨_, rfl, k _ _ _ o3 h3⟩
    · exact h3.elim⟩⟩
theorem gTchain {op op' : CmpOp} {r r' : s2} {R R' : R2} (ho : OpR X (compareOp op) R) (ho' : OpR X (compareOp op') R') (l : Lift2 r R) (l' : Lift2 r' R') (ha : PE X a (dE W ta)) (hb : PE X b (dE W tb)) (hc : PE X c (dE W tc))
    (hm : lastMarks [op, op'] [b, c] = false := by with_unfolding_all rfl) : PT X (.Compare a [op, op'] [b, c] pos) (dT W (sTst (sChain r r' ta tb tc))) :=
  PT.by (pt_chain ho ho' ha hb hc hm) fun σ H Q ⟨S, Q', W', kw, o, h, k⟩ => ⟨S, _, W', kw, o, h, fun x S1 H1 o1 h1 => ⟨S1, _, W', kw, o1, h1, fun y S2 H2 o2 h2 => l x y S2 _ H2 _ o2 h2 fun z S3 H3 o3 h3 => by
    split at h3
    · refine ⟨true, rfl, ?_⟩
      rw [if_pos rfl]
      exact ⟨S3, _, W', kw, o3, h3, fun w S4 H4 o4 h4 => l' y w S4 _ H4 _ o4 h4 fun z' S5 H5 o5 h5 => by
        split at h5
        · exact ⟨_, rfl, k _ _ _ o5 h5⟩
        · exact h5.elim⟩
    · refine ⟨false, rfl, ?_⟩
      rw [if_neg Bool.false_ne_true]
      exact ⟨false, rfl, k _ _ _ o3 h3⟩
    · exact h3.elim⟩⟩
theorem gTEq (hu : X.A.units + 64 < cLine) (ha : PE X a (dE W ta)) (hb : PE X b (dE W tb)) : PT X (.Compare a [.Eq] [b] pos) (dT W (sTst (sOp (oEq X.K) ta tb))) := gTcmp (OpR.or op_eq (op_eqD hu)) lEq ha hb (nomark _)
theorem gTNe (hu : X.A.units + 64 < cLine) (ha : PE X a (dE W ta)) (hb : PE X b (dE W tb)) : PT X (.Compare a [.NotEq] [b] pos) (dT W (sTst (sOp (oNe X.K) ta tb))) := gTcmp (OpR.or op_ne (op_neD hu)) lNe ha hb (nomark _)
theorem gTLt (ha : PE X a (dE W ta)) (hb : PE X b (dE W tb)) : PT X (.Compare a [.Lt] [b] pos) (dT W (sTst (sOp oLt ta tb))) := gTcmp (OpR.or op_lt op_lt_str) lOrd ha hb (nomark _)
theorem gTLe (ha : PE X a (dE W ta)) (hb : PE X b (dE W tb)) : PT X (.Compare a [.LtE] [b] pos) (dT W (sTst (sOp oLe ta tb))) := gTcmp (OpR.or op_le op_le_str) lOrd ha hb (nomark _)
theorem gTGt (ha : PE X a (dE W ta)) (hb : PE X b (dE W tb)) : PT X (.Compare a [.Gt] [b] pos) (dT W (sTst (sOp oGt ta tb))) := gTcmp (OpR.or op_gt op_gt_str) lOrd ha hb (nomark _)
theorem gTGe (ha : PE X a (dE W ta)) (hb : PE X b (dE W tb)) : PT X (.Compare a [.GtE] [b] pos) (dT W (sTst (sOp oGe ta tb))) := gTcmp (OpR.or op_ge op_ge_str) lOrd ha hb (nomark _)
theorem gTIsN (ha : PE X a (dE W ta)) (hb : PE X b (dE W tb)) : PT X (.Compare a [.Is] [b] pos) (dT W (sTst (sOp oIsN ta tb))) := gTcmp op_isN lIsN ha hb (nomark _)
theorem gTNotN (ha : PE X a (dE W ta)) (hb : PE X b (dE W tb)) : PT X (.Compare a [.IsNot] [b] pos) (dT W (sTst (sOp oNotN ta tb))) := gTcmp op_notN lNotN ha hb (nomark _)
theorem gTIn (ha : PE X a (dE W ta)) (hb : PE X b (dE W tb)) (hm : behindInMarks .In b = false) : PT X (.Compare a [.In] [b] pos) (dT W (sTst (sOp (oIn X.K false) ta tb))) := gTcmp (OpR.or op_in_str op_in_seq) lIn ha hb hm
theorem gTNotIn (ha : PE X a (dE W ta)) (hb : PE X b (dE W tb)) (hm : behindInMarks .NotIn b = false) : PT X (.Compare a [.NotIn] [b] pos) (dT W (sTst (sOp (oIn X.K true) ta tb))) := gTcmp (OpR.or op_notin_str op_notIn_seq) lNotIn ha hb hm
/-- truth of any value -/
def oTru (K : PySem.W.Frag) (x : V) (S : SH) (Q : Bool → SH → Prop) : Prop := match x with
  | .non => Q false S
  | .bl b => Q b S
  | .int i => Q (i != 0) S
  | .str y => y.length ≤ sizeLine ∧ Q ((y.length : Int) != 0) S
  | .ref p => (∃ xs, sL K S p xs ∧ Q (!xs.isEmpty) S) ∨ (∃ xs, sU K S p xs ∧ Q (!xs.isEmpty) S) ∨ ∃ kvs, At S p (.dK kvs) ∧ Q (!kvs.isEmpty) S
  | _ => False
theorem lTru {K : PySem.W.Frag} {x : V} {S : SH} {Q' : Bool → SH → Prop} {H : Hp} {Q : Bool → Hp → Prop} (o : Own S H) (h : oTru K x S Q') (k : Imp Q' Q) : ∃ b, TruV K x H b ∧ Q b H := by
  unfold oTru at h
  unfold TruV
  cases x with
  | non => exact ⟨_, rfl, k _ _ _ o h⟩
  | bl b => exact ⟨_, rfl, k _ _ _ o h⟩
  | int i => exact ⟨_, rfl, k _ _ _ o h⟩
  | str y => exact ⟨_, ⟨h.1, rfl⟩, k _ _ _ o h.2⟩
  | ref p =>
    rcases h with ⟨xs, h1, h2⟩ | ⟨xs, h1, h2⟩ | ⟨kvs, h1, h2⟩
    · exact ⟨_, .inl ⟨xs, o.l h1, rfl⟩, k _ _ _ o h2⟩
    · exact ⟨_, .inr (.inl ⟨xs, o.u h1, rfl⟩), k _ _ _ o h2⟩
    · exact ⟨_, .inr (.inr ⟨kvs, o.at h1, rfl⟩), k _ _ _ o h2⟩
  | byt y => exact h.elim
  | flt y => exact h.elim
  | ty y => exact h.elim
def sTru (K : PySem.W.Frag) (t : sE) : sT := fun W σ S Q => t W σ S fun x S1 => oTru K x S1 Q
theorem gTru {e : Expr} {t : sE} (h : PE X e (dE W t)) (he : ∀ whole, isTrue e X.env whole = (do let v ← whole; standAt e.pos; holding [v] (truthy v)) := by intro _; rfl) : PT X e (dT W (sTru X.K t)) :=
  PT.by (pt_truth h he) fun σ H Q ⟨S, Q', W', kw, o, h, k⟩ => ⟨S, _, W', kw, o, h, fun x S1 H1 o1 h1 => lTru o1 h1 k⟩
variable {tA tB : sT} {rest : List Expr}
def sAnd (t u : sT) : sT := fun W σ S Q => t W σ S fun c S1 => match c with
    | true => u W σ S1 Q
    | false => Q false S1
def sOr (t u : sT) : sT := fun W σ S Q => t W σ S fun c S1 => match c with
    | true => Q true S1
    | false => u W σ S1 Q
def sNot (t : sT) : sT := fun W σ S Q => t W σ S fun c S1 => Q (!c) S1
theorem gAnd (ha : PT X a (dT W tA)) (hb : PW X (.BoolOp .And (b :: rest) pos) (dT W tB)) : PW X (.BoolOp .And (a :: b :: rest) pos) (dT W (sAnd tA tB)) :=
  PW.by (pw_and ha hb) fun σ H Q ⟨S, Q', W', kw, o, h, k⟩ => ⟨S, _, W', kw, o, h, fun c S1 H1 o1 h1 => by
    cases c with
    | true => exact ⟨S1, Q', W', kw, o1, h1, k⟩
    | false => exact k _ _ _ o1 h1⟩
theorem gOr (ha : PT X a (dT W tA)) (hb : PW X (.BoolOp .Or (b :: rest) pos) (dT W tB)) : PW X (.BoolOp .Or (a :: b :: rest) pos) (dT W (sOr tA tB)) :=
  PW.by (pw_or ha hb) fun σ H Q ⟨S, Q', W', kw, o, h, k⟩ => ⟨S, _, W', kw, o, h, fun c S1 H1 o1 h1 => by
    cases c with
    | false => exact ⟨S1, Q', W', kw, o1, h1, k⟩
    | true => exact k _ _ _ o1 h1⟩
theorem gTNot (ha : PT X a (dT W tA)) : PT X (.UnaryOp .Not a pos) (dT W (sNot tA)) :=
  PT.by (pt_not ha) fun σ H Q ⟨S, Q', W', kw, o, h, k⟩ => ⟨S, _, W', kw, o, h, fun c S1 H1 o1 h1 => k _ _ _ o1 h1⟩
/-- and, or, not as values of truth values -/
def sAndV (ta tb : sE) : sE := fun W σ S Q => ta W σ S fun x S1 => match x with
  | .bl true => tb W σ S1 Q
  | .bl false => Q (.bl false) S1
  | _ => False
def sOrV (ta tb : sE) : sE := fun W σ S Q => ta W σ S fun x S1 => match x with
  | .bl false => tb W σ S1 Q
  | .bl true => Q (.bl true) S1
  | _ => False
def sNotV (K : PySem.W.Frag) (ta : sE) : sE := fun W σ S Q => ta W σ S fun x S1 => oTru K x S1 fun k S2 => Q (.bl (!k)) S2
theorem gAndV (ha : PE X a (dE W ta)) (hb : PE X (.BoolOp .And (b :: rest) pos) (dE W tb)) : PE X (.BoolOp .And (a :: b :: rest) pos) (dE W (sAndV ta tb)) :=
  PE.by (pe_and ha hb) fun σ H Q ⟨S, Q', W', kw, o, h, k⟩ => ⟨S, _, W', kw, o, h, fun x S1 H1 o1 h1 => by
    split at h1
    · exact ⟨true, rfl, S1, Q', W', kw, o1, h1, k⟩
    · exact ⟨false, rfl, k _ _ _ o1 h1⟩
    · exact h1.elim⟩
theorem gOrV (ha : PE X a (dE W ta)) (hb : PE X (.BoolOp .Or (b :: rest) pos) (dE W tb)) : PE X (.BoolOp .Or (a :: b :: rest) pos) (dE W (sOrV ta tb)) :=
  PE.by (pe_or ha hb) fun σ H Q ⟨S, Q', W', kw, o, h, k⟩ => ⟨S, _, W', kw, o, h, fun x S1 H1 o1 h1 => by
    split at h1
    · exact ⟨false, rfl, S1, Q', W', kw, o1, h1, k⟩
    · exact ⟨true, rfl, k _ _ _ o1 h1⟩
    · exact h1.elim⟩
theorem gNotV (ha : PE X a (dE W ta)) : PE X (.UnaryOp .Not a pos) (dE W (sNotV X.K ta)) :=
  PE.by (pe_notT ha) fun σ H Q ⟨S, Q', W', kw, o, h, k⟩ => ⟨S, _, W', kw, o, h, fun x S1 H1 o1 h1 => lTru o1 h1 fun b S2 H2 o2 h2 => k _ _ _ o2 h2⟩
def sIf (t : sT) (ta tb : sE) : sE := fun W σ S Q => t W σ S fun c S1 => match c with
    | true => ta W σ S1 Q
    | false => tb W σ S1 Q
theorem gIfE {e : Expr} (ht : PT X e (dT W tA)) (ha : PE X a (dE W ta)) (hb : PE X b (dE W tb)) : PE X (.IfExp e a b pos) (dE W (sIf tA ta tb)) :=
  PE.by (pe_ifExp ht ha hb) fun σ H Q ⟨S, Q', W', kw, o, h, k⟩ => ⟨S, _, W', kw, o, h, fun c S1 H1 o1 h1 => by
    cases c with
    | true => exact ⟨S1, Q', W', kw, o1, h1, k⟩
    | false => exact ⟨S1, Q', W', kw, o1, h1, k⟩⟩

/-! ### argument lists, displays -/
variable {es : List Expr} {tas : sA}
def sNil : sA := fun _ _ S Q => Q [] S
def sCons (t : sE) (r : sA) : sA := fun W σ S Q => t W σ S fun x S1 => r W σ S1 fun xs S2 => Q (x :: xs) S2
theorem gNil : PA X [] (dA W sNil) := PA.by pa_nil fun σ H Q ⟨S, Q', W', kw, o, h, k⟩ => k _ _ _ o h
theorem gCons (ha : PE X a (dE W ta)) (hr : PA X es (dA W tas)) (hs : starEach (a :: es) X.env = (false, eval a X.env) :: starEach es X.env := by rfl) : PA X (a :: es) (dA W (sCons ta tas)) :=
  PA.by (pa_cons ha hr hs) fun σ H Q ⟨S, Q', W', kw, o, h, k⟩ => ⟨S, _, W', kw, o, h, fun x S1 H1 o1 h1 => ⟨S1, _, W', kw, o1, h1, fun xs S2 H2 o2 h2 => k _ _ _ o2 h2⟩⟩
def sTup (t : sA) : sE := fun W σ S Q => t W σ S fun xs S1 => xs.length ≤ sizeLine ∧ ∀ p, Q (.ref p) (S1.new p (.tup xs))
def sLst (t : sA) : sE := fun W σ S Q => t W σ S fun xs S1 => xs.length ≤ sizeLine ∧ ∀ p, Q (.ref p) (S1.new p (.lst xs))
theorem gTup {x1} (h : PA X es (dA W tas)) : PE X (.Tuple es x1 pos) (dE W (sTup tas)) :=
  PE.by (pe_tup h) fun σ H Q ⟨S, Q', W', kw, o, h, k⟩ => ⟨S, _, W', kw, o, h, fun xs S1 H1 o1 h1 => ⟨h1.1, fun p hp => k _ _ _ (o1.newU hp) (h1.2 p)⟩⟩
theorem gLst (h : PA X es (dA W tas)) : PE X (.List es pos) (dE W (sLst tas)) :=
  PE.by (pe_lst h) fun σ H Q ⟨S, Q', W', kw, o, h, k⟩ => ⟨S, _, W', kw, o, h, fun xs S1 H1 o1 h1 => ⟨h1.1, fun p hp => k _ _ _ (o1.newU hp) (h1.2 p)⟩⟩
def sCall1 (r : sN) (t : sA) : sE := fun W σ S Q => t W σ S fun vs S1 => r vs S1 Q
def LiftN (r : sN) (R : List V → Hp → VK → Prop) : Prop := ∀ vs S Q' H Q, Own S H → r vs S Q' → Imp Q' Q → R vs H Q
theorem gB {id : String} {x : Str} {p : Pos} {e : Expr} {r : sN} {R : List V → Hp → VK → Prop} (hc : CallR X (.builtin id) R) (l : LiftN r R) (hg : Gl X x) (hm : X.mg x = none) (hv : bootBuiltins x = some (.builtin id)) (ha : PA X (e :: es) (dA W tas)) (hn : x ≠ "__name__" := by decide) (hdb : (x == ("__debug__" : Str)) = false := by decide)
    (he : starEach (e :: es) X.env = (false, eval e X.env) :: starEach es X.env := by rfl) (hpl : (backTo pos (starEach es X.env)).any (·.1) = false := by rfl) : PE X (.Call (.Name x p) (e :: es) [] pos) (dE W (sCall1 r tas)) :=
  PE.by (pe_callB hc hg hm hv ha hn hdb he hpl) fun σ H Q ⟨S, Q', W', kw, o, h, k⟩ => ⟨S, _, W', kw, o, h, fun vs S1 H1 o1 h1 => l vs S1 Q' H1 Q o1 h1 k⟩
theorem gTy {T : String} {x : Str} {p : Pos} {e : Expr} {r : sN} {R : List V → Hp → VK → Prop} (hc : CallR X (.type T) R) (l : LiftN r R) (hg : Gl X x) (hm : X.mg x = none) (hv : bootBuiltins x = some (.type T)) (ha : PA X (e :: es) (dA W tas)) (hn : x ≠ "__name__" := by decide) (hdb : (x == ("__debug__" : Str)) = false := by decide)
    (he : starEach (e :: es) X.env = (false, eval e X.env) :: starEach es X.env := by rfl) (hpl : (backTo pos (starEach es X.env)).any (·.1) = false := by rfl) : PE X (.Call (.Name x p) (e :: es) [] pos) (dE W (sCall1 r tas)) :=
  PE.by (pe_callTy hc hg hm hv ha hn hdb he hpl) fun σ H Q ⟨S, Q', W', kw, o, h, k⟩ => ⟨S, _, W', kw, o, h, fun vs S1 H1 o1 h1 => l vs S1 Q' H1 Q o1 h1 k⟩
/-- len -/
def nLen (K : PySem.W.Frag) : sN := fun vs S Q => match vs with
  | [.str z] => z.length ≤ sizeLine ∧ Q (.int z.length) S
  | [.ref p] => ∃ xs, (sL K S p xs ∨ sU K S p xs) ∧ Q (.int xs.length) S
  | _ => False
theorem lLen {K : PySem.W.Frag} : LiftN (nLen K) (fun xs H Q => ∃ x n, xs = [x] ∧ LenV K x H n ∧ Q (.int n) H) := by
  intro vs S Q' H Q o h k
  unfold nLen at h
  split at h
  · exact ⟨_, _, rfl, ⟨h.1, rfl⟩, k _ _ _ o h.2⟩
  · obtain ⟨xs, h1, h2⟩ := h
    rcases h1 with h1 | h1
    · exact ⟨_, xs.length, rfl, .inl ⟨xs, o.l h1, rfl⟩, k _ _ _ o h2⟩
    · exact ⟨_, xs.length, rfl, .inr ⟨xs, o.u h1, rfl⟩, k _ _ _ o h2⟩
  · exact h.elim
/-- int, abs -/
def nInt : sN := fun vs S Q => match vs with
  | [.int i] => Q (.int i) S
  | [.bl b] => Q (.int (if b then 1 else 0)) S
  | _ => False
theorem lInt : LiftN nInt (fun xs H Q => (∃ i, xs = [.int i] ∧ Q (.int i) H) ∨ ∃ k, xs = [.bl k] ∧ Q (.int (if k then 1 else 0)) H) := by
  intro vs S Q' H Q o h k
  unfold nInt at h
  split at h
  · exact .inl ⟨_, rfl, k _ _ _ o h⟩
  · exact .inr ⟨_, rfl, k _ _ _ o h⟩
  · exact h.elim
def nAbs : sN := fun vs S Q => match vs with
  | [.int i] => Q (.int (if i < 0 then -i else i)) S
  | _ => False
theorem lAbs : LiftN nAbs (fun xs H Q => ∃ i, xs = [.int i] ∧ Q (.int (if i < 0 then -i else i)) H) := by
  intro vs S Q' H Q o h k
  unfold nAbs at h
  split at h
  · exact ⟨_, rfl, k _ _ _ o h⟩
  · exact h.elim
/-- sum of a list of ints -/
def nSum (K : PySem.W.Frag) : sN := fun vs S Q => match vs with
  | [.ref p] => ∃ ns : List Int, sL K S p (ns.map V.int) ∧ Q (.int ns.sum) S
  | _ => False
theorem lSum {K : PySem.W.Frag} : LiftN (nSum K) (rSum K) := by
  intro vs S Q' H Q o h k
  unfold nSum at h
  split at h
  · obtain ⟨ns, h1, h2⟩ := h
    exact ⟨_, ns, rfl, o.l h1, k _ _ _ o h2⟩
  · exact h.elim
/-- list(xs) -/
def nList (K : PySem.W.Frag) : sN := fun vs S Q => match vs with
  | [.ref p] => ∃ xs, (sL K S p xs ∨ sU K S p xs) ∧ ∀ r, Q (.ref r) (S.new r (.lst xs))
  | _ => False
theorem lList {K : PySem.W.Frag} : LiftN (nList K) (fun xs H Q => ∃ p ys, xs = [.ref p] ∧ (SqL K H p ys ∨ SqT K H p ys) ∧ ∀ l, H l = none → Q (.ref l) (upd H l (.lst ys))) := by
  intro vs S Q' H Q o h k
  unfold nList at h
  split at h
  · obtain ⟨xs, h1, h2⟩ := h
    exact ⟨_, xs, rfl, h1.elim (fun z => .inl (o.l z)) (fun z => .inr (o.u z)), fun l hl => k _ _ _ (o.newU hl) (h2 l)⟩
  · exact h.elim

/-! ### subscripts -/
def oIx (K : PySem.W.Frag) : s2 := fun x y S Q => match x, y with
  | .ref p, .int i => ∃ xs v, (sL K S p xs ∨ sU K S p xs) ∧ atI xs i = some v ∧ Q v S
  | .str z, .int i => z.length ≤ sizeLine ∧ ∃ c, atI z.cps.toList i = some c ∧ Q (.str ⟨#[c]⟩) S
  | _, _ => False
theorem lIx {K : PySem.W.Frag} : Lift2 (oIx K) (rIx K) := by
  intro x y S Q' H Q o h k
  unfold oIx at h
  split at h
  · obtain ⟨xs, v, h1, h2, h3⟩ := h
    rcases h1 with h1 | h1
    · exact .inl ⟨_, xs, _, v, rfl, rfl, o.l h1, h2, k _ _ _ o h3⟩
    · exact .inr (.inl ⟨_, xs, _, v, rfl, rfl, o.u h1, h2, k _ _ _ o h3⟩)
  · obtain ⟨hz, c, h2, h3⟩ := h
    exact .inr (.inr ⟨_, _, c, rfl, rfl, hz, h2, k _ _ _ o h3⟩)
  · exact h.elim
theorem gIx (ha : PE X a (dE W ta)) (hb : PE X b (dE W tb)) (hs : PlainIx b := by intro _ _; rfl) : PE X (.Subscript a b pos) (dE W (sOp (oIx X.K) ta tb)) :=
  PE.by (pe_ix ix_seq ha hb hs) (lift_op lIx)
/-- a slice's part -/
abbrev sO := sWX → St → SH → (Option Int → SH → Prop) → Prop
def dO (W : WX) (t : sO) : TO := fun σ H Q => ∃ S Q' W', ImpW W' W ∧ Own S H ∧ t W' σ S Q' ∧ Imp Q' Q
theorem PO.by {e : Option Expr} {t t' : TO} (h : PO X e t) (k : ∀ σ H Q, t' σ H Q → t σ H Q) : PO X e t' := ⟨fun pins s σ H Q I q => h.run pins s σ H Q I (k σ H Q q)⟩
def sNoP : sO := fun _ _ S Q => Q none S
def sPart (t : sE) : sO := fun W σ S Q => t W σ S fun x S1 => match x with
  | .int i => Q (some i) S1
  | _ => False
theorem gNoP : PO X none (dO W sNoP) := PO.by po_none fun σ H Q ⟨S, Q', W', kw, o, h, k⟩ => k _ _ _ o h
theorem gPart {e : Expr} {t : sE} (h : PE X e (dE W t)) : PO X (some e) (dO W (sPart t)) := PO.by (po_some h) fun σ H Q ⟨S, Q', W', kw, o, h, k⟩ => ⟨S, _, W', kw, o, h, fun x S1 H1 o1 h1 => by
  split at h1
  · exact ⟨_, rfl, k _ _ _ o1 h1⟩
  · exact h1.elim⟩
def oSl (K : PySem.W.Frag) (x : V) (lo hi : Option Int) (S : SH) (Q : V → SH → Prop) : Prop := match x with
  | .str z => z.length ≤ sizeLine ∧ Q (.str (cutS z lo hi)) S
  | .ref p => (∃ xs, sL K S p xs ∧ ∀ r, Q (.ref r) (S.new r (.lst (cutV xs lo hi)))) ∨
      ∃ xs, sU K S p xs ∧ ¬ (HT.sIx xs.length 0 lo = 0 ∧ HT.sIx xs.length xs.length hi = xs.length) ∧ ∀ r, Q (.ref r) (S.new r (.tup (cutV xs lo hi)))
  | _ => False
def sSl (K : PySem.W.Frag) (te : sE) (tl th : sO) : sE := fun W σ S Q => te W σ S fun x S1 => tl W σ S1 fun l S2 => th W σ S2 fun u S3 => oSl K x l u S3 Q
theorem gSl {lo hi : Option Expr} {tl th : sO} {p2 : Pos} (he : PE X a (dE W ta)) (hl : PO X lo (dO W tl)) (hu : PO X hi (dO W th)) : PE X (.Subscript a (.Slice lo hi none p2) pos) (dE W (sSl X.K ta tl th)) :=
  PE.by (pe_slice (SlR.or sl_str (SlR.or sl_list sl_tup)) he hl hu) fun σ H Q ⟨S, Q', W', kw, o, h, k⟩ => ⟨S, _, W', kw, o, h, fun x S1 H1 o1 h1 => ⟨S1, _, W', kw, o1, h1, fun l S2 H2 o2 h2 => ⟨S2, _, W', kw, o2, h2, fun u S3 H3 o3 h3 => by
    unfold oSl at h3
    split at h3
    · exact .inl ⟨_, rfl, h3.1, k _ _ _ o3 h3.2⟩
    · rcases h3 with ⟨xs, h3, h4⟩ | ⟨xs, h3, h5, h4⟩
      · exact .inr (.inl ⟨_, xs, rfl, o3.l h3, fun r hr => k _ _ _ (o3.newU hr) (h4 r)⟩)
      · exact .inr (.inr ⟨_, xs, rfl, o3.u h3, h5, fun r hr => k _ _ _ (o3.newU hr) (h4 r)⟩)
    · exact h3.elim⟩⟩⟩

/-! ### methods of built-in types -/
/-- o.m(args): r by the receiver and the arguments -/
abbrev sM := V → List V → SH → (V → SH → Prop) → Prop
def LiftM (r : sM) (R : V → List V → Hp → VK → Prop) : Prop := ∀ x vs S Q' H Q, Own S H → r x vs S Q' → Imp Q' Q → R x vs H Q
def sTy (K : PySem.W.Frag) (T : String) (x : V) (S : SH) : Prop := match x with
  | .str _ => T = "str"
  | .int _ => T = "int"
  | .ref p => (T = "list" ∧ ∃ xs, sL K S p xs) ∨ (T = "dict" ∧ ((∃ kvs, At S p (.dK kvs)) ∨ ∃ kvs, At S p (.dT kvs))) ∨ (T = "set" ∧ ∃ f n, At S p (.set f n))
  | _ => False
theorem Own.ty {K : PySem.W.Frag} {T : String} {x : V} {S : SH} {H : Hp} (o : Own S H) (h : sTy K T x S) : tyV K T x H := by
  unfold sTy at h
  unfold tyV
  cases x with
  | str _ => exact h
  | int _ => exact h
  | ref p =>
    rcases h with ⟨e, xs, h⟩ | ⟨e, h⟩ | ⟨e, f, n, h⟩
    · exact .inl ⟨e, xs, o.l h⟩
    · exact .inr (.inr (.inl ⟨e, h.elim (fun ⟨kvs, z⟩ => .inl ⟨kvs, o.at z⟩) (fun ⟨kvs, z⟩ => .inr ⟨kvs, o.at z⟩)⟩))
    · exact .inr (.inr (.inr ⟨e, f, n, o.at h⟩))
  | non => exact h.elim
  | bl _ => exact h.elim
  | byt _ => exact h.elim
  | flt _ => exact h.elim
  | ty _ => exact h.elim
def sMt (K : PySem.W.Frag) (T : String) (r : sM) (to : sE) (t : sA) : sE := fun W σ S Q => to W σ S fun x S1 => sTy K T x S1 ∧ t W σ S1 fun vs S2 => r x vs S2 Q
section
variable {o e : Expr} {to : sE} {name : Str} {apos cpos : Pos} {T id : String} {r : sM} {R : V → List V → Hp → VK → Prop}
theorem gM0 (pa : PlainAttrs T) (slot : Slot T name id) (hty : typeOf (.builtin id) = pure (.type "method_descriptor")) (hm : MtR X id R) (l : LiftM r R) (ho : PE X o (dE W to))
    (hbase : attributeBase o name X.env (eval o X.env) = eval o X.env := by rfl) (hline : (apos.endLine == cpos.line) = true := by rfl) : PE X (.Call (.Attribute o name apos) [] [] cpos) (dE W (sMt X.K T r to sNil)) :=
  PE.by (pe_bm0 pa slot hty hm ho hbase hline) fun σ H Q ⟨S, Q', W', kw, o, h, k⟩ => ⟨S, _, W', kw, o, h, fun x S1 H1 o1 h1 => ⟨o1.ty h1.1, l x [] S1 Q' H1 Q o1 h1.2 k⟩⟩
theorem gM (pa : PlainAttrs T) (slot : Slot T name id) (hty : typeOf (.builtin id) = pure (.type "method_descriptor")) (hm : MtR X id R) (l : LiftM r R) (ho : PE X o (dE W to)) (ha : PA X (e :: es) (dA W tas))
    (hbase : attributeBase o name X.env (eval o X.env) = eval o X.env := by rfl)
    (hfew : ((backTo cpos (starEach (e :: es) X.env)).all (fun x => !x.1) && (backToKw cpos (keywordEach [] X.env)).all (fun x => x.1.isSome)
      && decide ((e :: es).length + ([] : List Keyword).length + (if ([] : List Keyword).isEmpty then 0 else 1) < 30)) = true := by rfl)
    (hline : (apos.endLine == cpos.line) = true := by rfl) (hs : starEach (e :: es) X.env = (false, eval e X.env) :: starEach es X.env := by rfl) (hplain : (backTo cpos (starEach es X.env)).any (·.1) = false := by rfl) :
    PE X (.Call (.Attribute o name apos) (e :: es) [] cpos) (dE W (sMt X.K T r to tas)) :=
  PE.by (pe_bm pa slot hty hm ho ha hbase hfew hline hs hplain) fun σ H Q ⟨S, Q', W', kw, o, h, k⟩ => ⟨S, _, W', kw, o, h, fun x S1 H1 o1 h1 => ⟨o1.ty h1.1, ⟨S1, _, W', kw, o1, h1.2, fun vs S2 H2 o2 h2 => l x vs S2 Q' H2 Q o2 h2 k⟩⟩⟩
end
def mAppend : sM := fun x vs S Q => match x, vs with
  | .ref l, [y] => ∃ i xs, S.G[i]? = some (l, .lst xs) ∧ xs.length < sizeLine ∧ Q .non (S.put i l (.lst (xs ++ [y])))
  | _, _ => False
theorem lAppend : LiftM mAppend rAppend := by
  intro x vs S Q' H Q o h k
  unfold mAppend at h
  split at h
  · obtain ⟨i, xs, h1, h2, h3⟩ := h
    exact ⟨_, xs, _, rfl, rfl, o.g h1, h2, k _ _ _ (o.putU h1) h3⟩
  · exact h.elim
def mPop : sM := fun x vs S Q => match x, vs with
  | .ref l, [] => ∃ i xs y, S.G[i]? = some (l, .lst xs) ∧ xs[xs.length - 1]? = some y ∧ Q y (S.put i l (.lst xs.dropLast))
  | _, _ => False
theorem lPop : LiftM mPop rPop := by
  intro x vs S Q' H Q o h k
  unfold mPop at h
  split at h
  · obtain ⟨i, xs, y, h1, h2, h3⟩ := h
    exact ⟨_, xs, y, rfl, rfl, o.g h1, h2, k _ _ _ (o.putU h1) h3⟩
  · exact h.elim
def mPopAt : sM := fun x vs S Q => match x, vs with
  | .ref l, [.int j] => ∃ i xs k y, S.G[i]? = some (l, .lst xs) ∧ (-(2 ^ 63) ≤ j ∧ j < 2 ^ 63) ∧ seqIndex? j xs.length = some k ∧ xs[k]? = some y ∧ Q y (S.put i l (.lst (xs.eraseIdx k)))
  | _, _ => False
theorem lPopAt : LiftM mPopAt rPopAt := by
  intro x vs S Q' H Q o h k
  unfold mPopAt at h
  split at h
  · obtain ⟨i, xs, j, y, h1, h2, h3, h4, h5⟩ := h
    exact ⟨_, xs, _, j, y, rfl, rfl, o.g h1, h2.1, h2.2, h3, h4, k _ _ _ (o.putU h1) h5⟩
  · exact h.elim
def mExtend : sM := fun x vs S Q => match x, vs with
  | .ref l, [.ref b] => ∃ i xs zs, S.G[i]? = some (l, .lst xs) ∧ At S b (.lst zs) ∧ xs.length + zs.length ≤ sizeLine ∧ Q .non (S.put i l (.lst (xs ++ zs)))
  | _, _ => False
theorem lExtend : LiftM mExtend rExtend := by
  intro x vs S Q' H Q o h k
  unfold mExtend at h
  split at h
  · obtain ⟨i, xs, zs, h1, h2, h3, h4⟩ := h
    exact ⟨_, _, xs, zs, rfl, rfl, o.g h1, o.at h2, h3, k _ _ _ (o.putU h1) h4⟩
  · exact h.elim
def mReverse : sM := fun x vs S Q => match x, vs with
  | .ref l, [] => ∃ i xs, S.G[i]? = some (l, .lst xs) ∧ Q .non (S.put i l (.lst xs.reverse))
  | _, _ => False
theorem lReverse : LiftM mReverse rReverse := by
  intro x vs S Q' H Q o h k
  unfold mReverse at h
  split at h
  · obtain ⟨i, xs, h1, h2⟩ := h
    exact ⟨_, xs, rfl, rfl, o.g h1, k _ _ _ (o.putU h1) h2⟩
  · exact h.elim
/-- a method of two texts -/
def m1S (g : Str → Str → V) (C : Str → Str → Prop) : sM := fun x vs S Q => match x, vs with
  | .str u, [.str v] => C u v ∧ Q (g u v) S
  | _, _ => False
theorem l1S {g : Str → Str → V} {C : Str → Str → Prop} : LiftM (m1S g C) (fun x xs H Q => ∃ a b, x = .str a ∧ xs = [.str b] ∧ C a b ∧ Q (g a b) H) := by
  intro x vs S Q' H Q o h k
  unfold m1S at h
  split at h
  · exact ⟨_, _, rfl, rfl, h.1, k _ _ _ o h.2⟩
  · exact h.elim
theorem l1S0 {g : Str → Str → V} : LiftM (m1S g fun _ _ => True) (fun x xs H Q => ∃ a b, x = .str a ∧ xs = [.str b] ∧ Q (g a b) H) := by
  intro x vs S Q' H Q o h k
  unfold m1S at h
  split at h
  · exact ⟨_, _, rfl, rfl, k _ _ _ o h.2⟩
  · exact h.elim

/-! ### targets -/
abbrev sG := sWX → V → St → SH → (St → SH → Prop) → Prop
abbrev sGs := sWX → List V → St → SH → (St → SH → Prop) → Prop
def dG (W : WX) (t : sG) : TG := fun v σ H Q => ∃ S Q' W', ImpW W' W ∧ Own S H ∧ t W' v σ S Q' ∧ Imp Q' Q
def dGs (W : WX) (t : sGs) : TGs := fun v σ H Q => ∃ S Q' W', ImpW W' W ∧ Own S H ∧ t W' v σ S Q' ∧ Imp Q' Q
theorem PG.by {e : Expr} {t t' : TG} (h : PG X e t) (k : ∀ v σ H Q, t' v σ H Q → t v σ H Q) : PG X e t' := ⟨fun pins s σ H v u Q I r q => h.run pins s σ H v u Q I r (k v σ H Q q)⟩
theorem PGs.by {e : List Expr} {t t' : TGs} (h : PGs X e t) (k : ∀ v σ H Q, t' v σ H Q → t v σ H Q) : PGs X e t' := ⟨fun pins s σ H v u Q I r q => h.run pins s σ H v u Q I r (k v σ H Q q)⟩
def sgName (i : Nat) : sG := fun _ v σ S Q => Q (σ.set i (some v)) S
def sgNil : sGs := fun _ vs σ S Q => match vs with
  | [] => Q σ S
  | _ => False
def sgCons (t : sG) (u : sGs) : sGs := fun W vs σ S Q => match vs with
  | v :: r => t W v σ S fun σ1 S1 => u W r σ1 S1 Q
  | [] => False
def sgTup (K : PySem.W.Frag) (n : Nat) (t : sGs) : sG := fun W v σ S Q => match v with
  | .ref p => ∃ xs, sU K S p xs ∧ xs.length = n ∧ t W xs σ S Q
  | _ => False
def sgSub (to ti : sE) : sG := fun W v σ S Q => to W σ S fun o S1 => ti W σ S1 fun i S2 => match o, i with
  | .ref p, .int k => ∃ n xs j, S2.G[n]? = some (p, .lst xs) ∧ ixN xs.length k = some j ∧ Q σ (S2.put n p (.lst (xs.set j v)))
  | _, _ => False
theorem ggName {i : Nat} {x : Str} (hN : X.N.Nodup) (hi : X.N[i]? = some x) (hx : Loc X.env.scope x) (hf : X.fn x = true ∨ X.env.scope.names.lookup x = some .local := by first | exact .inl rfl | exact .inr rfl | assumption) : PG X (.Name x pos) (dG W (sgName i)) :=
  PG.by (pg_name hN hi hx hf) fun v σ H Q ⟨S, Q', W', kw, o, h, k⟩ => k _ _ _ o h
theorem ggNil : PGs X [] (dGs W sgNil) := PGs.by pgs_nil fun v σ H Q ⟨S, Q', W', kw, o, h, k⟩ => by
  unfold sgNil at h
  split at h
  · exact ⟨rfl, k _ _ _ o h⟩
  · exact h.elim
theorem ggCons {e : Expr} {t : sG} {u : sGs} (h1 : PG X e (dG W t)) (h2 : PGs X es (dGs W u)) (hs : (assignEach (e :: es) X.env).map (·.2) = assign e X.env :: (assignEach es X.env).map (·.2) := by rfl) : PGs X (e :: es) (dGs W (sgCons t u)) :=
  PGs.by (pgs_cons h1 h2 hs) fun v σ H Q ⟨S, Q', W', kw, o, h, k⟩ => by
    unfold sgCons at h
    split at h
    · exact ⟨_, _, rfl, S, _, W', kw, o, h, fun σ1 S1 H1 o1 h1 => ⟨S1, Q', W', kw, o1, h1, k⟩⟩
    · exact h.elim
theorem ggTup {kk : Nat} {t : sGs} {n : Nat} (hc : X.calm = true) (h : PGs X es (dGs W t)) (hn : (assignEach es X.env).length = n := by rfl) (hst : (assignEach es X.env).findIdx? (·.1) = none := by rfl) : PG X (.Tuple es kk pos) (dG W (sgTup X.K n t)) :=
  PG.by (pg_tup hc h hn hst) fun v σ H Q ⟨S, Q', W', kw, o, h, k⟩ => by
    unfold sgTup at h
    split at h
    · obtain ⟨xs, h1, h2, h3⟩ := h
      exact ⟨_, xs, rfl, o.u h1, h2, S, Q', W', kw, o, h3, k⟩
    · exact h.elim
theorem ggSub {o i : Expr} {to ti : sE} (ho : PE X o (dE W to)) (hi : PE X i (dE W ti))
    (hq : ∀ v, assign (.Subscript o i pos) X.env v = (do
      let ov ← holding [v] (eval o X.env)
      let iv ← holding [v, ov] (eval i X.env)
      standAt pos
      holding [v, ov, iv] (setItem ov iv v)
      release [v, ov, iv] []) := by intro _; rfl) : PG X (.Subscript o i pos) (dG W (sgSub to ti)) :=
  PG.by (pg_sub ho hi set_list hq) fun v σ H Q ⟨S, Q', W', kw, o, h, k⟩ => ⟨S, _, W', kw, o, h, fun x S1 H1 o1 h1 => ⟨S1, _, W', kw, o1, h1, fun y S2 H2 o2 h2 => by
    split at h2
    · obtain ⟨n, xs, j, h3, h4, h5⟩ := h2
      exact ⟨_, xs, _, j, rfl, rfl, o2.g h3, h4, k _ _ _ (o2.putU h3) h5⟩
    · exact h2.elim⟩⟩

/-! ### forgetting -/
/-- what is known may be less -/
def SLe (S S0 : SH) : Prop := ∀ H, Own S H → Own S0 H
def Wk (P : SH → Prop) : SH → Prop := fun S => ∃ S0, SLe S S0 ∧ P S0
theorem SLe.refl (S : SH) : SLe S S := fun _ o => o
theorem SLe.trans {S S1 S2 : SH} (a : SLe S S1) (b : SLe S1 S2) : SLe S S2 := fun H o => b H (a H o)
theorem sle_sub {F : Hp} {G G0 : List (Addr × HO)} (h : G0.Sublist G) : SLe ⟨F, G⟩ ⟨F, G0⟩ := fun H o => ⟨o.fr, fun p q => o.gs p (h.subset q), o.nd.sublist (h.map _)⟩
theorem sle_perm {F : Hp} {G G0 : List (Addr × HO)} (h : G.Perm G0) : SLe ⟨F, G⟩ ⟨F, G0⟩ := fun H o => ⟨o.fr, fun p q => o.gs p (h.mem_iff.mpr q), (h.map _).nodup_iff.mp o.nd⟩
/-- an object goes to the frame -/
theorem sle_frz {F : Hp} {p : Addr} {u : HO} {G : List (Addr × HO)} : SLe ⟨F, (p, u) :: G⟩ ⟨upd F p u, G⟩ := fun H o => by
  have hp := o.gs (p, u) List.mem_cons_self
  have nd := List.nodup_cons.mp o.nd
  refine ⟨fun a x e => ?_, fun q hq => ⟨(o.gs q (List.mem_cons_of_mem _ hq)).1, ?_⟩, nd.2⟩
  · by_cases ha : a = p
    · subst ha
      have e' : upd F a u a = some x := e
      rw [upd_same] at e'
      cases e'
      exact hp.1
    · have e' : upd F p u a = some x := e
      rw [upd_ne ha] at e'
      exact o.fr a x e'
  · have hne : q.1 ≠ p := fun e => nd.1 (List.mem_map.mpr ⟨q, hq, e⟩)
    show upd F p u q.1 = none
    rw [upd_ne hne]
    exact (o.gs q (List.mem_cons_of_mem _ hq)).2
theorem sle_get {S : SH} {i : Nat} {p : Addr} {u : HO} (h : S.G[i]? = some (p, u)) : SLe S ⟨S.F, [(p, u)]⟩ := fun H o => by
  refine ⟨o.fr, fun q hq => ?_, by simp⟩
  have e : q = (p, u) := List.mem_singleton.mp hq
  subst e
  exact o.gs _ (List.mem_of_getElem? h)

/-! ### statements -/
section
variable {st : Stmt} {rest body orelse : List Stmt} {t u : sS}
abbrev sEnds.at (D : sEnds) (n : St → SH → Prop) : sEnds := { D with nx := n }
def sNext : sS := fun D σ S => D.nx σ S
def sSeq (t u : sS) : sS := fun D σ S => t { D with nx := u D } σ S
/-- the same, what follows shown once -/
def sCut (t u : sS) : sS := fun D σ S => ∃ M : St → SH → Prop, t { D with nx := fun σ' => Wk (M σ') } σ S ∧ ∀ σ' S', M σ' S' → u D σ' S'
theorem hNil : PSs X [] (dS W sNext) := PSs.by pss_nil fun D σ H ⟨S, D', o, h, k⟩ => k.nx _ _ _ o h
theorem hCons (h1 : PS X st (dS W t)) (h2 : PSs X rest (dS W u)) : PSs X (st :: rest) (dS W (sSeq t u)) :=
  PSs.by (pss_cons h1 h2) fun D σ H ⟨S, D', o, h, k⟩ => ⟨S, { D' with nx := u D' }, o, h, ⟨fun σ1 S1 H1 o1 h1 => ⟨S1, D', o1, h1, k⟩, k.rt, k.bk, k.ct, k.ex⟩⟩
theorem hCut (h1 : PS X st (dS W t)) (h2 : PSs X rest (dS W u)) : PSs X (st :: rest) (dS W (sCut t u)) :=
  PSs.by (pss_cons h1 h2) fun D σ H ⟨S, D', o, ⟨M, h, hm⟩, k⟩ => ⟨S, { D' with nx := fun σ' => Wk (M σ') }, o, h, ⟨fun σ1 S1 H1 o1 ⟨S0, le, h1⟩ => ⟨S0, D', le _ o1, hm _ _ h1, k⟩, k.rt, k.bk, k.ct, k.ex⟩⟩
theorem hOne (h1 : PS X st (dS W t)) : PSs X [st] (dS W t) := PSs.by (pss_one h1) fun D σ H z => z
def sBreak : sS := fun D σ S => D.bk σ S
def sCont : sS := fun D σ S => D.ct σ S
def sNever : sS := fun _ _ _ => False
theorem hPass : PS X (.Pass pos) (dS W sNext) := PS.by ps_pass fun D σ H ⟨S, D', o, h, k⟩ => k.nx _ _ _ o h
theorem hBreak : PS X (.Break pos) (dS W sBreak) := PS.by ps_break fun D σ H ⟨S, D', o, h, k⟩ => k.bk _ _ _ o h
theorem hCont : PS X (.Continue pos) (dS W sCont) := PS.by ps_continue fun D σ H ⟨S, D', o, h, k⟩ => k.ct _ _ _ o h
theorem hNever : PS X st (dS W sNever) := PS.by ps_never fun D σ H ⟨S, D', o, h, k⟩ => h.elim
theorem hDoc {x j pos pos'} : PS X (.Expr (.Constant (.str x) j pos) pos') (dS W sNext) := PS.by ps_doc fun D σ H ⟨S, D', o, h, k⟩ => k.nx _ _ _ o h
def sDrop (te : sE) : sS := fun D σ S => te D.ex σ S fun _ S1 => D.nx σ S1
theorem hExpr {e : Expr} {te : sE} (he : PE X e (dE W te)) (hs : swapsWith e none pos.line X.env = pure false := by rfl) : PS X (.Expr e pos) (dS W (sDrop te)) :=
  PS.by (ps_expr he hs) fun D σ H ⟨S, D', o, h, k⟩ => ⟨S, _, D'.ex, k.ex, o, h, fun x S1 H1 o1 h1 => k.nx _ _ _ o1 h1⟩
def sRet (te : sE) : sS := fun D σ S => te D.ex σ S D.rt
def sRetN : sS := fun D _ S => D.rt .non S
theorem hRet {e : Expr} {te : sE} (he : PE X e (dE W te)) : PS X (.Return (some e) pos) (dS W (sRet te)) :=
  PS.by (ps_ret he) fun D σ H ⟨S, D', o, h, k⟩ => ⟨S, _, D'.ex, k.ex, o, h, k.rt⟩
theorem hRetN : PS X (.Return none pos) (dS W sRetN) := PS.by ps_retN fun D σ H ⟨S, D', o, h, k⟩ => k.rt _ _ _ o h
def sIfS (c : sT) (t u : sS) : sS := fun D σ S => c D.ex σ S fun b S1 => match b with
    | true => t D σ S1
    | false => u D σ S1
theorem hIf {c : Expr} {a b : List Stmt} {tc : sT} (hc : PT X c (dT W tc)) (ha : PSs X a (dS W t)) (hb : PSs X b (dS W u)) : PS X (.If c a b pos) (dS W (sIfS tc t u)) :=
  PS.by (ps_if hc ha hb) fun D σ H ⟨S, D', o, h, k⟩ => ⟨S, _, D'.ex, k.ex, o, h, fun b S1 H1 o1 h1 => by
    cases b with
    | true => exact ⟨S1, D', o1, h1, k⟩
    | false => exact ⟨S1, D', o1, h1, k⟩⟩
def sAsg (te : sE) (g : sG) : sS := fun D σ S => te D.ex σ S fun x S1 => g D.ex x σ S1 D.nx
theorem hAsg {tg e : Expr} {te : sE} {g : sG} (he : PE X e (dE W te)) (hg : PG X tg (dG W g)) (hs : swapsWithSole [tg] e pos.line X.env = pure false := by rfl) (hw : swappedStores [tg] e X.env = pure none := by rfl)
    (h1 : (assignEach [tg] X.env).map (·.2) = [assign tg X.env] := by rfl) : PS X (.Assign [tg] e pos) (dS W (sAsg te g)) :=
  PS.by (ps_asg he hg hs hw h1) fun D σ H ⟨S, D', o, h, k⟩ => ⟨S, _, D'.ex, k.ex, o, h, fun x S1 H1 o1 h1 => ⟨S1, _, D'.ex, k.ex, o1, h1, k.nx⟩⟩
def sSet (te : sE) (i : Nat) : sS := fun D σ S => te D.ex σ S fun x S1 => D.nx (σ.set i (some x)) S1
theorem hSet {i : Nat} {x : Str} {e : Expr} {te : sE} {pos' : Pos} (hN : X.N.Nodup) (hi : X.N[i]? = some x) (hx : Loc X.env.scope x) (he : PE X e (dE W te)) (hs : swapsWith e (some (.Name x pos')) pos.line X.env = pure false := by rfl) (hf : X.fn x = true ∨ X.env.scope.names.lookup x = some .local := by first | exact .inl rfl | exact .inr rfl | assumption) :
    PS X (.Assign [.Name x pos'] e pos) (dS W (sSet te i)) :=
  PS.by (ps_set hN hi hx he hs hf) fun D σ H ⟨S, D', o, h, k⟩ => ⟨S, _, D'.ex, k.ex, o, h, fun x S1 H1 o1 h1 => k.nx _ _ _ o1 h1⟩
/-- while -/
def sWhile (c : sT) (tb : sS) : sS := fun D σ S => ∃ P : Nat → St → SH → Prop, (∃ m, P m σ S) ∧ ∀ m σ S, P m σ S →
  c D.ex σ S fun b S1 => match b with
    | true => tb { D with nx := fun σ' => Wk fun S' => ∃ m', m' < m ∧ P m' σ' S', ct := fun σ' => Wk fun S' => ∃ m', m' < m ∧ P m' σ' S', bk := D.nx } σ S1
    | false => D.nx σ S1
theorem hWhile {c : Expr} {tc : sT} {tb : sS} (hp : PassesOwn (model X.prog X.w) X.A X.env X.xe) (hc : PT X c (dT W tc)) (hb : PSs X body (dS W tb)) : PS X (.While c body [] pos) (dS W (sWhile tc tb)) :=
  PS.by (ps_while hp hc hb) fun D σ H ⟨S, D', o, ⟨P, ⟨m0, h0⟩, h⟩, k⟩ => ⟨fun m σ H => ∃ S, Own S H ∧ P m σ S, ⟨m0, S, o, h0⟩, fun m σ H ⟨S, o, p⟩ => ⟨S, _, D'.ex, k.ex, o, h m σ S p, fun b S1 H1 o1 h1 => by
    cases b with
    | false => exact k.nx _ _ _ o1 h1
    | true => exact ⟨fun σ H => ∃ m', m' < m ∧ ∃ S, Own S H ∧ P m' σ S, fun σ' H' z => z, S1, _, o1, h1, ⟨fun σ' S' H' o' ⟨S0, le, m', z1, z2⟩ => ⟨m', z1, S0, le _ o', z2⟩, k.rt, k.nx, fun σ' S' H' o' ⟨S0, le, m', z1, z2⟩ => ⟨m', z1, S0, le _ o', z2⟩, k.ex⟩⟩⟩⟩
end

/-! ### what a for walks -/
/-- a walk: its length, what must stand, what a turn yields -/
structure SIt where
  n : Nat
  ok : SH → Prop
  yld : Nat → SH → (V → SH → Prop) → Prop
structure SItOk (J : It) (s : SIt) : Prop where
  stop : ∀ S H i, Own S H → s.ok S → s.n ≤ i → J.stop i H
  go : ∀ S H i, Own S H → s.ok S → i < s.n → J.go i H
  yld : ∀ S H i x H' k, Own S H → s.ok S → i < s.n → J.yld i H x H' → s.yld i S k → ∃ S', Own S' H' ∧ k x S'
abbrev sI := sWX → St → SH → (SIt → SH → Prop) → Prop
def dI (W : WX) (t : sI) : TI := fun σ H R => ∃ S R' W', ImpW W' W ∧ Own S H ∧ t W' σ S R' ∧ ∀ s S' H' J, Own S' H' → SItOk J s → R' s S' → R J H'
theorem PI.by {tg e : Expr} {t t' : TI} (h : PI X tg e t) (k : ∀ σ H R, t' σ H R → t σ H R) : PI X tg e t' := ⟨fun pins s σ H R I q => h.run pins s σ H R I (k σ H R q)⟩
def sFor (i : sI) (g : sG) (tb : sS) : sS := fun D σ S => i D.ex σ S fun s S1 => ∃ P : Nat → St → SH → Prop, P 0 σ S1 ∧ (∀ i σ S, i ≤ s.n → P i σ S → s.ok S) ∧
  (∀ i σ S, i < s.n → P i σ S → s.yld i S fun v S' => g D.ex v σ S' fun σ2 S2 => tb { D with nx := fun σ' => Wk (P (i + 1) σ'), ct := fun σ' => Wk (P (i + 1) σ'), bk := D.nx } σ2 S2) ∧ ∀ σ S, P s.n σ S → D.nx σ S
theorem hFor {tg iter : Expr} {body : List Stmt} {ti : sI} {g : sG} {tb : sS} (hp : PassesOwn (model X.prog X.w) X.A X.env X.xe) (hc : X.calm = true) (hi : PI X tg iter (dI W ti)) (hg : PG X tg (dG W g)) (hb : PSs X body (dS W tb)) (hs : ∀ x, foldedSetIterable iter X.env x = pure x := by intro _; rfl) : PS X (.For tg iter body [] pos) (dS W (sFor ti g tb)) :=
  PS.by (ps_for hp hc hi hg hb hs) fun D σ H ⟨S, D', o, h, k⟩ => ⟨S, _, D'.ex, k.ex, o, h, fun s S1 H1 J o1 j h1 => by
    obtain ⟨P, h0, hok, hs, hd⟩ := h1
    refine ⟨fun i m σ H => m = s.n - i ∧ i ≤ s.n ∧ ∃ S, Own S H ∧ P i σ S, ⟨s.n, by simp, Nat.zero_le _, S1, o1, h0⟩, ?_⟩
    rintro i m σ H ⟨rfl, hi, S2, o2, p⟩
    by_cases hlt : i < s.n
    · refine .inr ⟨j.go S2 H i o2 (hok i σ S2 hi p) hlt, fun σ' H' => ∃ S', Own S' H' ∧ P (i + 1) σ' S', fun σ' H' p' => ⟨s.n - (i + 1), by omega, rfl, hlt, p'⟩, fun x H' y => ?_⟩
      obtain ⟨S', o', q⟩ := j.yld S2 H i x H' _ o2 (hok i σ S2 hi p) hlt y (hs i σ S2 hlt p)
      refine ⟨S', _, D'.ex, k.ex, o', q, fun σ2 S3 H3 o3 q3 => ⟨S3, _, o3, q3, ⟨fun σ4 S4 H4 o4 ⟨S0, le, q4⟩ => ⟨S0, le _ o4, q4⟩, k.rt, k.nx, fun σ4 S4 H4 o4 ⟨S0, le, q4⟩ => ⟨S0, le _ o4, q4⟩, k.ex⟩⟩⟩
    · have e : i = s.n := by omega
      subst e
      exact .inl ⟨j.stop S2 H _ o2 (hok _ σ S2 hi p) (Nat.le_refl _), k.nx _ _ _ o2 (hd σ S2 p)⟩⟩
/-- a list, a tuple -/
def itL (K : PySem.W.Frag) (a : Addr) (xs : List V) : SIt := ⟨xs.length, fun S => sL K S a xs, fun i S k => ∀ v, xs[i]? = some v → k v S⟩
def itU (K : PySem.W.Frag) (a : Addr) (xs : List V) : SIt := ⟨xs.length, fun S => sU K S a xs, fun i S k => ∀ v, xs[i]? = some v → k v S⟩
theorem itL_ok {K : PySem.W.Frag} {a : Addr} {xs : List V} : SItOk (Itl K a) (itL K a xs) :=
  ⟨fun S H i o h hi => ⟨xs, o.l h, hi⟩, fun S H i o h hi => ⟨xs, _, o.l h, List.getElem?_eq_getElem hi⟩, fun S H i x H' k o h hi ⟨e, y⟩ q => by
    subst e
    exact ⟨S, o, q x (y xs (o.l h))⟩⟩
theorem itU_ok {K : PySem.W.Frag} {a : Addr} {xs : List V} : SItOk (Itt K a) (itU K a xs) :=
  ⟨fun S H i o h hi => ⟨xs, o.u h, hi⟩, fun S H i o h hi => ⟨xs, _, o.u h, List.getElem?_eq_getElem hi⟩, fun S H i x H' k o h hi ⟨e, y⟩ q => by
    subst e
    exact ⟨S, o, q x (y xs (o.u h))⟩⟩
def siSeq (K : PySem.W.Frag) (tl : sE) : sI := fun W σ S R => tl W σ S fun x S1 => match x with
  | .ref a => (∃ xs, sL K S1 a xs ∧ R (itL K a xs) S1) ∨ ∃ xs, sU K S1 a xs ∧ R (itU K a xs) S1
  | _ => False
/-- by values: what is walked -/
theorem pi_seq {tg l : Expr} {tl : TE} (hl : PE X l tl) : PI X tg l (fun σ H R => tl σ H fun x H1 => ∃ a, x = .ref a ∧ (((∃ xs, SqL X.K H1 a xs) ∧ R (Itl X.K a) H1) ∨ ((∃ xs, SqT X.K H1 a xs) ∧ R (Itt X.K a) H1))) := by
  refine ⟨fun pins s σ H R I h => ?_⟩
  refine thn (hl.run pins s σ H _ I h) fun v s1 ⟨x, H1, I1, r1, a, e, q⟩ => ?_
  subst e
  cases r1
  rcases q with ⟨⟨xs, hq⟩, q⟩ | ⟨⟨xs, hq⟩, q⟩
  · obtain ⟨its, rv, p, hz⟩ := I1.list hq
    refine wpAny_pyIter_list p.isList ?_
    refine ⟨s1.heap.objs.size, [s1.heap.objs.size], _, _, H1, rfl, I1.kept (t' := s1.toks) fun b o e => Heap.get?_push_of_some _ e, turn_list a _, ⟨_, Heap.get?_push_size _ rfl, rfl, rfl⟩, fun b hb => ?_, q⟩
    have e : b = s1.heap.objs.size := by simpa using hb
    subst e
    exact I1.fpOk (Nat.le_refl _) (I1.hok.fresh (Nat.le_refl _))
  · obtain ⟨its, rv, p, hz⟩ := I1.tuple hq
    refine wpAny_pyIter_tuple (show s1.heap.IsTuple a its.toArray from p) ?_
    refine ⟨s1.heap.objs.size, [s1.heap.objs.size], _, _, H1, rfl, I1.kept (t' := s1.toks) fun b o e => Heap.get?_push_of_some _ e, turn_tuple a _, ⟨_, Heap.get?_push_size _ rfl, rfl, rfl⟩, fun b hb => ?_, q⟩
    have e : b = s1.heap.objs.size := by simpa using hb
    subst e
    exact I1.fpOk (Nat.le_refl _) (I1.hok.fresh (Nat.le_refl _))
theorem iSeq {tg l : Expr} {tl : sE} (hl : PE X l (dE W tl)) : PI X tg l (dI W (siSeq X.K tl)) :=
  PI.by (pi_seq hl) fun σ H R ⟨S, R', W', kw, o, h, k⟩ => ⟨S, _, W', kw, o, h, fun x S1 H1 o1 h1 => by
    split at h1
    · rename_i a
      refine ⟨a, rfl, ?_⟩
      rcases h1 with ⟨xs, h1, h2⟩ | ⟨xs, h1, h2⟩
      · exact .inl ⟨⟨xs, o1.l h1⟩, k _ _ _ _ o1 itL_ok h2⟩
      · exact .inr ⟨⟨xs, o1.u h1⟩, k _ _ _ _ o1 itU_ok h2⟩
    · exact h1.elim⟩
/-- a range -/
def itR (lo : Int) (n : Nat) : SIt := ⟨n, fun _ => True, fun i S k => k (.int (lo + (i : Nat))) S⟩
theorem itR_ok {lo : Int} {n : Nat} : SItOk (Itr lo n) (itR lo n) :=
  ⟨fun S H i o h hi => hi, fun S H i o h hi => hi, fun S H i x H' k o h hi ⟨e, y⟩ q => by
    subst e
    subst y
    exact ⟨S, o, q⟩⟩
def rngOk (i : Int) : Prop := -(2 ^ 62) ≤ i ∧ i < 2 ^ 62
def siR1 (ta : sA) : sI := fun W σ S R => ta W σ S fun vs S1 => match vs with
  | [.int j] => rngOk j ∧ R (itR 0 j.toNat) S1
  | _ => False
def siR2 (ta : sA) : sI := fun W σ S R => ta W σ S fun vs S1 => match vs with
  | [.int i, .int j] => rngOk i ∧ rngOk j ∧ R (itR i (j - i).toNat) S1
  | _ => False
theorem iR1 {tg a : Expr} {ta : sA} {p pos : Pos} (hg : Gl X "range") (hm : X.mg "range" = none) (ha : PA X [a] (dA W ta)) (hs : starEach [a] X.env = [(false, eval a X.env)] := by rfl) : PI X tg (.Call (.Name "range" p) [a] [] pos) (dI W (siR1 ta)) :=
  PI.by (pi_range1 hg hm ha hs) fun σ H R ⟨S, R', W', kw, o, h, k⟩ => ⟨S, _, W', kw, o, h, fun vs S1 H1 o1 h1 => by
    split at h1
    · exact ⟨_, rfl, h1.1.1, h1.1.2, k _ _ _ _ o1 itR_ok h1.2⟩
    · exact h1.elim⟩
theorem iR2 {tg a b : Expr} {ta : sA} {p pos : Pos} (hg : Gl X "range") (hm : X.mg "range" = none) (ha : PA X [a, b] (dA W ta)) (hs : starEach [a, b] X.env = [(false, eval a X.env), (false, eval b X.env)] := by rfl) (hs2 : starEach [b] X.env = [(false, eval b X.env)] := by rfl) :
    PI X tg (.Call (.Name "range" p) [a, b] [] pos) (dI W (siR2 ta)) :=
  PI.by (pi_range2 hg hm ha hs hs2) fun σ H R ⟨S, R', W', kw, o, h, k⟩ => ⟨S, _, W', kw, o, h, fun vs S1 H1 o1 h1 => by
    split at h1
    · exact ⟨_, _, rfl, ⟨h1.1.1, h1.1.2, h1.2.1.1, h1.2.1.2⟩, k _ _ _ _ o1 itR_ok h1.2.2⟩
    · exact h1.elim⟩

/-! ### list comprehensions -/
/-- nothing may be let out -/
def noW : sWX := fun _ _ _ _ => False
abbrev NoW : WX := fun _ _ _ _ => False
theorem noW_imp {W : WX} : ImpW noW W := fun _ _ _ _ _ _ q => q.elim
def sLc (i : sI) (g : sG) (tt : sT) (te : sE) (vs : List Nat) : sE := fun W σ S Q => i W σ S fun s S1 => ∀ D, ∃ P : Nat → SH → Prop, P 0 (S1.new D (.lst [])) ∧ (∀ i S, i ≤ s.n → P i S → s.ok S) ∧
  (∀ i S, i < s.n → P i S → s.yld i S fun v S' => g noW v (wipe σ vs) S' fun σ2 S2 => wipe σ2 vs = wipe σ vs ∧ tt noW σ2 S2 fun b S3 =>
    match b with
    | true => te noW σ2 S3 fun y S4 => ∃ k acc, S4.G[k]? = some (D, .lst acc) ∧ acc.length < sizeLine ∧ Wk (P (i + 1)) (S4.put k D (.lst (acc ++ [y])))
    | false => Wk (P (i + 1)) S3) ∧ ∀ S, P s.n S → Q (.ref D) S
def sYes : sT := fun _ _ S Q => Q true S
structure sTs (X : Cx) (W : WX) (ifs : List Expr) (t : sT) : Prop where
  to : PTs X ifs (dT W t)
theorem gNoIf : sTs X W [] sYes := ⟨⟨fun pins s σ H Q I ⟨S, Q', W', kw, o, h, k⟩ => pts_nil.run pins s σ H Q I (k _ _ _ o h)⟩⟩
theorem gOneIf {c : Expr} {t : sT} (h : PT X c (dT W t)) : sTs X W [c] t := ⟨pts_one h⟩
theorem lift_lc {ti : sI} {g : sG} {tt : sT} {te : sE} {vs : List Nat} : ∀ σ H Q, dE W (sLc ti g tt te vs) σ H Q → tLc (dI W ti) (dG NoW g) (dT NoW tt) (dE NoW te) vs σ H Q := fun σ H Q ⟨S, Q', W', kw, o, h, k⟩ =>
  ⟨S, _, W', kw, o, h, fun s S1 H1 J o1 j h1 => by
    intro D hD
    obtain ⟨P, h0, hok, hs, hd⟩ := h1 D
    refine ⟨fun i m H => m = s.n - i ∧ i ≤ s.n ∧ ∃ S, Own S H ∧ P i S, ⟨s.n, by simp, Nat.zero_le _, _, o1.newU hD, h0⟩, ?_⟩
    rintro i m H ⟨rfl, hi, S2, o2, p⟩
    by_cases hlt : i < s.n
    · refine .inr ⟨j.go S2 H i o2 (hok i S2 hi p) hlt, fun H' => ∃ S', Own S' H' ∧ P (i + 1) S', fun H' p' => ⟨s.n - (i + 1), by omega, rfl, hlt, p'⟩, fun x H' y => ?_⟩
      obtain ⟨S', o', q⟩ := j.yld S2 H i x H' _ o2 (hok i S2 hi p) hlt y (hs i S2 hlt p)
      refine ⟨S', _, noW, noW_imp, o', q, fun σ2 S3 H3 o3 q3 => ⟨q3.1, S3, _, noW, noW_imp, o3, q3.2, fun b S4 H4 o4 q4 => ?_⟩⟩
      cases b with
      | false =>
        obtain ⟨S0, le, q4⟩ := q4
        exact ⟨S0, le _ o4, q4⟩
      | true =>
        refine ⟨S4, _, noW, noW_imp, o4, q4, fun y S5 H5 o5 q5 => ?_⟩
        obtain ⟨kk, acc, z1, z2, S0, le, z3⟩ := q5
        exact ⟨acc, o5.g z1, z2, _, le _ (o5.putU z1), z3⟩
    · have e : i = s.n := by omega
      subst e
      exact .inl ⟨j.stop S2 H _ o2 (hok _ S2 hi p) (Nat.le_refl _), k _ _ _ o2 (hd S2 p)⟩⟩
theorem gLc {elt tg iter : Expr} {ifs : List Expr} {scope : Scope} {own : List (Str × Nat)} {ti : sI} {g : sG} {tt : sT} {te : sE} (hc : X.calm = true) (hN : X.N.Nodup) (hi : PI X tg iter (dI W ti)) (ok : BlkOk X.N X.env.scope scope own)
    (hg : ∀ (s : Shared) (H : Hp) (C : Addr) (cl : List (Str × Addr)) (fp : List Addr), PG (X.blk s H scope (compEnvC scope cl C X.env) fp) tg (dG NoW g)) (ht : ∀ (s : Shared) (H : Hp) (C : Addr) (cl : List (Str × Addr)) (fp : List Addr), sTs (X.blk s H scope (compEnvC scope cl C X.env) fp) NoW ifs tt)
    (he : ∀ (s : Shared) (H : Hp) (C : Addr) (cl : List (Str × Addr)) (fp : List Addr), PE (X.blk s H scope (compEnvC scope cl C X.env) fp) elt (dE NoW te)) (hs : ∀ x, foldedSetIterable iter X.env x = pure x := by intro _; rfl) :
    PE X (.ListComp elt [⟨tg, iter, ifs, 0⟩] scope pos) (dE W (sLc ti g tt te (own.map (·.2)))) :=
  PE.by (pe_lc hc hN hi ok hg (fun s H C cl fp => (ht s H C cl fp).to) he hs) lift_lc
theorem hSetLc {i : Nat} {y : Str} {py : Pos} {elt tg iter : Expr} {ifs : List Expr} {scope : Scope} {own : List (Str × Nat)} {pos spos : Pos} {ti : sI} {g : sG} {tt : sT} {te : sE} (hc : X.calm = true) (hN : X.N.Nodup) (hy : X.N[i]? = some y) (hyl : X.env.scope.names.lookup y = some .local)
    (hsw : swapsWith (.ListComp elt [⟨tg, iter, ifs, 0⟩] scope pos) (some (.Name y py)) spos.line X.env = pure true) (hi : PI X tg iter (dI W ti)) (ok : BlkOk X.N X.env.scope scope own)
    (hg : ∀ (s : Shared) (H : Hp) (C : Addr) (cl : List (Str × Addr)) (fp : List Addr), PG (X.blk s H scope (compEnvC scope cl C X.env) fp) tg (dG NoW g)) (ht : ∀ (s : Shared) (H : Hp) (C : Addr) (cl : List (Str × Addr)) (fp : List Addr), sTs (X.blk s H scope (compEnvC scope cl C X.env) fp) NoW ifs tt)
    (he : ∀ (s : Shared) (H : Hp) (C : Addr) (cl : List (Str × Addr)) (fp : List Addr), PE (X.blk s H scope (compEnvC scope cl C X.env) fp) elt (dE NoW te)) (hs : ∀ x, foldedSetIterable iter X.env x = pure x := by intro _; rfl) :
    PS X (.Assign [.Name y py] (.ListComp elt [⟨tg, iter, ifs, 0⟩] scope pos) spos) (dS W (sSet (sLc ti g tt te (own.map (·.2))) i)) :=
  PS.by (ps_setLc hc hN hy hyl hsw hi ok hg (fun s H C cl fp => (ht s H C cl fp).to) he hs) fun D σ H ⟨S, D', o, h, k⟩ => lift_lc σ H _ ⟨S, _, D'.ex, k.ex, o, h, fun x S1 H1 o1 h1 => k.nx _ _ _ o1 h1⟩

/-! ### calls of own defs -/
/-- sp, from the symbolic heap -/
def sSp (sp : Sp) : sWX → List V → St → SH → (V → SH → Prop) → Prop := fun W vs σ S Q => ∀ H, Own S H → sp vs H (fun v H' => ∃ S', Own S' H' ∧ Q v S') (fun c d H' => ∃ S', Own S' H' ∧ W c d σ S')
/-- sp stands a weaker wish -/
def SpMono (sp : Sp) : Prop := ∀ vs H Q Q' E E', (∀ v H', Q v H' → Q' v H') → (∀ c d H', E c d H' → E' c d H') → sp vs H Q E → sp vs H Q' E'
def sCall (sp : Sp) (t : sA) : sE := fun W σ S Q => t W σ S fun vs S1 => sSp sp W vs σ S1 Q
section
variable {k : Nat} {f : Addr} {fd : FuncData} {ps : List Str} {sp : Sp} {x : Str} {p : Pos} {e : Expr}
theorem lift_sp (m : SpMono sp) {vs : List V} {σ : St} {S : SH} {H : Hp} {W' : sWX} {Q' : V → SH → Prop} {Q : VK} (kw : ImpW W' W) (o : Own S H) (h : sSp sp W' vs σ S Q') (k : Imp Q' Q) : sp vs H Q (WE W σ) :=
  m _ _ _ _ _ _ (fun v H' ⟨S', o', q⟩ => k v S' H' o' q) (fun c d H' ⟨S', o', q⟩ => kw c d σ S' H' o' q) (h H o)
theorem gCall (m : SpMono sp) (F : FnOk X.prog X.w X.K X.mg X.base (L2.CX X.prog X.w) k f fd ps sp) (hr : Room k X.A) (hg : Gl X x) (hm : X.mg x = some (.ref f)) (hk : PySem.W.keepIn X.K (.ref f) = true) (hb : Binds X.K fd ps []) (tk : Takes X W) (ha : PA X (e :: es) (dA W tas))
    (hdb : (x == ("__debug__" : Str)) = false := by decide) (he : starEach (e :: es) X.env = (false, eval e X.env) :: starEach es X.env := by rfl) (hpl : (backTo pos (starEach es X.env)).any (·.1) = false := by rfl) :
    PE X (.Call (.Name x p) (e :: es) [] pos) (dE W (sCall sp tas)) :=
  PE.by (pe_callS F hr hg hm hk hb (fun σ => passAt tk σ) ha hdb he hpl) fun σ H Q ⟨S, Q', W', kw, o, h, k⟩ => ⟨S, _, W', kw, o, h, fun vs S1 H1 o1 h1 => lift_sp m kw o1 h1 k⟩
end

/-! ### contracts -/
/-- of values alone: a value, or an error with one field -/
inductive Ot where
  | ok (v : V)
  | er (C : Addr) (f : Str) (v : V)
def spV (f : List V → Option Ot) : Sp := fun vs H Q E => match f vs with
  | some (.ok v) => ∀ H', Ext H H' → Q v H'
  | some (.er C n v) => ∀ H' d, Ext H H' → H d = none → H' d = some (.xd [(n, v)]) → E (.ref C) (some d) H'
  | none => False
theorem spV_mono {f : List V → Option Ot} : SpMono (spV f) := fun vs H Q Q' E E' kq ke h => by
  unfold spV at h ⊢
  split at h
  · exact fun H' e => kq _ _ (h H' e)
  · exact fun H' d e h1 h2 => ke _ _ _ (h H' d e h1 h2)
  · exact h.elim
/-- with ghosts α: what must hold ahead, what holds behind -/
structure Ct (α : Type) where
  pre : α → List V → Hp → Prop
  post : α → Hp → V → Hp → Prop
  exn : α → Hp → Value → Option Addr → Hp → Prop := fun _ _ _ _ _ => False
def spC {α : Type} (c : Ct α) : Sp := fun vs H Q E => ∃ g, c.pre g vs H ∧ (∀ v H', c.post g H v H' → Q v H') ∧ ∀ x d H', c.exn g H x d H' → E x d H'
theorem spC_mono {α : Type} {c : Ct α} : SpMono (spC c) := fun vs H Q Q' E E' kq ke ⟨g, h1, h2, h3⟩ => ⟨g, h1, fun v H' q => kq _ _ (h2 v H' q), fun x d H' q => ke _ _ _ (h3 x d H' q)⟩
def sCallV (f : List V → Option Ot) (t : sA) : sE := fun W σ S Q => t W σ S fun vs S1 => match f vs with
  | some (.ok v) => Q v S1
  | some (.er C n v) => ∀ d, W (.ref C) (some d) σ (S1.new d (.xd [(n, v)]))
  | none => False
def sCallC {α : Type} (c : Ct α) (t : sA) : sE := fun W σ S Q => t W σ S fun vs S1 => ∃ g, (∀ H, Own S1 H → c.pre g vs H) ∧ (∀ H v H', Own S1 H → c.post g H v H' → ∃ S', Own S' H' ∧ Q v S') ∧ ∀ H x d H', Own S1 H → c.exn g H x d H' → ∃ S', Own S' H' ∧ W x d σ S'
theorem lift_V {f : List V → Option Ot} {vs : List V} {σ : St} {S : SH} {W : sWX} {Q : V → SH → Prop} (h : match f vs with
  | some (.ok v) => Q v S
  | some (.er C n v) => ∀ d, W (.ref C) (some d) σ (S.new d (.xd [(n, v)]))
  | none => False) : sSp (spV f) W vs σ S Q := fun H o => by
  unfold spV
  split at h
  · exact fun H' e => ⟨S, o.ex e, h⟩
  · exact fun H' d e h1 h2 => ⟨_, o.new h1 e h2, h d⟩
  · exact h.elim
theorem lift_C {α : Type} {c : Ct α} {vs : List V} {σ : St} {S : SH} {W : sWX} {Q : V → SH → Prop} (h : ∃ g, (∀ H, Own S H → c.pre g vs H) ∧ (∀ H v H', Own S H → c.post g H v H' → ∃ S', Own S' H' ∧ Q v S') ∧ ∀ H x d H', Own S H → c.exn g H x d H' → ∃ S', Own S' H' ∧ W x d σ S') :
    sSp (spC c) W vs σ S Q := fun H o => by
  obtain ⟨g, h1, h2, h3⟩ := h
  exact ⟨g, h1 H o, fun v H' q => h2 H v H' o q, fun x d H' q => h3 H x d H' o q⟩
section
variable {k : Nat} {f : Addr} {fd : FuncData} {ps ks : List Str} {x : Str} {p : Pos} {e : Expr} {fv : List V → Option Ot} {α : Type} {ct : Ct α}
theorem gCallV (F : FnOk X.prog X.w X.K X.mg X.base (L2.CX X.prog X.w) k f fd ps (spV fv)) (hr : Room k X.A) (hg : Gl X x) (hm : X.mg x = some (.ref f)) (hk : PySem.W.keepIn X.K (.ref f) = true) (hb : Binds X.K fd ps []) (tk : Takes X W) (ha : PA X (e :: es) (dA W tas))
    (hdb : (x == ("__debug__" : Str)) = false := by decide) (he : starEach (e :: es) X.env = (false, eval e X.env) :: starEach es X.env := by rfl) (hpl : (backTo pos (starEach es X.env)).any (·.1) = false := by rfl) :
    PE X (.Call (.Name x p) (e :: es) [] pos) (dE W (sCallV fv tas)) :=
  PE.by (pe_callS F hr hg hm hk hb (fun σ => passAt tk σ) ha hdb he hpl) fun σ H Q ⟨S, Q', W', kw, o, h, k⟩ => ⟨S, _, W', kw, o, h, fun vs S1 H1 o1 h1 => lift_sp spV_mono kw o1 (lift_V h1) k⟩
theorem gCallC (F : FnOk X.prog X.w X.K X.mg X.base (L2.CX X.prog X.w) k f fd ps (spC ct)) (hr : Room k X.A) (hg : Gl X x) (hm : X.mg x = some (.ref f)) (hk : PySem.W.keepIn X.K (.ref f) = true) (hb : Binds X.K fd ps []) (tk : Takes X W) (ha : PA X (e :: es) (dA W tas))
    (hdb : (x == ("__debug__" : Str)) = false := by decide) (he : starEach (e :: es) X.env = (false, eval e X.env) :: starEach es X.env := by rfl) (hpl : (backTo pos (starEach es X.env)).any (·.1) = false := by rfl) :
    PE X (.Call (.Name x p) (e :: es) [] pos) (dE W (sCallC ct tas)) :=
  PE.by (pe_callS F hr hg hm hk hb (fun σ => passAt tk σ) ha hdb he hpl) fun σ H Q ⟨S, Q', W', kw, o, h, k⟩ => ⟨S, _, W', kw, o, h, fun vs S1 H1 o1 h1 => lift_sp spC_mono kw o1 (lift_C h1) k⟩
/-- with defaults that fill up, and keywords: gV puts them in order -/
def sKw (gV : List V → List V → List V) (t tk : sA) : sA := fun W σ S Q => t W σ S fun vs S1 => tk W σ S1 fun zs S2 => Q (gV vs zs) S2
def dK (W : WX) (t : sA) : TA := dA W t
theorem gKNil : PK X [] (dA W sNil) := PK.by pk_nil fun σ H Q ⟨S, Q', W', kw, o, h, k⟩ => k _ _ _ o h
theorem gKCons {nm : Option Str} {kpos : Pos} {kws : List Keyword} (ha : PE X a (dE W ta)) (hr : PK X kws (dA W tas)) : PK X (⟨nm, a, kpos⟩ :: kws) (dA W (sCons ta tas)) :=
  PK.by (pk_cons ha hr) fun σ H Q ⟨S, Q', W', kw, o, h, k⟩ => ⟨S, _, W', kw, o, h, fun x S1 H1 o1 h1 => ⟨S1, _, W', kw, o1, h1, fun xs S2 H2 o2 h2 => k _ _ _ o2 h2⟩⟩
theorem passE {E : XK} (tk : Takes X (fun c d _ H => E c d H)) : Passes (L2.CX X.prog X.w) X E := fun pins σ H s e s' I c => passAt tk σ pins H s e s' I c
end
/-! ### isinstance -/
/-- the built-in classes that we ask for -/
inductive TY where
  | non | bool | int | str | list | tuple | dict
  deriving DecidableEq
def TY.nm : TY → String
  | .non => "NoneType" | .bool => "bool" | .int => "int" | .str => "str" | .list => "list" | .tuple => "tuple" | .dict => "dict"
def TY.sub : TY → TY → Bool
  | .non, .non => true | .bool, .bool => true | .bool, .int => true | .int, .int => true | .str, .str => true | .list, .list => true | .tuple, .tuple => true | .dict, .dict => true
  | _, _ => false
theorem kit_sub : ∀ a n : TY, n ≠ .non → kitB a.nm n.nm = some (a.sub n) := by
  intro a n h
  cases a <;> cases n <;> first | exact absurd rfl h | decide +kernel
def isiTy (K : PySem.W.Frag) (x : V) (S : SH) (t : TY) : Prop := match x with
  | .non => t = .non
  | .bl _ => t = .bool
  | .int _ => t = .int
  | .str _ => t = .str
  | .ref p => (t = .list ∧ ∃ xs, sL K S p xs) ∨ (t = .tuple ∧ ∃ xs, sU K S p xs) ∨ (t = .dict ∧ ((∃ kvs, At S p (.dK kvs)) ∨ ∃ kvs, At S p (.dT kvs)))
  | _ => False
theorem Own.isi {K : PySem.W.Frag} {x : V} {S : SH} {H : Hp} {t : TY} (o : Own S H) (h : isiTy K x S t) : TyX K H x (.type t.nm) := by
  unfold isiTy at h
  cases x with
  | non => cases h; exact .base .non
  | bl b => cases h; exact .base (.bl b)
  | int b => cases h; exact .base (.int b)
  | str b => cases h; exact .base (.str b)
  | byt b => exact h.elim
  | flt b => exact h.elim
  | ty b => exact h.elim
  | ref p =>
    rcases h with ⟨rfl, xs, h⟩ | ⟨rfl, xs, h⟩ | ⟨rfl, ⟨kvs, h⟩ | ⟨kvs, h⟩⟩
    · rcases o.l h with (q | ⟨ob, q⟩) | ⟨ob, its, n, q1, q2, _⟩
      · exact .base (.lst q)
      · exact .base (.frz q)
      · exact .kList q1 q2
    · rcases o.u h with (q | ⟨ob, q⟩) | ⟨ob, its, n, q1, q2, _⟩
      · exact .base (.tup q)
      · exact .fTuple q
      · exact .kTuple q1 q2
    · exact .base (.dK (o.at h))
    · exact .base (.dT (o.at h))
/-- the same over a plain heap -/
def Ty0 (K : PySem.W.Frag) (H : Hp) (x : V) (t : TY) : Prop := isiTy K x ⟨H, []⟩ t
theorem At.ex {S : SH} {H : Hp} {p : Addr} {o : HO} (w : Own S H) (h : At S p o) : At ⟨H, []⟩ p o := .inr (w.at h)
theorem Own.ty0 {K : PySem.W.Frag} {x : V} {S : SH} {H : Hp} {t : TY} (o : Own S H) (h : isiTy K x S t) : Ty0 K H x t := by
  unfold Ty0
  unfold isiTy at h ⊢
  cases x with
  | ref p =>
    rcases h with ⟨rfl, xs, h⟩ | ⟨rfl, xs, h⟩ | ⟨rfl, ⟨kvs, h⟩ | ⟨kvs, h⟩⟩
    · exact .inl ⟨rfl, xs, .inr (o.l h)⟩
    · exact .inr (.inl ⟨rfl, xs, .inr (o.u h)⟩)
    · exact .inr (.inr ⟨rfl, .inl ⟨kvs, h.ex o⟩⟩)
    · exact .inr (.inr ⟨rfl, .inr ⟨kvs, h.ex o⟩⟩)
  | _ => exact h
theorem Ty0.ex {K : PySem.W.Frag} {x : V} {H H' : Hp} {t : TY} (h : Ty0 K H x t) (e : Ext H H') : Ty0 K H' x t := ((Own.base H).ex e).ty0 h
/-- isinstance(x, a built-in class) -/
def sIsi (K : PySem.W.Frag) (n : TY) (tx : sE) : sE := fun W σ S Q => tx W σ S fun x S1 => match x with
  | .non => Q (.bl (TY.sub .non n)) S1
  | .bl _ => Q (.bl (TY.sub .bool n)) S1
  | .int _ => Q (.bl (TY.sub .int n)) S1
  | .str _ => Q (.bl (TY.sub .str n)) S1
  | .ref p => ∃ t, isiTy K (.ref p) S1 t ∧ Q (.bl (TY.sub t n)) S1
  | _ => False
theorem gIsi {x : Expr} {tx : sE} {n : TY} {nm : Str} {p p2 : Pos} {pos : Pos} (hg : Gl X "isinstance") (hm : X.mg "isinstance" = none) (hx : PE X x (dE W tx)) (hn : n ≠ .non) (hg2 : Gl X nm) (hm2 : X.mg nm = none) (hv2 : bootBuiltins nm = some (.type n.nm)) (hn2 : nm ≠ "__name__" := by decide) (hd2 : (nm == ("__debug__" : Str)) = false := by decide)
    (he : starEach (x :: [.Name nm p2]) X.env = (false, eval x X.env) :: starEach [.Name nm p2] X.env := by rfl) (he2 : starEach [.Name nm p2] X.env = (false, eval (.Name nm p2) X.env) :: starEach [] X.env := by rfl) (hpl : (backTo pos (starEach [.Name nm p2] X.env)).any (·.1) = false := by rfl) :
    PE X (.Call (.Name "isinstance" p) [x, .Name nm p2] [] pos) (dE W (sIsi X.K n tx)) :=
  PE.by (pe_callB call_isi hg hm (by decide +kernel) (pa_cons hx (pa_cons (pe_bltn (v := .ty n.nm) hg2 hm2 hv2 rfl hn2 hd2) pa_nil he2) he) (by decide) (by decide) he hpl) fun σ H Q ⟨S, Q', W', kw, o, h, k⟩ => ⟨S, _, W', kw, o, h, fun x S1 H1 o1 h1 => by
    have fin : ∀ {t : TY}, isiTy X.K x S1 t → Q' (.bl (TY.sub t n)) S1 → rIsi X.K [x, .ty n.nm] H1 Q := fun {t} ht q =>
      ⟨x, .ty n.nm, _, _, _, rfl, .ty n.nm, o1.isi ht, kit_ty (kit_sub t n hn), k _ _ _ o1 q⟩
    show rIsi X.K [x, .ty n.nm] H1 Q
    split at h1
    · exact fin (t := .non) rfl h1
    · exact fin (t := .bool) rfl h1
    · exact fin (t := .int) rfl h1
    · exact fin (t := .str) rfl h1
    · obtain ⟨t, h2, h3⟩ := h1
      exact fin h2 h3
    · exact h1.elim⟩

/-! ### own errors: raised, caught -/
/-- __init__ of an own error with one field f -/
def spErr (C : Addr) (f : Str) : Sp := fun vs H Q _ => ∃ a v, vs = [.ref a, v] ∧ H a = some (exo a C none) ∧ ∀ dx, H dx = none → dx ≠ a → Q .non (upd (upd H dx (exd dx [(f, v)])) a (exo a C (some dx)))
/-- what the written part says of the error class x, with the one field f -/
structure ErrC (P : Program) (w : World) (K : PySem.W.Frag) (mg : Str → Option Value) (base : Heap) (x f : Str) (C : Addr) : Prop where
  oex : OexC K C
  xf : XfC K C
  isc : ExcC K C
  no : PySem.W.findIn K (.ref C) f = some none
  gC : mg x = some (.ref C)
  ini : ∃ fI fd, PySem.W.findIn K (.ref C) "__init__" = some (some (.ref fI)) ∧ PySem.W.typeIn K (.ref fI) = some (.type "function") ∧ FnOk P w K mg base (L2.CX P w) 1 fI fd ["self", f] (spErr C f) ∧ Binds K fd ["self", f] []
def sRaise (C : Addr) (f : Str) (ta : sE) : sS := fun D σ S => ta D.ex σ S fun v S1 => ∀ d, D.ex (.ref C) (some d) σ (S1.new d (.xd [(f, v)]))
theorem hRaise {x f : Str} {C : Addr} {a : Expr} {ta : sE} {p pos pos2 : Pos} {k : Nat} (hc : X.calm = true) (tk : Takes X W) (T : ErrC X.prog X.w X.K X.mg X.base x f C) (hr : Room (k + 2) X.A) (hg : Gl X x) (ha : PE X a (dE W ta))
    (hdb : (x == ("__debug__" : Str)) = false := by decide) (hs : starEach (a :: []) X.env = (false, eval a X.env) :: starEach [] X.env := by rfl) (hpl : (backTo pos (starEach [] X.env)).any (·.1) = false := by rfl) :
    PS X (.Raise (some (.Call (.Name x p) [a] [] pos)) none pos2) (dS W (sRaise C f ta)) := by
  obtain ⟨fI, fd, h1, h2, F, hb⟩ := T.ini
  refine PS.by (ps_raise hc tk (pmk_oex T.oex h1 h2 F (hr.mono (by omega)) hb .nil passL hg T.gC (pa_cons ha pa_nil hs) hdb hs hpl)) fun D σ H ⟨S, D', o, h, k⟩ => ⟨S, _, D'.ex, k.ex, o, h, fun v S1 H1 o1 h1 => ?_⟩
  refine ⟨by simp, fun e he => ⟨e, v, rfl, upd_same, fun dx hdx hne => ⟨rfl, dx, [(f, v)], upd_same, ?_, ?_, ?_⟩⟩⟩
  · rw [upd_ne hne, upd_same]
  · rw [upd_ne hne] at hdx
    exact hdx
  · rw [upd_ne hne] at hdx
    refine k.ex _ _ _ _ _ (o1.new hdx (fun b u hb => ?_) upd_same) (h1 dx)
    have n1 : b ≠ e := ne_of_none hb he
    have n2 : b ≠ dx := ne_of_none hb hdx
    rw [upd_ne n2, del_ne n1, upd_ne n1, upd_ne n2, upd_ne n1]
    exact hb
/-- try: body except x as n: suite -/
def sTryAs (K : PySem.W.Frag) (c : Value) (i : Nat) (tb : sS) (ts : Addr → Value → Option Addr → sS) : sS := fun D σ S => tb { D with ex := fun cls d σ' S' => ∃ b, PySem.W.exmOne K cls c = some b ∧
  (b = true → ∀ a, ts a cls d { nx := fun σ2 S2 => D.nx (σ2.set i none) S2, rt := D.rt, bk := fun σ2 S2 => D.bk (σ2.set i none) S2, ct := fun σ2 S2 => D.ct (σ2.set i none) S2, ex := noW } (σ'.set i (some (.ref a))) S') ∧ (b = false → D.ex cls d σ' S') } σ S
theorem hTryAs {x n : Str} {c : Value} {i : Nat} {body suite : List Stmt} {b₀ : Stmt} {np pos pos' : Pos} {tb : sS} {ts : Addr → Value → Option Addr → sS}
    (hs : X.stack = X.env :: X.outer) (hf : X.env.frame = some X.env.locals) (hN : X.N.Nodup) (hi : X.N[i]? = some n) (hln : X.env.kindOf n = some .local) (hc : Names X x c) (tk : Takes X W)
    (hb : ∀ (W : WX) (pn : List (Addr × Obj)) (xe : Value → Shared → Prop), Takes (X.tr pn xe) W → PassesOwn (model X.prog X.w) X.A X.env xe → PSs (X.tr pn xe) body (dS W tb))
    (hsu : ∀ (a : Addr) (oe : Obj) (cls : Value) (d : Option Addr) (pn : List (Addr × Obj)), Zc cls d oe → (∃ vs, oe.data = .fields vs) → PSs (X.suite a ((a, oe) :: pn)) (b₀ :: suite) (dS NoW (ts a cls d))) :
    PS X (.Try body [.ExceptHandler (some (.Name x np)) (some n) (b₀ :: suite) pos'] [] [] pos) (dS W (sTryAs X.K c i tb ts)) :=
  PS.by (ps_try_as (tb := fun W => dS W tb) (ts := fun a cls d => dS NoW (ts a cls d)) hs hf hN hi hln hc tk hb hsu) fun D σ H ⟨S, D', o, h, k⟩ => ⟨S, _, o, h, ⟨k.nx, k.rt, k.bk, k.ct, fun cls d σ' S' H' o' ⟨b, e, y, n⟩ =>
    ⟨b, e, fun hb a _ => ⟨S', _, o', y hb a, ⟨fun σ2 S2 H2 o2 q => k.nx _ _ _ o2 q, k.rt, fun σ2 S2 H2 o2 q => k.bk _ _ _ o2 q, fun σ2 S2 H2 o2 q => k.ct _ _ _ o2 q, noW_imp⟩⟩, fun hb => k.ex cls d σ' S' H' o' (n hb)⟩⟩⟩
/-- e.f of the error that the suite holds -/
def sXf (a : Addr) (cls : Value) (d : Option Addr) (C : Addr) (f : Str) (te : sE) : sE := fun W σ S Q => te W σ S fun x S1 => x = .ref a ∧ cls = .ref C ∧ ∃ (dd : Addr) (fs : List (Str × V)) (v : V), d = some dd ∧ At S1 dd (.xd fs) ∧ fs.lookup f = some v ∧ Q v S1
theorem gXf {a C : Addr} {oe : Obj} {cls : Value} {d : Option Addr} {pn : List (Addr × Obj)} {e : Expr} {te : sE} {pos : Pos} {n : Str} (T : XfC X.K C) (hno : PySem.W.findIn X.K (.ref C) n = some none)
    (hz : Zc cls d oe) (hf : ∃ vs, oe.data = .fields vs) (he : PE (X.suite a ((a, oe) :: pn)) e (dE W te)) (hb : attributeBase e n X.env (eval e X.env) = eval e X.env := by rfl) :
    PE (X.suite a ((a, oe) :: pn)) (.Attribute e n pos) (dE W (sXf a cls d C n te)) :=
  PE.by (pe_xf T hno hz hf he hb) fun σ H Q ⟨S, Q', W', kw, o, h, k⟩ => ⟨S, _, W', kw, o, h, fun x S1 H1 o1 ⟨e1, e2, dd, fs, v, e3, h3, h4, h5⟩ => ⟨e1, e2, dd, fs, v, e3, o1.at h3, h4, k _ _ _ o1 h5⟩⟩
/-- isinstance(e, c), e the error that the suite holds, with its dict -/
def rIsX (K : PySem.W.Frag) (D a : Addr) (d : Addr) : List V → Hp → VK → Prop := fun xs H Q => ∃ (c : V) (cv : Value) (b : Bool) (fs : List (Str × V)), xs = [.ref a, c] ∧ H d = some (.xd fs) ∧ (∀ u, RelV c u → u = cv) ∧ PySem.W.kitOne K (.ref D) cv = some b ∧ Q (.bl b) H
theorem call_isX {a D d : Addr} {oe : Obj} {pn : List (Addr × Obj)} (C : ExcC X.K D) (hz : Zc (.ref D) (some d) oe) (hf : ∃ vs, oe.data = .fields vs) : CallR (X.suite a ((a, oe) :: pn)) (.builtin "isinstance") (rIsX X.K D a d) := by
  intro pins s σ H xs us Q I r h
  obtain ⟨c, cv, b, fs, rfl, hd, hcv, e, q⟩ := h
  cases r with
  | cons rx rr =>
    cases rr with
    | cons rt rr =>
      cases rr
      cases rx
      have ec := hcv _ rt
      subst ec
      obtain ⟨hget, _⟩ := I.pin (a, oe) (List.mem_append.mpr (.inl List.mem_cons_self))
      obtain ⟨vs, hv⟩ := hf
      have hx : ObjOk X.prog X.w H s.heap d (.xd fs) := I.hok d _ hd
      obtain ⟨mA, hns, hr⟩ := hx
      obtain ⟨od, ho, hl⟩ := lookIn_ns hns
      have J : PySem.W.InstAt s.heap a oe D (some od) := ⟨hget, hz.1, by unfold PySem.W.notCls; rw [hv] <;> rfl, by rw [hz.2]; exact ho⟩
      exact PySem.W.kia_one (PySem.W.sy_kitx C.hg C.hk C.hs C.hd C.ha C.hn C.ht C.hm) I.kIn J e (fun z => nomatch z) fun tk => ⟨.bl b, H, I.kept (t' := tk) fun _ _ z => z, rfl, q⟩
/-- class c of an isinstance of an error of the class at D: what it is, the answer -/
def rIsY (K : PySem.W.Frag) (a : Addr) (cls : Value) (d : Option Addr) : List V → Hp → VK → Prop := fun xs H Q => ∃ (D dd : Addr), cls = .ref D ∧ d = some dd ∧ ExcC K D ∧ rIsX K D a dd xs H Q
theorem call_isY {a : Addr} {cls : Value} {d : Option Addr} {oe : Obj} {pn : List (Addr × Obj)} (hz : Zc cls d oe) (hf : ∃ vs, oe.data = .fields vs) : CallR (X.suite a ((a, oe) :: pn)) (.builtin "isinstance") (rIsY X.K a cls d) := by
  intro pins s σ H xs us Q I r ⟨D, dd, e1, e2, C, h⟩
  subst e1
  subst e2
  exact call_isX C hz hf pins s σ H xs us Q I r h
def nIsY (K : PySem.W.Frag) (a : Addr) (cls : Value) (d : Option Addr) : sN := fun vs S Q => match vs with
  | [.ref p, c] => p = a ∧ ∃ (D dd : Addr) (cv : Value) (b : Bool) (fs : List (Str × V)), cls = .ref D ∧ d = some dd ∧ ExcC K D ∧ At S dd (.xd fs) ∧ (∀ u, RelV c u → u = cv) ∧ PySem.W.kitOne K (.ref D) cv = some b ∧ Q (.bl b) S
  | _ => False
theorem lIsY {K : PySem.W.Frag} {a : Addr} {cls : Value} {d : Option Addr} : LiftN (nIsY K a cls d) (rIsY K a cls d) := by
  intro vs S Q' H Q o h k
  unfold nIsY at h
  split at h
  · obtain ⟨rfl, D, dd, cv, b, fs, h1, h2, h3, h4, h5, h6, h7⟩ := h
    exact ⟨D, dd, h1, h2, h3, _, cv, b, fs, rfl, o.at h4, h5, h6, k _ _ _ o h7⟩
  · exact h.elim
theorem gIsY {a : Addr} {cls : Value} {d : Option Addr} {oe : Obj} {pn : List (Addr × Obj)} (hz : Zc cls d oe) (hf : ∃ vs, oe.data = .fields vs) {x : Expr} {p : Pos} {es : List Expr} {tas : sA} {pos : Pos} (hg : Gl (X.suite a ((a, oe) :: pn)) "isinstance") (hm : X.mg "isinstance" = none) (ha : PA (X.suite a ((a, oe) :: pn)) (x :: es) (dA W tas))
    (he : starEach (x :: es) X.env = (false, eval x X.env) :: starEach es X.env := by rfl) (hpl : (backTo pos (starEach es X.env)).any (·.1) = false := by rfl) :
    PE (X.suite a ((a, oe) :: pn)) (.Call (.Name "isinstance" p) (x :: es) [] pos) (dE W (sCall1 (nIsY X.K a cls d) tas)) := gB (X := X.suite a ((a, oe) :: pn)) (call_isY hz hf) lIsY hg hm (by decide +kernel) ha (by decide) (by decide) he hpl
/-! ### more calls -/
section
variable {k : Nat} {f : Addr} {fd : FuncData} {ps ks : List Str} {x : Str} {p : Pos} {e : Expr} {sp : Sp}
/-- a promise and its reading -/
structure Ctr (sp : Sp) (r : sWX → List V → St → SH → (V → SH → Prop) → Prop) : Prop where
  mono : SpMono sp
  lift : ∀ W vs σ S Q, r W vs σ S Q → sSp sp W vs σ S Q
def rV (f : List V → Option Ot) : sWX → List V → St → SH → (V → SH → Prop) → Prop := fun W vs σ S Q => match f vs with
  | some (.ok v) => Q v S
  | some (.er C n v) => ∀ d, W (.ref C) (some d) σ (S.new d (.xd [(n, v)]))
  | none => False
def rC {α : Type} (c : Ct α) : sWX → List V → St → SH → (V → SH → Prop) → Prop := fun W vs σ S Q => ∃ g, (∀ H, Own S H → c.pre g vs H) ∧ (∀ H v H', Own S H → c.post g H v H' → ∃ S', Own S' H' ∧ Q v S') ∧ ∀ H x d H', Own S H → c.exn g H x d H' → ∃ S', Own S' H' ∧ W x d σ S'
theorem ctrV {f : List V → Option Ot} : Ctr (spV f) (rV f) := ⟨spV_mono, fun W vs σ S Q h => lift_V h⟩
theorem ctrC {α : Type} {c : Ct α} : Ctr (spC c) (rC c) := ⟨spC_mono, fun W vs σ S Q h => lift_C h⟩
variable {r : sWX → List V → St → SH → (V → SH → Prop) → Prop}
def sCallR (r : sWX → List V → St → SH → (V → SH → Prop) → Prop) (t : sA) : sE := fun W σ S Q => t W σ S fun vs S1 => r W vs σ S1 Q
def sCallD (r : sWX → List V → St → SH → (V → SH → Prop) → Prop) (ds : List V) (t : sA) : sE := fun W σ S Q => t W σ S fun vs S1 => r W (vs ++ ds) σ S1 Q
def sCallKw (r : sWX → List V → St → SH → (V → SH → Prop) → Prop) (gV : List V → List V → List V) (t tk : sA) : sE := fun W σ S Q => t W σ S fun vs S1 => tk W σ S1 fun zs S2 => r W (gV vs zs) σ S2 Q
theorem gCallR (c : Ctr sp r) (F : FnOk X.prog X.w X.K X.mg X.base (L2.CX X.prog X.w) k f fd ps sp) (hr : Room k X.A) (hg : Gl X x) (hm : X.mg x = some (.ref f)) (hk : PySem.W.keepIn X.K (.ref f) = true) (hb : Binds X.K fd ps []) (tk : Takes X W) (ha : PA X (e :: es) (dA W tas))
    (hdb : (x == ("__debug__" : Str)) = false := by decide) (he : starEach (e :: es) X.env = (false, eval e X.env) :: starEach es X.env := by rfl) (hpl : (backTo pos (starEach es X.env)).any (·.1) = false := by rfl) :
    PE X (.Call (.Name x p) (e :: es) [] pos) (dE W (sCallR r tas)) :=
  PE.by (pe_callS F hr hg hm hk hb (fun σ => passAt tk σ) ha hdb he hpl) fun σ H Q ⟨S, Q', W', kw, o, h, k⟩ => ⟨S, _, W', kw, o, h, fun vs S1 H1 o1 h1 => lift_sp c.mono kw o1 (c.lift _ _ _ _ _ h1) k⟩
theorem gCallD {ds : List V} {dus : List Value} (c : Ctr sp r) (F : FnOk X.prog X.w X.K X.mg X.base (L2.CX X.prog X.w) k f fd ps sp) (hr : Room k X.A) (hg : Gl X x) (hm : X.mg x = some (.ref f)) (hk : PySem.W.keepIn X.K (.ref f) = true) (hb : Binds X.K fd ps dus) (hd : Vals ds dus) (tk : Takes X W) (ha : PA X (e :: es) (dA W tas))
    (hdb : (x == ("__debug__" : Str)) = false := by decide) (he : starEach (e :: es) X.env = (false, eval e X.env) :: starEach es X.env := by rfl) (hpl : (backTo pos (starEach es X.env)).any (·.1) = false := by rfl) :
    PE X (.Call (.Name x p) (e :: es) [] pos) (dE W (sCallD r ds tas)) :=
  PE.by (pe_callSD F hr hg hm hk hb hd (fun σ => passAt tk σ) ha hdb he hpl) fun σ H Q ⟨S, Q', W', kw, o, h, k⟩ => ⟨S, _, W', kw, o, h, fun vs S1 H1 o1 h1 => lift_sp c.mono kw o1 (c.lift _ _ _ _ _ h1) k⟩
/-- the callee runs, called with keywords -/
theorem run_fnkS {CX : CXT} {pins : List (Addr × Obj)} {σ : St} {H : Hp} {s : Shared} {Q : VK} {us ws : List Value} {vs zs : List V} {E : St → XK} {g : List Value → List Value → List Value} {gV : List V → List V → List V} (F : FnOk X.prog X.w X.K X.mg X.base CX k f fd ps sp) (hr : Room k X.A) (hb : KBinds X.K fd ps ks g gV) (hx : PassesAt CX X σ (E σ))
    (I : Inv X pins σ H s) (r : Vals vs us) (rz : Vals zs ws) (h : sp (gV vs zs) H Q (E σ)) : wpAny (model X.prog X.w) X.A (call (.ref f) us (ks.zip ws)) (EP X pins σ Q) X.xe s := by
  have r2 := hb.rel r rz
  have hl : (g us ws).length = ps.length := by rw [← r2.length]; exact F.len _ _ _ _ h
  refine wpAny_call (codeAny_mono (F.run X.A X.stack s H ⟨us, ks.zip ws⟩ (g us ws) (gV vs zs) Q (E σ) hr I.env0 (hb.to s us ws I.kIn hl) r2 h) fun r s' hq => ?_)
  cases r with
  | error e => exact hx pins H s e s' I hq
  | ok fl =>
    cases fl with
    | ret u => exact I.after hq
    | next => exact False.elim hq
    | brk => exact False.elim hq
    | cont => exact False.elim hq
def tCallKS (sp : Sp) (gV : List V → List V → List V) (E : St → XK) (t tk : TA) : TE := fun σ H Q => t σ H fun vs H1 => tk σ H1 fun zs H2 => sp (gV vs zs) H2 Q (E σ)
theorem pe_callKS {CX : CXT} {kws : List Keyword} {t tk : TA} {E : St → XK} {g : List Value → List Value → List Value} {gV : List V → List V → List V} (F : FnOk X.prog X.w X.K X.mg X.base CX k f fd ps sp) (hr : Room k X.A) (hg : Gl X x) (hm : X.mg x = some (.ref f)) (hk : PySem.W.keepIn X.K (.ref f) = true) (hb : KBinds X.K fd ps ks g gV) (hx : ∀ σ, PassesAt CX X σ (E σ))
    (ha : PA X (e :: es) t) (hkw : PK X kws tk) (hall : (backToKw pos (keywordEach kws X.env)).all (·.1.isSome) = true := by rfl) (hks : (backToKw pos (keywordEach kws X.env)).filterMap (·.1) = ks := by rfl)
    (hdb : (x == ("__debug__" : Str)) = false := by decide) (he : starEach (e :: es) X.env = (false, eval e X.env) :: starEach es X.env := by rfl)
    (hpl : ((backTo pos (starEach (e :: es) X.env)).any (·.1) || (backToKw pos (keywordEach kws X.env)).any (·.1.isNone)) = false := by rfl) :
    PE X (.Call (.Name x p) (e :: es) kws pos) (tCallKS sp gV E t tk) := by
  refine ⟨fun pins s σ H Q I h => ?_⟩
  refine wpAny_Call_Name_kw (ld_glob I hg hm ?_ hdb)
  refine PySem.W.callWith_KW (h₀ := X.base) I.ok.mod.kin hk hall (thn (ha.run pos pins s σ H _ I h) fun us s1 ⟨vs, H1, I1, r, q⟩ => ?_) hpl he
  refine thn (hkw.run pos pins s1 σ H1 _ I1 q) fun ws s2 ⟨zs, H2, I2, rz, q2⟩ => ⟨I2.kIn, ?_⟩
  rw [hks]
  exact run_fnkS F hr hb (hx σ) I2 r rz q2
theorem run_fnNS {CX : CXT} {n : Nat} {pins : List (Addr × Obj)} {σ : St} {H : Hp} {s : Shared} {Q : VK} {us ws : List Value} {vs zs : List V} {E : St → XK} {g : List Value → List Value → List Value} {gV : List V → List V → List V} (F : FnOk X.prog X.w X.K X.mg X.base CX k f fd ps sp) (hr : Room k X.A) (hb : KBn X.K fd ps n ks g gV) (hx : PassesAt CX X σ (E σ))
    (I : Inv X pins σ H s) (r : Vals vs us) (rz : Vals zs ws) (l1 : vs.length = n) (l2 : zs.length = ks.length) (h : sp (gV vs zs) H Q (E σ)) : wpAny (model X.prog X.w) X.A (call (.ref f) us (ks.zip ws)) (EP X pins σ Q) X.xe s := by
  have r2 := hb.rel r rz
  refine wpAny_call (codeAny_mono (F.run X.A X.stack s H ⟨us, ks.zip ws⟩ (g us ws) (gV vs zs) Q (E σ) hr I.env0 (hb.to s us ws I.kIn (r.length.symm.trans l1) (rz.length.symm.trans l2)) r2 h) fun r s' hq => ?_)
  cases r with
  | error e => exact hx pins H s e s' I hq
  | ok fl =>
    cases fl with
    | ret u => exact I.after hq
    | next => exact False.elim hq
    | brk => exact False.elim hq
    | cont => exact False.elim hq
def tCallNS (n m : Nat) (sp : Sp) (gV : List V → List V → List V) (E : St → XK) (t tk : TA) : TE := fun σ H Q => t σ H fun vs H1 => tk σ H1 fun zs H2 => vs.length = n ∧ zs.length = m ∧ sp (gV vs zs) H2 Q (E σ)
theorem pe_callNS {CX : CXT} {n : Nat} {kws : List Keyword} {t tk : TA} {E : St → XK} {g : List Value → List Value → List Value} {gV : List V → List V → List V} (F : FnOk X.prog X.w X.K X.mg X.base CX k f fd ps sp) (hr : Room k X.A) (hg : Gl X x) (hm : X.mg x = some (.ref f)) (hk : PySem.W.keepIn X.K (.ref f) = true) (hb : KBn X.K fd ps n ks g gV) (hx : ∀ σ, PassesAt CX X σ (E σ))
    (ha : PA X (e :: es) t) (hkw : PK X kws tk) (hall : (backToKw pos (keywordEach kws X.env)).all (·.1.isSome) = true := by rfl) (hks : (backToKw pos (keywordEach kws X.env)).filterMap (·.1) = ks := by rfl)
    (hdb : (x == ("__debug__" : Str)) = false := by decide) (he : starEach (e :: es) X.env = (false, eval e X.env) :: starEach es X.env := by rfl)
    (hpl : ((backTo pos (starEach (e :: es) X.env)).any (·.1) || (backToKw pos (keywordEach kws X.env)).any (·.1.isNone)) = false := by rfl) :
    PE X (.Call (.Name x p) (e :: es) kws pos) (tCallNS n ks.length sp gV E t tk) := by
  refine ⟨fun pins s σ H Q I h => ?_⟩
  refine wpAny_Call_Name_kw (ld_glob I hg hm ?_ hdb)
  refine PySem.W.callWith_KW (h₀ := X.base) I.ok.mod.kin hk hall (thn (ha.run pos pins s σ H _ I h) fun us s1 ⟨vs, H1, I1, r, q⟩ => ?_) hpl he
  refine thn (hkw.run pos pins s1 σ H1 _ I1 q) fun ws s2 ⟨zs, H2, I2, rz, l1, l2, q2⟩ => ⟨I2.kIn, ?_⟩
  rw [hks]
  exact run_fnNS F hr hb (hx σ) I2 r rz l1 l2 q2
/-- a def of the module by its name: what it promises; the last ds.length parameters are left to their defaults ds -/
structure DefC (P : Program) (w : World) (K : PySem.W.Frag) (mg : Str → Option Value) (base : Heap) (x : Str) (ps : List Str) (k : Nat) (ds : List V) (sp : Sp) : Prop where
  ex : ∃ (f : Addr) (fd : FuncData) (dus : List Value), mg x = some (.ref f) ∧ PySem.W.keepIn K (.ref f) = true ∧ FnOk P w K mg base (L2.CX P w) k f fd ps sp ∧ Vals ds dus ∧ Binds K fd ps dus
/-- .. called with n positional values and the keywords ks -/
structure DefN (P : Program) (w : World) (K : PySem.W.Frag) (mg : Str → Option Value) (base : Heap) (x : Str) (ps : List Str) (k n : Nat) (ks : List Str) (gV : List V → List V → List V) (sp : Sp) : Prop where
  ex : ∃ (f : Addr) (fd : FuncData) (g : List Value → List Value → List Value), mg x = some (.ref f) ∧ PySem.W.keepIn K (.ref f) = true ∧ FnOk P w K mg base (L2.CX P w) k f fd ps sp ∧ KBn K fd ps n ks g gV
theorem gCall1 {j : Nat} {ds : List V} (c : Ctr sp r) (T : DefC X.prog X.w X.K X.mg X.base x ps k ds sp) (hr : Room j X.A) (hj : k ≤ j) (hg : Gl X x) (tk : Takes X W) (ha : PA X (e :: es) (dA W tas))
    (hdb : (x == ("__debug__" : Str)) = false := by decide) (he : starEach (e :: es) X.env = (false, eval e X.env) :: starEach es X.env := by rfl) (hpl : (backTo pos (starEach es X.env)).any (·.1) = false := by rfl) :
    PE X (.Call (.Name x p) (e :: es) [] pos) (dE W (sCallD r ds tas)) := by
  obtain ⟨f, fd, dus, hm, hk, F, hd, hb⟩ := T.ex
  exact gCallD c F (hr.mono hj) hg hm hk hb hd tk ha hdb he hpl
def sCallN (r : sWX → List V → St → SH → (V → SH → Prop) → Prop) (n m : Nat) (gV : List V → List V → List V) (t tk : sA) : sE := fun W σ S Q => t W σ S fun vs S1 => tk W σ S1 fun zs S2 => vs.length = n ∧ zs.length = m ∧ r W (gV vs zs) σ S2 Q
theorem gCall2 {j n m : Nat} {kws : List Keyword} {tks : sA} {gV : List V → List V → List V} (c : Ctr sp r) (T : DefN X.prog X.w X.K X.mg X.base x ps k n ks gV sp) (hr : Room j X.A) (hj : k ≤ j) (hg : Gl X x) (tk : Takes X W) (ha : PA X (e :: es) (dA W tas)) (hkw : PK X kws (dA W tks)) (hm : ks.length = m)
    (hall : (backToKw pos (keywordEach kws X.env)).all (·.1.isSome) = true := by rfl) (hks : (backToKw pos (keywordEach kws X.env)).filterMap (·.1) = ks := by rfl)
    (hdb : (x == ("__debug__" : Str)) = false := by decide) (he : starEach (e :: es) X.env = (false, eval e X.env) :: starEach es X.env := by rfl)
    (hpl : ((backTo pos (starEach (e :: es) X.env)).any (·.1) || (backToKw pos (keywordEach kws X.env)).any (·.1.isNone)) = false := by rfl) :
    PE X (.Call (.Name x p) (e :: es) kws pos) (dE W (sCallN r n m gV tas tks)) := by
  obtain ⟨f, fd, g, hmg, hk, F, hb⟩ := T.ex
  subst hm
  exact PE.by (pe_callNS F (hr.mono hj) hg hmg hk hb (fun σ => passAt tk σ) ha hkw hall hks hdb he hpl) fun σ H Q ⟨S, Q', W', kw, o, h, k⟩ => ⟨S, _, W', kw, o, h, fun vs S1 H1 o1 h1 => ⟨S1, _, W', kw, o1, h1, fun zs S2 H2 o2 ⟨l1, l2, h2⟩ => ⟨l1, l2, lift_sp c.mono kw o2 (c.lift _ _ _ _ _ h2) k⟩⟩⟩
end
/-- a built-in function that a module's name holds (from m import f) -/
theorem gBf {id : String} {x : Str} {p : Pos} {e : Expr} {r : sN} {R : List V → Hp → VK → Prop} (hc : CallR X (.builtin id) R) (l : LiftN r R) (hg : Gl X x) (hm : X.mg x = some (.builtin id)) (ha : PA X (e :: es) (dA W tas)) (hdb : (x == ("__debug__" : Str)) = false := by decide)
    (he : starEach (e :: es) X.env = (false, eval e X.env) :: starEach es X.env := by rfl) (hpl : (backTo pos (starEach es X.env)).any (·.1) = false := by rfl) : PE X (.Call (.Name x p) (e :: es) [] pos) (dE W (sCall1 r tas)) :=
  PE.by (pe_callBfun hc hg hm ha hdb he hpl) fun σ H Q ⟨S, Q', W', kw, o, h, k⟩ => ⟨S, _, W', kw, o, h, fun vs S1 H1 o1 h1 => l vs S1 Q' H1 Q o1 h1 k⟩

/-! ### xs.count(x), flat -/
def rCntF (K : PySem.W.Frag) : V → List V → Hp → VK → Prop := fun x vs H Q => ∃ (p : Addr) (xs : List V) (y : V), x = .ref p ∧ vs = [y] ∧ SqL K H p xs ∧ flatV y = true ∧ xs.all flatV = true ∧ Q (.int (xs.countP fun z => eqV z y : Nat)) H
theorem count_eqU {x : V} : ∀ {xs : List V} {us : List Value}, Vals xs us → xs.all flatV = true → us.countP (eqU x) = xs.countP fun y => eqV y x
  | _, _, .nil, _ => rfl
  | y :: xs, u :: us, .cons r t, f => by
    rw [List.all_cons, Bool.and_eq_true] at f
    rw [List.countP_cons, List.countP_cons, eqU_of r f.1, count_eqU t f.2]
theorem mt_lcountF : MtR X "list.count" (rCntF X.K) := by
  intro pins s σ H x xs v us Q I rx rxs h
  obtain ⟨p, ys, y, rfl, rfl, hs, f1, f2, q⟩ := h
  cases rx
  obtain ⟨u, rfl, ru⟩ := rxs.one
  obtain ⟨its, rv, ⟨⟨cls, dd, data, sl⟩, n, ho, hc, hdn, hd⟩, hlen⟩ := I.list hs
  simp only at hc hd
  subst hc hd
  refine call_meets PySem.F.slot_list_count ⟨_, ho, rfl⟩ PySem.F.entry_list_count (PySem.F.args_list_count_2 _ _)
    (SeqAt.list_countAt p its.toArray n dd sl u (eqU y)) ⟨ho, fun z hz => mem_eqAt ru f1 rv f2 z (by simpa using hz), ?_⟩
  refine ⟨.int (ys.countP fun z => eqV z y : Nat), H, I.tok _, ⟨s.toks, ?_⟩, q⟩
  show Value.int ((its.toArray.toList.countP (eqU y) : Nat) : Int) s.toks = Value.int ((ys.countP fun z => eqV z y : Nat) : Int) s.toks
  have e : its.toArray.toList = its := by simp
  rw [e, count_eqU rv f2]
def mCnt (K : PySem.W.Frag) : sM := fun x vs S Q => match x, vs with
  | .ref p, [y] => ∃ xs, sL K S p xs ∧ flatV y = true ∧ xs.all flatV = true ∧ Q (.int (xs.countP fun z => eqV z y : Nat)) S
  | _, _ => False
theorem lCnt {K : PySem.W.Frag} : LiftM (mCnt K) (rCntF K) := by
  intro x vs S Q' H Q o h k
  unfold mCnt at h
  split at h
  · obtain ⟨xs, h1, h2, h3, h4⟩ := h
    exact ⟨_, xs, _, rfl, rfl, o.l h1, h2, h3, k _ _ _ o h4⟩
  · exact h.elim

/-! ### math.comb -/
def rComb : List V → Hp → VK → Prop := fun vs H Q => ∃ a b : Int, vs = [.int a, .int b] ∧ 0 ≤ a ∧ 0 ≤ b ∧ a ≤ 18000 ∧ Q (.int (PySem.W.mcComb a b)) H
theorem cr_comb : CallR X (.builtin "math.comb") rComb := by
  intro pins s σ H vs us Q I r h
  obtain ⟨a, b, rfl, h1, h2, h3, q⟩ := h
  obtain ⟨t, u, rfl⟩ := Vals.int2 r
  exact PySem.W.mc_comb h1 h2 (by omega) (.inr h3) fun _ => ⟨.int _, H, I.tok _, ⟨_, rfl⟩, q⟩
def nComb : sN := fun vs S Q => match vs with
  | [.int a, .int b] => 0 ≤ a ∧ 0 ≤ b ∧ a ≤ 18000 ∧ Q (.int (PySem.W.mcComb a b)) S
  | _ => False
theorem lComb : LiftN nComb rComb := by
  intro vs S Q' H Q o h k
  unfold nComb at h
  split at h
  · exact ⟨_, _, rfl, h.1, h.2.1, h.2.2.1, k _ _ _ o h.2.2.2⟩
  · exact h.elim
/-! ### in short -/
theorem gv (i : Nat) {x : Str} {pos : Pos} (hN : X.N[i]? = some x := by rfl) (hv : Vis X.env.scope x := by first | exact Or.inl rfl | exact Or.inr (Or.inl rfl) | exact Or.inr (Or.inr rfl)) (hd : (x == ("__debug__" : Str)) = false := by decide)
    (hcd : (x == ("__classdict__" : Str)) = false := by decide) : PE X (.Name x pos) (dE W (sVar i)) := gVar hN hv hd hcd
theorem gOneV {a : Expr} {ta : sE} {op : BoolOp} {pos : Pos} (h : PE X a (dE W ta)) : PE X (.BoolOp op [a] pos) (dE W ta) := pe_one h
theorem gAnd1 {a : Expr} {ta : sT} {pos : Pos} (h : PT X a (dT W ta)) : PW X (.BoolOp .And [a] pos) (dT W ta) := pw_and1 h
theorem gOr1 {a : Expr} {ta : sT} {pos : Pos} (h : PT X a (dT W ta)) : PW X (.BoolOp .Or [a] pos) (dT W ta) := pw_or1 h
/-- a built-in class, an own class, a module's constant as a value -/
theorem gTyV {x : Str} {T : String} {pos : Pos} (hg : Gl X x) (hm : X.mg x = none) (hv : bootBuiltins x = some (.type T)) (hn : x ≠ "__name__" := by decide) (hd : (x == ("__debug__" : Str)) = false := by decide) : PE X (.Name x pos) (dE W (sC (.ty T))) := gC_of (pe_bltn hg hm hv rfl hn hd)
theorem gClV {x : Str} {C : Addr} {pos : Pos} (hg : Gl X x) (hm : X.mg x = some (.ref C)) (hd : (x == ("__debug__" : Str)) = false := by decide) : PE X (.Name x pos) (dE W (sC (.ref C))) := gC_of (pe_glob hg hm rfl hd)
theorem gCnV {x : Str} {i : Int} {t : Tok} {pos : Pos} (hg : Gl X x) (hm : X.mg x = some (.int i t)) (hd : (x == ("__debug__" : Str)) = false := by decide) : PE X (.Name x pos) (dE W (sC (.int i))) := gC_of (pe_glob hg hm ⟨t, rfl⟩ hd)
/-! ### a def's body -/
theorem start_body {W : WX} {t : sS} {D : Ends} {σ : St} {H : Hp} (S : SH) (o : Own S H)
    (h : t { nx := fun σ' S' => ∀ H', Own S' H' → D.nx σ' H', rt := fun v S' => ∀ H', Own S' H' → D.rt v H', ex := fun c d σ' S' => ∀ H', Own S' H' → W c d σ' H' } σ S) (hb : ∀ σ H, D.bk σ H ↔ False) (hc : ∀ σ H, D.ct σ H ↔ False) : dS W t D σ H :=
  ⟨S, _, o, h, ⟨fun σ' S' H' o' q => q H' o', fun v S' H' o' q => q H' o', fun _ _ _ _ q => q.elim, fun _ _ _ _ q => q.elim, fun c d σ' S' H' o' q => q H' o'⟩⟩
/-- what a body must show, by a contract -/
abbrev endsC {α : Type} (ct : Ct α) (g : α) (H : Hp) : sEnds := ⟨fun _ S' => ∀ H', Own S' H' → ct.post g H .non H', fun v S' => ∀ H', Own S' H' → ct.post g H v H', fun _ _ => False, fun _ _ => False, fun c d _ S' => ∀ H', Own S' H' → ct.exn g H c d H'⟩
theorem body_C {α : Type} {ct : Ct α} {t : sS} {σ : St} {vs : List V} {H : Hp} {Q : VK} {E : XK} (h : spC ct vs H Q E) (hv : ∀ g, ct.pre g vs H → ∃ S, Own S H ∧ t (endsC ct g H) σ S) :
    dS (fun c d _ H => E c d H) t { nx := fun _ H' => Q .non H', rt := Q } σ H := by
  obtain ⟨g, h1, h2, h3⟩ := h
  obtain ⟨S, o, q⟩ := hv g h1
  exact ⟨S, _, o, q, ⟨fun _ S' H' o' q => h2 _ _ (q H' o'), fun v S' H' o' q => h2 _ _ (q H' o'), fun _ _ _ _ q => q.elim, fun _ _ _ _ q => q.elim, fun c d σ' S' H' o' q => h3 _ _ _ (q H' o')⟩⟩
abbrev endsV (o : Ot) (H : Hp) : sEnds := ⟨fun _ S' => match o with | .ok v => v = .non ∧ (∀ a u, H a = some u → S'.F a = some u) | .er _ _ _ => False, fun v' S' => match o with | .ok v => v' = v ∧ (∀ a u, H a = some u → S'.F a = some u) | .er _ _ _ => False, fun _ _ => False, fun _ _ => False,
  fun c d _ S' => match o with | .ok _ => False | .er C n v => c = .ref C ∧ ∃ dd, d = some dd ∧ S'.F = H ∧ (∃ i : Nat, S'.G[i]? = some (dd, .xd [(n, v)]))⟩
theorem body_V {f : List V → Option Ot} {t : sS} {σ : St} {vs : List V} {H : Hp} {Q : VK} {E : XK} (h : spV f vs H Q E) (hv : ∀ o, f vs = some o → t (endsV o H) σ ⟨H, []⟩) :
    dS (fun c d _ H => E c d H) t { nx := fun _ H' => Q .non H', rt := Q } σ H := by
  unfold spV at h
  split at h
  · rename_i v e
    refine ⟨⟨H, []⟩, _, Own.base H, hv _ e, ⟨fun _ S' H' o' q => ?_, fun v S' H' o' q => ?_, fun _ _ _ _ q => q.elim, fun _ _ _ _ q => q.elim, fun c d σ' S' H' o' q => q.elim⟩⟩
    · obtain ⟨rfl, q⟩ := q
      exact h H' fun a u e => o'.fr a u (q a u e)
    · obtain ⟨rfl, q⟩ := q
      exact h H' fun a u e => o'.fr a u (q a u e)
  · rename_i C n v e
    refine ⟨⟨H, []⟩, _, Own.base H, hv _ e, ⟨fun _ S' H' o' q => q.elim, fun v S' H' o' q => q.elim, fun _ _ _ _ q => q.elim, fun _ _ _ _ q => q.elim, fun c d σ' S' H' o' q => ?_⟩⟩
    obtain ⟨rfl, dd, rfl, q1, i, q2⟩ := q
    refine h H' dd (fun a u e => o'.fr a u (by rw [q1]; exact e)) ?_ (o'.g q2)
    rw [← q1]
    exact (o'.gs _ (List.mem_of_getElem? q2)).2
  · exact h.elim
end
end SY
namespace SY
open PySem PySem.Spec PyProof.Rows L2
/-! ### a try with several clauses, each with a name or without -/
abbrev Cla := Value × Option Nat × (Addr → Value → Option Addr → TS)
/-- the ends of a clause's suite: its name goes -/
def offE (D : Ends) : Option Nat → Ends
  | none => D
  | some i => ⟨fun z H => D.nx (z.set i none) H, D.rt, fun z H => D.bk (z.set i none) H, fun z H => D.ct (z.set i none) H⟩
def onS (z : L2.St) (a : Addr) : Option Nat → L2.St
  | none => z
  | some i => z.set i (some (.ref a))
def wG (K : PySem.W.Frag) (Wo : WX) (D : Ends) : List Cla → WX
  | [] => Wo
  | q :: r => fun cls d z H => ∃ b, PySem.W.exmOne K cls q.1 = some b ∧ (b = true → ∀ a, H a = none → q.2.2 a cls d (offE D q.2.1) (onS z a q.2.1) H) ∧ (b = false → wG K Wo D r cls d z H)
inductive HdG (X : Cx) : List ExceptHandler → List Cla → Prop
  | nil : HdG X [] []
  | cons {x : Str} {c : Value} {on : Option Str} {oi : Option Nat} {ts : Addr → Value → Option Addr → TS} {b0 : Stmt} {rest : List Stmt} {np hp : Pos} {hs : List ExceptHandler} {l : List Cla} (hc : Names X x c)
      (ho : (on = none ∧ oi = none) ∨ ∃ n i, on = some n ∧ oi = some i ∧ X.N[i]? = some n ∧ X.env.kindOf n = some .local)
      (su : ∀ a oe cls d pn, Zc cls d oe → (∃ vs, oe.data = .fields vs) → PSs (X.suite a ((a, oe) :: pn)) (b0 :: rest) (ts a cls d)) (r : HdG X hs l) :
      HdG X (.ExceptHandler (some (.Name x np)) on (b0 :: rest) hp :: hs) ((c, oi, ts) :: l)
section
variable {X : Cx} {body : List Stmt} {h0 : ExceptHandler} {hs0 : List ExceptHandler} {l : List Cla} {pos : Pos} {tb : WX → TS} {Wo : WX}
theorem ps_tryG (hst : X.stack = X.env :: X.outer) (hfr : X.env.frame = some X.env.locals) (hN : X.N.Nodup) (tk : Takes X Wo)
    (hb : ∀ (W : WX) pn (xe : Value → Shared → Prop), Takes (X.tr pn xe) W → PassesOwn (model X.prog X.w) X.A X.env xe → PSs (X.tr pn xe) body (tb W))
    (hh : HdG X (h0 :: hs0) l) : PS X (.Try body (h0 :: hs0) [] [] pos) (fun D z H => tb (wG X.K Wo D l) D z H) := by
  refine ⟨fun pins s z H D I q => ?_⟩
  have ok := I.ok
  have fr : X.A.frames = some (X.env :: X.outer) := ok.frames.trans (congrArg some hst)
  refine wpAny_Try_except ?_
  refine wpAny_mono ((hb (wG X.K Wo D l) (X.pn ++ pins)
    (fun e s1 => wpAny (model X.prog X.w) X.A (noteFrame e X.env) (fun _ s2 => wpAny (model X.prog X.w) X.A (setFlight e none)
      (fun _ s3 => wpAny (model X.prog X.w) X.A (handleBy e X.env (h0 :: hs0)) (SP X pins D) X.xe s3) X.xe s2) X.xe s1)
    (fun u s1 caught => ?_) PassesOwn.looking).run [] s z H D (I.toTry _) q) (fun f s1 fin => ?_) fun _ _ y => y
  · obtain ⟨a, B, sI, pins1, z1, H1, cls, d, rfl, J1, nb, up, sky, na, os, ag, wish⟩ := caught
    have J : Inv X pins z1 H1 sI := J1.ofTry ok
    have sky2 : Sky B (X.env :: X.outer) a (Zc cls d) X.env.locals s1.heap := hst ▸ sky
    show wpAny (model X.prog X.w) X.A (noteFrame (.ref a) X.env) _ _ _
    refine Sky.land Zc.steady fr hfr sky2 fun h3 fl3 up3 => ?_
    have J3 : Inv X pins z1 H1 { s1 with heap := h3 } := J.landed nb fl3.1 (up.trans up3) os ag
    obtain ⟨oe3, vs3, he3, hz3, hd3⟩ := fl3.there
    have away : a ∉ frs (X.env :: X.outer) := fun hm => by
      obtain ⟨_, o', e', hnf⟩ := fl3.2.2.1.mem hm
      rw [he3] at e'
      cases e'
      exact hnf _ hd3
    have nL : a ≠ X.env.locals := fun y => away (List.mem_filterMap.mpr ⟨X.env, .head _, hfr.trans (congrArg some y.symm)⟩)
    have nF : a ∉ X.fs := fun hm => by
      obtain ⟨e, he, y⟩ := List.mem_filterMap.mp hm
      exact away (List.mem_filterMap.mpr ⟨e, .tail _ he, y⟩)
    have S3 := J3.suite he3 hd3 na nL nF
    have go : ∀ {hs : List ExceptHandler} {l1 : List Cla}, HdG X hs l1 → wG X.K Wo D l1 cls d z1 H1 → wpAny (model X.prog X.w) X.A (handleBy (.ref a) X.env hs) (SP X pins D) X.xe { s1 with heap := h3 } := by
      intro hs l1 hk
      induction hk with
      | nil =>
        intro w
        refine wpAny_handleBy_nil ?_
        obtain ⟨_, _, _, oe, vs, T, oT, _, he, _, hd, h1, _⟩ := id fl3
        unfold PySem.passOn
        refine wpAny_bind (wpAny_field he hd h1 ?_)
        rw [if_neg (show ¬ ((Value.ref T == Value.none) = true) by simp)]
        have last : wpAny (model X.prog X.w) X.A (setFlight (.ref a) X.env.frame)
            (fun _ s4 => wpAny (model X.prog X.w) X.A (throw (.ref a) : Sem Flow) (SP X pins D) X.xe s4) X.xe { s1 with heap := h3 } := by
          rw [hfr]
          refine HandSPX.setFlight_upZ fl3 fun h4 hh4 up4 => wpAny_throw (tk _ _ ⟨a, B, sI, pins, z1, H1, cls, d, rfl, J, nb, (up.trans up3).trans up4, .inr (.inr (hst ▸ hh4)), na, os, ag, w⟩)
        first
          | exact wpAny_bind (wpAny_pure (wpAny_bind last))
          | exact wpAny_bind last
      | @cons x c on oi ts b0 rest np hp hs2 l2 hc ho su r ih =>
        intro w
        obtain ⟨b, hb1, yes, no⟩ := w
        refine wpAny_handleBy_cons (codeAny_handlers_test ?_) (fun y => nomatch y)
        have LT : PySem.W.Looks (model X.prog X.w) h3 (typeOf (.ref a)) cls := fun A Q E t k y => wpAny_typeOf_ref (k _ _ he3) (by rw [hz3.1]; exact y)
        have LM := PySem.W.exm_one (M := model X.prog X.w) (J3.kIn) LT hb1
        have asks : ∀ {Q : Value → Shared → Prop} {E : Value → Shared → Prop}, Q c { s1 with heap := h3 } →
            wpAny (model X.prog X.w) (X.A.mark (some (.ref a))) (eval (.Name x np) X.env) Q E { s1 with heap := h3 } := fun {Q E} y => by
          obtain ⟨hg, hdbg, hm | ⟨hm, hv, hnn⟩⟩ := hc
          · exact ld_glob (X := X.suite a ((a, oe3) :: (X.pn ++ pins))) S3 hg hm y hdbg
          · exact ld_blt (X := X.suite a ((a, oe3) :: (X.pn ++ pins))) S3 hg hm hv y hnn hdbg
        refine asks (LM.here ?_)
        cases b with
        | false =>
          show wpAny _ X.A (handleBy (.ref a) X.env hs2) _ _ _
          exact ih (no rfl)
        | true =>
          rcases ho with ⟨rfl, rfl⟩ | ⟨n, i, rfl, rfl, hi, hln⟩
          · refine codeAny_handlers_suite ?_
            refine HandSPX.lands_againZ fl3 fun h4 fl4 up4 => ?_
            have J4 : Inv X pins z1 H1 { s1 with heap := h4 } := J.landed nb fl4.1 ((up.trans up3).trans up4) os ag
            obtain ⟨oe4, vs4, he4, hz4, hd4⟩ := fl4.there
            have S4 := J4.suite he4 hd4 na nL nF
            refine wpAny_mono ((su a oe4 cls d (X.pn ++ pins) hz4 ⟨_, hd4⟩).run [] _ _ H1 _ S4 (yes rfl a na)) (fun f s6 y => ?_) (fun _ _ y => y.elim)
            cases f with
            | ret u =>
              obtain ⟨v6, z6, H6, S6, r6, q6⟩ := y
              exact ⟨_, _, _, S6.unsuite ok, r6, q6⟩
            | _ =>
              obtain ⟨z6, H6, S6, q6⟩ := y
              exact ⟨_, _, S6.unsuite ok, q6⟩
          · refine codeAny_handlers_suite_as ?_
            refine HandSPX.lands_againZ fl3 fun h4 fl4 up4 => ?_
            have J4 : Inv X pins z1 H1 { s1 with heap := h4 } := J.landed nb fl4.1 ((up.trans up3).trans up4) os ag
            obtain ⟨oe4, vs4, he4, hz4, hd4⟩ := fl4.there
            have S4 := J4.suite he4 hd4 na nL nF
            refine store_ok (X := X.suite a ((a, oe4) :: (X.pn ++ pins))) (v := .ref a) S4 hN hi (.inl hln) rfl (fun s5 S5 => ?_) (.inr hln)
            refine wpAny_mono ((su a oe4 cls d (X.pn ++ pins) hz4 ⟨_, hd4⟩).run [] s5 _ H1 _ S5 (yes rfl a na)) (fun f s6 y => ?_) (fun _ _ y => y.elim)
            have off : ∀ {z6 : L2.St} {H6 : Hp} {Q : Shared → Prop}, Inv (X.suite a ((a, oe4) :: (X.pn ++ pins))) [] z6 H6 s6 → (∀ s7, Inv X pins (z6.set i none) H6 s7 → Q s7) →
                wpAny (model X.prog X.w) X.A (do bindName X.env n .none; unbindBehindTheSuite X.env n hp) (fun _ s7 => Q s7) X.xe s6 := fun S6 k => gone_ok (S6.unsuite ok) hN hi hln k
            cases f with
            | ret u =>
              obtain ⟨v6, z6, H6, S6, r6, q6⟩ := y
              exact off S6 fun s7 J7 => ⟨_, _, _, J7, r6, q6⟩
            | _ =>
              obtain ⟨z6, H6, S6, q6⟩ := y
              exact off S6 fun s7 J7 => ⟨_, _, J7, q6⟩
    exact go hh wish
  · cases f with
    | next =>
      obtain ⟨z1, H1, J1, y⟩ := fin
      exact wpAny_execs_nil ⟨z1, H1, J1.ofTry ok, y⟩
    | ret u =>
      obtain ⟨v, z1, H1, J1, rv, y⟩ := fin
      exact ⟨v, z1, H1, J1.ofTry ok, rv, y⟩
    | _ =>
      obtain ⟨z1, H1, J1, y⟩ := fin
      exact ⟨z1, H1, J1.ofTry ok, y⟩
end
/-! over the symbolic heap -/
abbrev Cls := Value × Option Nat × (Addr → Value → Option Addr → sS)
def offS (D : sEnds) : Option Nat → sEnds
  | none => { D with ex := noW }
  | some i => ⟨fun z S => D.nx (z.set i none) S, D.rt, fun z S => D.bk (z.set i none) S, fun z S => D.ct (z.set i none) S, noW⟩
def sHan (K : PySem.W.Frag) (D : sEnds) : List Cls → sWX
  | [] => D.ex
  | q :: r => fun cls d z S => ∃ b, PySem.W.exmOne K cls q.1 = some b ∧ (b = true → ∀ a, q.2.2 a cls d (offS D q.2.1) (onS z a q.2.1) S) ∧ (b = false → sHan K D r cls d z S)
def sTryG (K : PySem.W.Frag) (tb : sS) (l : List Cls) : sS := fun D z S => tb { D with ex := sHan K D l } z S
inductive sHd (X : Cx) : List ExceptHandler → List Cls → Prop
  | nil : sHd X [] []
  | as {x n : Str} {c : Value} {i : Nat} {ts : Addr → Value → Option Addr → sS} {b0 : Stmt} {rest : List Stmt} {np hp : Pos} {hs : List ExceptHandler} {l : List Cls} (hc : Names X x c) (hi : X.N[i]? = some n) (hl : X.env.kindOf n = some .local)
      (su : ∀ a oe cls d pn, Zc cls d oe → (∃ vs, oe.data = .fields vs) → PSs (X.suite a ((a, oe) :: pn)) (b0 :: rest) (dS NoW (ts a cls d))) (r : sHd X hs l) :
      sHd X (.ExceptHandler (some (.Name x np)) (some n) (b0 :: rest) hp :: hs) ((c, some i, ts) :: l)
  | no {x : Str} {c : Value} {ts : Addr → Value → Option Addr → sS} {b0 : Stmt} {rest : List Stmt} {np hp : Pos} {hs : List ExceptHandler} {l : List Cls} (hc : Names X x c)
      (su : ∀ a oe cls d pn, Zc cls d oe → (∃ vs, oe.data = .fields vs) → PSs (X.suite a ((a, oe) :: pn)) (b0 :: rest) (dS NoW (ts a cls d))) (r : sHd X hs l) :
      sHd X (.ExceptHandler (some (.Name x np)) none (b0 :: rest) hp :: hs) ((c, none, ts) :: l)
theorem sHd.to {X : Cx} {hs : List ExceptHandler} {l : List Cls} (h : sHd X hs l) : HdG X hs (l.map fun q => (q.1, q.2.1, fun a cls d => dS NoW (q.2.2 a cls d))) := by
  induction h with
  | nil => exact .nil
  | as hc hi hl su r ih => exact .cons hc (.inr ⟨_, _, rfl, rfl, hi, hl⟩) su ih
  | no hc su r ih => exact .cons hc (.inl ⟨rfl, rfl⟩) su ih
theorem sHan_ok {K : PySem.W.Frag} {W : WX} {D : Ends} {D' : sEnds} (k : EImp W D' D) : ∀ (l : List Cls), ImpW (sHan K D' l) (wG K W D (l.map fun q => (q.1, q.2.1, fun a cls d => dS NoW (q.2.2 a cls d))))
  | [] => k.ex
  | q :: r => fun cls d z S H o ⟨b, e, y, n⟩ => ⟨b, e, fun hb a _ => ⟨S, _, o, y hb a, by
      cases q.2.1 with
      | none => exact ⟨k.nx, k.rt, k.bk, k.ct, noW_imp⟩
      | some i => exact ⟨fun z2 S2 H2 o2 q => k.nx _ _ _ o2 q, k.rt, fun z2 S2 H2 o2 q => k.bk _ _ _ o2 q, fun z2 S2 H2 o2 q => k.ct _ _ _ o2 q, noW_imp⟩⟩, fun hb => sHan_ok k r cls d z S H o (n hb)⟩
theorem hTryG {X : Cx} {W : WX} {body : List Stmt} {h0 : ExceptHandler} {hs : List ExceptHandler} {l : List Cls} {pos : Pos} {tb : sS}
    (hst : X.stack = X.env :: X.outer) (hf : X.env.frame = some X.env.locals) (hN : X.N.Nodup) (tk : Takes X W)
    (hb : ∀ (W : WX) (pn : List (Addr × Obj)) (xe : Value → Shared → Prop), Takes (X.tr pn xe) W → PassesOwn (model X.prog X.w) X.A X.env xe → PSs (X.tr pn xe) body (dS W tb))
    (hh : sHd X (h0 :: hs) l) : PS X (.Try body (h0 :: hs) [] [] pos) (dS W (sTryG X.K tb l)) :=
  PS.by (ps_tryG (tb := fun W => dS W tb) hst hf hN tk hb hh.to) fun D z H ⟨S, D', o, h, k⟩ => ⟨S, _, o, h, ⟨k.nx, k.rt, k.bk, k.ct, sHan_ok k l⟩⟩
end SY
namespace SY
open PySem PySem.Spec PyProof.Rows L2
section
variable {X : Cx} {W : WX} {a b e : Expr} {es : List Expr} {pos : Pos} {ta tb te : sE} {tas : sA}
/-! ### tuples: +, tuple(x) -/
def oAddT (K : PySem.W.Frag) : s2 := fun x y S Q => match x, y with
  | .ref p, .ref q => ∃ xs ys, sU K S p xs ∧ sU K S q ys ∧ xs.length + ys.length ≤ sizeLine ∧ (xs = [] → Q (.ref q) S) ∧ (xs ≠ [] → ys = [] → Q (.ref p) S) ∧ (xs ≠ [] → ys ≠ [] → ∀ r, Q (.ref r) (S.new r (.tup (xs ++ ys))))
  | _, _ => False
theorem lAddT {K : PySem.W.Frag} : Lift2 (oAddT K) (rCatA K) := by
  intro x y S Q' H Q o h k
  unfold oAddT at h
  split at h
  · obtain ⟨xs, ys, h1, h2, h3, h4, h5, h6⟩ := h
    exact ⟨_, _, xs, ys, rfl, rfl, o.u h1, o.u h2, h3, fun z => k _ _ _ o (h4 z), fun z1 z2 => k _ _ _ o (h5 z1 z2), fun z1 z2 r hr => k _ _ _ (o.newU hr) (h6 z1 z2 r)⟩
  · exact h.elim
theorem gAddT (ha : PE X a (dE W ta)) (hb : PE X b (dE W tb)) : PE X (.BinOp a .Add b pos) (dE W (sOp (oAddT X.K) ta tb)) := gOp op_catA lAddT ha hb
/-- tuple(x) of a list: a new tuple; of a tuple: itself -/
def nTuple (K : PySem.W.Frag) (x : V) (S : SH) (Q : V → SH → Prop) : Prop := match x with
  | .ref p => (∃ xs, sL K S p xs ∧ ∀ q, Q (.ref q) (S.new q (.tup xs))) ∨ ∃ xs, sU K S p xs ∧ Q (.ref p) S
  | _ => False
def sTuple (K : PySem.W.Frag) (t : sE) : sE := fun W z S Q => t W z S fun x S1 => nTuple K x S1 Q
theorem gTuple {p : Pos} (hg : Gl X "tuple") (hm : X.mg "tuple" = none) (ha : PE X a (dE W ta)) (na : starEach [a] X.env = (false, eval a X.env) :: starEach [] X.env := by rfl) : PE X (.Call (.Name "tuple" p) [a] [] pos) (dE W (sTuple X.K ta)) :=
  PE.by (pe_tupleOf hg hm ha na) fun z H Q ⟨S, Q', W', kw, o, h, k⟩ => ⟨S, _, W', kw, o, h, fun x S1 H1 o1 h1 => by
    unfold nTuple at h1
    split at h1
    · rcases h1 with ⟨xs, h1, h2⟩ | ⟨xs, h1, h2⟩
      · exact .inl ⟨_, xs, rfl, o1.l h1, fun q hq => k _ _ _ (o1.newU hq) (h2 q)⟩
      · exact .inr ⟨_, xs, rfl, o1.u h1, k _ _ _ o1 h2⟩
    · exact h1.elim⟩
/-! ### list(range(..)), tuple(range(..)) -/
def rgS (n : Int) : List V := (List.range n.toNat).map fun i => V.int (i : Nat)
theorem rgS_eq (n : Int) : rgV 0 n = rgS n := by
  unfold rgV rgS
  rw [Int.sub_zero]
  congr 1
  funext i
  rw [Int.zero_add]
def nRgL (x : V) (S : SH) (Q : V → SH → Prop) : Prop := match x with
  | .int n => (0 ≤ n ∧ n ≤ 16777216) ∧ ∀ q, Q (.ref q) (S.new q (.lst (rgS n)))
  | _ => False
def nRgT (x : V) (S : SH) (Q : V → SH → Prop) : Prop := match x with
  | .int n => (0 ≤ n ∧ n ≤ 16777216) ∧ ∀ q, Q (.ref q) (S.new q (.tup (rgS n)))
  | _ => False
def sRgL (t : sE) : sE := fun W z S Q => t W z S fun x S1 => nRgL x S1 Q
def sRgT (t : sE) : sE := fun W z S Q => t W z S fun x S1 => nRgT x S1 Q
theorem gRgL {p pos2 p2 : Pos} (hc : X.calm = true) (hg : Gl X "list") (hm : X.mg "list" = none) (hg2 : Gl X "range") (hm2 : X.mg "range" = none) (ha : PE X a (dE W ta)) (na : starEach [a] X.env = (false, eval a X.env) :: starEach [] X.env := by rfl)
    (nb : starEach [.Call (.Name "range" p2) [a] [] pos2] X.env = (false, eval (.Call (.Name "range" p2) [a] [] pos2) X.env) :: starEach [] X.env := by rfl) : PE X (.Call (.Name "list" p) [.Call (.Name "range" p2) [a] [] pos2] [] pos) (dE W (sRgL ta)) :=
  PE.by (pe_listRg hc hg hm (prg_1 hg2 hm2 ha na) nb) fun z H Q ⟨S, Q', W', kw, o, h, k⟩ => ⟨S, _, W', kw, o, h, fun x S1 H1 o1 h1 => by
    unfold nRgL at h1
    split at h1
    · obtain ⟨⟨h2, h3⟩, h4⟩ := h1
      exact ⟨_, rfl, RgOk.of_le (by decide) h3 (by decide) h2, fun q hq => by rw [rgS_eq]; exact k _ _ _ (o1.newU hq) (h4 q)⟩
    · exact h1.elim⟩
theorem gRgT {p pos2 p2 : Pos} (hc : X.calm = true) (hg : Gl X "tuple") (hm : X.mg "tuple" = none) (hg2 : Gl X "range") (hm2 : X.mg "range" = none) (ha : PE X a (dE W ta)) (na : starEach [a] X.env = (false, eval a X.env) :: starEach [] X.env := by rfl)
    (nb : starEach [.Call (.Name "range" p2) [a] [] pos2] X.env = (false, eval (.Call (.Name "range" p2) [a] [] pos2) X.env) :: starEach [] X.env := by rfl) : PE X (.Call (.Name "tuple" p) [.Call (.Name "range" p2) [a] [] pos2] [] pos) (dE W (sRgT ta)) :=
  PE.by (pe_tupRg hc hg hm (prg_1 hg2 hm2 ha na) nb) fun z H Q ⟨S, Q', W', kw, o, h, k⟩ => ⟨S, _, W', kw, o, h, fun x S1 H1 o1 h1 => by
    unfold nRgT at h1
    split at h1
    · obtain ⟨⟨h2, h3⟩, h4⟩ := h1
      exact ⟨_, rfl, RgOk.of_le (by decide) h3 (by decide) h2, fun q hq => by rw [rgS_eq]; exact k _ _ _ (o1.newU hq) (h4 q)⟩
    · exact h1.elim⟩
/-! ### xs.index(y), flat -/
def mIdx (K : PySem.W.Frag) : sM := fun x vs S Q => match x, vs with
  | .ref p, [y] => ∃ ys j z, sL K S p ys ∧ flatV y = true ∧ ys.all flatV = true ∧ ys[j]? = some z ∧ eqV z y = true ∧ (∀ (m : Nat) (z' : V), m < j → ys[m]? = some z' → eqV z' y = false) ∧ Q (.int (j : Nat)) S
  | _, _ => False
theorem lIdx {K : PySem.W.Frag} : LiftM (mIdx K) (rIndex K) := by
  intro x vs S Q' H Q o h k
  unfold mIdx at h
  split at h
  · obtain ⟨ys, j, z, h1, h2, h3, h4, h5, h6, h7⟩ := h
    exact ⟨_, ys, _, j, z, rfl, rfl, o.l h1, h2, h3, h4, h5, h6, k _ _ _ o h7⟩
  · exact h.elim
/-! ### walks: reversed, enumerate -/
def itLv (K : PySem.W.Frag) (a : Addr) (xs : List V) : SIt := ⟨xs.length, fun S => sL K S a xs, fun i S k => ∀ v, xs[xs.length - 1 - i]? = some v → k v S⟩
def itUv (K : PySem.W.Frag) (a : Addr) (xs : List V) : SIt := ⟨xs.length, fun S => sU K S a xs, fun i S k => ∀ v, xs[xs.length - 1 - i]? = some v → k v S⟩
theorem itLv_ok {K : PySem.W.Frag} {a : Addr} {xs : List V} : SItOk (Itv K a xs.length) (itLv K a xs) :=
  ⟨fun S H i o h hi => hi, fun S H i o h hi => ⟨hi, xs, _, o.l h, List.getElem?_eq_getElem (by have : i < xs.length := hi; omega)⟩, fun S H i x H' k o h hi ⟨e, y⟩ q => by
    subst e
    exact ⟨S, o, q x (y xs (o.l h))⟩⟩
theorem itUv_ok {K : PySem.W.Frag} {a : Addr} {xs : List V} : SItOk (RT.ItvT K a xs.length) (itUv K a xs) :=
  ⟨fun S H i o h hi => hi, fun S H i o h hi => ⟨hi, xs, _, o.u h, List.getElem?_eq_getElem (by have : i < xs.length := hi; omega)⟩, fun S H i x H' k o h hi ⟨e, y⟩ q => by
    subst e
    exact ⟨S, o, q x (y xs (o.u h))⟩⟩
def siRev (K : PySem.W.Frag) (tl : sE) : sI := fun W z S R => tl W z S fun x S1 => match x with
  | .ref a => (∃ xs, sL K S1 a xs ∧ R (itLv K a xs) S1) ∨ ∃ xs, sU K S1 a xs ∧ R (itUv K a xs) S1
  | _ => False
theorem iRev {tg l : Expr} {tl : sE} {p : Pos} (hg : Gl X "reversed") (hm : X.mg "reversed" = none) (hl : PE X l (dE W tl)) (hs : starEach [l] X.env = (false, eval l X.env) :: starEach [] X.env := by rfl) : PI X tg (.Call (.Name "reversed" p) [l] [] pos) (dI W (siRev X.K tl)) :=
  PI.by (RT.pi_revA hg hm hl hs) fun z H R ⟨S, R', W', kw, o, h, k⟩ => ⟨S, _, W', kw, o, h, fun x S1 H1 o1 h1 => by
    split at h1
    · rcases h1 with ⟨xs, h1, h2⟩ | ⟨xs, h1, h2⟩
      · exact ⟨_, xs, rfl, .inl ⟨o1.l h1, k _ _ _ _ o1 itLv_ok h2⟩⟩
      · exact ⟨_, xs, rfl, .inr ⟨o1.u h1, k _ _ _ _ o1 itUv_ok h2⟩⟩
    · exact h1.elim⟩
/-- each turn gives a new pair -/
def itE (K : PySem.W.Frag) (a : Addr) (xs : List V) : SIt := ⟨xs.length, fun S => sL K S a xs, fun i S k => ∀ v, xs[i]? = some v → ∀ r, k (.ref r) (S.new r (.tup [.int (i : Nat), v]))⟩
theorem itE_ok {K : PySem.W.Frag} {a : Addr} {xs : List V} : SItOk (Ite K a) (itE K a xs) :=
  ⟨fun S H i o h hi => ⟨xs, o.l h, hi⟩, fun S H i o h hi => ⟨xs, _, o.l h, List.getElem?_eq_getElem hi⟩, fun S H i x H' k o h hi ⟨T, v, e1, e2, e3, y⟩ q => by
    subst e1
    subst e3
    exact ⟨_, o.newU e2, q v (y xs (o.l h)) T⟩⟩
def siEn (K : PySem.W.Frag) (tl : sA) : sI := fun W z S R => tl W z S fun vs S1 => match vs with
  | [.ref a] => ∃ xs, sL K S1 a xs ∧ R (itE K a xs) S1
  | _ => False
theorem iEn {l : Expr} {tl : sA} {p tpos : Pos} {elts : List Expr} {kk : Nat} (hg : Gl X "enumerate") (hm : X.mg "enumerate" = none) (hl : PA X [l] (dA W tl)) (hs : starEach [l] X.env = [(false, eval l X.env)] := by rfl) : PI X (.Tuple elts kk tpos) (.Call (.Name "enumerate" p) [l] [] pos) (dI W (siEn X.K tl)) :=
  PI.by (pi_enum hg hm hl hs) fun z H R ⟨S, R', W', kw, o, h, k⟩ => ⟨S, _, W', kw, o, h, fun x S1 H1 o1 h1 => by
    split at h1
    · obtain ⟨xs, h1, h2⟩ := h1
      exact ⟨_, xs, rfl, o1.l h1, k _ _ _ _ o1 itE_ok h2⟩
    · exact h1.elim⟩
/-! ### dicts whose keys are ints or texts -/
def sDctK : sE := fun _ _ S Q => ∀ p, Q (.ref p) (S.new p (.dK []))
theorem gDctK : PE X (.Dict [] [] pos) (dE W sDctK) := PE.by pe_dnewK fun z H Q ⟨S, Q', W', kw, o, h, k⟩ => fun p hp => k _ _ _ (o.newU hp) (h p)
/-- d[k] = v -/
def sDPutK (td ty tv : sE) : sS := fun D z S => tv D.ex z S fun v S1 => td D.ex z S1 fun x S2 => ty D.ex z S2 fun y S3 => match x with
  | .ref p => ∃ i kvs k, S3.G[i]? = some (p, .dK kvs) ∧ y = kV k ∧ kvs.length < sizeLine ∧ D.nx z (S3.put i p (.dK (putK kvs k v)))
  | _ => False
theorem hDPutK {o i value : Expr} {td ty tv : sE} {pos2 : Pos} (hu : X.A.units + 1 < cLine) (ho : PE X o (dE W td)) (hi : PE X i (dE W ty)) (hv : PE X value (dE W tv)) (hs : swapsWith value (some (.Subscript o i pos2)) pos.line X.env = pure false := by rfl) :
    PS X (.Assign [.Subscript o i pos2] value pos) (dS W (sDPutK td ty tv)) :=
  PS.by (ps_dput hu ho hi hv hs) fun D z H ⟨S, D', ow, h, k⟩ => ⟨S, _, D'.ex, k.ex, ow, h, fun v S1 H1 o1 h1 => ⟨S1, _, D'.ex, k.ex, o1, h1, fun x S2 H2 o2 h2 => ⟨S2, _, D'.ex, k.ex, o2, h2, fun y S3 H3 o3 h3 => by
    split at h3
    · obtain ⟨n, kvs, kk, q1, rfl, q2, q3⟩ := h3
      exact ⟨_, _, rfl, .inl ⟨kvs, kk, o3.g q1, rfl, q2, rfl⟩, k.nx _ _ _ (o3.putU q1) q3⟩
    · exact h3.elim⟩⟩⟩
/-- sorted(d), fewer than 64 keys, all ints -/
def nSortD : sN := fun vs S Q => match vs with
  | [.ref p] => ∃ kvs ks, At S p (.dK kvs) ∧ kvs.map (·.1) = ks.map Sum.inl ∧ ks.length < 64 ∧ ∀ (ys : List Int) r, ys.Perm ks → ys.Pairwise (· ≤ ·) → Q (.ref r) (S.new r (.lst (ys.map V.int)))
  | _ => False
theorem lSortD : LiftN nSortD (fun xs H Q => ∃ (a : Addr) (kvs : List (Key × V)) (ks : List Int), xs = [.ref a] ∧ Rd H a (.dK kvs) ∧ kvs.map (·.1) = ks.map Sum.inl ∧ ks.length < 64 ∧
    ∀ (ys : List Int) (p : Addr), ys.Perm ks → ys.Pairwise (· ≤ ·) → H p = none → Q (.ref p) (upd H p (.lst (ys.map V.int)))) := by
  intro vs S Q' H Q o h k
  unfold nSortD at h
  split at h
  · obtain ⟨kvs, ks, h1, h2, h3, h4⟩ := h
    exact ⟨_, kvs, ks, rfl, .inl (o.at h1), h2, h3, fun ys r q1 q2 hr => k _ _ _ (o.newU hr) (h4 ys r q1 q2)⟩
  · exact h.elim
theorem gCnE {x : Str} {i : Int} (hg : Gl X x) (hm : ∃ t, X.mg x = some (.int i t)) (hd : (x == ("__debug__" : Str)) = false := by decide) : PE X (.Name x pos) (dE W (sC (.int i))) := hm.elim fun _ h => gCnV hg h hd
end
end SY
namespace SY
open PySem PySem.Spec PyProof.Rows L2
/-! ### objects of an own class -/
section
variable {X : Cx} {W : WX} {e o : Expr} {es : List Expr} {pos : Pos} {te tv : sE} {tas : sA}
theorem no_cx {P : Program} {w : World} {outer : List PySem.Env} {H : Hp} {s s' : Shared} {u : Value} : ¬ L2.CX P w outer H s (fun _ _ _ => False) u s' := fun c => by
  obtain ⟨_, _, _, _, _, _, _, _, _, _, _, _, z⟩ := c
  exact z
theorem passF {X : Cx} : Passes (L2.CX X.prog X.w) X (fun _ _ _ => False) := fun _ _ _ _ _ _ _ c => (no_cx c).elim
/-- a method's promise, by its class -/
structure MetC (P : Program) (w : World) (K : PySem.W.Frag) (mg : Str → Option Value) (base : Heap) (C : Addr) (m : Str) (ps : List Str) (k : Nat) (sp : Sp) : Prop where
  ex : ∃ (f : Addr) (fd : FuncData), Meth K C m f ∧ FnOk P w K mg base (L2.CX P w) k f fd ps sp ∧ Binds K fd ps []
/-- a property's -/
structure ProC (P : Program) (w : World) (K : PySem.W.Frag) (mg : Str → Option Value) (base : Heap) (C : Addr) (m : Str) (k : Nat) (sp : Sp) : Prop where
  ex : ∃ (p g : Addr) (fd : FuncData), PropOf K C m p g ∧ FnOk P w K mg base (L2.CX P w) k g fd ["self"] sp ∧ Binds K fd ["self"] []
/-- the making of one -/
structure MakC (P : Program) (w : World) (K : PySem.W.Frag) (mg : Str → Option Value) (base : Heap) (x : Str) (C : Addr) (ps : List Str) (k : Nat) (sp : Sp) : Prop where
  ex : ∃ (f : Addr) (fd : FuncData), mg x = some (.ref C) ∧ Mk K C f ∧ FnOk P w K mg base (L2.CX P w) k f fd ps sp ∧ Binds K fd ps []
def sFldO (C : Addr) (f : Str) (te : sE) : sE := fun W z S Q => te W z S fun x S1 => match x with
  | .ref p => ∃ dx fs v, At S1 p (.ins C dx fs) ∧ fs.lookup f = some v ∧ Q v S1
  | _ => False
theorem gFldO {C : Addr} {f : Str} (c : L2.Cls X.K C) (n : NoAttr X.K C f) (he : PE X e (dE W te)) (hb : attributeBase e f X.env (eval e X.env) = eval e X.env := by rfl) : PE X (.Attribute e f pos) (dE W (sFldO C f te)) :=
  PE.by (pe_fld he hb) fun z H Q ⟨S, Q', W', kw, ow, h, k⟩ => ⟨S, _, W', kw, ow, h, fun x S1 H1 o1 h1 => by
    split at h1
    · obtain ⟨dx, fs, v, h1, h2, h3⟩ := h1
      exact ⟨_, C, dx, fs, v, rfl, o1.at h1, c, n, h2, k _ _ _ o1 h3⟩
    · exact h1.elim⟩
def sConO (C : Addr) (f : Str) (v : V) (te : sE) : sE := fun W z S Q => te W z S fun x S1 => match x with
  | .ref p => ∃ dx fs, At S1 p (.ins C dx fs) ∧ fs.lookup f = none ∧ Q v S1
  | _ => False
theorem gConO {C : Addr} {f : Str} {v : V} (c : L2.Cls X.K C) (n : ∃ u, Con X.K C f v u) (he : PE X e (dE W te)) (hb : attributeBase e f X.env (eval e X.env) = eval e X.env := by rfl) : PE X (.Attribute e f pos) (dE W (sConO C f v te)) :=
  PE.by (pe_con he hb) fun z H Q ⟨S, Q', W', kw, ow, h, k⟩ => ⟨S, _, W', kw, ow, h, fun x S1 H1 o1 h1 => by
    obtain ⟨u, n⟩ := n
    split at h1
    · obtain ⟨dx, fs, h1, h2, h3⟩ := h1
      exact ⟨_, C, dx, fs, v, u, rfl, o1.at h1, c, n, h2, k _ _ _ o1 h3⟩
    · exact h1.elim⟩
def sSetO (C : Addr) (f : Str) (te tv : sE) : sS := fun D z S => tv D.ex z S fun y S1 => te D.ex z S1 fun x S2 => match x with
  | .ref p => ∃ i dx fs, S2.G[i]? = some (p, .ins C dx fs) ∧ fs.length < 1000 ∧ D.nx z (S2.put i p (.ins C dx (putF f y fs)))
  | _ => False
theorem hSetO {C : Addr} {f : Str} {value : Expr} {pos2 : Pos} (c : L2.Cls X.K C) (n : NoAttr X.K C f) (ho : PE X o (dE W te)) (hv : PE X value (dE W tv)) (hs : swapsWith value (some (.Attribute o f pos2)) pos.line X.env = pure false := by rfl) :
    PS X (.Assign [.Attribute o f pos2] value pos) (dS W (sSetO C f te tv)) :=
  PS.by (ps_fld ho hv hs) fun D z H ⟨S, D', ow, h, k⟩ => ⟨S, _, D'.ex, k.ex, ow, h, fun y S1 H1 o1 h1 => ⟨S1, _, D'.ex, k.ex, o1, h1, fun x S2 H2 o2 h2 => by
    split at h2
    · obtain ⟨i, dx, fs, q1, q2, q3⟩ := h2
      exact ⟨_, C, dx, fs, rfl, o2.g q1, c, n, q2, k.nx _ _ _ (o2.putU q1) q3⟩
    · exact h2.elim⟩⟩
variable {sp : Sp} {r : sWX → List V → L2.St → SH → (V → SH → Prop) → Prop} {k j : Nat}
/-- what a call that can't raise asks -/
theorem lift_no (c : Ctr sp r) {vs : List V} {z : L2.St} {S : SH} {H : Hp} {Q' : V → SH → Prop} {Q : VK} (ow : Own S H) (h : r (fun _ _ _ _ => False) vs z S Q') (k : Imp Q' Q) : sp vs H Q (fun _ _ _ => False) :=
  c.mono _ _ _ _ _ _ (fun v H' ⟨S', o', q⟩ => k v S' H' o' q) (fun _ _ _ ⟨_, _, q⟩ => q) (c.lift _ _ _ _ _ h H ow)
/-- a property, read; len of an own object -/
def sObjR (C : Addr) (r : sWX → List V → L2.St → SH → (V → SH → Prop) → Prop) (ok : V → Prop) (te : sE) : sE := fun W z S Q => te W z S fun x S1 => match x with
  | .ref p => ∃ dx fs, At S1 p (.ins C dx fs) ∧ r (fun _ _ _ _ => False) [.ref p] z S1 fun v S2 => ok v ∧ Q v S2
  | _ => False
abbrev sProO (C : Addr) (r : sWX → List V → L2.St → SH → (V → SH → Prop) → Prop) (te : sE) : sE := sObjR C r (fun _ => True) te
theorem gProO {C : Addr} {f : Str} (cr : Ctr sp r) (c : L2.Cls X.K C) (T : ProC X.prog X.w X.K X.mg X.base C f k sp) (hr : Room j X.A) (hj : k + 1 ≤ j) (he : PE X e (dE W te)) (hb : attributeBase e f X.env (eval e X.env) = eval e X.env := by rfl) :
    PE X (.Attribute e f pos) (dE W (sProO C r te)) := by
  obtain ⟨p, g, fd, hp, F, b⟩ := T.ex
  exact PE.by (pe_prop (ds := []) (dvs := []) he c hp F (hr.mono hj) b .nil (passF (X := X.nox)) hb) fun z H Q ⟨S, Q', W', kw, ow, h, k⟩ => ⟨S, _, W', kw, ow, h, fun x S1 H1 o1 h1 => by
    split at h1
    · obtain ⟨dx, fs, h1, h2⟩ := h1
      exact ⟨_, dx, fs, rfl, o1.at h1, lift_no cr o1 h2 fun v S2 H2 o2 q => k _ _ _ o2 q.2⟩
    · exact h1.elim⟩
def lenOk (v : V) : Prop := ∃ n : Nat, v = .int (n : Nat) ∧ n < 2 ^ 63
def rLenO (C : Addr) (sp : Sp) : List V → Hp → VK → Prop := fun xs H Q => ∃ (p dx : Addr) (fs : List (Str × V)), xs = [.ref p] ∧ H p = some (.ins C dx fs) ∧ sp [.ref p] H (fun v H' => lenOk v ∧ Q v H') fun _ _ _ => False
theorem cr_lenO {C f : Addr} {fd : FuncData} (hm : Meth X.K C "__len__" f) (F : FnOk X.prog X.w X.K X.mg X.base (L2.CX X.prog X.w) k f fd ["self"] sp) (b : Binds X.K fd ["self"] []) (hr : Room (k + 1) X.A) : CallR X (.builtin "len") (rLenO C sp) := by
  intro pins s z H xs us Q I rx h
  obtain ⟨p, dx, fs, rfl, hp, h⟩ := h
  obtain ⟨u, rfl, ru⟩ := vals1 rx
  obtain rfl : u = Value.ref p := ru
  obtain ⟨mA, J, _⟩ := ins_get I.hok hp
  obtain ⟨od, J, _⟩ := J.look
  obtain ⟨m, hF⟩ := I.fr
  refine PySem.W.len_K hF I.ok.mod.kin J hm.at_ hm.fn (wpAny_call (codeAny_mono (F.run X.A.in1 X.stack s H ⟨[.ref p], []⟩ [.ref p] [.ref p] _ _ hr.in1 I.env0.in1 ?_ (.cons rfl .nil) h) fun q s' hq => ?_))
  · have := b s [.ref p] I.kIn rfl
    simpa using this
  · cases q with
    | error er => exact (no_cx hq).elim
    | ok fl =>
      cases fl with
      | ret u =>
        obtain ⟨v, H', I3, rv, ⟨n, ev, hn⟩, q3⟩ := I.after hq
        subst ev
        obtain ⟨t, rfl⟩ := rv
        exact ⟨⟨Int.natCast_nonneg n, by omega⟩, ⟨.int (n : Nat), H', I3.tok _, ⟨_, rfl⟩, q3⟩⟩
      | next => exact False.elim hq
      | brk => exact False.elim hq
      | cont => exact False.elim hq
abbrev sLenO (C : Addr) (r : sWX → List V → L2.St → SH → (V → SH → Prop) → Prop) (te : sE) : sE := sObjR C r lenOk te
theorem gLenO {C : Addr} {p : Pos} (cr : Ctr sp r) (T : MetC X.prog X.w X.K X.mg X.base C "__len__" ["self"] k sp) (hr : Room j X.A) (hj : k + 1 ≤ j) (hg : Gl X "len") (hm : X.mg "len" = none) (he : PE X e (dE W te))
    (hs : starEach [e] X.env = (false, eval e X.env) :: starEach [] X.env := by rfl) :
    PE X (.Call (.Name "len" p) [e] [] pos) (dE W (sLenO C r te)) := by
  obtain ⟨f, fd, hM, F, b⟩ := T.ex
  exact PE.by (pe_callB (cr_lenO hM F b (hr.mono hj)) hg hm (by decide +kernel) (pa_cons he pa_nil hs) (by decide) (by decide) hs) fun z H Q ⟨S, Q', W', kw, ow, h, k⟩ => ⟨S, _, W', kw, ow, h, fun x S1 H1 o1 h1 => by
    split at h1
    · obtain ⟨dx, fs, h1, h2⟩ := h1
      exact ⟨_, dx, fs, rfl, o1.at h1, lift_no cr o1 h2 fun v S2 H2 o2 q => ⟨q.1, k _ _ _ o2 q.2⟩⟩
    · exact h1.elim⟩
/-- C(..), its __init__ can't raise here -/
def sMakO (C : Addr) (r : sWX → List V → L2.St → SH → (V → SH → Prop) → Prop) (t : sA) : sE := fun W z S Q => t W z S fun vs S1 => ∀ x dx, r (fun _ _ _ _ => False) (.ref x :: vs) z ((S1.new dx (.own x)).new x (.ins C dx [])) fun v S2 => v = .non ∧ Q (.ref x) S2
theorem gMakO {C : Addr} {x : Str} {p : Pos} {ps : List Str} (cr : Ctr sp r) (T : MakC X.prog X.w X.K X.mg X.base x C ps k sp) (hr : Room j X.A) (hj : k + 1 ≤ j) (hg : Gl X x) (ha : PA X (e :: es) (dA W tas))
    (hdb : (x == ("__debug__" : Str)) = false := by decide) (he : starEach (e :: es) X.env = (false, eval e X.env) :: starEach es X.env := by rfl) (hpl : (backTo pos (starEach es X.env)).any (·.1) = false := by rfl) :
    PE X (.Call (.Name x p) (e :: es) [] pos) (dE W (sMakO C r tas)) := by
  obtain ⟨f, fd, hm, M, F, b⟩ := T.ex
  exact PE.by (pe_make (ds := []) (dvs := []) M F (hr.mono hj) hg hm b .nil passF ha hdb he hpl) fun z H Q ⟨S, Q', W', kw, ow, h, k⟩ => ⟨S, _, W', kw, ow, h, fun vs S1 H1 o1 h1 x dx hx hdx ne => by
    have o2 : Own ((S1.new dx (.own x)).new x (.ins C dx [])) (upd (upd H1 dx (.own x)) x (.ins C dx [])) := (o1.newU hdx).newU (by rw [upd_ne (Ne.symm ne)]; exact hx)
    rw [List.append_nil]
    exact lift_no cr o2 (h1 x dx) fun v S2 H2 o3 q => ⟨q.1, k _ _ _ o3 q.2⟩⟩
end
section
variable {X : Cx} {W : WX} {a e o : Expr} {es : List Expr} {pos : Pos} {ta te ty td : sE} {tas : sA}
/-! ### all, str, join -/
def nAll (K : PySem.W.Frag) : sN := fun vs S Q => match vs with
  | [.ref p] => ∃ bs : List Bool, sL K S p (bs.map V.bl) ∧ Q (.bl (bs.all id)) S
  | _ => False
theorem lAll {K : PySem.W.Frag} : LiftN (nAll K) (rAll K) := by
  intro vs S Q' H Q o h k
  unfold nAll at h
  split at h
  · obtain ⟨bs, h1, h2⟩ := h
    exact ⟨_, bs, rfl, o.l h1, k _ _ _ o h2⟩
  · exact h.elim
def nStrI : sN := fun vs S Q => match vs with
  | [.int i] => i.natAbs.log2 < 1920 ∧ Q (.str (toString i)) S
  | _ => False
theorem lStrI : LiftN nStrI (fun xs H Q => ∃ i, xs = [.int i] ∧ i.natAbs.log2 < 1920 ∧ Q (.str (toString i)) H) := by
  intro vs S Q' H Q o h k
  unfold nStrI at h
  split at h
  · exact ⟨_, rfl, h.1, k _ _ _ o h.2⟩
  · exact h.elim
def mJoin (K : PySem.W.Frag) : sM := fun x vs S Q => match x, vs with
  | .str z, [.ref p] => ∃ ys : List Str, (sL K S p (ys.map V.str) ∨ sU K S p (ys.map V.str)) ∧ (ys.map (·.length)).sum + ys.length * z.length ≤ 16777216 ∧ Q (.str (Txt.join z ys)) S
  | _, _ => False
theorem lJoin {K : PySem.W.Frag} : LiftM (mJoin K) (fun x xs H Q => ∃ z p, ∃ ys : List Str, x = .str z ∧ xs = [.ref p] ∧ (SqL K H p (ys.map V.str) ∨ SqT K H p (ys.map V.str)) ∧ (ys.map (·.length)).sum + ys.length * z.length ≤ 16777216 ∧ Q (.str (Txt.join z ys)) H) := by
  intro x vs S Q' H Q o h k
  unfold mJoin at h
  split at h
  · obtain ⟨ys, h1, h2, h3⟩ := h
    exact ⟨_, _, ys, rfl, rfl, h1.elim (fun q => .inl (o.l q)) (fun q => .inr (o.u q)), h2, k _ _ _ o h3⟩
  · exact h.elim
/-! ### d[k] -/
def sDGet (td ty : sE) : sE := fun W z S Q => td W z S fun x S1 => ty W z S1 fun y S2 => match x with
  | .ref p => ∃ kvs k v, At S2 p (.dK kvs) ∧ y = kV k ∧ valV kvs k = some v ∧ Q v S2
  | _ => False
theorem gDGet {i : Expr} (hu : X.A.units + 1 < cLine) (ho : PE X o (dE W td)) (hi : PE X i (dE W ty)) (hs : NoSl i := by intro _ _; rfl) : PE X (.Subscript o i pos) (dE W (sDGet td ty)) :=
  PE.by (pe_dget hu ho hi hs) fun z H Q ⟨S, Q', W', kw, ow, h, k⟩ => ⟨S, _, W', kw, ow, h, fun x S1 H1 o1 h1 => ⟨S1, _, W', kw, o1, h1, fun y S2 H2 o2 h2 => by
    split at h2
    · obtain ⟨kvs, kk, v, q1, rfl, q3, q4⟩ := h2
      exact ⟨_, v, rfl, by rw [← q3]; exact DGet.k (o2.at q1), k _ _ _ o2 q4⟩
    · exact h2.elim⟩⟩
/-! ### walks over a text -/
def itS (x : Str) : SIt := ⟨x.cps.size, fun _ => True, fun i S k => ∀ c, x.cps[i]? = some c → k (.str ⟨#[c]⟩) S⟩
theorem itS_ok {x : Str} : SItOk (Its x) (itS x) :=
  ⟨fun S H i o h hi => hi, fun S H i o h hi => hi, fun S H i v H' k o h hi ⟨e, c, hc, ev⟩ q => by
    subst e
    subst ev
    exact ⟨S, o, q c hc⟩⟩
def siStr (tl : sE) : sI := fun W z S R => tl W z S fun x S1 => match x with
  | .str y => R (itS y) S1
  | _ => False
theorem iStrS {tg l : Expr} {tl : sE} (hl : PE X l (dE W tl)) : PI X tg l (dI W (siStr tl)) :=
  PI.by (pi_str hl) fun z H R ⟨S, R', W', kw, o, h, k⟩ => ⟨S, _, W', kw, o, h, fun x S1 H1 o1 h1 => by
    split at h1
    · exact ⟨_, rfl, k _ _ _ _ o1 itS_ok h1⟩
    · exact h1.elim⟩
/-- enumerate(text): each sign in a new pair -/
def ItsE (x : Str) : It := ⟨fun i _ => i < x.cps.size, fun i H v H' => ∃ T c, v = .ref T ∧ H T = none ∧ H' = upd H T (.tup [.int (i : Nat), .str ⟨#[c]⟩]) ∧ x.cps[i]? = some c, fun i _ => x.cps.size ≤ i⟩
theorem draws_str {prog : Program} {w : World} {A : Around} (hh : A.handled = none) (it : Addr) (x : Str) (t : Tok) {y : String} (hy : y = "str_ascii_iterator" ∨ y = "str_iterator") :
    Draws prog w A it [it] x.cps.size (fun i v => ∃ c u, x.cps[i]? = some c ∧ v = .str ⟨#[c]⟩ u) (fun i h => h.IsStrIter it y x t i) := by
  rcases hy with rfl | rfl
  · exact Draws.strAscii hh it x t
  · exact Draws.strWide hh it x t
theorem turn_enumS {P : Program} {w : World} {K : PySem.W.Frag} {elts : List Expr} {kk : Nat} {tpos : Pos} (en it : Addr) (x : Str) (t : Tok) {y : String} (hy : y = "str_ascii_iterator" ∨ y = "str_iterator") :
    Turn P w K (.Tuple elts kk tpos) (ItsE x) [en, it] en (fun i h => (∃ old, IsEnum h en it ((i : Nat) : Int) old) ∧ h.IsStrIter it y x t i ∧ en ≠ it ∧ i ≤ x.cps.size) where
  mem := List.mem_cons_self
  obj := fun i h st b hb => by
    obtain ⟨⟨old, he⟩, ⟨o, ho, _, hd⟩, _⟩ := st
    rcases List.mem_cons.mp hb with q | q
    · subst q
      exact ⟨_, he, fun v q => nomatch q⟩
    · rw [List.mem_singleton.mp q]
      exact ⟨o, ho, fun v q => by rw [hd] at q; cases q⟩
  keep := fun i h h' ⟨⟨old, he⟩, ⟨o, ho, rest⟩, hne⟩ kp => ⟨⟨old, kp en List.mem_cons_self _ he⟩, ⟨o, kp it (.tail _ (.head _)) o ho, rest⟩, hne⟩
  item := by
    intro X hP hw hK hc i pins s z H E I hf ⟨⟨old, he⟩, hit, hne, hle⟩ hg
    subst hP hw hK
    have hel : en < s.heap.objs.size := Heap.lt_size he
    have hil : it < s.heap.objs.size := hit.elim fun _ q => Heap.lt_size q.1
    refine wpAny_pyNext_enum_itemD (draws_str (A := X.A.in1) (I.ok.hd hc) it x t hy) he hit hg hne (fun q => hne (List.mem_singleton.mp q)) fun v h1 tk hv ho hit1 hT hsz hk => ⟨_, rfl, ?_⟩
    obtain ⟨c, u, hcx, rfl⟩ := hv
    refine wpAny_letOwnedTupleGo_enum (s := { s with heap := h1, toks := tk + 1 }) ho fun h2 he2 sb => ?_
    have hT2 := (sb.2 _ (Nat.ne_of_gt hel)).trans hT
    have new : ObjOk X.prog X.w (upd H s.heap.objs.size (.tup [.int (i : Nat), .str ⟨#[c]⟩])) h2 s.heap.objs.size (.tup [.int (i : Nat), .str ⟨#[c]⟩]) :=
      ⟨show 2 ≤ sizeLine by decide, [.int i tk, .str ⟨#[c]⟩ u], .cons ⟨_, rfl⟩ (.cons ⟨_, rfl⟩ .nil), ⟨_, hT2, rfl, _, rfl⟩⟩
    have off : ∀ b, b ∉ [en, it] → b ≠ en ∧ b ≠ it := fun b hb => ⟨fun q => hb (by rw [q]; exact List.mem_cons_self), fun q => hb (by rw [q]; exact .tail _ (.head _))⟩
    have I2 := I.turnedNew (t' := tk + 1) (fun b ob hb q => (sb.2 b (off b hb).1).trans (hk b ob (off b hb).1 (off b hb).2 q)) hf (Nat.le_refl _) new
    refine ⟨.ref s.heap.objs.size, _, I2, rfl, ⟨_, c, rfl, I.hok.fresh (Nat.le_refl _), rfl, hcx⟩, ⟨⟨.str ⟨#[c]⟩ u, ?_⟩, ?_, hne, hg⟩, fun b hb => ?_⟩
    · rw [show ((i + 1 : Nat) : Int) = (i : Int) + 1 by omega]
      exact he2
    · obtain ⟨o, ho2, rest⟩ := hit1
      exact ⟨o, (sb.2 it (Ne.symm hne)).trans ho2, rest⟩
    · have hb2 : b < s.heap.objs.size := by
        rcases List.mem_cons.mp hb with q | q
        · rw [q]
          exact hel
        · rw [List.mem_singleton.mp q]
          exact hil
      rw [upd_ne (Nat.ne_of_lt hb2)]
      exact (hf b hb).1
  done := by
    intro X hP hw hK hc i pins s z H E I hf ⟨⟨old, he⟩, hit, hne, hle⟩ hg
    subst hP hw hK
    have hi : i = x.cps.size := Nat.le_antisymm hle hg
    obtain ⟨f0, f1, f2, f3, f4, f5⟩ := hf it (.tail _ (.head _))
    subst hi
    exact wpAny_pyNext_enum_endD (draws_str (A := X.A.in1) (I.ok.hd hc) it x t hy) he hit fun h1 eb => ⟨rfl, I.turned (t' := s.toks) (fun b o hb q => eb b o hb q) f0 f1 f3 f4 f5⟩
  self := fun A i s Q E ⟨⟨_, he⟩, _⟩ h => wpAny_pyIter_enum he h
theorem iter_ty (x : Str) : strIterType x = "str_ascii_iterator" ∨ strIterType x = "str_iterator" := by
  unfold strIterType
  split
  · exact .inl rfl
  · exact .inr rfl
def iEnumS (ta : TA) : TI := fun z H R => ta z H fun vs H1 => ∃ x, vs = [.str x] ∧ R (ItsE x) H1
theorem pi_enumS {ta : TA} {p tpos : Pos} {elts : List Expr} {kk : Nat} (hg : Gl X "enumerate") (hm : X.mg "enumerate" = none) (ha : PA X [e] ta) (hs : starEach [e] X.env = [(false, eval e X.env)] := by rfl) :
    PI X (.Tuple elts kk tpos) (.Call (.Name "enumerate" p) [e] [] pos) (iEnumS ta) := by
  refine ⟨fun pins s z H R I h => Call_ (ld_blt I hg hm boot_enumerate (PyProof.Rows.callWith_type1 (thn (ha.run pos pins s z H _ I h) fun us s1 ⟨vs, H1, I1, r1, x, ev, q⟩ => ?_) hs rfl))⟩
  subst ev
  obtain ⟨u, rfl, t, rfl⟩ := vals1 r1
  refine call_enumerate_str fun h1 he hit hsz hk => wpAny_pyIter_enum he ?_
  have I2 : Inv X pins z H1 { s1 with heap := h1 } := I1.kept (t' := s1.toks) hk
  refine ⟨s1.heap.objs.size + 1, [s1.heap.objs.size + 1, s1.heap.objs.size], _, _, H1, rfl, I2, turn_enumS _ _ x t (iter_ty x), ⟨⟨.none, he⟩, hit, Nat.succ_ne_self _, Nat.zero_le _⟩, fun b hb => ?_, q⟩
  have hle : s1.heap.objs.size ≤ b := by
    rcases List.mem_cons.mp hb with q | q
    · rw [q]
      exact Nat.le_succ _
    · rw [List.mem_singleton.mp q]
      exact Nat.le_refl _
  exact I1.fpOk hle (I1.hok.fresh hle)
def itES (x : Str) : SIt := ⟨x.cps.size, fun _ => True, fun i S k => ∀ c, x.cps[i]? = some c → ∀ p, k (.ref p) (S.new p (.tup [.int (i : Nat), .str ⟨#[c]⟩]))⟩
theorem itES_ok {x : Str} : SItOk (ItsE x) (itES x) :=
  ⟨fun S H i o h hi => hi, fun S H i o h hi => hi, fun S H i v H' k o h hi ⟨T, c, e1, e2, e3, hc⟩ q => by
    subst e1
    subst e3
    exact ⟨_, o.newU e2, q c hc T⟩⟩
def siEnS (tl : sA) : sI := fun W z S R => tl W z S fun vs S1 => match vs with
  | [.str y] => R (itES y) S1
  | _ => False
theorem iEnS {tl : sA} {p tpos : Pos} {elts : List Expr} {kk : Nat} (hg : Gl X "enumerate") (hm : X.mg "enumerate" = none) (hl : PA X [e] (dA W tl)) (hs : starEach [e] X.env = [(false, eval e X.env)] := by rfl) :
    PI X (.Tuple elts kk tpos) (.Call (.Name "enumerate" p) [e] [] pos) (dI W (siEnS tl)) :=
  PI.by (pi_enumS hg hm hl hs) fun z H R ⟨S, R', W', kw, o, h, k⟩ => ⟨S, _, W', kw, o, h, fun vs S1 H1 o1 h1 => by
    split at h1
    · exact ⟨_, rfl, k _ _ _ _ o1 itES_ok h1⟩
    · exact h1.elim⟩
end
/-! ### sorted(rows): tuples that differ in their first item, an int -/
def RowAt (h : Heap) (v : Value) (k : Int) : Prop := ∃ (p : Addr) (ob : Obj) (its : Array Value) (n tk : Nat) (rest : List Value), v = .ref p ∧ h.get? p = some ob ∧ ob.cls = .type "tuple" ∧ ob.data = .seq its n ∧ its.toList = .int k tk :: rest
theorem RowAt.keep {h h2 : Heap} {v : Value} {k : Int} (r : RowAt h v k) (kp : ∀ b ob, h.get? b = some ob → ob.cls = .type "tuple" → h2.get? b = some ob) : RowAt h2 v k := by
  obtain ⟨p, ob, its, n, tk, rest, e, h1, h2, h3, h4⟩ := r
  exact ⟨p, ob, its, n, tk, rest, e, kp _ _ h1 h2, h2, h3, h4⟩
def ltR (k : Value → Int) (v u : Value) : Bool := decide (k v < k u)
theorem swo_ltR (k : Value → Int) : SrtO.Swo (ltR k) where
  asym := fun v u h => decide_eq_false (by have := of_decide_eq_true h; omega)
  tr := fun x y z h1 h2 => decide_eq_false (by
    have a1 := of_decide_eq_false h1
    have a2 := of_decide_eq_false h2
    omega)
section
variable {prog : Program} {w : World} {A : Around} {E : Value → Shared → Prop} {s : Shared}
theorem lex_same {b fin : Bool} {Q : Bool → Shared → Prop} (h : Q fin s) : ∀ (l : List Value) (i : Nat), PySem.W.KatLex prog w A b fin Q (l.zip l) i s
  | [], i => h
  | v :: l, i => by
    show PySem.W.KatLex prog w A b fin Q ((v, v) :: l.zip l) i s
    exact PySem.W.kat_cons (SeqAt.EqAt.same v prog w _ _ (PySem.W.kat_yes (lex_same h l (i + 1))))
theorem row_cmp {vs : List Value} {k : Value → Int} (hp : ∀ v ∈ vs, RowAt s.heap v (k v)) (inj : ∀ v ∈ vs, ∀ u ∈ vs, k v = k u → v = u) : SrtO.Cmp prog w A s (PyProof.Rows.tuples' true) (fun p => p.1 ∈ vs) (SrtO.lt2 (ltR k)) := by
  intro p q hm hm2
  show wpAny (model prog w) A (PyProof.Rows.keyLt' (PyProof.Rows.tuples' true) p.1 q.1) (fun r s2 => s2 = s ∧ r = ltR k p.1 q.1) (fun _ _ => False) s
  have e1 := hp _ hm
  have e2 := hp _ hm2
  have ei := inj _ hm _ hm2
  unfold ltR
  generalize p.1 = v at e1 ei
  generalize q.1 = u at e2 ei
  obtain ⟨x, ox, xs, nx, tx, rx, rfl, h1, h2, h3, h4⟩ := e1
  obtain ⟨y, oy, ys, ny, ty, ry, rfl, g1, g2, g3, g4⟩ := e2
  refine PySem.W.kat_lt h1 h3 g1 g3 ?_
  by_cases e : k (.ref x) = k (.ref y)
  · have exy := ei e
    cases exy
    rw [h1] at g1
    cases g1
    rw [h3] at g3
    cases g3
    exact lex_same ⟨rfl, by rw [decide_eq_false (Nat.lt_irrefl _), decide_eq_false (Int.lt_irrefl _)]⟩ _ _
  · rw [h4, g4]
    show PySem.W.KatLex prog w A true _ _ ((.int (k (.ref x)) tx, .int (k (.ref y)) ty) :: rx.zip ry) 0 s
    refine PySem.W.kat_cons (SeqAt.EqAt.int_int _ tx _ ty prog w _ _ ?_)
    have ne : (k (.ref x) == k (.ref y)) = false := beq_eq_false_iff_ne.mpr e
    rw [ne]
    exact PySem.W.kat_no (oneLt_int ⟨rfl, rfl⟩)
theorem row_firsts {h : Heap} {k : Value → Int} : ∀ (vs : List Value), (∀ v ∈ vs, RowAt h v (k v)) → ∃ fs : List Value, PySem.W.KatTups h vs fs ∧ fs.length = vs.length ∧ ∀ f ∈ fs, ∃ x t, f = Value.int x t
  | [], _ => ⟨[], PySem.W.KatTups.nil, rfl, fun f hf => nomatch hf⟩
  | v :: vs, hp => by
    obtain ⟨fs, a1, a2, a3⟩ := row_firsts vs fun u hu => hp u (.tail _ hu)
    obtain ⟨x, ox, xs, nx, tx, rx, e, h1, h2, h3, h4⟩ := hp v (.head _)
    rw [e]
    have hf : xs[0]? = some (.int (k v) tx) := by
      rw [← Array.getElem?_toList, h4]
      rfl
    refine ⟨.int (k v) tx :: fs, PySem.W.KatTups.cons h1 h2 h3 hf a1, congrArg (· + 1) a2, fun f hf => ?_⟩
    cases hf with
    | head => exact ⟨_, _, rfl⟩
    | tail _ hf => exact a3 f hf
theorem row_sortable {p : Addr} {vs : List Value} {k : Value → Int} (h0 : 0 < vs.length) (hp : ∀ v ∈ vs, RowAt s.heap v (k v)) (inj : ∀ v ∈ vs, ∀ u ∈ vs, k v = k u → v = u) (ha : ∀ ob, s.heap.get? p = some ob → ob.cls ≠ .type "tuple") : SrtO.SortableO prog w A s p vs (ltR k) := by
  intro h2 kp
  have hp2 : ∀ v ∈ vs, RowAt h2 v (k v) := fun v hv => (hp v hv).keep fun b ob e c => kp b ob (fun z => ha ob (by rw [← z]; exact e) c) e
  obtain ⟨fs, a1, a2, a3⟩ := row_firsts vs hp2
  refine ⟨PyProof.Rows.tuples' true, fun Q E hq => ?_, row_cmp (s := { s with heap := h2 }) hp2 inj⟩
  refine PySem.W.kat_kind (T := .type "int") a1 (by rw [a2]; exact h0) (fun f hf => ?_) rfl ?_
  · obtain ⟨x, t, rfl⟩ := a3 f hf
    exact PySem.W.Looks.now
  · rw [show (Value.type "int" != Value.type "tuple") = true by decide]
    exact hq
end
def rSortRow (K : PySem.W.Frag) : List V → Hp → VK → Prop := fun vs H Q => ∃ (p : Addr) (xs : List V) (k : V → Int), vs = [.ref p] ∧ SqL K H p xs ∧ (∀ x ∈ xs, ∃ t rest, x = .ref t ∧ H t = some (.tup (.int (k x) :: rest))) ∧ (∀ x ∈ xs, ∀ y ∈ xs, k x = k y → x = y) ∧
  ∀ ys q, ys.Perm xs → (ys.Pairwise fun x y => k x ≤ k y) → H q = none → Q (.ref q) (upd H q (.lst ys))
theorem cr_sortRow {X : Cx} : CallR X (.builtin "sorted") (rSortRow X.K) := by
  intro pins s z H vs us Q I r h
  obtain ⟨p, xs, k, rfl, hs, hx, inj, q⟩ := h
  obtain ⟨its, rv, hl, hz⟩ := I.list hs
  obtain ⟨u, rfl, ru⟩ := vals1 r
  obtain rfl : u = Value.ref p := ru
  have isr : ∀ x ∈ xs, ∃ t, x = V.ref t := fun x hm => (hx x hm).elim fun t ht => ⟨t, ht.elim fun _ y => y.1⟩
  obtain ⟨ex, eu⟩ := refs_back rv isr
  have rows : ∀ v ∈ its, RowAt s.heap v (k (backV v)) := fun v hv => by
    obtain ⟨t, rfl⟩ := eu v hv
    have hm : V.ref t ∈ xs := by
      rw [ex]
      exact List.mem_map.mpr ⟨_, hv, rfl⟩
    obtain ⟨t2, rest, et, ht⟩ := hx _ hm
    cases et
    obtain ⟨_, its2, rr, ob, ho, hc, n, hd⟩ := I.hok _ _ ht
    cases rr with
    | cons r0 rr =>
      obtain ⟨tk, rfl⟩ := r0
      exact ⟨t, ob, _, n, tk, _, rfl, ho, hc, hd, rfl⟩
  have inj2 : ∀ v ∈ its, ∀ u ∈ its, k (backV v) = k (backV u) → v = u := fun v hv u hu e => by
    obtain ⟨t, rfl⟩ := eu v hv
    obtain ⟨t2, rfl⟩ := eu u hu
    have m1 : V.ref t ∈ xs := by
      rw [ex]
      exact List.mem_map.mpr ⟨_, hv, rfl⟩
    have m2 : V.ref t2 ∈ xs := by
      rw [ex]
      exact List.mem_map.mpr ⟨_, hu, rfl⟩
    have := inj _ m1 _ m2 e
    cases this
    rfl
  refine SrtO.sorted_ord (swo_ltR fun u => k (backV u)) hl.isList (by rw [← rv.length]; exact hz) (fun h2 hp1 b hb kk => ?_) fun out o1 o2 => ?_
  · refine row_sortable (s := { s with heap := hp1 }) (by omega) (fun v hv => (rows v hv).keep fun b ob e _ => (kk b ob e).2) inj2 fun ob e c => ?_
    have e2 := Option.some.inj (e.symm.trans hb)
    rw [e2] at c
    exact absurd (Value.type.inj c) (by decide)
  · have a3 : ∀ u ∈ out, ∃ t, u = Value.ref t := fun u hu => eu u (o2.perm.mem_iff.mp hu)
    obtain ⟨n, hn⟩ := PyProof.Rows.sortedAll_at s.heap its out.toArray
    have pm : (out.map backV).Perm xs := by
      rw [ex]
      exact o2.perm.map _
    have srt : (out.map backV).Pairwise fun x y => k x ≤ k y := by
      refine List.pairwise_map.mpr (List.Pairwise.imp (fun {x y} hxy => ?_) o1)
      have hn : ¬ k (backV y) < k (backV x) := of_decide_eq_false hxy
      exact Int.not_lt.mp hn
    refine ⟨.ref (s.heap.objs.size + 1), upd H (s.heap.objs.size + 1) (.lst (out.map backV)), I.laid (t' := s.toks) (fun _ _ => PyProof.Rows.sortedAll_old) (Nat.le_succ _) ⟨?_, out, n, vals_back a3, hn⟩, rfl, q _ _ pm srt (I.hok.fresh (Nat.le_succ _))⟩
    rw [pm.length_eq]
    exact hz
def nSortRow (K : PySem.W.Frag) : sN := fun vs S Q => match vs with
  | [.ref p] => ∃ (xs : List V) (k : V → Int), sL K S p xs ∧ (∀ x ∈ xs, ∃ t rest, x = .ref t ∧ At S t (.tup (.int (k x) :: rest))) ∧ (∀ x ∈ xs, ∀ y ∈ xs, k x = k y → x = y) ∧
      ∀ ys q, ys.Perm xs → (ys.Pairwise fun x y => k x ≤ k y) → Q (.ref q) (S.new q (.lst ys))
  | _ => False
theorem lSortRow {K : PySem.W.Frag} : LiftN (nSortRow K) (rSortRow K) := by
  intro vs S Q' H Q o h k
  unfold nSortRow at h
  split at h
  · obtain ⟨xs, kk, h1, h2, h3, h4⟩ := h
    exact ⟨_, xs, kk, rfl, o.l h1, fun x hx => let ⟨t, rest, e, ht⟩ := h2 x hx; ⟨t, rest, e, o.at ht⟩, h3, fun ys q hp hs hq => k _ _ _ (o.newU hq) (h4 ys q hp hs)⟩
  · exact h.elim
section
variable {X : Cx} {W : WX} {a b e o : Expr} {pos : Pos} {ta tb te : sE}
/-! ### o.f as a target -/
def sgFld (C : Addr) (f : Str) (te : sE) : sG := fun W v z S Q => te W z S fun x S1 => match x with
  | .ref p => ∃ i dx fs, S1.G[i]? = some (p, .ins C dx fs) ∧ fs.length < 1000 ∧ Q z (S1.put i p (.ins C dx (putF f v fs)))
  | _ => False
def gFldT (K : PySem.W.Frag) (C : Addr) (f : Str) (t : TE) : TG := fun v z H Q => t z H fun x H1 => ∃ p dx fs, x = .ref p ∧ H1 p = some (.ins C dx fs) ∧ fs.length < 1000 ∧ Q z (upd H1 p (.ins C dx (putF f v fs)))
theorem pg_fldT {C : Addr} {f : Str} {t : TE} (c : L2.Cls X.K C) (n : NoAttr X.K C f) (ho : PE X o t) : PG X (.Attribute o f pos) (gFldT X.K C f t) := by
  refine ⟨fun pins s z H v u Q I r h => ?_⟩
  rw [arm_assign_Attribute]
  refine wpAny_bind (wpAny_holding (thn (ho.run pins s z H _ I h) fun ov s1 ⟨x, H1, I1, r1, p, dx, fs, ex, hp, hl, q⟩ => wpAny_bind (wpAny_standAt (wpAny_bind (wpAny_holding ?_)))))
  subst ex
  obtain rfl : ov = Value.ref p := r1
  exact setattr_ok I1 hp c n hl r fun s2 I2 => wpAny_release ⟨z, _, I2, q⟩
theorem ggFld {C : Addr} {f : Str} (c : L2.Cls X.K C) (n : NoAttr X.K C f) (ho : PE X o (dE W te)) : PG X (.Attribute o f pos) (dG W (sgFld C f te)) :=
  PG.by (pg_fldT c n ho) fun v z H Q ⟨S, Q', W', kw, ow, h, k⟩ => ⟨S, _, W', kw, ow, h, fun x S1 H1 o1 h1 => by
    split at h1
    · obtain ⟨i, dx, fs, q1, q2, q3⟩ := h1
      exact ⟨_, dx, fs, rfl, o1.g q1, q2, k _ _ _ (o1.putU q1) q3⟩
    · exact h1.elim⟩
/-! ### text * n -/
def oMulS : s2 := fun x y S Q => match x, y with
  | .str u, .int n => MulOk u n ∧ Q (.str (Txt.mul u n)) S
  | _, _ => False
theorem op_mulS : OpR X (binaryOp .Mult) (fun x y H Q => ∃ u n, x = .str u ∧ y = .int n ∧ MulOk u n ∧ Q (.str (Txt.mul u n)) H) := by
  intro pins s z H x y v u Q I rx ry h
  obtain ⟨t, n, rfl, rfl, hm, q⟩ := h
  obtain ⟨k1, rfl⟩ := rx
  obtain ⟨k2, rfl⟩ := ry
  exact SB.mul hm fun t2 k => ⟨.str (Txt.mul t n), H, I.tok _, ⟨_, rfl⟩, q⟩
theorem lMulS : Lift2 oMulS (fun x y H Q => ∃ u n, x = .str u ∧ y = .int n ∧ MulOk u n ∧ Q (.str (Txt.mul u n)) H) := by
  intro x y S Q' H Q o h k
  unfold oMulS at h
  split at h
  · exact ⟨_, _, rfl, rfl, h.1, k _ _ _ o h.2⟩
  · exact h.elim
theorem gMulS (ha : PE X a (dE W ta)) (hb : PE X b (dE W tb)) : PE X (.BinOp a .Mult b pos) (dE W (sOp oMulS ta tb)) := gOp op_mulS lMulS ha hb
/-! ### repr, where no repr is under way -/
def RprV (K : PySem.W.Frag) (H : Hp) (x : V) (z : Str) : Prop := match x with
  | .str u => (reprText u).length ≤ sizeLine ∧ z = reprText u
  | .int i => i.natAbs.log2 < 1920 ∧ z = toString i
  | .bl b => z = if b then ("True" : Str) else "False"
  | .non => z = "None"
  | .ref p => ∃ d, Dp K H (.ref p) d ∧ d.showable = true ∧ d.hasDict = false ∧ d.depth ≤ 60 ∧ d.shown.length ≤ sizeLine ∧ z = d.shown
  | _ => False
def rRepr (K : PySem.W.Frag) : List V → Hp → VK → Prop := fun xs H Q => ∃ x z, xs = [x] ∧ RprV K H x z ∧ Q (.str z) H
theorem cr_repr (hg : X.A.guards = some []) (hu : X.A.units + 64 < cLine) : CallR X (.builtin "repr") (rRepr X.K) := by
  intro pins s z H xs us Q I r h
  obtain ⟨x, y, rfl, hd, q⟩ := h
  obtain ⟨u, rfl, ru⟩ := vals1 r
  unfold RprV at hd
  split at hd
  · obtain ⟨h1, rfl⟩ := hd
    obtain ⟨t, rfl⟩ := ru
    exact P.repr_of_str ⟨.str _, H, I.tok _, ⟨_, rfl⟩, q⟩ h1
  · obtain ⟨h1, rfl⟩ := hd
    obtain ⟨t, rfl⟩ := ru
    exact P.repr_of_int h1 ⟨.str _, H, I.tok _, ⟨_, rfl⟩, q⟩
  · subst hd
    cases ru
    exact P.repr_of_bool ⟨.str _, H, I.tok _, ⟨_, rfl⟩, q⟩
  · subst hd
    cases ru
    exact P.repr_of_none ⟨.str _, H, I.tok _, ⟨_, rfl⟩, q⟩
  · obtain ⟨d, hd, h1, h2, h3, h4, rfl⟩ := hd
    obtain ⟨as, rd⟩ := Dp.reads I d _ u hd ru
    cases ru
    exact repr_of_reads' rd h1 (PyData.noDict_hsm h2) hg (by omega) (fun _ _ e => e) (fun h5 t tk hk => ⟨.str d.shown, H, I.kept (t' := tk) hk, ⟨_, rfl⟩, q⟩) h4
  · exact hd.elim
def nRepr (K : PySem.W.Frag) : sN := fun vs S Q => match vs with
  | [x] => ∃ z, (∀ H, Own S H → RprV K H x z) ∧ Q (.str z) S
  | _ => False
theorem lRepr {K : PySem.W.Frag} : LiftN (nRepr K) (rRepr K) := by
  intro vs S Q' H Q o h k
  unfold nRepr at h
  split at h
  · obtain ⟨z, h1, h2⟩ := h
    exact ⟨_, z, rfl, h1 H o, k _ _ _ o h2⟩
  · exact h.elim
end
end SY
namespace SY
open PySem PySem.Spec PyProof.Rows L2
/-! ### promises that ask that no repr is under way -/
structure FnG (P : Program) (w : World) (K : PySem.W.Frag) (mg : Str → Option Value) (base : Heap) (k : Nat) (f : Addr) (fd : FuncData) (ps : List Str) (sp : Sp) : Prop where
  len : ∀ vs H Q E, sp vs H Q E → vs.length = ps.length
  run : ∀ (A : Around) (outer : List PySem.Env) (s : Shared) (H : Hp) (args : Args) (us : List Value) (vs : List V) (Q : VK) (E : XK), A.guards = some [] → Room k A → Env0 P w K mg base A outer s H → BindsTo s fd args (ps.zip us) → Vals vs us → sp vs H Q E →
    codeAny (model P w) A (.call (.ref f) args) (CR (L2.CX P w) outer P w H s Q E) s
theorem FnG.mono {P : Program} {w : World} {K : PySem.W.Frag} {mg : Str → Option Value} {base : Heap} {j k : Nat} {f : Addr} {fd : FuncData} {ps : List Str} {sp : Sp} (F : FnG P w K mg base j f fd ps sp) (h : j ≤ k) : FnG P w K mg base k f fd ps sp :=
  ⟨F.len, fun A outer s H args us vs Q E hg hr => F.run A outer s H args us vs Q E hg (hr.mono h)⟩
/-- a def by its body -/
theorem fn_ofG {P : Program} {w : World} {K : PySem.W.Frag} {mg : Str → Option Value} {base : Heap} {k : Nat} {x qual : Str} {st : Stmt} {f : Addr} {fd : FuncData} {N ps : List Str} {sp : Sp} (F : Fun K x qual st f fd) (S : FnScope N ps (defScope st)) (len : ∀ vs H Q E, sp vs H Q E → vs.length = ps.length)
    (hb : ∀ (cdv : Value) (A : Around) (outer : List PySem.Env) (s : Shared) (H : Hp) (vs : List V) (Q : VK) (E : XK), A.guards = some [] → Room k (A.deeper (envOfC qual (defScope st) s.heap.objs.size f cdv)) → sp vs H Q E →
      ∃ t, PSs (cxOf (L2.CX P w) P w K mg base N qual (defScope st) f cdv A outer s H E) (defBody st) t ∧ t { nx := fun _ H2 => Q .non H2, rt := Q } (start N vs) H) : FnG P w K mg base (k + 1) f fd ps sp := by
  obtain ⟨oc, od, kV, doc, pm, an, cdv, ct, osl, rfl, lk, hcd⟩ := F.ex
  refine ⟨len, fun A outer s H args us vs Q E hg hr e0 bd rv hsp => ?_⟩
  have kp : ∀ b o, base.get? b = some o → s.heap.get? b = some o := fun b o e => (e0.bs b o e).1
  have KX : K.In s.heap := e0.mod.kin.keeps kp
  have kinds : ∀ y ∈ ps.zip us, (defScope st).names.lookup y.1 = some .local ∨ ((defScope st).names.lookup y.1 = some .cell ∧ ((cellsFrom (s.heap.objs.size + 1) (defScope st).names []).lookup y.1).isSome = true) := fun y hy =>
    (S.par y.1 (List.of_mem_zip (a := y.1) (b := y.2) hy).1).imp id fun q => ⟨q, PySem.W.cellsFrom_some _ _ _ (.inl q)⟩
  refine codeAny_call_function hr.depth (KX _ _ lk) rfl S.co S.gen rfl (PySem.W.codeRec_of KX hcd) (bd _ _ _ _ (wpAny_newFunctionEnv_cells S.kind kinds fun env he s1 ic => ?_))
  subst he
  obtain ⟨t, ht, hq⟩ := hb cdv A outer s H vs Q E hg (hr.deeper _) hsp
  refine ⟨(e0.mod.nolimit.keeps kp).keeps ic.toInCall.keep, codeAny_func (wpAny_mono (ht.run [] s1 (start N vs) H _ (inv_start S hr.hd e0 (len _ _ _ _ hsp) rv ic) hq) (fun fl s2 hs => ?_) fun e s2 hs => hs)⟩
  cases fl with
  | ret u =>
    obtain ⟨v, z, H2, J, ru, q⟩ := hs
    exact ⟨v, H2, J.os, J.bare, J.base, J.hok, ru, q⟩
  | next =>
    obtain ⟨z, H2, J, q⟩ := hs
    exact ⟨.non, H2, J.os, J.bare, J.base, J.hok, rfl, q⟩
  | brk => exact hs.elim fun _ y => y.elim fun _ y => y.2.elim
  | cont => exact hs.elim fun _ y => y.elim fun _ y => y.2.elim
structure DefG (P : Program) (w : World) (K : PySem.W.Frag) (mg : Str → Option Value) (base : Heap) (x : Str) (ps : List Str) (k : Nat) (sp : Sp) : Prop where
  ex : ∃ (f : Addr) (fd : FuncData), mg x = some (.ref f) ∧ PySem.W.keepIn K (.ref f) = true ∧ FnG P w K mg base k f fd ps sp ∧ Binds K fd ps []
section
variable {X : Cx} {W : WX} {e : Expr} {es : List Expr} {pos p : Pos} {tas : sA} {x : Str} {ps : List Str} {j k : Nat} {sp : Sp} {r : sWX → List V → L2.St → SH → (V → SH → Prop) → Prop}
theorem pe_callG {f : Addr} {fd : FuncData} {E : L2.St → XK} {t : TA} (F : FnG X.prog X.w X.K X.mg X.base k f fd ps sp) (hgd : X.A.guards = some []) (hr : Room k X.A) (hg : Gl X x) (hm : X.mg x = some (.ref f)) (hk : PySem.W.keepIn X.K (.ref f) = true) (hb : Binds X.K fd ps [])
    (hx : ∀ z, PassesAt (L2.CX X.prog X.w) X z (E z)) (ha : PA X (e :: es) t) (hdb : (x == ("__debug__" : Str)) = false) (he : starEach (e :: es) X.env = (false, eval e X.env) :: starEach es X.env) (hpl : (backTo pos (starEach es X.env)).any (·.1) = false) :
    PE X (.Call (.Name x p) (e :: es) [] pos) (fun z H Q => t z H fun vs H1 => sp vs H1 Q (E z)) := by
  refine ⟨fun pins s z H Q I h => wpAny_Call_Name_kw (ld_glob I hg hm (PySem.W.callWith_K (h₀ := X.base) I.ok.mod.kin hk (thn (ha.run pos pins s z H _ I h) fun us s1 ⟨vs, H1, I1, rv, q⟩ => ⟨I1.kIn, ?_⟩) he hpl) hdb)⟩
  have hl : us.length = ps.length := rv.length.symm.trans (F.len _ _ _ _ q)
  have b := hb s1 us I1.kIn (by rw [List.append_nil]; exact hl)
  rw [List.append_nil] at b
  refine wpAny_call (codeAny_mono (F.run X.A X.stack s1 H1 ⟨us, []⟩ us vs Q (E z) hgd hr I1.env0 b rv q) fun q s2 hq => ?_)
  match q, hq with
  | .error er, hq => exact hx z pins H1 s1 er s2 I1 hq
  | .ok (.ret u), hq => exact I1.after hq
theorem gCallG (c : Ctr sp r) (T : DefG X.prog X.w X.K X.mg X.base x ps k sp) (hgd : X.A.guards = some []) (hr : Room j X.A) (hj : k ≤ j) (hg : Gl X x) (tk : Takes X W) (ha : PA X (e :: es) (dA W tas))
    (hdb : (x == ("__debug__" : Str)) = false := by decide) (he : starEach (e :: es) X.env = (false, eval e X.env) :: starEach es X.env := by rfl) (hpl : (backTo pos (starEach es X.env)).any (·.1) = false := by rfl) :
    PE X (.Call (.Name x p) (e :: es) [] pos) (dE W (sCallD r [] tas)) := by
  obtain ⟨f, fd, hm, hk, F, hb⟩ := T.ex
  exact PE.by (pe_callG F hgd (hr.mono hj) hg hm hk hb (fun z => passAt tk z) ha hdb he hpl) fun z H Q ⟨S, Q', W', kw, o, h, k⟩ => ⟨S, _, W', kw, o, h, fun vs S1 H1 o1 h1 => by
    rw [List.append_nil] at h1
    exact lift_sp c.mono kw o1 (c.lift _ _ _ _ _ h1) k⟩
end
/-! ### the law's call -/
theorem law_callG {P : Program} {w : World} {K : PySem.W.Frag} {mg mb : Str → Option Value} {k : Nat} {fa a : Addr} {fd : FuncData} {x : Str} {sp : Sp} {s : Shared} {vs : List Value} {ns : List Int}
    (KX : K.In s.heap) (hns : s.heap.Ns mainGlobals mg) (hb : s.heap.Ns builtinsNs mb) (hbb : ∀ x : Str, x ≠ "__name__" → mb x = bootBuiltins x) (hlim : s.heap.NoLimit) (hg : s.gens = #[])
    (ha : s.heap.get? a = some { cls := .type "list", data := .seq vs.toArray }) (hi : IntsAre vs ns) (hl : ns.length ≤ sizeLine) (hr : Room k callerA)
    (F : ∀ base : Heap, K.In base → base.Ns mainGlobals mg → FnG P w K mg base k fa fd [x] sp) (bd : ∀ (s : Shared) (u : Value), BindsTo s fd ⟨[u], []⟩ [(x, u)])
    (hsp : ∀ H : Hp, SqL K H a (ns.map V.int) → sp [.ref a] H (fun v _ => v = .bl true) fun _ _ _ => False) :
    codeAny (model P w) callerA (.call (.ref fa) ⟨[.ref a], []⟩) (fun r s2 => r = .ok (.ret (.bool true)) ∧ OldK s.heap s2.heap ∧ s2.os = s.os ∧ AllBare s2.gens) s := by
  have rv := vals_ints hi
  obtain ⟨H, hS, hok, hA, hK⟩ : ∃ H : Hp, SqL K H a (ns.map V.int) ∧ HOk P w H s.heap ∧ (∀ b u, H b = some u → b = a ∧ u = .frz { cls := .type "list", data := .seq vs.toArray } (.lst (ns.map V.int))) ∧ (H a ≠ none → K.lookup a = none) := by
    by_cases e : K.lookup a = none
    · refine ⟨fun b => if b = a then some (.frz { cls := .type "list", data := .seq vs.toArray } (.lst (ns.map V.int))) else none, .inl (.inr ⟨_, if_pos rfl⟩), fun b u q => ?_, fun b u q => ?_, fun _ => e⟩
      · have q2 : (if b = a then _ else _) = some u := q
        split at q2
        · rename_i eb
          cases q2
          subst eb
          exact ⟨ha, by rw [List.length_map]; exact hl, vs, _, rv, ha⟩
        · cases q2
      · have q2 : (if b = a then _ else _) = some u := q
        split at q2
        · rename_i eb
          cases q2
          exact ⟨eb, rfl⟩
        · cases q2
    · obtain ⟨o, ho⟩ := Option.ne_none_iff_exists'.mp e
      have e2 := KX a o ho
      rw [ha] at e2
      cases e2
      exact ⟨fun _ => none, .inr ⟨_, vs.toArray, _, ho, rfl, rfl, rfl, by rw [List.size_toArray, hi.length]; exact hl, rv⟩, (fun b u q => by cases q), (fun b u q => by cases q), fun q => absurd rfl q⟩
  have free : ∀ {b : Addr} {o : Obj} {es : Array DictEntry} {ep : Nat}, s.heap.get? b = some o → o.data = .dict es ep → H b = none := fun {b o es ep} e d => by
    cases q : H b with
    | none => rfl
    | some u =>
      obtain ⟨eb, _⟩ := hA b u q
      subst eb
      rw [ha] at e
      cases e
      exact absurd d (by simp)
  have low : ∀ {b : Addr} {m : Str → Option Value}, s.heap.Ns b m → (hidT s.heap H).Ns b m := fun {b m} h => h.elim fun o h => h.elim fun es h => h.elim fun ep h => ⟨o, es, ep, hidT_get h.1 (free h.1 h.2.1), h.2⟩
  have hKb : K.In (hidT s.heap H) := fun b o e => hidT_get (KX b o e) (by
    cases q : H b with
    | none => rfl
    | some u =>
      obtain ⟨eb, _⟩ := hA b u q
      subst eb
      rw [hK (by rw [q]; exact fun z => nomatch z)] at e
      cases e)
  have e0 : Env0 P w K mg (hidT s.heap H) callerA [] s H := ⟨rfl, ⟨hKb, low hns, ⟨mb, low hb, hbb⟩, hlim.elim fun mc h => ⟨mc, low h.1, h.2⟩⟩, fun b o e => of_hidT e, Nat.le_of_eq (hidT_size _ _), trivial, (fun b hb => nomatch hb), hok, .of_eq hg⟩
  refine codeAny_mono ((F _ hKb (low hns)).run callerA [] s H ⟨[.ref a], []⟩ [.ref a] [.ref a] _ _ rfl hr e0 (bd s (.ref a)) (.cons rfl .nil) (hsp H hS)) fun q s2 h => ?_
  match q, h with
  | .error er, h => exact (no_cx h).elim
  | .ok (.ret u), ⟨v, H2, os, bare, un, hok2, ru, ev⟩ =>
    have ev : v = .bl true := ev
    subst ev
    obtain rfl : u = Value.bool true := ru
    refine ⟨rfl, OldK.of_keep fun b o e => ?_, os, bare⟩
    cases q : H b with
    | none => exact un.keep b o e q (fun z => nomatch z) (fun z => nomatch z)
    | some u =>
      obtain ⟨eb, eu⟩ := hA b u q
      subst eu
      have e2 := (hok2 b _ (un.frzs b _ _ q)).1
      rw [eb] at e e2 ⊢
      rw [ha] at e
      cases e
      exact e2
theorem walk_ofG {l : PySem.W.OpenLaw} {n k : Nat} {q : Program} {loose : List Str} {XP : (Str → Option Value) → Heap → Prop} {YP : World → Heap → Prop} {d : DefRec} {K : Params → PySem.W.Frag} {sp : World → Sp} {x : Str}
    (hn : l.most = some n) (hn2 : n ≤ sizeLine) (hdf : d.params.defaults = []) (hr : Room k callerA) (hY : ∀ (w : World) (h : Heap), YP w h → (K w.params).In h)
    (F : ∀ (w : World) (mg : Str → Option Value) (fa : Addr) (h : Heap), (K w.params).In h → h.Ns mainGlobals mg → mg d.name = some (.ref fa) →
      ∃ fd : FuncData, (∀ (s : Shared) (u : Value), BindsTo s fd ⟨[u], []⟩ [(x, u)]) ∧ ∀ base : Heap, (K w.params).In base → base.Ns mainGlobals mg → FnG l.prog w (K w.params) mg base k fa fd [x] (sp w))
    (hsp : ∀ (w : World) (H : Hp) (a : Addr) (ns : List Int), ns.length ≤ n → SqL (K w.params) H a (ns.map V.int) → sp w [.ref a] H (fun v _ => v = .bl true) fun _ _ _ => False) :
    PySem.W.WalkO q loose XP YP l.row.toRowW d [] (fun f vs => PySem.call f vs) :=
  Att.attach_call hn hdf fun w s0 s1 mg mb fa o pm cd doc a vs ns G Y ho hd hcd hmg hobj hints hlen hg => by
    have KX := hY w _ Y
    obtain ⟨fd, hb, hF⟩ := F w mg fa _ KX G.T.g hmg
    exact law_callG KX G.T.g G.T.b G.T.builtins G.T.nolimit hg hobj hints (Nat.le_trans hlen hn2) hr hF hb fun H hS => hsp w H a ns hlen hS
end SY
namespace SY
open PySem PySem.Spec PyProof.Rows L2
section
variable {K : PySem.W.Frag}
def isInt : V → Bool
  | .int _ => true
  | _ => false
def optV : Option Int → V
  | none => .non
  | some m => .int m
def nV (ns : List Nat) : List V := ns.map fun n => V.int (n : Nat)
def allV {α : Type} (R : V → α → Prop) : List V → List α → Prop
  | [], [] => True
  | v :: vs, x :: xs => R v x ∧ allV R vs xs
  | _, _ => False
theorem ext0 {H H' : Hp} (o : Own ⟨H, []⟩ H') : Ext H H' := fun a u e => o.fr a u e
theorem use_V {f : List V → Option Ot} {W : sWX} {σ : L2.St} {S : SH} {Q : V → SH → Prop} {vs : List V} (v : V) (e : f vs = some (.ok v)) (h : Q v S) : rV f W vs σ S Q := by
  unfold rV
  rw [e]
  exact h
theorem SqT.up {H H' : Hp} {p : Addr} {xs : List V} (e : Ext H H') (h : SqT K H p xs) : SqT K H' p xs := by
  rcases h with (h | ⟨o, h⟩) | h
  · exact .inl (.inl (e _ _ h))
  · exact .inl (.inr ⟨o, e _ _ h⟩)
  · exact .inr h
theorem SqL.up {H H' : Hp} {p : Addr} {xs : List V} (e : Ext H H') (h : SqL K H p xs) : SqL K H' p xs := by
  rcases h with (h | ⟨o, h⟩) | h
  · exact .inl (.inl (e _ _ h))
  · exact .inl (.inr ⟨o, e _ _ h⟩)
  · exact .inr h
theorem ixN_nat {n i : Nat} (h : i < n) : ixN n (i : Int) = some i := by
  unfold ixN
  rw [if_pos (by omega), if_pos (by omega), Int.toNat_natCast]
theorem atI_at {α : Type} {xs : List α} {i : Nat} {x : α} (h : xs[i]? = some x) : atI xs (i : Int) = some x := by
  unfold atI
  rw [ixN_nat (List.getElem?_eq_some_iff.mp h).1, Option.bind_some, h]
theorem modNat {x m : Int} (h : 0 < m) : ∃ r : Nat, x % m = (r : Int) ∧ (r : Int) < m :=
  ⟨(x % m).toNat, (Int.toNat_of_nonneg (Int.emod_nonneg _ (by omega))).symm, by rw [Int.toNat_of_nonneg (Int.emod_nonneg _ (by omega))]; exact Int.emod_lt_of_pos _ h⟩
theorem nV_len (ns : List Nat) : (nV ns).length = ns.length := List.length_map _
theorem nV_at {ns : List Nat} {i x : Nat} (h : ns[i]? = some x) : (nV ns)[i]? = some (.int (x : Nat)) := by
  unfold nV
  rw [List.getElem?_map, h]
  rfl
theorem nV_append (xs ys : List Nat) : nV (xs ++ ys) = nV xs ++ nV ys := List.map_append
theorem allV_len {α : Type} {R : V → α → Prop} : ∀ {vs : List V} {xs : List α}, allV R vs xs → vs.length = xs.length
  | [], [], _ => rfl
  | _ :: _, _ :: _, h => congrArg (· + 1) (allV_len h.2)
  | [], _ :: _, h => h.elim
  | _ :: _, [], h => h.elim
theorem allV_at {α : Type} {R : V → α → Prop} : ∀ {vs : List V} {xs : List α}, allV R vs xs → ∀ {i : Nat} {v : V}, vs[i]? = some v → ∃ x, xs[i]? = some x ∧ R v x
  | [], [], _, i, v, e => by cases e
  | v0 :: vs, x0 :: xs, h, 0, v, e => by
    cases e
    exact ⟨x0, rfl, h.1⟩
  | v0 :: vs, x0 :: xs, h, i + 1, v, e => allV_at h.2 (i := i) e
  | [], _ :: _, h, _, _, _ => h.elim
  | _ :: _, [], h, _, _, _ => h.elim
theorem allV_ex {α : Type} {R R' : V → α → Prop} (hr : ∀ v x, R v x → R' v x) : ∀ {vs : List V} {xs : List α}, allV R vs xs → allV R' vs xs
  | [], [], _ => trivial
  | _ :: _, _ :: _, h => ⟨hr _ _ h.1, allV_ex hr h.2⟩
  | [], _ :: _, h => h.elim
  | _ :: _, [], h => h.elim
theorem allV_snoc {α : Type} {R : V → α → Prop} {v : V} {x : α} (h2 : R v x) : ∀ {vs : List V} {xs : List α}, allV R vs xs → allV R (vs ++ [v]) (xs ++ [x])
  | [], [], _ => ⟨h2, trivial⟩
  | _ :: _, _ :: _, h => ⟨h.1, allV_snoc h2 h.2⟩
  | [], _ :: _, h => h.elim
  | _ :: _, [], h => h.elim
theorem take_more {α : Type} {xs : List α} {i : Nat} {x : α} (h : xs[i]? = some x) : xs.take (i + 1) = xs.take i ++ [x] := by
  rw [List.take_add_one, h]
  rfl
theorem nV_get {ns : List Nat} {i : Nat} {v : V} (h : (nV ns)[i]? = some v) : ∃ x : Nat, ns[i]? = some x ∧ v = .int (x : Nat) := by
  unfold nV at h
  rw [List.getElem?_map] at h
  cases e : ns[i]? with
  | none =>
    rw [e] at h
    cases h
  | some x =>
    rw [e] at h
    exact ⟨x, rfl, (Option.some.inj h).symm⟩
def mT (K : PySem.W.Frag) (F : Hp) (G : List (Addr × HO)) (p : Addr) (xs : List V) : Prop := (p, HO.tup xs) ∈ G ∨ SqT K F p xs
def mL (K : PySem.W.Frag) (F : Hp) (G : List (Addr × HO)) (p : Addr) (xs : List V) : Prop := (p, HO.lst xs) ∈ G ∨ SqL K F p xs
theorem mT.s {F : Hp} {G : List (Addr × HO)} {p : Addr} {xs : List V} (h : mT K F G p xs) {G' : List (Addr × HO)} (s : G ⊆ G') : sU K ⟨F, G'⟩ p xs := h.elim (fun h => .inl (List.mem_iff_getElem?.mp (s h))) .inr
theorem mL.s {F : Hp} {G : List (Addr × HO)} {p : Addr} {xs : List V} (h : mL K F G p xs) {G' : List (Addr × HO)} (s : G ⊆ G') : sL K ⟨F, G'⟩ p xs := h.elim (fun h => .inl (List.mem_iff_getElem?.mp (s h))) .inr
theorem mT.sub {F : Hp} {G G' : List (Addr × HO)} {p : Addr} {xs : List V} (h : mT K F G p xs) (s : G ⊆ G') : mT K F G' p xs := h.imp_left fun h => s h
theorem mL.sub {F : Hp} {G G' : List (Addr × HO)} {p : Addr} {xs : List V} (h : mL K F G p xs) (s : G ⊆ G') : mL K F G' p xs := h.imp_left fun h => s h
theorem mT.own {F H' : Hp} {G : List (Addr × HO)} {p : Addr} {xs : List V} (h : mT K F G p xs) (o : Own ⟨F, G⟩ H') : SqT K H' p xs := o.u (h.s (List.Subset.refl _))
theorem mL.own {F H' : Hp} {G : List (Addr × HO)} {p : Addr} {xs : List V} (h : mL K F G p xs) (o : Own ⟨F, G⟩ H') : SqL K H' p xs := o.l (h.s (List.Subset.refl _))
theorem at_mid {E G : List (Addr × HO)} {x : Addr × HO} : (E ++ x :: G)[E.length]? = some x := by
  rw [List.getElem?_append_right (Nat.le_refl _), Nat.sub_self]
  rfl
theorem set_mid {E G : List (Addr × HO)} {x y : Addr × HO} : (E ++ x :: G).set E.length y = E ++ y :: G := by
  rw [List.set_append_right _ _ (Nat.le_refl _), Nat.sub_self]
  rfl
theorem lc_put {P : SH → Prop} {F : Hp} {E G : List (Addr × HO)} {D : Addr} {acc : List V} {y : V} (ha : acc.length < sizeLine) (h : P ⟨F, E ++ (D, .lst (acc ++ [y])) :: G⟩) :
    ∃ k acc', (SH.mk F (E ++ (D, .lst acc) :: G)).G[k]? = some (D, .lst acc') ∧ acc'.length < sizeLine ∧ Wk P (SH.put ⟨F, E ++ (D, .lst acc) :: G⟩ k D (.lst (acc' ++ [y]))) := by
  refine ⟨E.length, acc, at_mid, ha, ⟨_, SLe.refl _, ?_⟩⟩
  show P ⟨F, (E ++ (D, .lst acc) :: G).set E.length (D, .lst (acc ++ [y]))⟩
  rw [set_mid]
  exact h
theorem sub_mid {E G : List (Addr × HO)} {x : Addr × HO} : (E ++ G) ⊆ (E ++ x :: G) := fun z hz => (List.mem_append.mp hz).elim (fun h => List.mem_append_left _ h) fun h => List.mem_append_right _ (.tail _ h)
theorem sub_right {E G : List (Addr × HO)} : G ⊆ E ++ G := fun z hz => List.mem_append_right _ hz
theorem sub_midr {E G : List (Addr × HO)} {x : Addr × HO} : G ⊆ (E ++ x :: G) := fun z hz => List.mem_append_right _ (.tail _ hz)
theorem small_of {n m : Nat} (h : n ≤ m) (hm : m < 16777216) : n < sizeLine := Nat.lt_of_le_of_lt h hm
theorem map_more {α β : Type} {f : α → β} {xs : List α} {i : Nat} {x : α} (h : xs[i]? = some x) : (xs.take (i + 1)).map f = (xs.take i).map f ++ [f x] := by
  rw [take_more h, List.map_append]
  rfl
theorem allV_append {α : Type} {R : V → α → Prop} : ∀ {vs ws : List V} {xs ys : List α}, allV R vs xs → allV R ws ys → allV R (vs ++ ws) (xs ++ ys)
  | [], _, [], _, _, h2 => h2
  | _ :: _, _, _ :: _, _, h, h2 => ⟨h.1, allV_append h.2 h2⟩
  | [], _, _ :: _, _, h, _ => h.elim
  | _ :: _, _, [], _, h, _ => h.elim
theorem yldR_go {lo : Int} {n i : Nat} {S : SH} {k : V → SH → Prop} (h : k (.int (lo + (i : Nat))) S) : (itR lo n).yld i S k := h
theorem nm_go {i : Nat} {W : sWX} {v : V} {σ : L2.St} {S : SH} {Q : L2.St → SH → Prop} (h : Q (σ.set i (some v)) S) : sgName i W v σ S Q := h
theorem seq_go {t u : sS} {D : sEnds} {σ : L2.St} {S : SH} (h : t { D with nx := u D } σ S) : sSeq t u D σ S := h
theorem set_go {te : sE} {i : Nat} {D : sEnds} {σ : L2.St} {S : SH} (h : te D.ex σ S fun x S1 => D.nx (σ.set i (some x)) S1) : sSet te i D σ S := h
theorem ret_go {te : sE} {D : sEnds} {σ : L2.St} {S : SH} (h : te D.ex σ S D.rt) : sRet te D σ S := h
theorem op_go {r : s2} {ta tb : sE} {W : sWX} {σ : L2.St} {S : SH} {Q : V → SH → Prop} (h : ta W σ S fun x S1 => tb W σ S1 fun y S2 => r x y S2 Q) : sOp r ta tb W σ S Q := h
theorem get_n {ns : List Nat} {i : Nat} (h : i < ns.length) : ns[i]? = some (ns.getD i 0) := by
  rw [List.getD_eq_getElem?_getD, List.getElem?_eq_getElem h]
  rfl
theorem range_more (f : Nat → Nat) (i : Nat) : nV ((List.range (i + 1)).map f) = nV ((List.range i).map f) ++ [.int (f i : Nat)] := by
  rw [List.range_succ, List.map_append, nV_append]
  rfl
theorem range_len (f : Nat → Nat) (i : Nat) : (nV ((List.range i).map f)).length = i := by
  rw [nV_len, List.length_map, List.length_range]
theorem flat_more {α β : Type} {f : α → List β} {xs : List α} {i : Nat} {x : α} (h : xs[i]? = some x) : (xs.take (i + 1)).flatMap f = (xs.take i).flatMap f ++ f x := by
  rw [take_more h, List.flatMap_append, List.flatMap_singleton]
theorem app_go {F : Hp} {E G : List (Addr × HO)} {D : Addr} {acc : List V} {y : V} {Q : V → SH → Prop} (ha : acc.length < sizeLine) (h : Q .non ⟨F, E ++ (D, .lst (acc ++ [y])) :: G⟩) : mAppend (.ref D) [y] ⟨F, E ++ (D, .lst acc) :: G⟩ Q := by
  refine ⟨E.length, acc, at_mid, ha, ?_⟩
  show Q .non ⟨F, (E ++ (D, .lst acc) :: G).set E.length (D, .lst (acc ++ [y]))⟩
  rw [set_mid]
  exact h
theorem cons_go {t : sE} {r : sA} {W : sWX} {σ : L2.St} {S : SH} {Q : List V → SH → Prop} (h : t W σ S fun x S1 => r W σ S1 fun xs S2 => Q (x :: xs) S2) : sCons t r W σ S Q := h
theorem nil_go {W : sWX} {σ : L2.St} {S : SH} {Q : List V → SH → Prop} (h : Q [] S) : sNil W σ S Q := h
theorem var_go {i : Nat} {v : V} {W : sWX} {σ : L2.St} {S : SH} {Q : V → SH → Prop} (e : σ[i]? = some (some v)) (h : Q v S) : sVar i W σ S Q := by
  unfold sVar
  rw [e]
  exact h
theorem seqI_go {tl : sE} {W : sWX} {σ : L2.St} {S : SH} {R : SIt → SH → Prop} (h : tl W σ S fun x S1 => match x with | .ref a => (∃ xs, sL K S1 a xs ∧ R (itL K a xs) S1) ∨ ∃ xs, sU K S1 a xs ∧ R (itU K a xs) S1 | _ => False) : siSeq K tl W σ S R := h
theorem lst_go {t : sA} {W : sWX} {σ : L2.St} {S : SH} {Q : V → SH → Prop} (h : t W σ S fun xs S1 => xs.length ≤ sizeLine ∧ ∀ p, Q (.ref p) (S1.new p (.lst xs))) : sLst t W σ S Q := h
theorem sub_app {E G G' : List (Addr × HO)} (h : G ⊆ G') : E ++ G ⊆ E ++ G' := fun z hz => (List.mem_append.mp hz).elim (fun q => List.mem_append_left _ q) fun q => List.mem_append_right _ (h q)
theorem drop_go {te : sE} {D : sEnds} {σ : L2.St} {S : SH} (h : te D.ex σ S fun _ S1 => D.nx σ S1) : sDrop te D σ S := h
theorem mt_go {T : String} {r : sM} {to : sE} {t : sA} {W : sWX} {σ : L2.St} {S : SH} {Q : V → SH → Prop} (h : to W σ S fun x S1 => sTy K T x S1 ∧ t W σ S1 fun vs S2 => r x vs S2 Q) : sMt K T r to t W σ S Q := h
theorem range_at {f : Nat → Nat} {n d : Nat} (h : d < n) : ((List.range n).map f)[d]? = some (f d) := by
  rw [List.getElem?_map, List.getElem?_range h]
  rfl
theorem asg_go {te : sE} {g : sG} {D : sEnds} {σ : L2.St} {S : SH} (h : te D.ex σ S fun x S1 => g D.ex x σ S1 D.nx) : sAsg te g D σ S := h
theorem sub_go {F : Hp} {E G : List (Addr × HO)} {D : Addr} {acc : List V} {v : V} {j : Nat} {σ : L2.St} {Q : L2.St → SH → Prop} (hj : j < acc.length) (h : Q σ ⟨F, E ++ (D, .lst (acc.set j v)) :: G⟩) :
    ∃ n xs j', (SH.mk F (E ++ (D, .lst acc) :: G)).G[n]? = some (D, .lst xs) ∧ ixN xs.length (j : Int) = some j' ∧ Q σ (SH.put ⟨F, E ++ (D, .lst acc) :: G⟩ n D (.lst (xs.set j' v))) := by
  refine ⟨E.length, acc, j, at_mid, ixN_nat hj, ?_⟩
  show Q σ ⟨F, (E ++ (D, .lst acc) :: G).set E.length (D, .lst (acc.set j v))⟩
  rw [set_mid]
  exact h
theorem app_eq {S : SH} {F : Hp} {E G : List (Addr × HO)} {D : Addr} {acc : List V} {y : V} {Q : V → SH → Prop} (e : S = ⟨F, E ++ (D, .lst acc) :: G⟩) (ha : acc.length < sizeLine) (h : Q .non ⟨F, E ++ (D, .lst (acc ++ [y])) :: G⟩) : mAppend (.ref D) [y] S Q := by
  subst e
  exact app_go ha h
/-! ### deep values: tuples of tuples -/
mutual
inductive MD (K : PySem.W.Frag) (F : Hp) (G : List (Addr × HO)) : V → PyData → Prop
  | non : MD K F G .non .none
  | bl (b : Bool) : MD K F G (.bl b) (.bool b)
  | int (i : Int) : MD K F G (.int i) (.int i)
  | str (x : Str) : MD K F G (.str x) (.str x)
  | tup {p : Addr} {xs : List V} {ds : List PyData} : mT K F G p xs → MDs K F G xs ds → MD K F G (.ref p) (.tuple ds)
inductive MDs (K : PySem.W.Frag) (F : Hp) (G : List (Addr × HO)) : List V → List PyData → Prop
  | nil : MDs K F G [] []
  | cons {v : V} {vs : List V} {d : PyData} {ds : List PyData} : MD K F G v d → MDs K F G vs ds → MDs K F G (v :: vs) (d :: ds)
end
section
variable {F F' H : Hp} {G G' : List (Addr × HO)}
mutual
theorem MD.mono (hT : ∀ p xs, mT K F G p xs → mT K F' G' p xs) : ∀ (d : PyData) (v : V), MD K F G v d → MD K F' G' v d
  | .none, _, h => by
    cases h
    exact .non
  | .bool _, _, h => by
    cases h
    exact .bl _
  | .int _, _, h => by
    cases h
    exact .int _
  | .str _, _, h => by
    cases h
    exact .str _
  | .list _, _, h => nomatch h
  | .tuple ds, _, h => by
    cases h with
    | tup h1 h2 => exact .tup (hT _ _ h1) (MDs.mono hT ds _ h2)
  | .dict _, _, h => nomatch h
theorem MDs.mono (hT : ∀ p xs, mT K F G p xs → mT K F' G' p xs) : ∀ (ds : List PyData) (vs : List V), MDs K F G vs ds → MDs K F' G' vs ds
  | [], _, h => by
    cases h
    exact .nil
  | d :: ds, _, h => by
    cases h with
    | cons h1 h2 => exact .cons (MD.mono hT d _ h1) (MDs.mono hT ds _ h2)
end
mutual
theorem MD.dp : ∀ (d : PyData) (v : V), MD K H [] v d → Dp K H v d
  | .none, _, h => by
    cases h
    exact .non
  | .bool _, _, h => by
    cases h
    exact .bl _
  | .int _, _, h => by
    cases h
    exact .int _
  | .str _, _, h => by
    cases h
    exact .str _
  | .list _, _, h => nomatch h
  | .tuple ds, _, h => by
    cases h with
    | tup h1 h2 => exact .tup (h1.elim (fun z => nomatch z) id) (MDs.dp ds _ h2)
  | .dict _, _, h => nomatch h
theorem MDs.dp : ∀ (ds : List PyData) (vs : List V), MDs K H [] vs ds → DpAll K H vs ds
  | [], _, h => by
    cases h
    exact .nil
  | d :: ds, _, h => by
    cases h with
    | cons h1 h2 => exact .cons (MD.dp d _ h1) (MDs.dp ds _ h2)
end
theorem MD.sub {v : V} {d : PyData} (h : MD K F G v d) (s : G ⊆ G') : MD K F G' v d := h.mono (fun _ _ z => z.sub s)
theorem MDs.sub {v : List V} {d : List PyData} (h : MDs K F G v d) (s : G ⊆ G') : MDs K F G' v d := h.mono (fun _ _ z => z.sub s)
theorem MD.own {v : V} {d : PyData} (h : MD K F G v d) (o : Own ⟨F, G⟩ H) : MD K H [] v d := h.mono (fun _ _ z => .inr (z.own o))
theorem MDs.own {v : List V} {d : List PyData} (h : MDs K F G v d) (o : Own ⟨F, G⟩ H) : MDs K H [] v d := h.mono (fun _ _ z => .inr (z.own o))
theorem mT.ext {p : Addr} {xs : List V} (h : mT K F G p xs) (e : Ext F F') : mT K F' G p xs := h.imp_right fun z => SqT.up e z
theorem mL.ext {p : Addr} {xs : List V} (h : mL K F G p xs) (e : Ext F F') : mL K F' G p xs := h.imp_right fun z => SqL.up e z
theorem MD.ext {v : V} {d : PyData} (h : MD K F G v d) (e : Ext F F') : MD K F' G v d := h.mono (fun _ _ z => z.ext e)
theorem MDs.ext {v : List V} {d : List PyData} (h : MDs K F G v d) (e : Ext F F') : MDs K F' G v d := h.mono (fun _ _ z => z.ext e)
/-- F has all of H but some plain lists -/
def KeepT (F H : Hp) : Prop := ∀ a o, H a = some o → (∀ xs, o ≠ .lst xs) → F a = some o
theorem mT.low {p : Addr} {xs : List V} (h : mT K H [] p xs) (k : KeepT F H) : mT K F G p xs := h.elim (fun z => nomatch z) fun z => by
  rcases z with (z | ⟨o, z⟩) | z
  · exact .inr (.inl (.inl (k _ _ z fun _ e => nomatch e)))
  · exact .inr (.inl (.inr ⟨o, k _ _ z fun _ e => nomatch e⟩))
  · exact .inr (.inr z)
theorem MD.low {v : V} {d : PyData} (h : MD K H [] v d) (k : KeepT F H) : MD K F G v d := h.mono (fun _ _ z => z.low k)
theorem MDs.low {v : List V} {d : List PyData} (h : MDs K H [] v d) (k : KeepT F H) : MDs K F G v d := h.mono (fun _ _ z => z.low k)
theorem MD.up {v : V} {d : PyData} (h : MD K F [] v d) : MD K F G v d := h.sub fun _ z => nomatch z
theorem MDs.up {v : List V} {d : List PyData} (h : MDs K F [] v d) : MDs K F G v d := h.sub fun _ z => nomatch z
theorem MD.sD {v : V} {d : PyData} (h : MD K F G v d) {G' : List (Addr × HO)} (s : G ⊆ G') : sD K ⟨F, G'⟩ v d := fun H o => MD.dp d v ((h.sub s).own o)
theorem MDs.len : ∀ {vs : List V} {ds : List PyData}, MDs K F G vs ds → vs.length = ds.length
  | [], _, h => by
    cases h
    rfl
  | v :: vs, _, h => by
    cases h with
    | cons h1 h2 => exact congrArg (· + 1) h2.len
theorem MDs.at : ∀ {vs : List V} {ds : List PyData}, MDs K F G vs ds → ∀ {i : Nat} {v : V}, vs[i]? = some v → ∃ d, ds[i]? = some d ∧ MD K F G v d
  | [], _, h, i, v, e => nomatch e
  | v :: vs, _, h, i, u, e => by
    cases h with
    | cons h1 h2 =>
      cases i with
      | zero =>
        cases e
        exact ⟨_, rfl, h1⟩
      | succ i => exact h2.at (i := i) e
theorem MDs.get {vs : List V} {ds : List PyData} (h : MDs K F G vs ds) {i : Nat} {d : PyData} (e : ds[i]? = some d) : ∃ v, vs[i]? = some v ∧ MD K F G v d := by
  have hl : i < vs.length := by
    rw [h.len]
    exact (List.getElem?_eq_some_iff.mp e).1
  obtain ⟨d2, e2, h2⟩ := h.at (List.getElem?_eq_getElem hl)
  rw [e] at e2
  cases e2
  exact ⟨_, List.getElem?_eq_getElem hl, h2⟩
theorem MDs.app : ∀ {vs ws : List V} {ds es : List PyData}, MDs K F G vs ds → MDs K F G ws es → MDs K F G (vs ++ ws) (ds ++ es)
  | [], _, _, _, h, h' => by
    cases h
    exact h'
  | v :: vs, _, _, _, h, h' => by
    cases h with
    | cons h1 h2 => exact .cons h1 (h2.app h')
theorem MDs.snoc {vs : List V} {v : V} {ds : List PyData} {d : PyData} (h : MDs K F G vs ds) (h' : MD K F G v d) : MDs K F G (vs ++ [v]) (ds ++ [d]) := h.app (.cons h' .nil)
theorem MDs.take : ∀ {vs : List V} {ds : List PyData} (_ : MDs K F G vs ds) (n : Nat), MDs K F G (vs.take n) (ds.take n)
  | _, _, _, 0 => .nil
  | [], _, h, n + 1 => by
    cases h
    exact .nil
  | v :: vs, _, h, n + 1 => by
    cases h with
    | cons h1 h2 => exact .cons h1 (h2.take n)
theorem MDs.drop : ∀ {vs : List V} {ds : List PyData} (_ : MDs K F G vs ds) (n : Nat), MDs K F G (vs.drop n) (ds.drop n)
  | _, _, h, 0 => h
  | [], _, h, n + 1 => by
    cases h
    exact .nil
  | v :: vs, _, h, n + 1 => by
    cases h with
    | cons h1 h2 => exact h2.drop n
theorem MD.tupI {v : V} {ds : List PyData} (h : MD K F G v (.tuple ds)) : ∃ p xs, v = .ref p ∧ mT K F G p xs ∧ MDs K F G xs ds := by
  cases h with
  | tup h1 h2 => exact ⟨_, _, rfl, h1, h2⟩
theorem MD.intI {v : V} {i : Int} (h : MD K F G v (.int i)) : v = .int i := by
  cases h
  rfl
theorem MD.strI {v : V} {i : Str} (h : MD K F G v (.str i)) : v = .str i := by
  cases h
  rfl
theorem MD.nonI {v : V} (h : MD K F G v .none) : v = .non := by
  cases h
  rfl
/-- ints -/
theorem MDs.ints : ∀ {vs : List V} {ns : List Nat}, MDs K F G vs (ns.map fun n => PyData.int (n : Nat)) → vs = nV ns
  | [], [], _ => rfl
  | [], _ :: _, h => nomatch h
  | _ :: _, [], h => nomatch h
  | v :: vs, n :: ns, h => by
    cases h with
    | cons h1 h2 =>
      rw [h1.intI, h2.ints]
      rfl
theorem MDs.of_ints : ∀ ns : List Nat, MDs K F G (nV ns) (ns.map fun n => PyData.int (n : Nat))
  | [] => .nil
  | n :: ns => .cons (.int _) (MDs.of_ints ns)
end
/-! ### a reading's single steps, more -/
theorem tup_go {t : sA} {W : sWX} {σ : L2.St} {S : SH} {Q : V → SH → Prop} (h : t W σ S fun xs S1 => xs.length ≤ sizeLine ∧ ∀ p, Q (.ref p) (S1.new p (.tup xs))) : sTup t W σ S Q := h
theorem ix_t {F : Hp} {G G' : List (Addr × HO)} {p : Addr} {xs : List V} {i : Nat} {v : V} {Q : V → SH → Prop} (h : mT K F G p xs) (s : G ⊆ G') (e : xs[i]? = some v) (q : Q v ⟨F, G'⟩) : oIx K (.ref p) (.int (i : Nat)) ⟨F, G'⟩ Q := ⟨xs, v, .inr (h.s s), atI_at e, q⟩
theorem ix_l {F : Hp} {G G' : List (Addr × HO)} {p : Addr} {xs : List V} {i : Nat} {v : V} {Q : V → SH → Prop} (h : mL K F G p xs) (s : G ⊆ G') (e : xs[i]? = some v) (q : Q v ⟨F, G'⟩) : oIx K (.ref p) (.int (i : Nat)) ⟨F, G'⟩ Q := ⟨xs, v, .inl (h.s s), atI_at e, q⟩
/-- a new object in front of what is kept -/
theorem own_front {F : Hp} {E : List (Addr × HO)} {H H' : Hp} {p : Addr} {o : HO} (h : Own ⟨F, E⟩ H) (hp : H p = none) (e : Ext H H') (hp' : H' p = some o) : Own ⟨F, (p, o) :: E⟩ H' := h.new hp e hp'
/-! ### a part of a tuple, the whole too -/
section
variable {X : Cx} {W : WX} {a : Expr} {pos : Pos} {ta : sE}
def oSlT (K : PySem.W.Frag) (x : V) (lo hi : Option Int) (S : SH) (Q : V → SH → Prop) : Prop := match x with
  | .ref p => ∃ xs, sU K S p xs ∧ (HT.sIx xs.length 0 lo = 0 ∧ HT.sIx xs.length xs.length hi = xs.length → Q (.ref p) S) ∧
      (¬ (HT.sIx xs.length 0 lo = 0 ∧ HT.sIx xs.length xs.length hi = xs.length) → ∀ r, Q (.ref r) (S.new r (.tup (cutV xs lo hi))))
  | _ => False
def sSlT (K : PySem.W.Frag) (te : sE) (tl th : sO) : sE := fun W z S Q => te W z S fun x S1 => tl W z S1 fun l S2 => th W z S2 fun u S3 => oSlT K x l u S3 Q
theorem gSlT {lo hi : Option Expr} {tl th : sO} {p2 : Pos} (he : PE X a (dE W ta)) (hl : PO X lo (dO W tl)) (hu : PO X hi (dO W th)) : PE X (.Subscript a (.Slice lo hi none p2) pos) (dE W (sSlT X.K ta tl th)) :=
  PE.by (pe_slice sl_tupA he hl hu) fun z H Q ⟨S, Q', W', kw, o, h, k⟩ => ⟨S, _, W', kw, o, h, fun x S1 H1 o1 h1 => ⟨S1, _, W', kw, o1, h1, fun l S2 H2 o2 h2 => ⟨S2, _, W', kw, o2, h2, fun u S3 H3 o3 h3 => by
    unfold oSlT at h3
    split at h3
    · obtain ⟨xs, h3, h4, h5⟩ := h3
      exact ⟨_, xs, rfl, o3.u h3, fun c => k _ _ _ o3 (h4 c), fun c r hr => k _ _ _ (o3.newU hr) (h5 c r)⟩
    · exact h3.elim⟩⟩⟩
end
/-! ### the box -/
structure Bx where
  g : Addr
  gs : List Int
  ms : List Int
  st : Int
def boxG (b m : Addr) (x : Bx) : List (Addr × HO) := [(b, .lst [.ref x.g, .ref m, .int x.st]), (x.g, .lst (x.gs.map V.int)), (m, .lst (x.ms.map V.int))]
structure BoxAt (b m : Addr) (x : Bx) (H : Hp) : Prop where
  pb : H b = some (.lst [.ref x.g, .ref m, .int x.st])
  pg : H x.g = some (.lst (x.gs.map V.int))
  pm : H m = some (.lst (x.ms.map V.int))
  bg : b ≠ x.g
  bm : b ≠ m
  gm : x.g ≠ m
def wo (H : Hp) (b m : Addr) (x : Bx) : Hp := fun c => if c = b ∨ c = x.g ∨ c = m then none else H c
theorem wo_in {H : Hp} {b m : Addr} {x : Bx} {c : Addr} (h : c = b ∨ c = x.g ∨ c = m) : wo H b m x c = none := if_pos h
theorem wo_out {H : Hp} {b m : Addr} {x : Bx} {c : Addr} (h : ¬ (c = b ∨ c = x.g ∨ c = m)) : wo H b m x c = H c := if_neg h
theorem wo_some {H : Hp} {b m : Addr} {x : Bx} {c : Addr} {o : HO} (h : wo H b m x c = some o) : H c = some o ∧ ¬ (c = b ∨ c = x.g ∨ c = m) := by
  by_cases q : c = b ∨ c = x.g ∨ c = m
  · rw [wo_in q] at h
    cases h
  · exact ⟨(wo_out q).symm.trans h, q⟩
theorem BoxAt.keepT {b m : Addr} {x : Bx} {H : Hp} (h : BoxAt b m x H) : KeepT (wo H b m x) H := fun c o e n => by
  have q : ¬ (c = b ∨ c = x.g ∨ c = m) := fun q => by
    rcases q with rfl | rfl | rfl
    · rw [h.pb] at e
      cases e
      exact n _ rfl
    · rw [h.pg] at e
      cases e
      exact n _ rfl
    · rw [h.pm] at e
      cases e
      exact n _ rfl
  exact (wo_out q).trans e
theorem box_of {F : Hp} {E : List (Addr × HO)} {b m : Addr} {x : Bx} {H : Hp} (o : Own ⟨F, E ++ boxG b m x⟩ H) : BoxAt b m x H ∧ Own ⟨F, E⟩ (wo H b m x) := by
  have nd : (E.map (·.1) ++ [b, x.g, m]).Nodup := by
    have := o.nd
    rw [List.map_append] at this
    exact this
  obtain ⟨n1, n2, n3⟩ := List.nodup_append.mp nd
  have mem : ∀ q ∈ boxG b m x, q ∈ E ++ boxG b m x := fun q hq => List.mem_append_right _ hq
  have h1 := o.gs _ (mem (b, .lst [.ref x.g, .ref m, .int x.st]) (.head _))
  have h2 := o.gs _ (mem (x.g, .lst (x.gs.map V.int)) (.tail _ (.head _)))
  have h3 := o.gs _ (mem (m, .lst (x.ms.map V.int)) (.tail _ (.tail _ (.head _))))
  simp only [List.nodup_cons, List.mem_cons, List.not_mem_nil, or_false, not_or, List.nodup_nil, not_false_eq_true, and_true] at n2
  refine ⟨⟨h1.1, h2.1, h3.1, n2.1.1, n2.1.2, n2.2⟩, fun c u e => ?_, fun q hq => ?_, n1⟩
  · have ne : ¬ (c = b ∨ c = x.g ∨ c = m) := fun q => by
      have e : F c = some u := e
      rcases q with rfl | rfl | rfl
      · have := h1.2
        rw [show F c = none from this] at e
        cases e
      · have := h2.2
        rw [show F _ = none from this] at e
        cases e
      · have := h3.2
        rw [show F c = none from this] at e
        cases e
    exact (wo_out ne).trans (o.fr c u e)
  · have hh := o.gs q (List.mem_append_left _ hq)
    have hm : q.1 ∈ E.map (·.1) := List.mem_map.mpr ⟨q, hq, rfl⟩
    have ne : ¬ (q.1 = b ∨ q.1 = x.g ∨ q.1 = m) := fun z => by
      rcases z with z | z | z
      · exact n3 _ hm b (.head _) z
      · exact n3 _ hm x.g (.tail _ (.head _)) z
      · exact n3 _ hm m (.tail _ (.tail _ (.head _))) z
    exact ⟨(wo_out ne).trans hh.1, hh.2⟩
theorem box_join {F : Hp} {E : List (Addr × HO)} {b m : Addr} {x : Bx} {H : Hp} (h : BoxAt b m x H) (o : Own ⟨F, E⟩ (wo H b m x)) : Own ⟨F, E ++ boxG b m x⟩ H := by
  have fn : ∀ c, (c = b ∨ c = x.g ∨ c = m) → F c = none := fun c hc => o.f_none (wo_in hc)
  refine ⟨fun c u e => (wo_some (o.fr c u e)).1, fun q hq => ?_, ?_⟩
  · rcases List.mem_append.mp hq with hq | hq
    · exact ⟨(wo_some (o.gs q hq).1).1, (o.gs q hq).2⟩
    · cases hq with
      | head => exact ⟨h.pb, fn _ (.inl rfl)⟩
      | tail _ hq =>
        cases hq with
        | head => exact ⟨h.pg, fn _ (.inr (.inl rfl))⟩
        | tail _ hq =>
          cases hq with
          | head => exact ⟨h.pm, fn _ (.inr (.inr rfl))⟩
          | tail _ hq => nomatch hq
  · show ((E ++ boxG b m x).map (·.1)).Nodup
    rw [List.map_append]
    refine List.nodup_append.mpr ⟨o.nd, ?_, fun c hc d hd e => ?_⟩
    · show [b, x.g, m].Nodup
      simp only [List.nodup_cons, List.mem_cons, List.not_mem_nil, or_false, not_or, List.nodup_nil, not_false_eq_true, and_true]
      exact ⟨⟨h.bg, h.bm⟩, h.gm⟩
    · obtain ⟨q, hq, rfl⟩ := List.mem_map.mp hc
      have := (wo_some (o.gs q hq).1).2
      refine this ?_
      rw [e]
      cases hd with
      | head => exact .inl rfl
      | tail _ hd =>
        cases hd with
        | head => exact .inr (.inl rfl)
        | tail _ hd =>
          cases hd with
          | head => exact .inr (.inr rfl)
          | tail _ hd => nomatch hd
/-- a def that draws from the box -/
def ct_box {α : Type} (args : α → List V) (res : α → Hp → V → Hp → Prop) (ok : α → Hp → Prop) : Ct (Addr × Addr × Bx × α) where
  pre g vs H := vs = .ref g.1 :: args g.2.2.2 ∧ BoxAt g.1 g.2.1 g.2.2.1 H ∧ g.2.2.1.ms ≠ [] ∧ ok g.2.2.2 (wo H g.1 g.2.1 g.2.2.1)
  post g H v H' := ∃ y, BoxAt g.1 g.2.1 y H' ∧ y.ms ≠ [] ∧ Ext (wo H g.1 g.2.1 g.2.2.1) (wo H' g.1 g.2.1 y) ∧ res g.2.2.2 (wo H g.1 g.2.1 g.2.2.1) v (wo H' g.1 g.2.1 y)
section
variable {α : Type} {args : α → List V} {res : α → Hp → V → Hp → Prop} {ok : α → Hp → Prop}
theorem use_box {W : sWX} {vs : List V} {σ : L2.St} {F : Hp} {E : List (Addr × HO)} {b m : Addr} {x : Bx} {Q : V → SH → Prop} (g : α) (e : vs = .ref b :: args g) (hx : x.ms ≠ []) (hg : ∀ H, Own ⟨F, E⟩ H → ok g H)
    (k : ∀ y H1 v H2, y.ms ≠ [] → Own ⟨F, E⟩ H1 → Own ⟨F, E⟩ H2 → Ext H1 H2 → res g H1 v H2 → ∃ F' E', Own ⟨F', E'⟩ H2 ∧ Q v ⟨F', E' ++ boxG b m y⟩) : rC (ct_box args res ok) W vs σ ⟨F, E ++ boxG b m x⟩ Q := by
  refine ⟨(b, m, x, g), fun H o => ?_, fun H v H' o q => ?_, fun _ _ _ _ _ q => q.elim⟩
  · obtain ⟨h1, h2⟩ := box_of o
    exact ⟨e, h1, hx, hg _ h2⟩
  · obtain ⟨h1, h2⟩ := box_of o
    obtain ⟨y, q1, q2, q3, q4⟩ := q
    obtain ⟨F', E', o', q'⟩ := k y _ v _ q2 h2 (h2.ex q3) q3 q4
    exact ⟨_, box_join q1 o', q'⟩
theorem body_box {vs : List V} {H : Hp} {t : sS} {z : L2.St} (gg : Addr × Addr × Bx × α) (h : (ct_box args res ok).pre gg vs H)
    (k : ∀ (b m : Addr) (x : Bx) (g : α) (F : Hp), gg = (b, m, x, g) → F = wo H b m x → x.ms ≠ [] → ok g F → vs = .ref b :: args g → t (endsC (ct_box args res ok) gg H) z ⟨F, boxG b m x⟩) : ∃ S, Own S H ∧ t (endsC (ct_box args res ok) gg H) z S := by
  obtain ⟨b, m, x, g⟩ := gg
  obtain ⟨e, h1, h2, h3⟩ := h
  exact ⟨_, box_join (E := []) h1 (Own.base _), k b m x g _ rfl rfl h2 h3 e⟩
/-- the end of such a def -/
theorem end_box {H H' : Hp} {b m : Addr} {x y : Bx} {g : α} {E : List (Addr × HO)} {v : V} (o : Own ⟨wo H b m x, E ++ boxG b m y⟩ H') (hy : y.ms ≠ []) (hr : ∀ H2, Own ⟨wo H b m x, E⟩ H2 → res g (wo H b m x) v H2) : (ct_box args res ok).post (b, m, x, g) H v H' := by
  obtain ⟨h1, h2⟩ := box_of o
  exact ⟨y, h1, hy, fun c u e => h2.fr c u e, hr _ h2⟩
end
end
end SY
namespace SY
open PySem PySem.Spec PyProof.Rows L2
section
variable {X : Cx} {W : WX} {i o k v : Expr} {pos : Pos} {ty td tk tv : sE}
/-! ### key in dict; a dict of one entry -/
def sDInT (neg : Bool) (ty td : sE) : sT := fun W z S Q => ty W z S fun y S1 => td W z S1 fun x S2 => match x with
  | .ref p => ∃ kvs k, At S2 p (.dK kvs) ∧ y = kV k ∧ Q (if neg then !(valV kvs k).isSome else (valV kvs k).isSome) S2
  | _ => False
theorem gTDIn (hu : X.A.units + 1 < cLine) (hi : PE X i (dE W ty)) (ho : PE X o (dE W td)) (hm : behindInMarks .In o = false := by rfl) : PT X (.Compare i [.In] [o] pos) (dT W (sDInT false ty td)) :=
  PT.by (pt_cmp (pc_din hu hi ho) hm) fun z H Q ⟨S, Q', W', kw, ow, h, kk⟩ => ⟨S, _, W', kw, ow, h, fun y S1 H1 o1 h1 => ⟨S1, _, W', kw, o1, h1, fun x S2 H2 o2 h2 => by
    split at h2
    · obtain ⟨kvs, k, q1, rfl, q2⟩ := h2
      exact ⟨_, _, rfl, .inl ⟨kvs, k, .inl (o2.at q1), rfl, rfl⟩, ⟨_, rfl, kk _ _ _ o2 q2⟩⟩
    · exact h2.elim⟩⟩
theorem gTDNotIn (hu : X.A.units + 1 < cLine) (hi : PE X i (dE W ty)) (ho : PE X o (dE W td)) (hm : behindInMarks .NotIn o = false := by rfl) : PT X (.Compare i [.NotIn] [o] pos) (dT W (sDInT true ty td)) :=
  PT.by (pt_cmp (pc_dnotin hu hi ho) hm) fun z H Q ⟨S, Q', W', kw, ow, h, kk⟩ => ⟨S, _, W', kw, ow, h, fun y S1 H1 o1 h1 => ⟨S1, _, W', kw, o1, h1, fun x S2 H2 o2 h2 => by
    split at h2
    · obtain ⟨kvs, k, q1, rfl, q2⟩ := h2
      exact ⟨_, _, rfl, .inl ⟨kvs, k, .inl (o2.at q1), rfl, rfl⟩, ⟨_, rfl, kk _ _ _ o2 q2⟩⟩
    · exact h2.elim⟩⟩
def sDis1 (tk tv : sE) : sE := fun W z S Q => ∀ p, tk W z (S.new p (.dK [])) fun x S1 => tv W z S1 fun y S2 => ∃ n k, S2.G[n]? = some (p, .dK []) ∧ x = kV k ∧ Q (.ref p) (S2.put n p (.dK (putK [] k y)))
theorem gDis1 (hk : PE X k (dE W tk)) (hv : PE X v (dE W tv)) : PE X (.Dict [some k] [v] pos) (dE W (sDis1 tk tv)) :=
  PE.by (pe_disp (pps_cons hk hv pps_nil) (by rfl) (by rfl) (fun z => by cases z) (Nat.le_of_ble_eq_true rfl)) fun z H Q ⟨S, Q', W', kw, ow, h, kk⟩ => fun p hp => ⟨_, _, W', kw, ow.newU hp, h p, fun x S1 H1 o1 h1 => ⟨S1, _, W', kw, o1, h1, fun y S2 H2 o2 h2 => by
    obtain ⟨n, kx, q1, rfl, q2⟩ := h2
    exact ⟨o2.g q1, [(kx, y)], rfl, Nat.le_of_ble_eq_true rfl, kk _ _ _ (o2.putU q1) q2⟩⟩⟩
/-! ### list(x), x a text -/
def sgV (z : Str) : List V := z.cps.toList.map fun c => V.str ⟨#[c]⟩
theorem cr_listS (hc : X.calm = true) : CallR X (.type "list") (fun xs H Q => ∃ z, xs = [.str z] ∧ z.cps.size ≤ sizeLine ∧ ∀ l, H l = none → Q (.ref l) (upd H l (.lst (sgV z)))) := by
  intro pins s z0 H xs us Q I r h
  obtain ⟨z, rfl, hz, q⟩ := h
  obtain ⟨u, rfl, rx⟩ := vals1 r
  obtain ⟨t, rfl⟩ := rx
  refine PySem.call_list_str (I.ok.hd hc) z t (fun h2 tk acc c2 kp e hi => ?_) hz
  refine ⟨.ref s.heap.objs.size, _, I.laid (t' := tk) kp (Nat.le_refl _) (show ObjOk X.prog X.w _ h2 _ (.lst (sgV z)) from ⟨?_, acc.toList, c2, ?_, ?_⟩), rfl, q _ (I.hok.fresh (Nat.le_refl _))⟩
  · unfold sgV
    rw [List.length_map, Array.length_toList]
    exact hz
  · refine vals_of_at (by unfold sgV; rw [List.length_map, Array.length_toList, Array.length_toList]; exact hi.1.symm) fun j x w h1 h3 => ?_
    obtain ⟨c, k, hc2, hw⟩ := hi.2 j w (by rw [← Array.getElem?_toList]; exact h3)
    unfold sgV at h1
    rw [List.getElem?_map, Array.getElem?_toList, hc2] at h1
    have h1 : V.str ⟨#[c]⟩ = x := Option.some.inj h1
    rw [← h1]
    exact ⟨k, hw⟩
  · rw [Array.toArray_toList]
    exact e
def nListS : sN := fun vs S Q => match vs with
  | [.str z] => z.cps.size ≤ sizeLine ∧ ∀ q, Q (.ref q) (S.new q (.lst (sgV z)))
  | _ => False
theorem lListS : LiftN nListS (fun xs H Q => ∃ z, xs = [.str z] ∧ z.cps.size ≤ sizeLine ∧ ∀ l, H l = none → Q (.ref l) (upd H l (.lst (sgV z)))) := by
  intro vs S Q' H Q o h k
  unfold nListS at h
  split at h
  · exact ⟨_, rfl, h.1, fun q hq => k _ _ _ (o.newU hq) (h.2 q)⟩
  · exact h.elim
end
end SY
namespace LW
/-! ### trees of slots -/
inductive TR where
  | leaf
  | node (l r : TR)
namespace TR
def nS : TR → Nat
  | leaf => 1
  | node l r => nS l + nS r
theorem nS_pos : ∀ b : TR, 1 ≤ nS b
  | leaf => Nat.le_refl 1
  | node l r => Nat.le_trans (nS_pos l) (Nat.le_add_right _ _)
/-- the ways from the root, slot by slot; o: the first slot -/
def wayB : TR → Nat → List (List (Nat × Bool))
  | leaf, _ => [[]]
  | node l r, o => (wayB l o).map ((o + nS l - 1, true) :: ·) ++ (wayB r (o + nS l)).map ((o + nS l - 1, false) :: ·)
theorem wayB_len : ∀ (b : TR) (o : Nat), (wayB b o).length = nS b
  | leaf, _ => rfl
  | node l r, o => by
    show ((wayB l o).map _ ++ (wayB r (o + nS l)).map _).length = nS l + nS r
    rw [List.length_append, List.length_map, List.length_map, wayB_len l, wayB_len r]
def txt : TR → List Nat
  | leaf => [46]
  | node l r => 40 :: (txt l ++ (txt r ++ [41]))
theorem txt_len : ∀ b : TR, (txt b).length + 2 = 3 * nS b
  | leaf => rfl
  | node l r => by
    have h1 := txt_len l
    have h2 := txt_len r
    show (40 :: (txt l ++ (txt r ++ [41]))).length + 2 = 3 * (nS l + nS r)
    rw [List.length_cons, List.length_append, List.length_append, List.length_singleton]
    omega
/-- a node's kind (1: slot, 2: fork) and number -/
def ndB : TR → Nat → Nat × Nat
  | leaf, o => (1, o)
  | node l _, o => (2, o + nS l - 1)
/-- .. with its first and last slot and where it begins -/
abbrev PN := Nat × Nat × Nat × Nat × Nat
def pnB : TR → Nat → Nat → PN
  | leaf, o, p => (1, o, o, o, p)
  | node l r, o, p => (2, o + nS l - 1, o, o + nS l + nS r - 1, p)
abbrev Row := Nat × (Nat × Nat) × (Nat × Nat) × (Nat × Nat) × (Nat × Nat)
def rowsB : TR → Nat → Nat → List Row
  | leaf, _, _ => []
  | node l r, o, p => rowsB l o (p + 1) ++ (rowsB r (o + nS l) (p + 1 + (txt l).length) ++ [(o + nS l - 1, ndB l o, ndB r (o + nS l), (o, o + nS l + nS r - 1), (p, p + (txt (node l r)).length))])
theorem rowsB_len : ∀ (b : TR) (o p : Nat), (rowsB b o p).length + 1 = nS b
  | leaf, _, _ => rfl
  | node l r, o, p => by
    have h1 := rowsB_len l o (p + 1)
    have h2 := rowsB_len r (o + nS l) (p + 1 + (txt l).length)
    show (rowsB l o (p + 1) ++ (rowsB r (o + nS l) (p + 1 + (txt l).length) ++ [_])).length + 1 = nS l + nS r
    rw [List.length_append, List.length_append, List.length_singleton]
    omega
/-! ### the reading with a stack -/
abbrev PS := List PN × List Row × Nat
def endsF (st : List PN) : Bool := ((st.drop (st.length - 3)).map fun n => n.1 == 0) == [true, false, false]
def joinP (st : List PN) (rows : List Row) (n p : Nat) : Option PS := match st.reverse with
  | r :: l :: o :: rest => some (rest.reverse ++ [(2, l.2.2.2.1, l.2.2.1, r.2.2.2.1, o.2.2.2.2)], rows ++ [(l.2.2.2.1, (l.1, l.2.1), (r.1, r.2.1), (l.2.2.1, r.2.2.2.1), (o.2.2.2.2, p + 1))], n)
  | _ => none
def stepP (s : PS) (p c : Nat) : Option PS :=
  if c = 40 then some (s.1 ++ [(0, 0, 0, 0, p)], s.2.1, s.2.2)
  else if c = 46 then some (s.1 ++ [(1, s.2.2, s.2.2, s.2.2, p)], s.2.1, s.2.2 + 1)
  else if c = 41 ∧ endsF s.1 = true then joinP s.1 s.2.1 s.2.2 p
  else none
def runP : List Nat → Nat → PS → Option PS
  | [], _, s => some s
  | c :: cs, p, s => (stepP s p c).bind fun s2 => runP cs (p + 1) s2
theorem runP_app : ∀ (xs ys : List Nat) (p : Nat) (s : PS), runP (xs ++ ys) p s = (runP xs p s).bind fun s2 => runP ys (p + xs.length) s2
  | [], ys, p, s => rfl
  | c :: xs, ys, p, s => by
    show (stepP s p c).bind (fun s2 => runP (xs ++ ys) (p + 1) s2) = ((stepP s p c).bind fun s2 => runP xs (p + 1) s2).bind fun s2 => runP ys (p + (xs.length + 1)) s2
    cases stepP s p c with
    | none => rfl
    | some s2 =>
      show runP (xs ++ ys) (p + 1) s2 = (runP xs (p + 1) s2).bind fun s2 => runP ys (p + (xs.length + 1)) s2
      rw [runP_app xs ys (p + 1) s2]
      congr 1
      funext s3
      congr 1
      omega
theorem pn_kind : ∀ (b : TR) (o p : Nat), ((pnB b o p).1 == 0) = false
  | leaf, _, _ => rfl
  | node _ _, _, _ => rfl
theorem pn_nd : ∀ (b : TR) (o p : Nat), ((pnB b o p).1, (pnB b o p).2.1) = ndB b o
  | leaf, _, _ => rfl
  | node _ _, _, _ => rfl
theorem pn_first : ∀ (b : TR) (o p : Nat), (pnB b o p).2.2.1 = o
  | leaf, _, _ => rfl
  | node _ _, _, _ => rfl
theorem pn_last : ∀ (b : TR) (o p : Nat), (pnB b o p).2.2.2.1 = o + nS b - 1
  | leaf, o, _ => by
    show o = o + 1 - 1
    omega
  | node l r, o, _ => by
    show o + nS l + nS r - 1 = o + (nS l + nS r) - 1
    omega
theorem endsF_three (st : List PN) {o l r : PN} (ho : (o.1 == 0) = true) (hl : (l.1 == 0) = false) (hr : (r.1 == 0) = false) : endsF (st ++ [o, l, r]) = true := by
  unfold endsF
  have e : (st ++ [o, l, r]).drop ((st ++ [o, l, r]).length - 3) = [o, l, r] := by
    rw [List.length_append]
    show (st ++ [o, l, r]).drop (st.length + 3 - 3) = _
    rw [Nat.add_sub_cancel, List.drop_left]
  rw [e]
  show ([o.1 == 0, l.1 == 0, r.1 == 0] == [true, false, false]) = true
  rw [ho, hl, hr]
  rfl
theorem parse_ok : ∀ (b : TR) (o p : Nat) (st : List PN) (rows : List Row), runP (txt b) p (st, rows, o) = some (st ++ [pnB b o p], rows ++ rowsB b o p, o + nS b)
  | leaf, o, p, st, rows => by
    show some (st ++ [(1, o, o, o, p)], rows, o + 1) = some (st ++ [(1, o, o, o, p)], rows ++ [], o + 1)
    rw [List.append_nil]
  | node l r, o, p, st, rows => by
    show runP (40 :: (txt l ++ (txt r ++ [41]))) p (st, rows, o) = _
    show runP (txt l ++ (txt r ++ [41])) (p + 1) (st ++ [(0, 0, 0, 0, p)], rows, o) = _
    rw [runP_app, parse_ok l]
    show runP (txt r ++ [41]) (p + 1 + (txt l).length) (st ++ [(0, 0, 0, 0, p)] ++ [pnB l o (p + 1)], rows ++ rowsB l o (p + 1), o + nS l) = _
    rw [runP_app, parse_ok r]
    have pl := nS_pos l
    have pr := nS_pos r
    generalize hL : pnB l o (p + 1) = L
    generalize hR : pnB r (o + nS l) (p + 1 + (txt l).length) = R
    have kL : (L.1 == 0) = false := by rw [← hL]; exact pn_kind l _ _
    have kR : (R.1 == 0) = false := by rw [← hR]; exact pn_kind r _ _
    have e : st ++ [(0, 0, 0, 0, p)] ++ [L] ++ [R] = st ++ [(0, 0, 0, 0, p), L, R] := by
      rw [List.append_assoc, List.append_assoc]
      rfl
    show ((stepP (st ++ [(0, 0, 0, 0, p)] ++ [L] ++ [R], rows ++ rowsB l o (p + 1) ++ rowsB r (o + nS l) (p + 1 + (txt l).length), o + nS l + nS r) (p + 1 + (txt l).length + (txt r).length) 41).bind fun s2 => some s2) = _
    rw [e]
    have es : stepP (st ++ [(0, 0, 0, 0, p), L, R], rows ++ rowsB l o (p + 1) ++ rowsB r (o + nS l) (p + 1 + (txt l).length), o + nS l + nS r) (p + 1 + (txt l).length + (txt r).length) 41 = joinP (st ++ [(0, 0, 0, 0, p), L, R]) (rows ++ rowsB l o (p + 1) ++ rowsB r (o + nS l) (p + 1 + (txt l).length)) (o + nS l + nS r) (p + 1 + (txt l).length + (txt r).length) := by
      unfold stepP
      rw [if_neg (by decide), if_neg (by decide), if_pos ⟨rfl, endsF_three st rfl kL kR⟩]
    rw [es]
    unfold joinP
    have er : (st ++ [((0, 0, 0, 0, p) : PN), L, R]).reverse = R :: L :: (0, 0, 0, 0, p) :: st.reverse := by
      rw [List.reverse_append]
      rfl
    rw [er]
    show some _ = some _
    have h1 : L.2.2.2.1 = o + nS l - 1 := by rw [← hL]; exact pn_last l _ _
    have h2 : L.2.2.1 = o := by rw [← hL]; exact pn_first l _ _
    have h3 : R.2.2.2.1 = o + nS l + nS r - 1 := by rw [← hR]; exact pn_last r _ _
    have h4 : (L.1, L.2.1) = ndB l o := by rw [← hL]; exact pn_nd l _ _
    have h5 : (R.1, R.2.1) = ndB r (o + nS l) := by rw [← hR]; exact pn_nd r _ _
    have h6 : p + 1 + (txt l).length + (txt r).length + 1 = p + (txt (node l r)).length := by
      show _ = p + (40 :: (txt l ++ (txt r ++ [41]))).length
      rw [List.length_cons, List.length_append, List.length_append, List.length_singleton]
      omega
    rw [h1, h2, h3, h4, h5, List.reverse_reverse]
    show some (st ++ [(2, o + nS l - 1, o, o + nS l + nS r - 1, p)], rows ++ rowsB l o (p + 1) ++ rowsB r (o + nS l) (p + 1 + (txt l).length) ++ [(o + nS l - 1, ndB l o, ndB r (o + nS l), (o, o + nS l + nS r - 1), (p, p + 1 + (txt l).length + (txt r).length + 1))], o + nS l + nS r) = _
    rw [h6]
    show _ = some (st ++ [(2, o + nS l - 1, o, o + nS l + nS r - 1, p)], rows ++ (rowsB l o (p + 1) ++ (rowsB r (o + nS l) (p + 1 + (txt l).length) ++ [_])), o + (nS l + nS r))
    simp only [List.append_assoc, Nat.add_assoc]
end TR
namespace TR
/-! ### trails -/
abbrev Way := List (Nat × Bool)
def trF (m : Nat × Bool → Bool) : Way → List Nat × Option Nat
  | [] => ([], none)
  | s :: w => match trF m w with
    | (p, some h) => (p, some h)
    | (p, none) => if m s then (s.1 :: p, none) else (p, some s.1)
theorem trF_all (m : Nat × Bool → Bool) : ∀ w : Way, (∀ s ∈ w, m s = true) → trF m w = (w.map Prod.fst, none)
  | [], _ => rfl
  | s :: w, h => by
    unfold trF
    rw [trF_all m w fun x hx => h x (.tail _ hx)]
    show (if m s then _ else _) = _
    rw [if_pos (h s (.head _))]
    rfl
theorem trF_pre (m : Nat × Bool → Bool) {w : Way} {p : List Nat} {f : Nat} (e : trF m w = (p, some f)) : ∀ u : Way, trF m (u ++ w) = (p, some f)
  | [] => e
  | s :: u => by
    show trF m (s :: (u ++ w)) = _
    unfold trF
    rw [trF_pre m e u]
theorem trF_stop (m : Nat × Bool → Bool) {u w : Way} {s : Nat × Bool} (hs : m s = false) (h : ∀ x ∈ w, m x = true) : trF m (u ++ s :: w) = (w.map Prod.fst, some s.1) := by
  refine trF_pre m ?_ u
  show trF m (s :: w) = _
  unfold trF
  rw [trF_all m w h]
  show (if m s then _ else _) = _
  rw [if_neg (by rw [hs]; exact Bool.false_ne_true)]
/-- as the loops make it: all from the k-th step on fit, and the step before does not -/
theorem trF_at (m : Nat × Bool → Bool) {w : Way} {k : Nat} {s : Nat × Bool} (hk : w[k]? = some s) (hs : m s = false) (h : ∀ x ∈ w.drop (k + 1), m x = true) : trF m w = ((w.drop (k + 1)).map Prod.fst, some s.1) := by
  obtain ⟨hl, e⟩ := List.getElem?_eq_some_iff.mp hk
  have e2 : w = w.take k ++ s :: w.drop (k + 1) := by
    rw [← e, List.getElem_cons_drop, List.take_append_drop]
  have := trF_stop m (u := w.take k) (w := w.drop (k + 1)) hs h
  rw [← e2] at this
  exact this
theorem trF_hang (m : Nat × Bool → Bool) : ∀ (w : Way) (p : List Nat) (f : Nat), trF m w = (p, some f) → ∃ s ∈ w, s.1 = f
  | [], p, f, e => by cases e
  | s :: w, p, f, e => by
    unfold trF at e
    split at e
    · rename_i p2 h2 e2
      cases e
      obtain ⟨x, hx, e3⟩ := trF_hang m w p f e2
      exact ⟨x, .tail _ hx, e3⟩
    · rename_i p2 e2
      split at e
      · cases e
      · cases e
        exact ⟨s, .head _, rfl⟩
theorem trF_passed (m : Nat × Bool → Bool) : ∀ (w : Way) (x : Nat), x ∈ (trF m w).1 → ∃ s ∈ w, s.1 = x
  | [], x, h => nomatch h
  | s :: w, x, h => by
    unfold trF at h
    split at h
    · rename_i p2 h2 e2
      obtain ⟨y, hy, e3⟩ := trF_passed m w x (by rw [e2]; exact h)
      exact ⟨y, .tail _ hy, e3⟩
    · rename_i p2 e2
      split at h
      · cases h with
        | head => exact ⟨s, .head _, rfl⟩
        | tail _ h =>
          obtain ⟨y, hy, e3⟩ := trF_passed m w x (by rw [e2]; exact h)
          exact ⟨y, .tail _ hy, e3⟩
      · obtain ⟨y, hy, e3⟩ := trF_passed m w x (by rw [e2]; exact h)
        exact ⟨y, .tail _ hy, e3⟩
abbrev Tr := List Nat × Option Nat
def stpT (c : Bool) (f : Nat) : Tr → Tr
  | (p, some h) => (p, some h)
  | (p, none) => if c then (f :: p, none) else (p, some f)
theorem trF_cons (m : Nat × Bool → Bool) (s : Nat × Bool) (w : Way) : trF m (s :: w) = stpT (m s) s.1 (trF m w) := by
  show (match trF m w with | (p, some h) => (p, some h) | (p, none) => if m s then (s.1 :: p, none) else (p, some s.1)) = _
  rcases trF m w with ⟨p, _ | h⟩ <;> rfl
def open_ (L : List Tr) : Nat := L.countP fun t => t.2.isNone
theorem stp_false (f : Nat) : ∀ L : List Tr, (L.map (stpT false f)).flatMap Prod.fst = L.flatMap Prod.fst ∧ open_ (L.map (stpT false f)) = 0
  | [] => ⟨rfl, rfl⟩
  | t :: L => by
    obtain ⟨h1, h2⟩ := stp_false f L
    rcases t with ⟨p, _ | h⟩
    · exact ⟨congrArg (p ++ ·) h1, by show List.countP _ ((p, some f) :: _) = 0; rw [List.countP_cons_of_neg (by simp)]; exact h2⟩
    · exact ⟨congrArg (p ++ ·) h1, by show List.countP _ ((p, some h) :: _) = 0; rw [List.countP_cons_of_neg (by simp)]; exact h2⟩
theorem stp_none (f : Nat) : ∀ L : List Tr, open_ L = 0 → L.map (stpT true f) = L
  | [], _ => rfl
  | (p, none) :: L, h => by
    have : open_ ((p, none) :: L) = open_ L + 1 := List.countP_cons_of_pos rfl
    omega
  | (p, some x) :: L, h => by
    have : open_ ((p, some x) :: L) = open_ L := List.countP_cons_of_neg (by simp)
    show (p, some x) :: L.map (stpT true f) = _
    rw [stp_none f L (by omega)]
theorem stp_true (f : Nat) : ∀ L : List Tr, open_ L = 1 → ((L.map (stpT true f)).flatMap Prod.fst).Perm (f :: L.flatMap Prod.fst) ∧ open_ (L.map (stpT true f)) = 1
  | [], h => nomatch h
  | (p, none) :: L, h => by
    have e : open_ ((p, none) :: L) = open_ L + 1 := List.countP_cons_of_pos rfl
    have e0 : open_ L = 0 := by omega
    have em := stp_none f L e0
    constructor
    · show ((f :: p) ++ (L.map (stpT true f)).flatMap Prod.fst).Perm (f :: (p ++ L.flatMap Prod.fst))
      rw [em]
      exact .refl _
    · show open_ ((f :: p, none) :: L.map (stpT true f)) = 1
      rw [em]
      exact (List.countP_cons_of_pos rfl).trans (by show open_ L + 1 = 1; rw [e0])
  | (p, some x) :: L, h => by
    have e : open_ ((p, some x) :: L) = open_ L := List.countP_cons_of_neg (by simp)
    obtain ⟨h1, h2⟩ := stp_true f L (by omega)
    constructor
    · show (p ++ (L.map (stpT true f)).flatMap Prod.fst).Perm (f :: (p ++ L.flatMap Prod.fst))
      exact (h1.append_left p).trans List.perm_middle
    · exact (List.countP_cons_of_neg (by show ¬ (some x).isNone = true; simp)).trans h2
theorem open_append (A B : List Tr) : open_ (A ++ B) = open_ A + open_ B := List.countP_append
/-- each fork is on one trail, and one way fits wholly -/
theorem trails_all (m : Nat × Bool → Bool) (hm : ∀ f, m (f, true) = !m (f, false)) : ∀ (b : TR) (o : Nat), (((wayB b o).map (trF m)).flatMap Prod.fst).Perm (List.range' o (nS b - 1)) ∧ open_ ((wayB b o).map (trF m)) = 1
  | leaf, o => ⟨.refl _, rfl⟩
  | node l r, o => by
    obtain ⟨l1, l2⟩ := trails_all m hm l o
    obtain ⟨r1, r2⟩ := trails_all m hm r (o + nS l)
    have pl := nS_pos l
    have pr := nS_pos r
    have e : ((wayB (node l r) o).map (trF m)) = ((wayB l o).map (trF m)).map (stpT (m (o + nS l - 1, true)) (o + nS l - 1)) ++ ((wayB r (o + nS l)).map (trF m)).map (stpT (m (o + nS l - 1, false)) (o + nS l - 1)) := by
      show List.map _ (_ ++ _) = _
      rw [List.map_append, List.map_map, List.map_map, List.map_map, List.map_map]
      exact congr (congrArg HAppend.hAppend (List.map_congr_left fun w _ => trF_cons m _ w)) (List.map_congr_left fun w _ => trF_cons m _ w)
    have er : List.range' o (nS (node l r) - 1) = List.range' o (nS l - 1) ++ (o + nS l - 1) :: List.range' (o + nS l) (nS r - 1) := by
      rw [show nS (node l r) - 1 = (nS l - 1) + (nS r - 1 + 1) by (show nS l + nS r - 1 = _; omega), ← List.range'_append_1, show o + (nS l - 1) = o + nS l - 1 by omega, List.range'_succ, show o + nS l - 1 + 1 = o + nS l by omega]
    rw [e, er]
    generalize hL : (wayB l o).map (trF m) = L at l1 l2
    generalize hR : (wayB r (o + nS l)).map (trF m) = R at r1 r2
    generalize o + nS l - 1 = f
    generalize hLL : List.range' o (nS l - 1) = LL at l1
    generalize hRR : List.range' (o + nS l) (nS r - 1) = RR at r1
    rw [List.flatMap_append, open_append, hm f]
    cases m (f, false) with
    | false =>
      obtain ⟨a1, a2⟩ := stp_true f L l2
      obtain ⟨b1, b2⟩ := stp_false f R
      show ((L.map (stpT true f)).flatMap Prod.fst ++ (R.map (stpT false f)).flatMap Prod.fst).Perm _ ∧ open_ (L.map (stpT true f)) + open_ (R.map (stpT false f)) = 1
      rw [a2, b1, b2]
      refine ⟨(a1.append r1).trans ?_, rfl⟩
      show (f :: (L.flatMap Prod.fst ++ RR)).Perm _
      exact (((l1.append (.refl RR)).cons f)).trans List.perm_middle.symm
    | true =>
      obtain ⟨a1, a2⟩ := stp_false f L
      obtain ⟨b1, b2⟩ := stp_true f R r2
      show ((L.map (stpT false f)).flatMap Prod.fst ++ (R.map (stpT true f)).flatMap Prod.fst).Perm _ ∧ open_ (L.map (stpT false f)) + open_ (R.map (stpT true f)) = 1
      rw [a1, a2, b2]
      exact ⟨l1.append (b1.trans (r1.cons f)), rfl⟩
theorem way_small : ∀ (b : TR) (o : Nat), ∀ w ∈ wayB b o, ∀ s ∈ w, o ≤ s.1 ∧ s.1 + 1 < o + nS b
  | leaf, o, w, hw, s, hs => by
    cases hw with
    | head => nomatch hs
    | tail _ h => nomatch h
  | node l r, o, w, hw, s, hs => by
    have pl := nS_pos l
    have pr := nS_pos r
    show _ ∧ _ < o + (nS l + nS r)
    rcases List.mem_append.mp hw with h | h
    · obtain ⟨w2, h2, rfl⟩ := List.mem_map.mp h
      cases hs with
      | head => exact ⟨by show o ≤ o + nS l - 1; omega, by show o + nS l - 1 + 1 < _; omega⟩
      | tail _ hs =>
        have := way_small l o w2 h2 s hs
        omega
    · obtain ⟨w2, h2, rfl⟩ := List.mem_map.mp h
      cases hs with
      | head => exact ⟨by show o ≤ o + nS l - 1; omega, by show o + nS l - 1 + 1 < _; omega⟩
      | tail _ hs =>
        have := way_small r (o + nS l) w2 h2 s hs
        omega
theorem way_len : ∀ (b : TR) (o : Nat), ∀ w ∈ wayB b o, w.length < nS b
  | leaf, o, w, hw => by
    cases hw with
    | head => exact Nat.one_pos
    | tail _ h => nomatch h
  | node l r, o, w, hw => by
    have pl := nS_pos l
    have pr := nS_pos r
    show _ < nS l + nS r
    rcases List.mem_append.mp hw with h | h
    · obtain ⟨w2, h2, rfl⟩ := List.mem_map.mp h
      have := way_len l o w2 h2
      show w2.length + 1 < _
      omega
    · obtain ⟨w2, h2, rfl⟩ := List.mem_map.mp h
      have := way_len r (o + nS l) w2 h2
      show w2.length + 1 < _
      omega
/-- the step fits the flags -/
def okF (fl : List Bool) (s : Nat × Bool) : Bool := (fl[s.1]?.getD false) == s.2
theorem okF_not (fl : List Bool) (f : Nat) : okF fl (f, true) = !okF fl (f, false) := by
  unfold okF
  show ((fl[f]?.getD false) == true) = !((fl[f]?.getD false) == false)
  cases fl[f]?.getD false <;> rfl
/-- the trails of a tree -/
def trB (b : TR) (fl : List Bool) : List Tr := (wayB b 0).map (trF (okF fl))
theorem trB_len (b : TR) (fl : List Bool) : (trB b fl).length = nS b := by
  unfold trB
  rw [List.length_map, wayB_len]
theorem trB_perm (b : TR) (fl : List Bool) : ((trB b fl).flatMap Prod.fst).Perm (List.range (nS b - 1)) := by
  rw [List.range_eq_range']
  exact (trails_all (okF fl) (okF_not fl) b 0).1
/-- the slot whose trail holds f: the first -/
def ownB (L : List Tr) (f : Nat) : Option Nat := L.findIdx? fun t => t.1.contains f
theorem own_some {b : TR} {fl : List Bool} {f : Nat} (h : f + 1 < nS b) : ∃ i t, ownB (trB b fl) f = some i ∧ (trB b fl)[i]? = some t ∧ f ∈ t.1 := by
  have hm : f ∈ (trB b fl).flatMap Prod.fst := (trB_perm b fl).mem_iff.mpr (List.mem_range.mpr (by omega))
  obtain ⟨t, ht, hf⟩ := List.mem_flatMap.mp hm
  cases e : ownB (trB b fl) f with
  | none =>
    have := List.findIdx?_eq_none_iff.mp e t ht
    rw [List.contains_iff_mem.mpr hf] at this
    cases this
  | some i =>
    obtain ⟨hi, h1, _⟩ := List.findIdx?_eq_some_iff_getElem.mp e
    exact ⟨i, (trB b fl)[i], rfl, List.getElem?_eq_getElem hi, List.contains_iff_mem.mp h1⟩
theorem nodup_flat {L : List Tr} (h : (L.flatMap Prod.fst).Nodup) : ∀ {i j : Nat} {t u : Tr} {f : Nat}, L[i]? = some t → L[j]? = some u → f ∈ t.1 → f ∈ u.1 → i = j := by
  induction L with
  | nil => exact fun e => nomatch e
  | cons a L ih =>
    intro i j t u f hi hj ht hu
    have h0 : (a.1 ++ L.flatMap Prod.fst).Nodup := h
    rw [List.nodup_append] at h0
    obtain ⟨_, h2, h3⟩ := h0
    cases i with
    | zero =>
      cases j with
      | zero => rfl
      | succ j =>
        cases hi
        exact absurd rfl (h3 f ht f (List.mem_flatMap.mpr ⟨u, List.mem_of_getElem? hj, hu⟩))
    | succ i =>
      cases j with
      | zero =>
        cases hj
        exact absurd rfl (h3 f hu f (List.mem_flatMap.mpr ⟨t, List.mem_of_getElem? hi, ht⟩))
      | succ j => exact congrArg (· + 1) (ih h2 hi hj ht hu)
theorem trB_one {b : TR} {fl : List Bool} {i j : Nat} {t u : Tr} {f : Nat} (hi : (trB b fl)[i]? = some t) (hj : (trB b fl)[j]? = some u) (ht : f ∈ t.1) (hu : f ∈ u.1) : i = j :=
  nodup_flat ((trB_perm b fl).nodup_iff.mpr List.nodup_range) hi hj ht hu
theorem own_at {b : TR} {fl : List Bool} {i : Nat} {t : Tr} {f : Nat} (hi : (trB b fl)[i]? = some t) (ht : f ∈ t.1) : ownB (trB b fl) f = some i := by
  have hs : f + 1 < nS b := by
    have hm : f ∈ (trB b fl).flatMap Prod.fst := List.mem_flatMap.mpr ⟨t, List.mem_of_getElem? hi, ht⟩
    have := List.mem_range.mp ((trB_perm b fl).mem_iff.mp hm)
    omega
  obtain ⟨j, u, e1, e2, e3⟩ := own_some (fl := fl) hs
  rw [e1, trB_one hi e2 ht e3]
theorem hang_small {b : TR} {fl : List Bool} {i : Nat} {p : List Nat} {h : Nat} (hi : (trB b fl)[i]? = some (p, some h)) : h + 1 < nS b := by
  unfold trB at hi
  rw [List.getElem?_map] at hi
  cases e : (wayB b 0)[i]? with
  | none =>
    rw [e] at hi
    cases hi
  | some w =>
    rw [e] at hi
    obtain ⟨s, hs, rfl⟩ := trF_hang _ w p h (Option.some.inj hi)
    have := way_small b 0 w (List.mem_of_getElem? e) s hs
    omega
/-! ### the laying of the ways -/
abbrev Job := TR × Nat × Way
def jobW (j : Job) : List Way := (wayB j.1 j.2.1).map (j.2.2 ++ ·)
def jobS (js : List Job) : Nat := (js.map fun j => 2 * nS j.1 - 1).sum
theorem jobW_leaf (o : Nat) (w : Way) : jobW (leaf, o, w) = [w] := by
  show [w ++ []] = [w]
  rw [List.append_nil]
theorem jobW_node (l r : TR) (o : Nat) (w : Way) : jobW (node l r, o, w) = jobW (l, o, w ++ [(o + nS l - 1, true)]) ++ jobW (r, o + nS l, w ++ [(o + nS l - 1, false)]) := by
  show ((wayB l o).map _ ++ (wayB r (o + nS l)).map _).map (w ++ ·) = (wayB l o).map _ ++ (wayB r (o + nS l)).map _
  rw [List.map_append, List.map_map, List.map_map]
  congr 1
  · refine List.map_congr_left fun u _ => ?_
    show w ++ (_ :: u) = w ++ [_] ++ u
    rw [List.append_assoc]
    rfl
  · refine List.map_congr_left fun u _ => ?_
    show w ++ (_ :: u) = w ++ [_] ++ u
    rw [List.append_assoc]
    rfl
def Fits : TR → Nat → List (Nat × Nat) → List (Nat × Nat) → Prop
  | leaf, _, _, _ => True
  | node l r, o, L, R => L[o + nS l - 1]? = some (ndB l o) ∧ R[o + nS l - 1]? = some (ndB r (o + nS l)) ∧ Fits l o L R ∧ Fits r (o + nS l) L R
theorem fits_of : ∀ (b : TR) (o p : Nat) (L R : List (Nat × Nat)), (∀ row ∈ rowsB b o p, L[row.1]? = some row.2.1 ∧ R[row.1]? = some row.2.2.1) → Fits b o L R
  | leaf, _, _, _, _, _ => trivial
  | node l r, o, p, L, R, h => by
    have h0 := h (o + nS l - 1, ndB l o, ndB r (o + nS l), (o, o + nS l + nS r - 1), (p, p + (txt (node l r)).length)) (List.mem_append_right _ (List.mem_append_right _ (.head _)))
    exact ⟨h0.1, h0.2, fits_of l o (p + 1) L R fun row hr => h row (List.mem_append_left _ hr), fits_of r (o + nS l) _ L R fun row hr => h row (List.mem_append_right _ (List.mem_append_left _ hr))⟩
theorem rows_keys : ∀ (b : TR) (o p : Nat), ((rowsB b o p).map Prod.fst).Perm (List.range' o (nS b - 1))
  | leaf, _, _ => .refl _
  | node l r, o, p => by
    have h1 := rows_keys l o (p + 1)
    have h2 := rows_keys r (o + nS l) (p + 1 + (txt l).length)
    have pl := nS_pos l
    have pr := nS_pos r
    have er : List.range' o (nS (node l r) - 1) = List.range' o (nS l - 1) ++ (o + nS l - 1) :: List.range' (o + nS l) (nS r - 1) := by
      rw [show nS (node l r) - 1 = (nS l - 1) + (nS r - 1 + 1) by (show nS l + nS r - 1 = _; omega), ← List.range'_append_1, show o + (nS l - 1) = o + nS l - 1 by omega, List.range'_succ, show o + nS l - 1 + 1 = o + nS l by omega]
    rw [er]
    show (List.map Prod.fst (rowsB l o (p + 1) ++ (rowsB r (o + nS l) (p + 1 + (txt l).length) ++ [_]))).Perm _
    rw [List.map_append, List.map_append]
    exact h1.append (List.perm_append_comm.trans (h2.cons _))
/-- sorted by their forks: each row at the place of its fork -/
theorem rows_sorted {b : TR} {ys : List Row} (hp : ys.Perm (rowsB b 0 0)) (hs : ys.Pairwise fun x y => x.1 ≤ y.1) : ∀ row ∈ rowsB b 0 0, ys[row.1]? = some row := by
  have hk : (ys.map Prod.fst).Perm (List.range (nS b - 1)) := by
    rw [List.range_eq_range']
    exact (hp.map _).trans (rows_keys b 0 0)
  have e : ys.map Prod.fst = List.range (nS b - 1) := by
    refine List.Perm.eq_of_pairwise (le := fun x y => decide (x ≤ y)) (fun a c _ _ h1 h2 => ?_) ?_ ?_ hk
    · have := of_decide_eq_true h1
      have := of_decide_eq_true h2
      omega
    · exact List.pairwise_map.mpr (hs.imp fun h => decide_eq_true h)
    · exact List.pairwise_le_range.imp fun h => decide_eq_true h
  intro row hr
  obtain ⟨i, hi⟩ := List.mem_iff_getElem?.mp (hp.mem_iff.mpr hr)
  have : (ys.map Prod.fst)[i]? = some row.1 := by
    rw [List.getElem?_map, hi]
    rfl
  rw [e] at this
  obtain ⟨h1, h2⟩ := List.getElem?_eq_some_iff.mp this
  rw [List.getElem_range] at h2
  rw [← h2]
  exact hi
theorem rows_inj {b : TR} : ∀ x ∈ rowsB b 0 0, ∀ y ∈ rowsB b 0 0, x.1 = y.1 → x = y := by
  have hn : ((rowsB b 0 0).map Prod.fst).Nodup := (rows_keys b 0 0).nodup_iff.mpr (by rw [← List.range_eq_range']; exact List.nodup_range)
  generalize rowsB b 0 0 = L at hn
  induction L with
  | nil => exact fun x hx => nomatch hx
  | cons a L ih =>
    have hn : (a.1 :: L.map Prod.fst).Nodup := hn
    obtain ⟨h1, h2⟩ := List.nodup_cons.mp hn
    intro x hx y hy e
    cases hx with
    | head =>
      cases hy with
      | head => rfl
      | tail _ hy => exact absurd (by rw [e]; exact List.mem_map.mpr ⟨y, hy, rfl⟩) h1
    | tail _ hx =>
      cases hy with
      | head => exact absurd (by rw [← e]; exact List.mem_map.mpr ⟨x, hx, rfl⟩) h1
      | tail _ hy => exact ih h2 x hx y hy e
/-! ### the law's tree: a row of trees -/
def pcs : List TR → Nat → List (TR × Nat)
  | [], _ => []
  | t :: ts, o => (t, o) :: pcs ts (o + nS t)
def szs (ts : List TR) : Nat := (ts.map nS).sum
def fw : List TR → Nat → List Way
  | [], _ => []
  | t :: ts, o => wayB t o ++ fw ts (o + nS t)
theorem pcs_len : ∀ (ts : List TR) (o : Nat), (pcs ts o).length = ts.length
  | [], _ => rfl
  | t :: ts, o => congrArg (· + 1) (pcs_len ts _)
theorem fw_len : ∀ (ts : List TR) (o : Nat), (fw ts o).length = szs ts
  | [], _ => rfl
  | t :: ts, o => by
    show (wayB t o ++ fw ts _).length = nS t + szs ts
    rw [List.length_append, wayB_len, fw_len]
theorem pcs_app : ∀ (A B : List TR) (o : Nat), pcs (A ++ B) o = pcs A o ++ pcs B (o + szs A)
  | [], B, o => rfl
  | t :: A, B, o => by
    show (t, o) :: pcs (A ++ B) (o + nS t) = (t, o) :: (pcs A (o + nS t) ++ pcs B (o + (nS t + szs A)))
    rw [pcs_app A B, Nat.add_assoc]
theorem fw_app : ∀ (A B : List TR) (o : Nat), fw (A ++ B) o = fw A o ++ fw B (o + szs A)
  | [], B, o => rfl
  | t :: A, B, o => by
    show wayB t o ++ fw (A ++ B) (o + nS t) = wayB t o ++ fw A (o + nS t) ++ fw B (o + (nS t + szs A))
    rw [fw_app A B, Nat.add_assoc, List.append_assoc]
theorem szs_app (A B : List TR) : szs (A ++ B) = szs A + szs B := by
  unfold szs
  rw [List.map_append, List.sum_append]
theorem szs_len : ∀ ts : List TR, ts.length ≤ szs ts
  | [] => Nat.le_refl 0
  | t :: ts => by
    have := szs_len ts
    have := nS_pos t
    show ts.length + 1 ≤ nS t + szs ts
    omega
/-- a row of trees, parted at two neighbours -/
theorem at_two {ts : List TR} {i : Nat} (h : i + 1 < ts.length) : ∃ A l r B, ts = A ++ l :: r :: B ∧ A.length = i := by
  refine ⟨ts.take i, ts[i], ts[i + 1], ts.drop (i + 2), ?_, by rw [List.length_take]; omega⟩
  rw [List.getElem_cons_drop, List.getElem_cons_drop, List.take_append_drop]
/-- the ways while the two are joined: k of their slots are done -/
def midW (l r : TR) (o k : Nat) : List Way := ((wayB (node l r) o).take k) ++ ((wayB l o ++ wayB r (o + nS l)).drop k)
theorem mid_get {l r : TR} {o k : Nat} {w : Way} (h : (wayB l o ++ wayB r (o + nS l))[k]? = some w) : (wayB (node l r) o)[k]? = some ((o + nS l - 1, decide (k < nS l)) :: w) := by
  show ((wayB l o).map _ ++ (wayB r (o + nS l)).map _)[k]? = _
  by_cases hk : k < nS l
  · rw [List.getElem?_append_left (by rw [wayB_len]; exact hk)] at h
    rw [List.getElem?_append_left (by rw [List.length_map, wayB_len]; exact hk), List.getElem?_map, h, decide_eq_true hk]
    rfl
  · rw [List.getElem?_append_right (by rw [wayB_len]; omega), wayB_len] at h
    rw [List.getElem?_append_right (by rw [List.length_map, wayB_len]; omega), List.length_map, wayB_len, List.getElem?_map, h, decide_eq_false hk]
    rfl
end TR
namespace TR
/-! ### who hangs on whom -/
section
variable (en : List Bool)
def eF (f : Nat) : Bool := en[f]?.getD false
def vicF : TR → Nat → Nat
  | leaf, o => o
  | node l r, o => if eF en (o + nS l - 1) then vicF l o else vicF r (o + nS l)
def holF : TR → Nat → Nat → Nat
  | leaf, o, _ => o
  | node l r, o, g => if g = o + nS l - 1 then vicF en (node l r) o else if g < o + nS l - 1 then holF l o g else holF r (o + nS l) g
def chnF : TR → Nat → Nat → List Nat
  | leaf, _, s => [s]
  | node l r, o, s => if s < o + nS l then (if eF en (o + nS l - 1) then chnF l o s else chnF l o s ++ [vicF en r (o + nS l)]) else (if eF en (o + nS l - 1) then chnF r (o + nS l) s ++ [vicF en l o] else chnF r (o + nS l) s)
def rngF : TR → Nat → Nat → Nat × Nat
  | leaf, o, _ => (o, o)
  | node l r, o, s => if s = vicF en (node l r) o then (o, o + nS l + nS r - 1) else if s < o + nS l then rngF l o s else rngF r (o + nS l) s
def spnF : TR → Nat → Nat → Nat × Nat
  | leaf, o, _ => (o, o)
  | node l r, o, h => if h = o + nS l - 1 then (o, o + nS l + nS r - 1) else if h < o + nS l - 1 then spnF l o h else spnF r (o + nS l) h
/-- the forks below a hanging fork's other side -/
def belF (b : TR) (o h : Nat) : Nat × Nat := if eF en h then (h + 1, (spnF b o h).2) else ((spnF b o h).1, h)
theorem vic_t {l r : TR} {o : Nat} (h : eF en (o + nS l - 1) = true) : vicF en (node l r) o = vicF en l o := if_pos h
theorem vic_f {l r : TR} {o : Nat} (h : eF en (o + nS l - 1) = false) : vicF en (node l r) o = vicF en r (o + nS l) := if_neg (by rw [h]; exact Bool.false_ne_true)
theorem vic_in : ∀ (b : TR) (o : Nat), o ≤ vicF en b o ∧ vicF en b o < o + nS b
  | leaf, o => ⟨Nat.le_refl _, Nat.lt_succ_self _⟩
  | node l r, o => by
    have h1 := vic_in l o
    have h2 := vic_in r (o + nS l)
    show _ ∧ _ < o + (nS l + nS r)
    cases h : eF en (o + nS l - 1) with
    | true =>
      rw [vic_t en h]
      omega
    | false =>
      rw [vic_f en h]
      omega
theorem chn_lt {l r : TR} {o s : Nat} (hs : s < o + nS l) : chnF en (node l r) o s = if eF en (o + nS l - 1) then chnF en l o s else chnF en l o s ++ [vicF en r (o + nS l)] := if_pos hs
theorem chn_ge {l r : TR} {o s : Nat} (hs : o + nS l ≤ s) : chnF en (node l r) o s = if eF en (o + nS l - 1) then chnF en r (o + nS l) s ++ [vicF en l o] else chnF en r (o + nS l) s := if_neg (Nat.not_lt.mpr hs)
theorem chn_in : ∀ (b : TR) (o s : Nat), o ≤ s → s < o + nS b → ∀ x ∈ chnF en b o s, o ≤ x ∧ x < o + nS b
  | leaf, o, s, h1, h2, x, hx => by
    rw [List.mem_singleton.mp hx]
    exact ⟨h1, h2⟩
  | node l r, o, s, h1, h2, x, hx => by
    have h2 : s < o + (nS l + nS r) := h2
    have v1 := vic_in en l o
    have v2 := vic_in en r (o + nS l)
    show _ ∧ _ < o + (nS l + nS r)
    by_cases hs : s < o + nS l
    · rw [chn_lt en hs] at hx
      have ih := chn_in l o s h1 hs
      split at hx
      · have := ih x hx
        omega
      · rcases List.mem_append.mp hx with hx | hx
        · have := ih x hx
          omega
        · rw [List.mem_singleton.mp hx]
          omega
    · rw [chn_ge en (by omega)] at hx
      have ih := chn_in r (o + nS l) s (by omega) (by omega)
      split at hx
      · rcases List.mem_append.mp hx with hx | hx
        · have := ih x hx
          omega
        · rw [List.mem_singleton.mp hx]
          omega
      · have := ih x hx
        omega
theorem chn_vic : ∀ (b : TR) (o : Nat), chnF en b o (vicF en b o) = [vicF en b o]
  | leaf, o => rfl
  | node l r, o => by
    have v1 := vic_in en l o
    have v2 := vic_in en r (o + nS l)
    cases h : eF en (o + nS l - 1) with
    | true =>
      rw [vic_t en h, chn_lt en (by omega), if_pos h, chn_vic l o]
    | false =>
      rw [vic_f en h, chn_ge en (by omega), if_neg (by rw [h]; exact Bool.false_ne_true), chn_vic r]
theorem chn_last : ∀ (b : TR) (o s : Nat), o ≤ s → s < o + nS b → vicF en b o ∈ chnF en b o s
  | leaf, o, s, h1, h2 => by
    have h2 : s < o + 1 := h2
    show o ∈ [s]
    rw [show s = o by omega]
    exact .head _
  | node l r, o, s, h1, h2 => by
    have h2 : s < o + (nS l + nS r) := h2
    by_cases hs : s < o + nS l
    · rw [chn_lt en hs]
      cases h : eF en (o + nS l - 1) with
      | true =>
        rw [vic_t en h, if_pos rfl]
        exact chn_last l o s h1 hs
      | false =>
        rw [vic_f en h, if_neg Bool.false_ne_true]
        exact List.mem_append_right _ (.head _)
    · rw [chn_ge en (by omega)]
      cases h : eF en (o + nS l - 1) with
      | true =>
        rw [vic_t en h, if_pos rfl]
        exact List.mem_append_right _ (.head _)
      | false =>
        rw [vic_f en h, if_neg Bool.false_ne_true]
        exact chn_last r (o + nS l) s (by omega) (by omega)
theorem chn_head : ∀ (b : TR) (o s : Nat), ∃ t, chnF en b o s = s :: t
  | leaf, _, s => ⟨[], rfl⟩
  | node l r, o, s => by
    by_cases hs : s < o + nS l
    · rw [chn_lt en hs]
      obtain ⟨t, e⟩ := chn_head l o s
      rw [e]
      split
      · exact ⟨_, rfl⟩
      · exact ⟨_, rfl⟩
    · rw [chn_ge en (by omega)]
      obtain ⟨t, e⟩ := chn_head r (o + nS l) s
      rw [e]
      split
      · exact ⟨_, rfl⟩
      · exact ⟨_, rfl⟩
theorem chn_len : ∀ (b : TR) (o s : Nat), (chnF en b o s).length ≤ nS b
  | leaf, _, _ => Nat.le_refl 1
  | node l r, o, s => by
    have p1 := nS_pos l
    have p2 := nS_pos r
    have h1 := chn_len l o s
    have h2 := chn_len r (o + nS l) s
    show _ ≤ nS l + nS r
    by_cases hs : s < o + nS l
    · rw [chn_lt en hs]
      split
      · omega
      · rw [List.length_append, List.length_singleton]
        omega
    · rw [chn_ge en (by omega)]
      split
      · rw [List.length_append, List.length_singleton]
        omega
      · omega
theorem hol_in : ∀ (b : TR) (o g : Nat), o ≤ g → g + 1 < o + nS b → o ≤ holF en b o g ∧ holF en b o g < o + nS b
  | leaf, o, g, h1, h2 => by
    have h2 : g + 1 < o + 1 := h2
    omega
  | node l r, o, g, h1, h2 => by
    have h2 : g + 1 < o + (nS l + nS r) := h2
    have p1 := nS_pos l
    unfold holF
    split
    · exact vic_in en (node l r) o
    · show _ ∧ _ < o + (nS l + nS r)
      split
      · have := hol_in l o g h1 (by omega)
        omega
      · have := hol_in r (o + nS l) g (by omega) (by omega)
        omega
theorem rng_in : ∀ (b : TR) (o s : Nat), o ≤ (rngF en b o s).1 ∧ (rngF en b o s).2 + 1 ≤ o + nS b ∧ (rngF en b o s).1 ≤ (rngF en b o s).2
  | leaf, o, s => ⟨Nat.le_refl _, Nat.le_refl _, Nat.le_refl _⟩
  | node l r, o, s => by
    have p1 := nS_pos l
    have p2 := nS_pos r
    have h1 := rng_in l o s
    have h2 := rng_in r (o + nS l) s
    show _ ∧ _ ≤ o + (nS l + nS r) ∧ _
    unfold rngF
    split
    · show o ≤ o ∧ o + nS l + nS r - 1 + 1 ≤ _ ∧ o ≤ o + nS l + nS r - 1
      omega
    · split
      · omega
      · omega
theorem rng_vic : ∀ (b : TR) (o : Nat), rngF en b o (vicF en b o) = (o, o + nS b - 1)
  | leaf, o => rfl
  | node l r, o => by
    unfold rngF
    rw [if_pos rfl]
    show (o, o + nS l + nS r - 1) = (o, o + (nS l + nS r) - 1)
    rw [Nat.add_assoc]
theorem rng_lt {l r : TR} {o s : Nat} (n : s ≠ vicF en (node l r) o) (hs : s < o + nS l) : rngF en (node l r) o s = rngF en l o s := by
  show (if s = vicF en (node l r) o then _ else if s < o + nS l then _ else _) = _
  rw [if_neg n, if_pos hs]
theorem rng_ge {l r : TR} {o s : Nat} (n : s ≠ vicF en (node l r) o) (hs : o + nS l ≤ s) : rngF en (node l r) o s = rngF en r (o + nS l) s := by
  show (if s = vicF en (node l r) o then _ else if s < o + nS l then _ else _) = _
  rw [if_neg n, if_neg (by omega)]
def inR (q : Nat × Nat) (g : Nat) : Prop := q.1 ≤ g ∧ g < q.2
/-- the forks below a slot: those whose chains come to it -/
theorem chn_rng : ∀ (b : TR) (o g i : Nat), o ≤ g → g + 1 < o + nS b → o ≤ i → i < o + nS b → (i ∈ chnF en b o (holF en b o g) ↔ inR (rngF en b o i) g)
  | leaf, o, g, i, h1, h2, _, _ => by
    have h2 : g + 1 < o + 1 := h2
    omega
  | node l r, o, g, i, h1, h2, h3, h4 => by
    have h2 : g + 1 < o + (nS l + nS r) := h2
    have h4 : i < o + (nS l + nS r) := h4
    have p1 := nS_pos l
    have p2 := nS_pos r
    have vl := vic_in en l o
    have vr := vic_in en r (o + nS l)
    have hf : holF en (node l r) o g = if g = o + nS l - 1 then vicF en (node l r) o else if g < o + nS l - 1 then holF en l o g else holF en r (o + nS l) g := rfl
    have whole : ∀ {j : Nat}, j = vicF en (node l r) o → inR (rngF en (node l r) o j) g := fun {j} e => by
      rw [e, rng_vic]
      show o ≤ g ∧ g < o + (nS l + nS r) - 1
      omega
    by_cases ei : i = vicF en (node l r) o
    · refine ⟨fun _ => whole ei, fun _ => ?_⟩
      rw [ei]
      have := hol_in en (node l r) o g h1 (by show g + 1 < o + (nS l + nS r); omega)
      exact chn_last en (node l r) o _ this.1 this.2
    · have rl := rng_in en l o i
      have rr := rng_in en r (o + nS l) i
      rw [hf]
      by_cases g0 : g = o + nS l - 1
      · rw [if_pos g0, chn_vic]
        refine ⟨fun h => absurd (List.mem_singleton.mp h) ei, fun h => ?_⟩
        by_cases hs : i < o + nS l
        · rw [rng_lt en ei hs] at h
          unfold inR at h
          omega
        · rw [rng_ge en ei (by omega)] at h
          unfold inR at h
          omega
      · rw [if_neg g0]
        by_cases g1 : g < o + nS l - 1
        · rw [if_pos g1]
          have hh := hol_in en l o g h1 (by omega)
          have ih := chn_rng l o g i h1 (by omega)
          have ci := chn_in en l o (holF en l o g) hh.1 hh.2
          rw [chn_lt en hh.2]
          by_cases hs : i < o + nS l
          · rw [rng_lt en ei hs, ← ih h3 hs]
            cases hc : eF en (o + nS l - 1) with
            | true =>
              rw [if_pos rfl]
            | false =>
              rw [if_neg Bool.false_ne_true]
              rw [vic_f en hc] at ei
              refine ⟨fun h => (List.mem_append.mp h).elim id fun h => absurd (List.mem_singleton.mp h) ei, fun h => List.mem_append_left _ h⟩
          · rw [rng_ge en ei (by omega)]
            refine ⟨fun h => ?_, fun h => ?_⟩
            · exfalso
              cases hc : eF en (o + nS l - 1) with
              | true =>
                rw [hc, if_pos rfl] at h
                have := ci i h
                omega
              | false =>
                rw [hc, if_neg Bool.false_ne_true] at h
                rw [vic_f en hc] at ei
                rcases List.mem_append.mp h with h | h
                · have := ci i h
                  omega
                · exact ei (List.mem_singleton.mp h)
            · unfold inR at h
              omega
        · rw [if_neg g1]
          have hh := hol_in en r (o + nS l) g (by omega) (by omega)
          have ih := chn_rng r (o + nS l) g i (by omega) (by omega)
          have ci := chn_in en r (o + nS l) (holF en r (o + nS l) g) hh.1 hh.2
          rw [chn_ge en hh.1]
          by_cases hs : i < o + nS l
          · rw [rng_lt en ei hs]
            refine ⟨fun h => ?_, fun h => ?_⟩
            · exfalso
              cases hc : eF en (o + nS l - 1) with
              | false =>
                rw [hc, if_neg Bool.false_ne_true] at h
                have := ci i h
                omega
              | true =>
                rw [hc, if_pos rfl] at h
                rw [vic_t en hc] at ei
                rcases List.mem_append.mp h with h | h
                · have := ci i h
                  omega
                · exact ei (List.mem_singleton.mp h)
            · unfold inR at h
              omega
          · rw [rng_ge en ei (by omega), ← ih (by omega) (by omega)]
            cases hc : eF en (o + nS l - 1) with
            | false =>
              rw [if_neg Bool.false_ne_true]
            | true =>
              rw [if_pos rfl]
              rw [vic_t en hc] at ei
              refine ⟨fun h => (List.mem_append.mp h).elim id fun h => absurd (List.mem_singleton.mp h) ei, fun h => List.mem_append_left _ h⟩
theorem chn_step : ∀ (b : TR) (o s : Nat), o ≤ s → s < o + nS b → (∀ x, (chnF en b o s)[1]? = some x → chnF en b o s = s :: chnF en b o x) ∧ ((chnF en b o s)[1]? = none → chnF en b o s = [s])
  | leaf, o, s, _, _ => ⟨fun x h => (nomatch h), fun _ => rfl⟩
  | node l r, o, s, h1, h2 => by
    have h2 : s < o + (nS l + nS r) := h2
    have vl := vic_in en l o
    have vr := vic_in en r (o + nS l)
    by_cases hs : s < o + nS l
    · obtain ⟨i1, i2⟩ := chn_step l o s h1 hs
      have ci := chn_in en l o s h1 hs
      rw [chn_lt en hs]
      cases hc : eF en (o + nS l - 1) with
      | true =>
        rw [if_pos rfl]
        refine ⟨fun x hx => ?_, i2⟩
        have := ci x (List.mem_of_getElem? hx)
        rw [chn_lt en this.2, hc, if_pos rfl]
        exact i1 x hx
      | false =>
        rw [if_neg Bool.false_ne_true]
        cases hx : (chnF en l o s)[1]? with
        | none =>
          rw [i2 hx]
          refine ⟨fun x h => ?_, fun h => nomatch h⟩
          have : vicF en r (o + nS l) = x := Option.some.inj h
          subst this
          rw [chn_ge en vr.1, hc, if_neg Bool.false_ne_true, chn_vic]
          rfl
        | some y =>
          have ey := i1 y hx
          have cy := ci y (List.mem_of_getElem? hx)
          have e1 : (chnF en l o s ++ [vicF en r (o + nS l)])[1]? = some y := by
            rw [List.getElem?_append_left (List.getElem?_eq_some_iff.mp hx).1]
            exact hx
          rw [e1]
          refine ⟨fun x h => ?_, fun h => nomatch h⟩
          have : y = x := Option.some.inj h
          subst this
          rw [chn_lt en cy.2, hc, if_neg Bool.false_ne_true, ey]
          rfl
    · obtain ⟨i1, i2⟩ := chn_step r (o + nS l) s (by omega) (by omega)
      have ci := chn_in en r (o + nS l) s (by omega) (by omega)
      rw [chn_ge en (by omega)]
      cases hc : eF en (o + nS l - 1) with
      | false =>
        rw [if_neg Bool.false_ne_true]
        refine ⟨fun x hx => ?_, i2⟩
        have := ci x (List.mem_of_getElem? hx)
        rw [chn_ge en this.1, hc, if_neg Bool.false_ne_true]
        exact i1 x hx
      | true =>
        rw [if_pos rfl]
        cases hx : (chnF en r (o + nS l) s)[1]? with
        | none =>
          rw [i2 hx]
          refine ⟨fun x h => ?_, fun h => nomatch h⟩
          have : vicF en l o = x := Option.some.inj h
          subst this
          rw [chn_lt en vl.2, hc, if_pos rfl, chn_vic]
          rfl
        | some y =>
          have ey := i1 y hx
          have cy := ci y (List.mem_of_getElem? hx)
          have e1 : (chnF en r (o + nS l) s ++ [vicF en l o])[1]? = some y := by
            rw [List.getElem?_append_left (List.getElem?_eq_some_iff.mp hx).1]
            exact hx
          rw [e1]
          refine ⟨fun x h => ?_, fun h => nomatch h⟩
          have : y = x := Option.some.inj h
          subst this
          rw [chn_ge en cy.1, hc, if_pos rfl, ey]
          rfl
end
end TR
namespace TR
section
variable (en : List Bool)
theorem trF_fit (m : Nat × Bool → Bool) : ∀ (w : Way) (x : Nat), x ∈ (trF m w).1 → ∃ s ∈ w, s.1 = x ∧ m s = true
  | [], x, h => nomatch h
  | s :: w, x, h => by
    rw [trF_cons] at h
    have ih := trF_fit m w x
    generalize trF m w = t at h ih
    obtain ⟨p, _ | y⟩ := t
    · by_cases hm : m s = true
      · have h : x ∈ (if m s then (s.1 :: p, none) else (p, some s.1) : Tr).1 := h
        rw [if_pos hm] at h
        cases h with
        | head => exact ⟨s, .head _, rfl, hm⟩
        | tail _ h =>
          obtain ⟨u, hu, e⟩ := ih h
          exact ⟨u, .tail _ hu, e⟩
      · have h : x ∈ (if m s then (s.1 :: p, none) else (p, some s.1) : Tr).1 := h
        rw [if_neg hm] at h
        obtain ⟨u, hu, e⟩ := ih h
        exact ⟨u, .tail _ hu, e⟩
    · obtain ⟨u, hu, e⟩ := ih h
      exact ⟨u, .tail _ hu, e⟩
theorem okF_e (f : Nat) (c : Bool) : okF en (f, c) = (eF en f == c) := rfl
/-- a way of a node, by its side -/
theorem way_node {l r : TR} {o i : Nat} {w : Way} (h : (wayB (node l r) o)[i]? = some w) : (i < nS l ∧ ∃ u, (wayB l o)[i]? = some u ∧ w = (o + nS l - 1, true) :: u) ∨ (nS l ≤ i ∧ ∃ u, (wayB r (o + nS l))[i - nS l]? = some u ∧ w = (o + nS l - 1, false) :: u) := by
  have h : ((wayB l o).map ((o + nS l - 1, true) :: ·) ++ (wayB r (o + nS l)).map ((o + nS l - 1, false) :: ·))[i]? = some w := h
  by_cases hi : i < nS l
  · rw [List.getElem?_append_left (by rw [List.length_map, wayB_len]; exact hi), List.getElem?_map] at h
    cases e : (wayB l o)[i]? with
    | none =>
      rw [e] at h
      cases h
    | some u =>
      rw [e] at h
      exact .inl ⟨hi, u, rfl, (Option.some.inj h).symm⟩
  · rw [List.getElem?_append_right (by rw [List.length_map, wayB_len]; omega), List.length_map, wayB_len, List.getElem?_map] at h
    cases e : (wayB r (o + nS l))[i - nS l]? with
    | none =>
      rw [e] at h
      cases h
    | some u =>
      rw [e] at h
      exact .inr ⟨by omega, u, rfl, (Option.some.inj h).symm⟩
/-- what a slot's trail says of chains and ranges -/
structure Con (b : TR) (o s : Nat) (t : Tr) : Prop where
  op : t.2 = none → s = vicF en b o
  cl : ∀ h, t.2 = some h → s ≠ vicF en b o ∧ o ≤ h ∧ h + 1 < o + nS b ∧ (chnF en b o s)[1]? = some (holF en b o h) ∧ rngF en b o s = belF en b o h
  on : ∀ g, g ∈ t.1 ↔ (o ≤ g ∧ g + 1 < o + nS b ∧ holF en b o g = s)
theorem hol_node {l r : TR} {o g : Nat} : holF en (node l r) o g = if g = o + nS l - 1 then vicF en (node l r) o else if g < o + nS l - 1 then holF en l o g else holF en r (o + nS l) g := rfl
theorem spn_node {l r : TR} {o h : Nat} : spnF (node l r) o h = if h = o + nS l - 1 then (o, o + nS l + nS r - 1) else if h < o + nS l - 1 then spnF l o h else spnF r (o + nS l) h := rfl
theorem spn_l {l r : TR} {o h : Nat} (e : h + 1 < o + nS l) : spnF (node l r) o h = spnF l o h := by rw [spn_node, if_neg (by omega), if_pos (by omega)]
theorem spn_r {l r : TR} {o h : Nat} (e : o + nS l ≤ h) : spnF (node l r) o h = spnF r (o + nS l) h := by
  have := nS_pos l
  rw [spn_node, if_neg (by omega), if_neg (by omega)]
theorem con_all : ∀ (b : TR) (o i : Nat) (w : Way), (wayB b o)[i]? = some w → Con en b o (o + i) (trF (okF en) w)
  | leaf, o, i, w, h => by
    have h : ([[]] : List Way)[i]? = some w := h
    cases i with
    | succ i => cases h
    | zero =>
      cases h
      refine ⟨fun _ => rfl, fun h e => (by cases e), fun g => ⟨fun h => (nomatch h), fun ⟨h1, h2, _⟩ => ?_⟩⟩
      have h2 : g + 1 < o + 1 := h2
      omega
  | node l r, o, i, w, h => by
    have p1 := nS_pos l
    have p2 := nS_pos r
    have vl := vic_in en l o
    have vr := vic_in en r (o + nS l)
    rcases way_node h with ⟨hi, u, hu, rfl⟩ | ⟨hi, u, hu, rfl⟩
    · have ih := con_all l o i u hu
      have ci := chn_in en l o (o + i) (by omega) (by omega)
      rw [trF_cons, okF_e]
      show Con en _ _ _ (stpT (eF en (o + nS l - 1) == true) (o + nS l - 1) _)
      generalize trF (okF en) u = t at ih
      have onl : ∀ g, g ∈ t.1 → g < o + nS l - 1 ∧ holF en (node l r) o g = holF en l o g := fun g hg => by
        have := (ih.on g).mp hg
        rw [hol_node, if_neg (by omega), if_pos (by omega)]
        exact ⟨by omega, rfl⟩
      have back : ∀ g, o ≤ g → g + 1 < o + (nS l + nS r) → holF en (node l r) o g = o + i → (g = o + nS l - 1 ∧ o + i = vicF en (node l r) o) ∨ (g ∈ t.1) := fun g h1 h2 h3 => by
        rw [hol_node] at h3
        by_cases g0 : g = o + nS l - 1
        · rw [if_pos g0] at h3
          exact .inl ⟨g0, h3.symm⟩
        · rw [if_neg g0] at h3
          by_cases g1 : g < o + nS l - 1
          · rw [if_pos g1] at h3
            exact .inr ((ih.on g).mpr ⟨h1, by omega, h3⟩)
          · rw [if_neg g1] at h3
            have := hol_in en r (o + nS l) g (by omega) (by omega)
            omega
      obtain ⟨p, _ | x⟩ := t
      · have ev := ih.op rfl
        cases hc : eF en (o + nS l - 1) with
        | true =>
          show Con en _ _ _ ((o + nS l - 1) :: p, none)
          refine ⟨fun _ => by rw [vic_t en hc]; exact ev, fun h e => (by cases e), fun g => ⟨fun hg => ?_, fun ⟨h1, h2, h3⟩ => ?_⟩⟩
          · cases hg with
            | head =>
              refine ⟨by omega, by show _ < o + (nS l + nS r); omega, ?_⟩
              rw [hol_node, if_pos rfl, vic_t en hc]
              exact ev.symm
            | tail _ hg =>
              have a1 := onl g hg
              have a2 := (ih.on g).mp hg
              exact ⟨a2.1, by show _ < o + (nS l + nS r); omega, a1.2.trans a2.2.2⟩
          · rcases back g h1 h2 h3 with ⟨e, _⟩ | hg
            · rw [e]
              exact .head _
            · exact .tail _ hg
        | false =>
          show Con en _ _ _ (p, some (o + nS l - 1))
          have nv : o + i ≠ vicF en (node l r) o := by
            rw [vic_f en hc]
            omega
          refine ⟨fun e => (by cases e), fun h e => ?_, fun g => ⟨fun hg => ?_, fun ⟨h1, h2, h3⟩ => ?_⟩⟩
          · cases e
            refine ⟨nv, by omega, by show _ < o + (nS l + nS r); omega, ?_, ?_⟩
            · rw [chn_lt en (by omega), hc, if_neg Bool.false_ne_true, ev, chn_vic, hol_node, if_pos rfl, vic_f en hc]
              rfl
            · rw [rng_lt en nv (by omega), ev, rng_vic]
              unfold belF
              rw [hc, if_neg Bool.false_ne_true, spn_node, if_pos rfl]
          · have a1 := onl g hg
            have a2 := (ih.on g).mp hg
            exact ⟨a2.1, by show _ < o + (nS l + nS r); omega, a1.2.trans a2.2.2⟩
          · rcases back g h1 h2 h3 with ⟨_, e⟩ | hg
            · exact absurd e nv
            · exact hg
      · obtain ⟨c1, c2, c3, c4, c5⟩ := ih.cl x rfl
        have nv : o + i ≠ vicF en (node l r) o := by
          cases hc : eF en (o + nS l - 1) with
          | true =>
            rw [vic_t en hc]
            exact c1
          | false =>
            rw [vic_f en hc]
            omega
        show Con en _ _ _ (p, some x)
        refine ⟨fun e => (by cases e), fun h e => ?_, fun g => ⟨fun hg => ?_, fun ⟨h1, h2, h3⟩ => ?_⟩⟩
        · cases e
          refine ⟨nv, c2, by show _ < o + (nS l + nS r); omega, ?_, ?_⟩
          · rw [hol_node, if_neg (by omega), if_pos (by omega), chn_lt en (by omega)]
            split
            · exact c4
            · rw [List.getElem?_append_left (List.getElem?_eq_some_iff.mp c4).1]
              exact c4
          · rw [rng_lt en nv (by omega), c5]
            unfold belF
            rw [spn_l (by omega)]
        · have a1 := onl g hg
          have a2 := (ih.on g).mp hg
          exact ⟨a2.1, by show _ < o + (nS l + nS r); omega, a1.2.trans a2.2.2⟩
        · rcases back g h1 h2 h3 with ⟨_, e⟩ | hg
          · exact absurd e nv
          · exact hg
    · have ih := con_all r (o + nS l) (i - nS l) u hu
      have es : o + nS l + (i - nS l) = o + i := by omega
      rw [es] at ih
      have hlen := (List.getElem?_eq_some_iff.mp hu).1
      rw [wayB_len] at hlen
      have ci := chn_in en r (o + nS l) (o + i) (by omega) (by omega)
      rw [trF_cons, okF_e]
      show Con en _ _ _ (stpT (eF en (o + nS l - 1) == false) (o + nS l - 1) _)
      generalize trF (okF en) u = t at ih
      have onl : ∀ g, g ∈ t.1 → o + nS l ≤ g ∧ holF en (node l r) o g = holF en r (o + nS l) g := fun g hg => by
        have := (ih.on g).mp hg
        rw [hol_node, if_neg (by omega), if_neg (by omega)]
        exact ⟨by omega, rfl⟩
      have back : ∀ g, o ≤ g → g + 1 < o + (nS l + nS r) → holF en (node l r) o g = o + i → (g = o + nS l - 1 ∧ o + i = vicF en (node l r) o) ∨ (g ∈ t.1) := fun g h1 h2 h3 => by
        rw [hol_node] at h3
        by_cases g0 : g = o + nS l - 1
        · rw [if_pos g0] at h3
          exact .inl ⟨g0, h3.symm⟩
        · rw [if_neg g0] at h3
          by_cases g1 : g < o + nS l - 1
          · rw [if_pos g1] at h3
            have := hol_in en l o g h1 (by omega)
            omega
          · rw [if_neg g1] at h3
            exact .inr ((ih.on g).mpr ⟨by omega, by omega, h3⟩)
      obtain ⟨p, _ | x⟩ := t
      · have ev := ih.op rfl
        cases hc : eF en (o + nS l - 1) with
        | false =>
          show Con en _ _ _ ((o + nS l - 1) :: p, none)
          refine ⟨fun _ => by rw [vic_f en hc]; exact ev, fun h e => (by cases e), fun g => ⟨fun hg => ?_, fun ⟨h1, h2, h3⟩ => ?_⟩⟩
          · cases hg with
            | head =>
              refine ⟨by omega, by show _ < o + (nS l + nS r); omega, ?_⟩
              rw [hol_node, if_pos rfl, vic_f en hc]
              exact ev.symm
            | tail _ hg =>
              have a1 := onl g hg
              have a2 := (ih.on g).mp hg
              exact ⟨by omega, by show _ < o + (nS l + nS r); omega, a1.2.trans a2.2.2⟩
          · rcases back g h1 h2 h3 with ⟨e, _⟩ | hg
            · rw [e]
              exact .head _
            · exact .tail _ hg
        | true =>
          show Con en _ _ _ (p, some (o + nS l - 1))
          have nv : o + i ≠ vicF en (node l r) o := by
            rw [vic_t en hc]
            omega
          refine ⟨fun e => (by cases e), fun h e => ?_, fun g => ⟨fun hg => ?_, fun ⟨h1, h2, h3⟩ => ?_⟩⟩
          · cases e
            refine ⟨nv, by omega, by show _ < o + (nS l + nS r); omega, ?_, ?_⟩
            · rw [chn_ge en (by omega), hc, if_pos rfl, ev, chn_vic, hol_node, if_pos rfl, vic_t en hc]
              rfl
            · rw [rng_ge en nv (by omega), ev, rng_vic]
              unfold belF
              rw [hc, if_pos rfl, spn_node, if_pos rfl, show o + nS l - 1 + 1 = o + nS l by omega]
          · have a1 := onl g hg
            have a2 := (ih.on g).mp hg
            exact ⟨by omega, by show _ < o + (nS l + nS r); omega, a1.2.trans a2.2.2⟩
          · rcases back g h1 h2 h3 with ⟨_, e⟩ | hg
            · exact absurd e nv
            · exact hg
      · obtain ⟨c1, c2, c3, c4, c5⟩ := ih.cl x rfl
        have nv : o + i ≠ vicF en (node l r) o := by
          cases hc : eF en (o + nS l - 1) with
          | false =>
            rw [vic_f en hc]
            exact c1
          | true =>
            rw [vic_t en hc]
            omega
        show Con en _ _ _ (p, some x)
        refine ⟨fun e => (by cases e), fun h e => ?_, fun g => ⟨fun hg => ?_, fun ⟨h1, h2, h3⟩ => ?_⟩⟩
        · cases e
          refine ⟨nv, by omega, by show _ < o + (nS l + nS r); omega, ?_, ?_⟩
          · rw [hol_node, if_neg (by omega), if_neg (by omega), chn_ge en (by omega)]
            split
            · rw [List.getElem?_append_left (List.getElem?_eq_some_iff.mp c4).1]
              exact c4
            · exact c4
          · rw [rng_ge en nv (by omega), c5]
            unfold belF
            rw [spn_r (by omega)]
        · have a1 := onl g hg
          have a2 := (ih.on g).mp hg
          exact ⟨by omega, by show _ < o + (nS l + nS r); omega, a1.2.trans a2.2.2⟩
        · rcases back g h1 h2 h3 with ⟨_, e⟩ | hg
          · exact absurd e nv
          · exact hg
/-! ### ways that leave the flags -/
/-- a way that leaves the flags at a fork: the fork's slot is above -/
theorem off_chain : ∀ (b : TR) (o i : Nat) (w : Way) (g : Nat) (c : Bool), (wayB b o)[i]? = some w → (g, c) ∈ w → c ≠ eF en g → holF en b o g ∈ chnF en b o (o + i) ∧ holF en b o g ≠ o + i
  | leaf, o, i, w, g, c, h, hg, _ => by
    have h : ([[]] : List Way)[i]? = some w := h
    cases i with
    | succ i => cases h
    | zero =>
      cases h
      nomatch hg
  | node l r, o, i, w, g, c, h, hg, hc => by
    have p1 := nS_pos l
    have p2 := nS_pos r
    have vl := vic_in en l o
    have vr := vic_in en r (o + nS l)
    rcases way_node h with ⟨hi, u, hu, rfl⟩ | ⟨hi, u, hu, rfl⟩
    · have hum := List.mem_of_getElem? hu
      rcases List.mem_cons.mp hg with e | hg
      · have e1 : g = o + nS l - 1 := (Prod.mk.inj e).1
        have e2 : c = true := (Prod.mk.inj e).2
        subst e1 e2
        have hc : eF en (o + nS l - 1) = false := by
          cases h : eF en (o + nS l - 1) with
          | false => rfl
          | true => exact absurd h.symm hc
        rw [hol_node, if_pos rfl, vic_f en hc, chn_lt en (by omega), hc, if_neg Bool.false_ne_true]
        exact ⟨List.mem_append_right _ (.head _), by omega⟩
      · have ih := off_chain l o i u g c hu hg hc
        have hs := way_small l o u hum (g, c) hg
        have hs : o ≤ g ∧ g + 1 < o + nS l := hs
        rw [hol_node, if_neg (by omega), if_pos (by omega), chn_lt en (by omega)]
        refine ⟨?_, ih.2⟩
        split
        · exact ih.1
        · exact List.mem_append_left _ ih.1
    · have hum := List.mem_of_getElem? hu
      have hlen := (List.getElem?_eq_some_iff.mp hu).1
      rw [wayB_len] at hlen
      rcases List.mem_cons.mp hg with e | hg
      · have e1 : g = o + nS l - 1 := (Prod.mk.inj e).1
        have e2 : c = false := (Prod.mk.inj e).2
        subst e1 e2
        have hc : eF en (o + nS l - 1) = true := by
          cases h : eF en (o + nS l - 1) with
          | true => rfl
          | false => exact absurd h.symm hc
        rw [hol_node, if_pos rfl, vic_t en hc, chn_ge en (by omega), hc, if_pos rfl]
        exact ⟨List.mem_append_right _ (.head _), by omega⟩
      · have ih := off_chain r (o + nS l) (i - nS l) u g c hu hg hc
        rw [show o + nS l + (i - nS l) = o + i by omega] at ih
        have hs := way_small r (o + nS l) u hum (g, c) hg
        have hs : o + nS l ≤ g ∧ g + 1 < o + nS l + nS r := hs
        rw [hol_node, if_neg (by omega), if_neg (by omega), chn_ge en (by omega)]
        refine ⟨?_, ih.2⟩
        split
        · exact List.mem_append_left _ ih.1
        · exact ih.1
/-- a way through a slot's forks, of another slot, leaves the flags there -/
theorem off_range : ∀ (b : TR) (o i : Nat) (w : Way) (g s : Nat) (c : Bool), (wayB b o)[i]? = some w → (g, c) ∈ w → o ≤ s → s < o + nS b → inR (rngF en b o s) g → o + i ≠ s → ∃ st ∈ w, inR (rngF en b o s) st.1 ∧ st.2 ≠ eF en st.1
  | leaf, o, i, w, g, s, c, h, hg, _, _, _, _ => by
    have h : ([[]] : List Way)[i]? = some w := h
    cases i with
    | succ i => cases h
    | zero =>
      cases h
      nomatch hg
  | node l r, o, i, w, g, s, c, h, hg, s1, s2, hr, ne => by
    have s2 : s < o + (nS l + nS r) := s2
    have p1 := nS_pos l
    have p2 := nS_pos r
    have vl := vic_in en l o
    have vr := vic_in en r (o + nS l)
    by_cases ev : s = vicF en (node l r) o
    · have hcon := con_all en (node l r) o i w h
      cases ht : (trF (okF en) w).2 with
      | none => exact absurd ((hcon.op ht).trans ev.symm) ne
      | some x =>
        have hx : ∀ (u : Way) (p : List Nat) (x : Nat), trF (okF en) u = (p, some x) → ∃ st ∈ u, st.1 = x ∧ okF en st = false := by
          intro u
          induction u with
          | nil => exact fun p x e => by cases e
          | cons s0 u ih =>
            intro p x e
            rw [trF_cons] at e
            generalize hh : trF (okF en) u = t at e
            obtain ⟨q, _ | y⟩ := t
            · have e : (if okF en s0 then (s0.1 :: q, none) else (q, some s0.1) : Tr) = (p, some x) := e
              by_cases hm : okF en s0 = true
              · rw [if_pos hm] at e
                cases e
              · rw [if_neg hm] at e
                cases e
                exact ⟨s0, .head _, rfl, by simpa using hm⟩
            · have e : (q, some y) = (p, some x) := e
              cases e
              obtain ⟨st, h1, h2⟩ := ih _ _ hh
              exact ⟨st, .tail _ h1, h2⟩
        obtain ⟨st, h1, h2, h3⟩ := hx w _ x (Prod.ext rfl ht)
        have hs := way_small (node l r) o w (List.mem_of_getElem? h) st h1
        refine ⟨st, h1, ?_, fun e => ?_⟩
        · rw [ev, rng_vic]
          show o ≤ st.1 ∧ st.1 < o + nS (node l r) - 1
          omega
        · have : okF en st = (eF en st.1 == st.2) := rfl
          rw [this, e, beq_self_eq_true] at h3
          cases h3
    · have rl := rng_in en l o s
      have rr := rng_in en r (o + nS l) s
      rcases way_node h with ⟨hi, u, hu, rfl⟩ | ⟨hi, u, hu, rfl⟩
      · have hum := List.mem_of_getElem? hu
        by_cases hs : s < o + nS l
        · rw [rng_lt en ev hs] at hr ⊢
          rcases List.mem_cons.mp hg with e | hg
          · have e1 : g = o + nS l - 1 := (Prod.mk.inj e).1
            unfold inR at hr
            omega
          · obtain ⟨st, h1, h2⟩ := off_range l o i u g s c hu hg s1 hs hr ne
            exact ⟨st, .tail _ h1, h2⟩
        · rw [rng_ge en ev (by omega)] at hr
          have hs2 : g + 1 < o + nS l + 1 := by
            rcases List.mem_cons.mp hg with e | hg
            · have e1 : g = o + nS l - 1 := (Prod.mk.inj e).1
              omega
            · have := way_small l o u hum (g, c) hg
              have : o ≤ g ∧ g + 1 < o + nS l := this
              omega
          unfold inR at hr
          omega
      · have hum := List.mem_of_getElem? hu
        by_cases hs : s < o + nS l
        · rw [rng_lt en ev hs] at hr
          have hs2 : o + nS l ≤ g + 1 := by
            rcases List.mem_cons.mp hg with e | hg
            · have e1 : g = o + nS l - 1 := (Prod.mk.inj e).1
              omega
            · have := way_small r (o + nS l) u hum (g, c) hg
              have : o + nS l ≤ g ∧ g + 1 < o + nS l + nS r := this
              omega
          unfold inR at hr
          omega
        · rw [rng_ge en ev (by omega)] at hr ⊢
          rcases List.mem_cons.mp hg with e | hg
          · have e1 : g = o + nS l - 1 := (Prod.mk.inj e).1
            unfold inR at hr
            omega
          · obtain ⟨st, h1, h2⟩ := off_range r (o + nS l) (i - nS l) u g s c hu hg (by omega) (by omega) hr (by omega)
            exact ⟨st, .tail _ h1, h2⟩
/-- the forks below a slot are fewer than those below the slot on whose trail it hangs -/
def wdt (q : Nat × Nat) : Nat := q.2 - q.1
theorem wdt_up : ∀ (b : TR) (o s x : Nat), o ≤ s → s < o + nS b → (chnF en b o s)[1]? = some x → wdt (rngF en b o s) < wdt (rngF en b o x)
  | leaf, o, s, x, _, _, h => nomatch h
  | node l r, o, s, x, s1, s2, h => by
    have s2 : s < o + (nS l + nS r) := s2
    have p1 := nS_pos l
    have p2 := nS_pos r
    have vl := vic_in en l o
    have vr := vic_in en r (o + nS l)
    have whole : ∀ {j : Nat}, j = vicF en (node l r) o → wdt (rngF en (node l r) o j) = nS l + nS r - 1 := fun {j} e => by
      rw [e, rng_vic]
      show o + (nS l + nS r) - 1 - o = _
      omega
    have wl : ∀ j, wdt (rngF en l o j) ≤ nS l - 1 := fun j => by
      have := rng_in en l o j
      unfold wdt
      omega
    have wr : ∀ j, wdt (rngF en r (o + nS l) j) ≤ nS r - 1 := fun j => by
      have := rng_in en r (o + nS l) j
      unfold wdt
      omega
    by_cases hs : s < o + nS l
    · have ci := chn_in en l o s s1 hs
      rw [chn_lt en hs] at h
      cases hc : eF en (o + nS l - 1) with
      | true =>
        rw [hc, if_pos rfl] at h
        have ih := wdt_up l o s x s1 hs h
        have cx := ci x (List.mem_of_getElem? h)
        have ns : s ≠ vicF en (node l r) o := fun e => by
          rw [vic_t en hc] at e
          rw [e, chn_vic] at h
          cases h
        rw [rng_lt en ns hs]
        by_cases ex : x = vicF en (node l r) o
        · rw [whole ex]
          have := wl s
          omega
        · rw [rng_lt en ex cx.2]
          exact ih
      | false =>
        rw [hc, if_neg Bool.false_ne_true] at h
        have ns : s ≠ vicF en (node l r) o := fun e => by
          rw [vic_f en hc] at e
          omega
        rw [rng_lt en ns hs]
        cases h1 : (chnF en l o s)[1]? with
        | some y =>
          rw [List.getElem?_append_left (List.getElem?_eq_some_iff.mp h1).1, h1] at h
          have : y = x := Option.some.inj h
          subst this
          have cx := ci y (List.mem_of_getElem? h1)
          have ex : y ≠ vicF en (node l r) o := fun e => by
            rw [vic_f en hc] at e
            omega
          rw [rng_lt en ex cx.2]
          exact wdt_up l o s y s1 hs h1
        | none =>
          rw [(chn_step en l o s s1 hs).2 h1] at h
          have : vicF en r (o + nS l) = x := Option.some.inj h
          rw [whole (this.symm.trans (vic_f en hc).symm)]
          have := wl s
          omega
    · have ci := chn_in en r (o + nS l) s (by omega) (by omega)
      rw [chn_ge en (by omega)] at h
      cases hc : eF en (o + nS l - 1) with
      | false =>
        rw [hc, if_neg Bool.false_ne_true] at h
        have ih := wdt_up r (o + nS l) s x (by omega) (by omega) h
        have cx := ci x (List.mem_of_getElem? h)
        have ns : s ≠ vicF en (node l r) o := fun e => by
          rw [vic_f en hc] at e
          rw [e, chn_vic] at h
          cases h
        rw [rng_ge en ns (by omega)]
        by_cases ex : x = vicF en (node l r) o
        · rw [whole ex]
          have := wr s
          omega
        · rw [rng_ge en ex cx.1]
          exact ih
      | true =>
        rw [hc, if_pos rfl] at h
        have ns : s ≠ vicF en (node l r) o := fun e => by
          rw [vic_t en hc] at e
          omega
        rw [rng_ge en ns (by omega)]
        cases h1 : (chnF en r (o + nS l) s)[1]? with
        | some y =>
          rw [List.getElem?_append_left (List.getElem?_eq_some_iff.mp h1).1, h1] at h
          have : y = x := Option.some.inj h
          subst this
          have cx := ci y (List.mem_of_getElem? h1)
          have ex : y ≠ vicF en (node l r) o := fun e => by
            rw [vic_t en hc] at e
            omega
          rw [rng_ge en ex cx.1]
          exact wdt_up r (o + nS l) s y (by omega) (by omega) h1
        | none =>
          rw [(chn_step en r (o + nS l) s (by omega) (by omega)).2 h1] at h
          have : vicF en l o = x := Option.some.inj h
          rw [whole (this.symm.trans (vic_t en hc).symm)]
          have := wr s
          omega
end
end TR
namespace TR
/-! ### needed slots, hits -/
def cdB (b : Bool) : Nat := if b then 76 else 82
theorem cdB_inj {c d : Bool} (h : cdB c = cdB d) : c = d := by
  cases c <;> cases d <;> first | rfl | cases h
section
variable (en : List Bool) (dif : Nat → Bool) (b : TR)
def ndQ (i : Nat) : Bool := (List.range' (rngF en b 0 i).1 ((rngF en b 0 i).2 - (rngF en b 0 i).1)).any dif
theorem ndB_iff {i : Nat} : ndQ en dif b i = true ↔ ∃ f, inR (rngF en b 0 i) f ∧ dif f = true := by
  unfold ndQ
  rw [List.any_eq_true]
  have hr := (rng_in en b 0 i).2.2
  constructor
  · rintro ⟨f, hf, h⟩
    obtain ⟨h1, h2⟩ := List.mem_range'_1.mp hf
    exact ⟨f, ⟨h1, by omega⟩, h⟩
  · rintro ⟨f, ⟨h1, h2⟩, h⟩
    exact ⟨f, List.mem_range'_1.mpr ⟨h1, by omega⟩, h⟩
def dueB : List Nat := (List.range (nS b)).filter (ndQ en dif b)
abbrev chn0 (i : Nat) : List Nat := chnF en b 0 i
abbrev hol0 (f : Nat) : Nat := holF en b 0 f
abbrev par0 (i : Nat) : Option Nat := (chnF en b 0 i)[1]?
/-- needed: some chain from a fork that differs comes to it -/
theorem nd_chain {i : Nat} (hi : i < nS b) : ndQ en dif b i = true ↔ ∃ f, f + 1 < nS b ∧ dif f = true ∧ i ∈ chn0 en b (hol0 en b f) := by
  rw [ndB_iff]
  have hr := rng_in en b 0 i
  constructor
  · rintro ⟨f, h1, h2⟩
    unfold inR at h1
    have hf : f + 1 < nS b := by omega
    exact ⟨f, hf, h2, (chn_rng en b 0 f i (Nat.zero_le _) (by omega) (Nat.zero_le _) (by omega)).mpr h1⟩
  · rintro ⟨f, hf, h2, h1⟩
    exact ⟨f, (chn_rng en b 0 f i (Nat.zero_le _) (by omega) (Nat.zero_le _) (by omega)).mp h1, h2⟩
theorem chn0_in {i x : Nat} (hi : i < nS b) (h : x ∈ chn0 en b i) : x < nS b := by
  have := chn_in en b 0 i (Nat.zero_le _) (by omega) x h
  omega
theorem hol0_in {f : Nat} (hf : f + 1 < nS b) : hol0 en b f < nS b := by
  have h := (hol_in en b 0 f (Nat.zero_le _) (by omega)).2
  rw [Nat.zero_add] at h
  exact h
theorem chn_trans : ∀ (k s : Nat), (chn0 en b s).length ≤ k → s < nS b → ∀ y ∈ chn0 en b s, ∀ z ∈ chn0 en b y, z ∈ chn0 en b s
  | 0, s, h, hs, y, hy, z, hz => by
    obtain ⟨t, e⟩ := chn_head en b 0 s
    have h : (chnF en b 0 s).length ≤ 0 := h
    rw [e] at h
    cases h
  | k + 1, s, h, hs, y, hy, z, hz => by
    obtain ⟨h1, h2⟩ := chn_step en b 0 s (Nat.zero_le _) (by omega)
    cases e : (chnF en b 0 s)[1]? with
    | none =>
      have e2 := h2 e
      have hy : y ∈ chnF en b 0 s := hy
      rw [e2] at hy
      rw [List.mem_singleton.mp hy] at hz
      exact hz
    | some x =>
      have e2 := h1 x e
      have hy : y ∈ chnF en b 0 s := hy
      rw [e2] at hy
      rcases List.mem_cons.mp hy with rfl | hy
      · exact hz
      · have hx := chn0_in en b hs (List.mem_of_getElem? e)
        have hl : (chnF en b 0 x).length ≤ k := by
          have h : (chnF en b 0 s).length ≤ k + 1 := h
          rw [e2, List.length_cons] at h
          omega
        show z ∈ chnF en b 0 s
        rw [e2]
        exact .tail _ (chn_trans k x hl hx y hy z hz)
/-- whoever a needed slot's chain comes to is needed -/
theorem nd_up {i z : Nat} (hi : i < nS b) (h : ndQ en dif b i = true) (hz : z ∈ chn0 en b i) : ndQ en dif b z = true := by
  have hz2 := chn0_in en b hi hz
  obtain ⟨f, h1, h2, h3⟩ := (nd_chain en dif b hi).mp h
  exact (nd_chain en dif b hz2).mpr ⟨f, h1, h2, chn_trans en b _ _ (Nat.le_refl _) (hol0_in en b h1) i h3 z hz⟩
theorem nd_hol {f : Nat} (hf : f + 1 < nS b) (h : dif f = true) : ndQ en dif b (hol0 en b f) = true := by
  obtain ⟨t, e⟩ := chn_head en b 0 (hol0 en b f)
  refine (nd_chain en dif b (hol0_in en b hf)).mpr ⟨f, hf, h, ?_⟩
  show _ ∈ chnF en b 0 _
  rw [e]
  exact .head _
theorem due_mem {i : Nat} : i ∈ dueB en dif b ↔ i < nS b ∧ ndQ en dif b i = true := by
  unfold dueB
  rw [List.mem_filter, List.mem_range]
/-- a free one among those left -/
theorem free_one (left : List Nat) (hl : ∀ x ∈ left, x < nS b) (h0 : left ≠ []) : ∃ x ∈ left, ∀ y ∈ left, par0 en b y ≠ some x := by
  have : ∀ (k : Nat) (x : Nat), x ∈ left → wdt (rngF en b 0 x) ≤ k → ∃ x ∈ left, ∀ y ∈ left, par0 en b y ≠ some x := by
    intro k
    induction k with
    | zero =>
      intro x hx hw
      refine ⟨x, hx, fun y hy e => ?_⟩
      have := wdt_up en b 0 y x (Nat.zero_le _) (by have := hl y hy; omega) e
      omega
    | succ k ih =>
      intro x hx hw
      by_cases h : ∃ y ∈ left, par0 en b y = some x
      · obtain ⟨y, hy, e⟩ := h
        have := wdt_up en b 0 y x (Nat.zero_le _) (by have := hl y hy; omega) e
        exact ih y hy (by omega)
      · exact ⟨x, hx, fun y hy e => h ⟨y, hy, e⟩⟩
  cases left with
  | nil => exact absurd rfl h0
  | cons x l => exact this _ x (.head _) (Nat.le_refl _)
end
/-! hits -/
def hitL (s : List Nat) (w : Way) : List Nat := w.foldl (fun s t => s.set t.1 (cdB t.2)) s
theorem hitL_len : ∀ (w : Way) (s : List Nat), (hitL s w).length = s.length
  | [], _ => rfl
  | t :: w, s => by
    show (hitL (s.set t.1 (cdB t.2)) w).length = _
    rw [hitL_len w, List.length_set]
theorem way_forks : ∀ (b : TR) (o : Nat), ∀ w ∈ wayB b o, (w.map Prod.fst).Nodup
  | leaf, o, w, h => by
    rw [List.mem_singleton.mp (show w ∈ [[]] from h)]
    exact List.nodup_nil
  | node l r, o, w, h => by
    have p1 := nS_pos l
    rcases List.mem_append.mp h with h | h
    · obtain ⟨u, hu, rfl⟩ := List.mem_map.mp h
      refine List.nodup_cons.mpr ⟨fun hm => ?_, way_forks l o u hu⟩
      obtain ⟨t, ht, e⟩ := List.mem_map.mp hm
      have := way_small l o u hu t ht
      have e : t.1 = o + nS l - 1 := e
      omega
    · obtain ⟨u, hu, rfl⟩ := List.mem_map.mp h
      refine List.nodup_cons.mpr ⟨fun hm => ?_, way_forks r _ u hu⟩
      obtain ⟨t, ht, e⟩ := List.mem_map.mp hm
      have := way_small r _ u hu t ht
      have e : t.1 = o + nS l - 1 := e
      omega
/-- a hit sets what its way tells -/
theorem hit_on : ∀ (w : Way) (s : List Nat) (f : Nat) (c : Bool), (w.map Prod.fst).Nodup → (f, c) ∈ w → f < s.length → (hitL s w)[f]? = some (cdB c)
  | t :: w, s, f, c, hn, hm, hf => by
    obtain ⟨n1, n2⟩ := List.nodup_cons.mp hn
    show (hitL (s.set t.1 (cdB t.2)) w)[f]? = _
    rcases List.mem_cons.mp hm with e | hm
    · have off : ∀ (w : Way) (s : List Nat), f ∉ w.map Prod.fst → (hitL s w)[f]? = s[f]? := by
        intro w
        induction w with
        | nil => exact fun _ _ => rfl
        | cons t w ih =>
          intro s h
          show (hitL (s.set t.1 (cdB t.2)) w)[f]? = _
          rw [ih _ fun z => h (.tail _ z), List.getElem?_set_ne fun z => h (by rw [← z]; exact .head _)]
      subst e
      rw [off w _ n1, List.getElem?_set_self hf]
    · exact hit_on w _ f c n2 hm (by rw [List.length_set]; exact hf)
  | [], _, _, _, _, hm, _ => nomatch hm
theorem hit_off : ∀ (w : Way) (s : List Nat) (f : Nat), (∀ c, (f, c) ∉ w) → (hitL s w)[f]? = s[f]?
  | [], _, _, _ => rfl
  | t :: w, s, f, h => by
    show (hitL (s.set t.1 (cdB t.2)) w)[f]? = _
    rw [hit_off w _ f fun c z => h c (.tail _ z), List.getElem?_set_ne fun z => h t.2 (by rw [← z]; exact .head _)]
def hitsL (s : List Nat) (ws : List Way) : List Nat := ws.foldl hitL s
theorem hitsL_len : ∀ (ws : List Way) (s : List Nat), (hitsL s ws).length = s.length
  | [], _ => rfl
  | w :: ws, s => by
    show (hitsL (hitL s w) ws).length = _
    rw [hitsL_len ws, hitL_len]
theorem hitsL_snoc (s : List Nat) (ws : List Way) (w : Way) : hitsL s (ws ++ [w]) = hitL (hitsL s ws) w := by
  unfold hitsL
  rw [List.foldl_append]
  rfl
theorem hits_off : ∀ (ws : List Way) (s : List Nat) (f : Nat), (∀ w ∈ ws, ∀ c, (f, c) ∉ w) → (hitsL s ws)[f]? = s[f]?
  | [], _, _, _ => rfl
  | w :: ws, s, f, h => by
    show (hitsL (hitL s w) ws)[f]? = _
    rw [hits_off ws _ f fun u hu => h u (.tail _ hu), hit_off w s f (h w (.head _))]
/-- the last way of the row that P holds of -/
theorem last_of {α : Type} (P : α → Prop) [DecidablePred P] : ∀ l : List α, (∃ x ∈ l, P x) → ∃ u x v, l = u ++ x :: v ∧ P x ∧ ∀ y ∈ v, ¬ P y
  | [], h => by
    obtain ⟨x, hx, _⟩ := h
    nomatch hx
  | a :: l, h => by
    by_cases h2 : ∃ x ∈ l, P x
    · obtain ⟨u, x, v, e, h3, h4⟩ := last_of P l h2
      exact ⟨a :: u, x, v, by rw [e]; rfl, h3, h4⟩
    · obtain ⟨x, hx, hp⟩ := h
      rcases List.mem_cons.mp hx with e | hx
      · exact ⟨[], a, l, rfl, by rw [← e]; exact hp, fun y hy hq => h2 ⟨y, hy, hq⟩⟩
      · exact absurd ⟨x, hx, hp⟩ h2
def wy (b : TR) (i : Nat) : Way := (wayB b 0).getD i []
theorem wy_at {b : TR} {i : Nat} (h : i < nS b) : (wayB b 0)[i]? = some (wy b i) := by
  unfold wy
  rw [List.getD_eq_getElem?_getD, List.getElem?_eq_getElem (by rw [wayB_len]; exact h)]
  rfl
theorem wy_nodup {b : TR} {i : Nat} (h : i < nS b) : ((wy b i).map Prod.fst).Nodup := way_forks b 0 _ (List.mem_of_getElem? (wy_at h))
theorem wy_small {b : TR} {i : Nat} (h : i < nS b) : ∀ t ∈ wy b i, t.1 + 1 < nS b := fun t ht => by
  have := way_small b 0 _ (List.mem_of_getElem? (wy_at h)) t ht
  omega
/-- a fork's slot passes it as the flags tell -/
theorem hol_way {en : List Bool} {b : TR} {f : Nat} (hf : f + 1 < nS b) : hol0 en b f < nS b ∧ (f, eF en f) ∈ wy b (hol0 en b f) := by
  have hi : hol0 en b f < nS b := hol0_in en b hf
  refine ⟨hi, ?_⟩
  have hc := con_all en b 0 _ _ (wy_at hi)
  have hm := (hc.on f).mpr ⟨Nat.zero_le _, by omega, (Nat.zero_add _).symm⟩
  obtain ⟨s, h1, h2, h3⟩ := trF_fit _ _ _ hm
  have : okF en s = (eF en s.1 == s.2) := rfl
  rw [this, beq_iff_eq, h2] at h3
  have e2 : s = (f, eF en f) := Prod.ext h2 h3.symm
  rw [← e2]
  exact h1
instance decEx (f : Nat) (w : Way) : Decidable (∃ c, (f, c) ∈ w) := decidable_of_iff (f ∈ w.map Prod.fst) ⟨fun h => by
  obtain ⟨t, ht, e⟩ := List.mem_map.mp h
  exact ⟨t.2, by rw [← e]; exact ht⟩, fun ⟨c, h⟩ => List.mem_map.mpr ⟨(f, c), h, rfl⟩⟩
/-- hits at the needed slots, children first, lead to the end -/
theorem plays_end {en : List Bool} {b : TR} {st : List Nat} {ord : List Nat} (hs : st.length + 1 = nS b) (hm : ∀ i, i ∈ ord ↔ i ∈ dueB en (fun f => decide (st[f]? ≠ some (cdB (eF en f)))) b)
    (hp : ord.Pairwise fun x y => par0 en b y ≠ some x) (f : Nat) (hf : f + 1 < nS b) : (hitsL st (ord.map (wy b)))[f]? = some (cdB (eF en f)) := by
  have hlt : ∀ i ∈ ord, i < nS b := fun i h => ((due_mem _ _ _).mp ((hm i).mp h)).1
  by_cases h : ∃ i ∈ ord, ∃ c, (f, c) ∈ wy b i
  · obtain ⟨u, s, v, e, ⟨c, hc⟩, hv⟩ := last_of (fun i => ∃ c, (f, c) ∈ wy b i) ord h
    have hso : s ∈ ord := by rw [e]; exact List.mem_append_right _ (.head _)
    have hs1 := hlt s hso
    by_cases hcc : c = eF en f
    · subst hcc
      have e2 : ord.map (wy b) = u.map (wy b) ++ [wy b s] ++ v.map (wy b) := by
        rw [e, List.map_append, List.append_assoc]
        rfl
      have hfold : hitsL st (ord.map (wy b)) = hitsL (hitL (hitsL st (u.map (wy b))) (wy b s)) (v.map (wy b)) := by
        rw [e2]
        show List.foldl hitL st (u.map (wy b) ++ [wy b s] ++ v.map (wy b)) = _
        rw [List.foldl_append]
        rw [show List.foldl hitL st (u.map (wy b) ++ [wy b s]) = hitL (hitsL st (u.map (wy b))) (wy b s) from hitsL_snoc st _ _]
        rfl
      rw [hfold, hits_off _ _ _ fun w hw c hcw => ?_]
      · exact hit_on _ _ _ _ (wy_nodup hs1) hc (by rw [hitsL_len]; omega)
      · obtain ⟨y, hy, rfl⟩ := List.mem_map.mp hw
        exact hv y hy ⟨c, hcw⟩
    · exfalso
      have off := off_chain en b 0 s (wy b s) f c (wy_at hs1) hc hcc
      rw [Nat.zero_add] at off
      have hnd := ((due_mem _ _ _).mp ((hm s).mp hso)).2
      have key : ∀ (k y : Nat), (chn0 en b y).length ≤ k → (y = s ∨ y ∈ v) → y ∈ ord → ∀ z ∈ chn0 en b y, z = s ∨ z ∈ v := by
        intro k
        induction k with
        | zero =>
          intro y hk
          obtain ⟨t, e⟩ := chn_head en b 0 y
          have hk : (chnF en b 0 y).length ≤ 0 := hk
          rw [e] at hk
          cases hk
        | succ k ih =>
          intro y hk hy hyo z hz
          have hy1 := hlt y hyo
          obtain ⟨a1, a2⟩ := chn_step en b 0 y (Nat.zero_le _) (by omega)
          cases ep : (chnF en b 0 y)[1]? with
          | none =>
            have hz : z ∈ chnF en b 0 y := hz
            rw [a2 ep] at hz
            rw [List.mem_singleton.mp hz]
            exact hy
          | some x =>
            have ec := a1 x ep
            have hz : z ∈ chnF en b 0 y := hz
            have hx : x ∈ chn0 en b y := List.mem_of_getElem? ep
            have hxo : x ∈ ord := (hm x).mpr ((due_mem _ _ _).mpr ⟨chn0_in en b hy1 hx, nd_up en _ b hy1 ((due_mem _ _ _).mp ((hm y).mp hyo)).2 hx⟩)
            have hw := wdt_up en b 0 y x (Nat.zero_le _) (by omega) ep
            have nxy : x ≠ y := fun q => by
              rw [q] at hw
              omega
            have hxv : x = s ∨ x ∈ v := by
              rw [e] at hp hxo
              obtain ⟨p1, p2, p3⟩ := List.pairwise_append.mp hp
              rcases List.mem_append.mp hxo with hxu | hxo
              · exact absurd ep (p3 x hxu y (by
                  rcases hy with rfl | hy
                  · exact .head _
                  · exact .tail _ hy))
              · rcases List.mem_cons.mp hxo with q | q
                · exact .inl q
                · exact .inr q
            rw [ec] at hz
            rcases List.mem_cons.mp hz with rfl | hz
            · exact hy
            · refine ih x ?_ hxv hxo z hz
              have hk : (chnF en b 0 y).length ≤ k + 1 := hk
              rw [ec, List.length_cons] at hk
              show (chnF en b 0 x).length ≤ k
              omega
      have hl := hol_way (en := en) (b := b) hf
      rcases key _ s (Nat.le_refl _) (.inl rfl) hso _ off.1 with q | q
      · exact off.2 q
      · exact hv _ q ⟨_, hl.2⟩
  · rw [hits_off _ _ _ fun w hw c hcw => ?_]
    · by_cases hd : st[f]? = some (cdB (eF en f))
      · exact hd
      · exfalso
        have hl := hol_way (en := en) (b := b) hf
        exact h ⟨_, (hm _).mpr ((due_mem _ _ _).mpr ⟨hl.1, nd_hol en _ b hf (decide_eq_true hd)⟩), _, hl.2⟩
    · obtain ⟨y, hy, rfl⟩ := List.mem_map.mp hw
      exact h ⟨y, hy, c, hcw⟩
/-- who must be hit -/
theorem comes_due {en : List Bool} {b : TR} {st : List Nat} {row : List Nat} (hs : st.length + 1 = nS b) (hr : ∀ i ∈ row, i < nS b) (he : ∀ f, f + 1 < nS b → (hitsL st (row.map (wy b)))[f]? = some (cdB (eF en f))) :
    ∀ i ∈ dueB en (fun f => decide (st[f]? ≠ some (cdB (eF en f)))) b, i ∈ row := by
  intro i hi
  obtain ⟨h1, h2⟩ := (due_mem _ _ _).mp hi
  obtain ⟨f, hf, hd⟩ := (ndB_iff _ _ _).mp h2
  have hri := rng_in en b 0 i
  have hd := of_decide_eq_true hd
  have hf1 : f + 1 < nS b := by
    unfold inR at hf
    omega
  have hex : ∃ s ∈ row, ∃ g ∈ (wy b s).map Prod.fst, (rngF en b 0 i).1 ≤ g ∧ g < (rngF en b 0 i).2 := by
    apply Classical.byContradiction
    intro hno
    refine hd ?_
    rw [← he f hf1, hits_off]
    intro w hw c hc
    obtain ⟨s, hsr, rfl⟩ := List.mem_map.mp hw
    exact hno ⟨s, hsr, f, List.mem_map.mpr ⟨(f, c), hc, rfl⟩, hf⟩
  obtain ⟨u, s, v, e, ⟨g, hg, hgr⟩, hv⟩ := last_of (fun s => ∃ g ∈ (wy b s).map Prod.fst, (rngF en b 0 i).1 ≤ g ∧ g < (rngF en b 0 i).2) row hex
  have hsr : s ∈ row := by rw [e]; exact List.mem_append_right _ (.head _)
  have hs1 := hr s hsr
  by_cases hsi : s = i
  · rw [← hsi]
    exact hsr
  · exfalso
    obtain ⟨t, ht, et⟩ := List.mem_map.mp hg
    obtain ⟨x, hx, hxr, hxc⟩ := off_range en b 0 s (wy b s) g i t.2 (wy_at hs1) (by rw [← et]; exact ht) (Nat.zero_le _) (by omega) hgr (by omega)
    have hx1 := wy_small hs1 x hx
    have e2 : row.map (wy b) = u.map (wy b) ++ [wy b s] ++ v.map (wy b) := by
      rw [e, List.map_append, List.append_assoc]
      rfl
    have hfold : hitsL st (row.map (wy b)) = hitsL (hitL (hitsL st (u.map (wy b))) (wy b s)) (v.map (wy b)) := by
      rw [e2]
      show List.foldl hitL st (u.map (wy b) ++ [wy b s] ++ v.map (wy b)) = _
      rw [List.foldl_append]
      rw [show List.foldl hitL st (u.map (wy b) ++ [wy b s]) = hitL (hitsL st (u.map (wy b))) (wy b s) from hitsL_snoc st _ _]
      rfl
    have h5 := he x.1 hx1
    rw [hfold, hits_off _ _ _ fun w hw c hcw => ?_, hit_on _ _ _ x.2 (wy_nodup hs1) hx (by rw [hitsL_len]; omega)] at h5
    · exact hxc (cdB_inj (Option.some.inj h5))
    · obtain ⟨y, hy, rfl⟩ := List.mem_map.mp hw
      exact hv y hy ⟨x.1, List.mem_map.mpr ⟨(x.1, c), hcw, rfl⟩, hxr⟩
end TR
namespace TR
/-! ### the hangs -/
theorem hang_t (f : Nat) : ∀ L : List Tr, (L.map (stpT true f)).map Prod.snd = L.map Prod.snd
  | [] => rfl
  | (p, none) :: L => congrArg (none :: ·) (hang_t f L)
  | (p, some x) :: L => congrArg (some x :: ·) (hang_t f L)
def clo (f : Nat) (h : Option Nat) : Option Nat := match h with
  | none => some f
  | some x => some x
theorem hang_f (f : Nat) : ∀ L : List Tr, (L.map (stpT false f)).map Prod.snd = (L.map Prod.snd).map (clo f)
  | [] => rfl
  | (p, none) :: L => congrArg (some f :: ·) (hang_f f L)
  | (p, some x) :: L => congrArg (some x :: ·) (hang_f f L)
theorem clo_some (f : Nat) : ∀ l : List Nat, (l.map some).map (clo f) = l.map some
  | [] => rfl
  | x :: l => congrArg (some x :: ·) (clo_some f l)
theorem hangs_all (m : Nat × Bool → Bool) (hm : ∀ f, m (f, true) = !m (f, false)) : ∀ (b : TR) (o : Nat), (((wayB b o).map (trF m)).map Prod.snd).Perm (none :: (List.range' o (nS b - 1)).map some)
  | leaf, o => .refl _
  | node l r, o => by
    have h1 := hangs_all m hm l o
    have h2 := hangs_all m hm r (o + nS l)
    have pl := nS_pos l
    have pr := nS_pos r
    have e : ((wayB (node l r) o).map (trF m)) = ((wayB l o).map (trF m)).map (stpT (m (o + nS l - 1, true)) (o + nS l - 1)) ++ ((wayB r (o + nS l)).map (trF m)).map (stpT (m (o + nS l - 1, false)) (o + nS l - 1)) := by
      show List.map _ (_ ++ _) = _
      rw [List.map_append, List.map_map, List.map_map, List.map_map, List.map_map]
      exact congr (congrArg HAppend.hAppend (List.map_congr_left fun w _ => trF_cons m _ w)) (List.map_congr_left fun w _ => trF_cons m _ w)
    have er : List.range' o (nS (node l r) - 1) = List.range' o (nS l - 1) ++ (o + nS l - 1) :: List.range' (o + nS l) (nS r - 1) := by
      rw [show nS (node l r) - 1 = (nS l - 1) + (nS r - 1 + 1) by (show nS l + nS r - 1 = _; omega), ← List.range'_append_1, show o + (nS l - 1) = o + nS l - 1 by omega, List.range'_succ, show o + nS l - 1 + 1 = o + nS l by omega]
    rw [e, er, List.map_append, hm (o + nS l - 1)]
    generalize (wayB l o).map (trF m) = L at h1
    generalize (wayB r (o + nS l)).map (trF m) = R at h2
    generalize o + nS l - 1 = f
    rw [List.map_append, List.map_cons]
    generalize List.range' o (nS l - 1) = ll at h1
    generalize List.range' (o + nS l) (nS r - 1) = rr at h2
    cases m (f, false) with
    | false =>
      show ((L.map (stpT true f)).map Prod.snd ++ (R.map (stpT false f)).map Prod.snd).Perm _
      rw [hang_t, hang_f]
      have h3 := h2.map (clo f)
      rw [List.map_cons, clo_some] at h3
      exact (h1.append h3)
    | true =>
      show ((L.map (stpT false f)).map Prod.snd ++ (R.map (stpT true f)).map Prod.snd).Perm _
      rw [hang_t, hang_f]
      have h3 := h1.map (clo f)
      rw [List.map_cons, clo_some] at h3
      refine (h3.append h2).trans ?_
      show (some f :: (ll.map some ++ none :: rr.map some)).Perm (none :: (ll.map some ++ some f :: rr.map some))
      refine ((List.perm_middle (a := none)).cons (some f)).trans ?_
      refine (List.Perm.swap _ _ _).trans ?_
      exact (List.perm_middle.symm).cons none
section
variable (en : List Bool) (dif : Nat → Bool) (b : TR)
/-- the forks that a hang tells -/
def hrg : Option Nat → Nat × Nat
  | none => (0, nS b - 1)
  | some h => belF en b 0 h
def difR (q : Nat × Nat) : Bool := (List.range' q.1 (q.2 - q.1)).any dif
theorem con_rng {i : Nat} {t : Tr} (h : (trB b en)[i]? = some t) : rngF en b 0 i = hrg en b t.2 ∧ par0 en b i = t.2.map (hol0 en b) := by
  unfold trB at h
  rw [List.getElem?_map] at h
  cases e : (wayB b 0)[i]? with
  | none =>
    rw [e] at h
    cases h
  | some w =>
    rw [e] at h
    have et : trF (okF en) w = t := Option.some.inj h
    have hc := con_all en b 0 i w e
    rw [Nat.zero_add, et] at hc
    have hi : i < nS b := by
      have := (List.getElem?_eq_some_iff.mp e).1
      rw [wayB_len] at this
      exact this
    obtain ⟨p, _ | x⟩ := t
    · have hv := hc.op rfl
      constructor
      · rw [hv, rng_vic, Nat.zero_add]
        rfl
      · show (chnF en b 0 i)[1]? = none
        rw [hv, chn_vic]
        rfl
    · obtain ⟨c1, c2, c3, c4, c5⟩ := hc.cl x rfl
      exact ⟨c5, c4⟩
theorem nd_hang {i : Nat} {t : Tr} (h : (trB b en)[i]? = some t) : ndQ en dif b i = difR dif (hrg en b t.2) := by
  unfold ndQ
  rw [(con_rng en b h).1]
  rfl
theorem due_count : (dueB en dif b).length = (none :: (List.range (nS b - 1)).map some).countP fun h => difR dif (hrg en b h) := by
  have e : dueB en dif b = (List.range (nS b)).filter fun i => difR dif (hrg en b ((trB b en).getD i ([], none)).2) := by
    unfold dueB
    refine List.filter_congr fun i hi => ?_
    have hi := List.mem_range.mp hi
    have hg : (trB b en)[i]? = some ((trB b en).getD i ([], none)) := by
      rw [List.getD_eq_getElem?_getD, List.getElem?_eq_getElem (by rw [trB_len]; exact hi)]
      rfl
    exact nd_hang en dif b hg
  rw [e, ← List.countP_eq_length_filter]
  have hp := hangs_all (okF en) (okF_not en) b 0
  rw [← List.range_eq_range'] at hp
  rw [← hp.countP_eq]
  have e2 : (((wayB b 0).map (trF (okF en))).map Prod.snd) = (List.range (nS b)).map fun i => ((trB b en).getD i ([], none)).2 := by
    refine List.ext_getElem? fun i => ?_
    rw [show (List.map Prod.snd ((wayB b 0).map (trF (okF en))))[i]? = ((trB b en)[i]?).map Prod.snd from List.getElem?_map, List.getElem?_map]
    by_cases hi : i < nS b
    · rw [List.getElem?_range hi]
      show _ = some ((trB b en).getD i ([], none)).2
      rw [List.getD_eq_getElem?_getD, List.getElem?_eq_getElem (by rw [trB_len]; exact hi)]
      rfl
    · rw [List.getElem?_eq_none (by rw [trB_len]; omega), List.getElem?_eq_none (by rw [List.length_range]; omega)]
      rfl
  rw [e2, List.countP_map]
  rfl
/-- spans of the rows -/
theorem rows_spans : ∀ (b : TR) (o p : Nat), ∀ row ∈ rowsB b o p, row.2.2.2.1 = spnF b o row.1
  | leaf, _, _, row, h => nomatch h
  | node l r, o, p, row, h => by
    have pl := nS_pos l
    have kl : ∀ row ∈ rowsB l o (p + 1), o ≤ row.1 ∧ row.1 + 1 < o + nS l := fun row hr => by
      have := (rows_keys l o (p + 1)).mem_iff.mp (List.mem_map.mpr ⟨row, hr, rfl⟩)
      have := List.mem_range'_1.mp this
      omega
    have kr : ∀ row ∈ rowsB r (o + nS l) (p + 1 + (txt l).length), o + nS l ≤ row.1 := fun row hr => by
      have := (rows_keys r _ _).mem_iff.mp (List.mem_map.mpr ⟨row, hr, rfl⟩)
      have := List.mem_range'_1.mp this
      omega
    rcases List.mem_append.mp h with h | h
    · rw [spn_l (kl row h).2]
      exact rows_spans l o _ row h
    · rcases List.mem_append.mp h with h | h
      · rw [spn_r (kr row h)]
        exact rows_spans r _ _ row h
      · rw [List.mem_singleton.mp h]
        show (o, o + nS l + nS r - 1) = spnF (node l r) o (o + nS l - 1)
        rw [spn_node, if_pos rfl]
end
/-! ### orders -/
theorem order_ex (en : List Bool) (b : TR) : ∀ (k : Nat) (left : List Nat), left.length ≤ k → left.Nodup → (∀ x ∈ left, x < nS b) → ∃ ord : List Nat, ord.Perm left ∧ ord.Pairwise fun x y => par0 en b y ≠ some x
  | 0, left, h, _, _ => by
    have : left = [] := List.length_eq_zero_iff.mp (by omega)
    subst this
    exact ⟨[], .refl _, .nil⟩
  | k + 1, left, h, nd, hl => by
    by_cases h0 : left = []
    · subst h0
      exact ⟨[], .refl _, .nil⟩
    · obtain ⟨x, hx, hf⟩ := free_one en b left hl h0
      have hp := List.perm_cons_erase hx
      have hle := hp.length_eq
      rw [List.length_cons] at hle
      obtain ⟨ord, h1, h2⟩ := order_ex en b k (left.erase x) (by omega) (nd.erase x) fun y hy => hl y (List.mem_of_mem_erase hy)
      exact ⟨x :: ord, (h1.cons x).trans hp.symm, .cons (fun y hy => hf y (List.mem_of_mem_erase (h1.mem_iff.mp hy))) h2⟩
/-! ### the search -/
abbrev SL := List Nat
def addS (acc : List SL × List SL) (x : SL) : List SL × List SL := if x ∈ acc.1 then acc else (acc.1 ++ [x], acc.2 ++ [x])
theorem addS_mem (acc : List SL × List SL) (x y : SL) : y ∈ (addS acc x).1 ↔ y ∈ acc.1 ∨ y = x := by
  unfold addS
  split
  · rename_i h
    exact ⟨.inl, fun z => z.elim id fun e => by rw [e]; exact h⟩
  · rw [List.mem_append, List.mem_singleton]
theorem addS_two (seen : List SL) (acc : List SL × List SL) (x : SL) (h : ∀ y, y ∈ acc.1 ↔ y ∈ seen ∨ y ∈ acc.2) : ∀ y, y ∈ (addS acc x).1 ↔ y ∈ seen ∨ y ∈ (addS acc x).2 := by
  intro y
  unfold addS
  split
  · exact h y
  · rw [List.mem_append, List.mem_append, h y, or_assoc]
theorem addS_len (acc : List SL × List SL) (x : SL) : (addS acc x).1.length ≤ acc.1.length + 1 ∧ (addS acc x).2.length ≤ acc.2.length + 1 := by
  unfold addS
  split
  · omega
  · rw [List.length_append, List.length_append, List.length_singleton]
    exact ⟨Nat.le_refl _, Nat.le_refl _⟩
def stpS (ways : List Way) (acc : List SL × List SL) (s : SL) : List SL × List SL := ways.foldl (fun acc w => addS acc (hitL s w)) acc
def expS (ways : List Way) (acc : List SL × List SL) (states : List SL) : List SL × List SL := states.foldl (stpS ways) acc
theorem stpS_mem (s : SL) : ∀ (ways : List Way) (acc : List SL × List SL) (y : SL), y ∈ (stpS ways acc s).1 ↔ y ∈ acc.1 ∨ ∃ w ∈ ways, y = hitL s w
  | [], acc, y => ⟨.inl, fun z => z.elim id fun ⟨_, h, _⟩ => nomatch h⟩
  | w :: ways, acc, y => by
    show y ∈ (stpS ways (addS acc (hitL s w)) s).1 ↔ _
    rw [stpS_mem s ways, addS_mem]
    constructor
    · rintro ((h | h) | ⟨u, hu, h⟩)
      · exact .inl h
      · exact .inr ⟨w, .head _, h⟩
      · exact .inr ⟨u, .tail _ hu, h⟩
    · rintro (h | ⟨u, hu, h⟩)
      · exact .inl (.inl h)
      · cases hu with
        | head => exact .inl (.inr h)
        | tail _ hu => exact .inr ⟨u, hu, h⟩
theorem stpS_two (seen : List SL) (s : SL) : ∀ (ways : List Way) (acc : List SL × List SL), (∀ y, y ∈ acc.1 ↔ y ∈ seen ∨ y ∈ acc.2) → ∀ y, y ∈ (stpS ways acc s).1 ↔ y ∈ seen ∨ y ∈ (stpS ways acc s).2
  | [], acc, h => h
  | w :: ways, acc, h => stpS_two seen s ways _ (addS_two seen acc _ h)
theorem stpS_len (s : SL) : ∀ (ways : List Way) (acc : List SL × List SL), (stpS ways acc s).1.length ≤ acc.1.length + ways.length ∧ (stpS ways acc s).2.length ≤ acc.2.length + ways.length
  | [], _ => ⟨Nat.le_refl _, Nat.le_refl _⟩
  | w :: ways, acc => by
    have h1 := addS_len acc (hitL s w)
    have h2 := stpS_len s ways (addS acc (hitL s w))
    show (stpS ways (addS acc (hitL s w)) s).1.length ≤ acc.1.length + (ways.length + 1) ∧ (stpS ways (addS acc (hitL s w)) s).2.length ≤ acc.2.length + (ways.length + 1)
    omega
theorem expS_mem (ways : List Way) : ∀ (states : List SL) (acc : List SL × List SL) (y : SL), y ∈ (expS ways acc states).1 ↔ y ∈ acc.1 ∨ ∃ s ∈ states, ∃ w ∈ ways, y = hitL s w
  | [], acc, y => ⟨.inl, fun z => z.elim id fun ⟨_, h, _⟩ => nomatch h⟩
  | s :: states, acc, y => by
    show y ∈ (expS ways (stpS ways acc s) states).1 ↔ _
    rw [expS_mem ways states, stpS_mem]
    constructor
    · rintro ((h | h) | ⟨u, hu, h⟩)
      · exact .inl h
      · exact .inr ⟨s, .head _, h⟩
      · exact .inr ⟨u, .tail _ hu, h⟩
    · rintro (h | ⟨u, hu, h⟩)
      · exact .inl (.inl h)
      · cases hu with
        | head => exact .inl (.inr h)
        | tail _ hu => exact .inr ⟨u, hu, h⟩
theorem expS_two (seen : List SL) (ways : List Way) : ∀ (states : List SL) (acc : List SL × List SL), (∀ y, y ∈ acc.1 ↔ y ∈ seen ∨ y ∈ acc.2) → ∀ y, y ∈ (expS ways acc states).1 ↔ y ∈ seen ∨ y ∈ (expS ways acc states).2
  | [], acc, h => h
  | s :: states, acc, h => expS_two seen ways states _ (stpS_two seen s ways acc h)
theorem expS_len (ways : List Way) : ∀ (states : List SL) (acc : List SL × List SL), (expS ways acc states).1.length ≤ acc.1.length + states.length * ways.length ∧ (expS ways acc states).2.length ≤ acc.2.length + states.length * ways.length
  | [], _ => ⟨Nat.le_add_right _ _, Nat.le_add_right _ _⟩
  | s :: states, acc => by
    have h1 := stpS_len s ways acc
    have h2 := expS_len ways states (stpS ways acc s)
    show (expS ways (stpS ways acc s) states).1.length ≤ acc.1.length + (states.length + 1) * ways.length ∧ (expS ways (stpS ways acc s) states).2.length ≤ acc.2.length + (states.length + 1) * ways.length
    rw [Nat.add_mul, Nat.one_mul]
    omega
def lvS (ways : List Way) (st : SL) : Nat → List SL × List SL
  | 0 => ([st], [st])
  | k + 1 => expS ways ((lvS ways st k).1, []) (lvS ways st k).2
def Rch (ways : List Way) (st : SL) (k : Nat) (y : SL) : Prop := ∃ row : List Way, row.length ≤ k ∧ (∀ w ∈ row, w ∈ ways) ∧ y = hitsL st row
theorem lv_inv (ways : List Way) (st : SL) : ∀ k, (∀ y, y ∈ (lvS ways st k).1 ↔ Rch ways st k y) ∧ (∀ y ∈ (lvS ways st k).1, y ∈ (lvS ways st k).2 ∨ ∀ w ∈ ways, hitL y w ∈ (lvS ways st k).1) ∧ ∀ y ∈ (lvS ways st k).2, y ∈ (lvS ways st k).1
  | 0 => by
    refine ⟨fun y => ⟨fun h => ?_, fun ⟨row, h1, _, h3⟩ => ?_⟩, fun y h => .inl h, fun y h => h⟩
    · rw [List.mem_singleton.mp (show y ∈ [st] from h)]
      exact ⟨[], Nat.le_refl _, (fun _ z => nomatch z), rfl⟩
    · have : row = [] := List.length_eq_zero_iff.mp (by omega)
      subst this
      rw [h3]
      exact .head _
  | k + 1 => by
    obtain ⟨h1, h2, h3⟩ := lv_inv ways st k
    have two := expS_two (lvS ways st k).1 ways (lvS ways st k).2 ((lvS ways st k).1, []) fun y => ⟨.inl, fun z => z.elim id fun z => nomatch z⟩
    have mem : ∀ y, y ∈ (lvS ways st (k + 1)).1 ↔ y ∈ (lvS ways st k).1 ∨ ∃ s ∈ (lvS ways st k).2, ∃ w ∈ ways, y = hitL s w := fun y => expS_mem ways _ _ y
    refine ⟨fun y => ?_, fun y hy => ?_, fun y hy => (two y).mpr (.inr hy)⟩
    · rw [mem]
      constructor
      · rintro (h | ⟨s, hs, w, hw, rfl⟩)
        · obtain ⟨row, a, b, c⟩ := (h1 y).mp h
          exact ⟨row, by omega, b, c⟩
        · obtain ⟨row, a, b, c⟩ := (h1 s).mp (h3 s hs)
          refine ⟨row ++ [w], by rw [List.length_append, List.length_singleton]; omega, fun u hu => ?_, by rw [hitsL_snoc, ← c]⟩
          rcases List.mem_append.mp hu with hu | hu
          · exact b u hu
          · rw [List.mem_singleton.mp hu]
            exact hw
      · rintro ⟨row, a, bb, rfl⟩
        rcases List.eq_nil_or_concat row with e | ⟨r0, w, e⟩
        · subst e
          exact .inl ((h1 _).mpr ⟨[], Nat.zero_le _, bb, rfl⟩)
        · rw [List.concat_eq_append] at e
          subst e
          rw [List.length_append, List.length_singleton] at a
          have hw := bb w (List.mem_append_right _ (.head _))
          have h5 := (h1 (hitsL st r0)).mpr ⟨r0, by omega, fun u hu => bb u (List.mem_append_left _ hu), rfl⟩
          rw [hitsL_snoc]
          rcases h2 _ h5 with h6 | h6
          · exact .inr ⟨_, h6, w, hw, rfl⟩
          · exact .inl (h6 w hw)
    · rcases (two y).mp hy with h | h
      · rcases h2 y h with h4 | h4
        · exact .inr fun w hw => (mem _).mpr (.inr ⟨y, h4, w, hw, rfl⟩)
        · exact .inr fun w hw => (mem _).mpr (.inl (h4 w hw))
      · exact .inl h
theorem lv_len (ways : List Way) (st : SL) (hw : ways.length ≤ 5) : ∀ k, (lvS ways st k).2.length ≤ 5 ^ k ∧ (lvS ways st k).1.length ≤ 2 * 5 ^ k
  | 0 => ⟨Nat.le_refl 1, by show 1 ≤ 2 * 1; decide⟩
  | k + 1 => by
    obtain ⟨h1, h2⟩ := lv_len ways st hw k
    obtain ⟨h3, h4⟩ := expS_len ways (lvS ways st k).2 ((lvS ways st k).1, [])
    have hm : (lvS ways st k).2.length * ways.length ≤ 5 ^ k * 5 := Nat.mul_le_mul h1 hw
    have h3 : (lvS ways st (k + 1)).1.length ≤ (lvS ways st k).1.length + (lvS ways st k).2.length * ways.length := h3
    have h4 : (lvS ways st (k + 1)).2.length ≤ 0 + (lvS ways st k).2.length * ways.length := h4
    rw [Nat.pow_succ]
    omega
theorem nodup_sub : ∀ {ks ms : List Nat}, ks.Nodup → (∀ x ∈ ks, x ∈ ms) → ks.length ≤ ms.length
  | [], _, _, _ => Nat.zero_le _
  | k :: ks, ms, nd, h => by
    obtain ⟨n1, n2⟩ := List.nodup_cons.mp nd
    have hm := h k (.head _)
    have := nodup_sub (ks := ks) (ms := ms.erase k) n2 fun x hx => (List.mem_erase_of_ne (fun e => n1 (by rw [← e]; exact hx))).mpr (h x (.tail _ hx))
    rw [List.length_erase_of_mem hm] at this
    have := List.length_pos_of_mem hm
    rw [List.length_cons]
    omega
theorem due_nodup (en : List Bool) (dif : Nat → Bool) (b : TR) : (dueB en dif b).Nodup := List.Nodup.sublist List.filter_sublist List.nodup_range
/-- the flags are seen at the level of their number of needed slots, and not before -/
theorem lv_due {en : List Bool} {b : TR} {st : SL} (hs : st.length + 1 = nS b) (he : en.length + 1 = nS b) (k : Nat) :
    en.map cdB ∈ (lvS (wayB b 0) st k).1 ↔ (dueB en (fun f => decide (st[f]? ≠ some (cdB (eF en f)))) b).length ≤ k := by
  rw [(lv_inv (wayB b 0) st k).1]
  have eat : ∀ f, f + 1 < nS b → (en.map cdB)[f]? = some (cdB (eF en f)) := fun f hf => by
    rw [List.getElem?_map, List.getElem?_eq_getElem (show f < en.length by omega)]
    unfold eF
    rw [List.getElem?_eq_getElem (show f < en.length by omega)]
    rfl
  constructor
  · rintro ⟨row, h1, h2, h3⟩
    have hrow : ∃ slots : List Nat, row = slots.map (wy b) ∧ ∀ i ∈ slots, i < nS b := by
      clear h3 h1
      induction row with
      | nil => exact ⟨[], rfl, fun _ z => nomatch z⟩
      | cons w row ih =>
        obtain ⟨sl, e, hl⟩ := ih fun u hu => h2 u (.tail _ hu)
        obtain ⟨i, hi⟩ := List.mem_iff_getElem?.mp (h2 w (.head _))
        have hib : i < nS b := by
          have := (List.getElem?_eq_some_iff.mp hi).1
          rw [wayB_len] at this
          exact this
        refine ⟨i :: sl, ?_, fun j hj => ?_⟩
        · have := wy_at hib
          rw [hi] at this
          rw [List.map_cons, e, Option.some.inj this]
        · cases hj with
          | head => exact hib
          | tail _ hj => exact hl j hj
    obtain ⟨slots, rfl, hl⟩ := hrow
    have hc := comes_due (en := en) hs hl fun f hf => by
      rw [← h3]
      exact eat f hf
    have := nodup_sub (due_nodup en _ b) hc
    rw [List.length_map] at h1
    omega
  · intro hk
    obtain ⟨ord, h1, h2⟩ := order_ex en b _ (dueB en (fun f => decide (st[f]? ≠ some (cdB (eF en f)))) b) (Nat.le_refl _) (due_nodup en _ b) fun x hx => ((due_mem _ _ _).mp hx).1
    refine ⟨ord.map (wy b), by rw [List.length_map, h1.length_eq]; exact hk, fun w hw => ?_, ?_⟩
    · obtain ⟨i, hi, rfl⟩ := List.mem_map.mp hw
      exact List.mem_of_getElem? (wy_at ((due_mem _ _ _).mp (h1.mem_iff.mp hi)).1)
    · refine List.ext_getElem? fun f => ?_
      by_cases hf : f + 1 < nS b
      · rw [eat f hf, plays_end hs (fun i => h1.mem_iff) h2 f hf]
      · rw [List.getElem?_eq_none (by rw [List.length_map]; omega), List.getElem?_eq_none (by rw [hitsL_len]; omega)]
end TR
end LW
namespace LW
open PySem PySem.Spec PyProof.Rows L2 SY
/-! ### the text -/
def topS (i : Nat) : Stmt := PySem.Challenge.pw_lastside_k21_whole_needed.main.body.getD i (.Pass ⟨0, 0, 0, 0⟩)
abbrev s_wall : Stmt := topS 0
abbrev N_wall : List Str := ["k"]
theorem sc_wall : FnScope N_wall ["k"] (defScope s_wall) := ⟨rfl, rfl, rfl, by decide +kernel, rfl, by decide +kernel, by decide +kernel⟩
abbrev s_InvalidTree_init : Stmt := inClass (topS 3) 0
abbrev N_InvalidTree_init : List Str := ["self", "text"]
theorem sc_InvalidTree_init : FnScope N_InvalidTree_init ["self", "text"] (defScope s_InvalidTree_init) := ⟨rfl, rfl, rfl, by decide +kernel, rfl, by decide +kernel, by decide +kernel⟩
abbrev s_InvalidFlags_init : Stmt := inClass (topS 4) 0
abbrev N_InvalidFlags_init : List Str := ["self", "flags"]
theorem sc_InvalidFlags_init : FnScope N_InvalidFlags_init ["self", "flags"] (defScope s_InvalidFlags_init) := ⟨rfl, rfl, rfl, by decide +kernel, rfl, by decide +kernel, by decide +kernel⟩
abbrev s_InvalidSlot_init : Stmt := inClass (topS 5) 0
abbrev N_InvalidSlot_init : List Str := ["self", "slot"]
theorem sc_InvalidSlot_init : FnScope N_InvalidSlot_init ["self", "slot"] (defScope s_InvalidSlot_init) := ⟨rfl, rfl, rfl, by decide +kernel, rfl, by decide +kernel, by decide +kernel⟩
abbrev s_InvalidFork_init : Stmt := inClass (topS 6) 0
abbrev N_InvalidFork_init : List Str := ["self", "fork"]
theorem sc_InvalidFork_init : FnScope N_InvalidFork_init ["self", "fork"] (defScope s_InvalidFork_init) := ⟨rfl, rfl, rfl, by decide +kernel, rfl, by decide +kernel, by decide +kernel⟩
abbrev s_TooMany_init : Stmt := inClass (topS 7) 0
abbrev N_TooMany_init : List Str := ["self", "most"]
theorem sc_TooMany_init : FnScope N_TooMany_init ["self", "most"] (defScope s_TooMany_init) := ⟨rfl, rfl, rfl, by decide +kernel, rfl, by decide +kernel, by decide +kernel⟩
abbrev s_is_integer : Stmt := topS 9
abbrev N_is_integer : List Str := ["value"]
theorem sc_is_integer : FnScope N_is_integer ["value"] (defScope s_is_integer) := ⟨rfl, rfl, rfl, by decide +kernel, rfl, by decide +kernel, by decide +kernel⟩
abbrev s_is_place : Stmt := topS 10
abbrev N_is_place : List Str := ["many", "value"]
theorem sc_is_place : FnScope N_is_place ["many", "value"] (defScope s_is_place) := ⟨rfl, rfl, rfl, by decide +kernel, rfl, by decide +kernel, by decide +kernel⟩
abbrev s_is_made_of : Stmt := topS 11
abbrev N_is_made_of : List Str := ["value", "signs", "sign"]
theorem sc_is_made_of : FnScope N_is_made_of ["value", "signs"] (defScope s_is_made_of) := ⟨rfl, rfl, rfl, by decide +kernel, rfl, by decide +kernel, by decide +kernel⟩
abbrev s_checked_flags : Stmt := topS 12
abbrev N_checked_flags : List Str := ["tree", "flags"]
theorem sc_checked_flags : FnScope N_checked_flags ["tree", "flags"] (defScope s_checked_flags) := ⟨rfl, rfl, rfl, by decide +kernel, rfl, by decide +kernel, by decide +kernel⟩
abbrev s_checked_pattern : Stmt := topS 13
abbrev N_checked_pattern : List Str := ["tree", "pattern"]
theorem sc_checked_pattern : FnScope N_checked_pattern ["tree", "pattern"] (defScope s_checked_pattern) := ⟨rfl, rfl, rfl, by decide +kernel, rfl, by decide +kernel, by decide +kernel⟩
abbrev s_checked_slot : Stmt := topS 14
abbrev N_checked_slot : List Str := ["tree", "slot"]
theorem sc_checked_slot : FnScope N_checked_slot ["tree", "slot"] (defScope s_checked_slot) := ⟨rfl, rfl, rfl, by decide +kernel, rfl, by decide +kernel, by decide +kernel⟩
abbrev s_checked_fork : Stmt := topS 15
abbrev N_checked_fork : List Str := ["tree", "fork"]
theorem sc_checked_fork : FnScope N_checked_fork ["tree", "fork"] (defScope s_checked_fork) := ⟨rfl, rfl, rfl, by decide +kernel, rfl, by decide +kernel, by decide +kernel⟩
abbrev s_checked_visits : Stmt := topS 16
abbrev N_checked_visits : List Str := ["tree", "slots", "slot"]
theorem sc_checked_visits : FnScope N_checked_visits ["tree", "slots"] (defScope s_checked_visits) := ⟨rfl, rfl, rfl, by decide +kernel, rfl, by decide +kernel, by decide +kernel⟩
abbrev s_trail_rows : Stmt := topS 18
abbrev N_trail_rows : List Str := ["tree", "flags", "rows", "slot", "way", "begin", "forks", "hang", "step"]
theorem sc_trail_rows : FnScope N_trail_rows ["tree", "flags"] (defScope s_trail_rows) := ⟨rfl, rfl, rfl, by decide +kernel, rfl, by decide +kernel, by decide +kernel⟩
abbrev s_forks_below : Stmt := topS 19
abbrev N_forks_below : List Str := ["tree", "flags", "hang", "first", "last"]
theorem sc_forks_below : FnScope N_forks_below ["tree", "flags", "hang"] (defScope s_forks_below) := ⟨rfl, rfl, rfl, by decide +kernel, rfl, by decide +kernel, by decide +kernel⟩
abbrev s_needed_slots : Stmt := topS 20
abbrev N_needed_slots : List Str := ["tree", "start", "end", "found", "slot", "_", "hang", "low", "high"]
theorem sc_needed_slots : FnScope N_needed_slots ["tree", "start", "end"] (defScope s_needed_slots) := ⟨rfl, rfl, rfl, by decide +kernel, rfl, by decide +kernel, by decide +kernel⟩
abbrev s_hits_between : Stmt := topS 21
abbrev N_hits_between : List Str := ["tree", "start", "end", "total", "hang", "low", "high"]
theorem sc_hits_between : FnScope N_hits_between ["tree", "start", "end"] (defScope s_hits_between) := ⟨rfl, rfl, rfl, by decide +kernel, rfl, by decide +kernel, by decide +kernel⟩
abbrev s_needed : Stmt := topS 22
abbrev N_needed : List Str := ["tree", "start", "end"]
theorem sc_needed : FnScope N_needed ["tree", "start", "end"] (defScope s_needed) := ⟨rfl, rfl, rfl, by decide +kernel, rfl, by decide +kernel, by decide +kernel⟩
abbrev s_least_hits : Stmt := topS 23
abbrev N_least_hits : List Str := ["tree", "start", "end"]
theorem sc_least_hits : FnScope N_least_hits ["tree", "start", "end"] (defScope s_least_hits) := ⟨rfl, rfl, rfl, by decide +kernel, rfl, by decide +kernel, by decide +kernel⟩
abbrev s_turned : Stmt := topS 25
abbrev N_turned : List Str := ["tree", "flags", "slot", "characters", "fork", "side"]
theorem sc_turned : FnScope N_turned ["tree", "flags", "slot"] (defScope s_turned) := ⟨rfl, rfl, rfl, by decide +kernel, rfl, by decide +kernel, by decide +kernel⟩
abbrev s_flags_after : Stmt := topS 26
abbrev N_flags_after : List Str := ["tree", "flags", "slot"]
theorem sc_flags_after : FnScope N_flags_after ["tree", "flags", "slot"] (defScope s_flags_after) := ⟨rfl, rfl, rfl, by decide +kernel, rfl, by decide +kernel, by decide +kernel⟩
abbrev s_all_after : Stmt := topS 27
abbrev N_all_after : List Str := ["tree", "flags", "slots", "visits", "slot"]
theorem sc_all_after : FnScope N_all_after ["tree", "flags", "slots"] (defScope s_all_after) := ⟨rfl, rfl, rfl, by decide +kernel, rfl, by decide +kernel, by decide +kernel⟩
abbrev s_ends_fork : Stmt := topS 29
abbrev N_ends_fork : List Str := ["stack", "node"]
theorem sc_ends_fork : FnScope N_ends_fork ["stack"] (defScope s_ends_fork) := ⟨rfl, rfl, rfl, by decide +kernel, rfl, by decide +kernel, by decide +kernel⟩
abbrev s_read_forks : Stmt := topS 30
abbrev N_read_forks : List Str := ["text", "stack", "rows", "slots", "place", "sign", "right", "left", "first", "fork", "last", "start"]
theorem sc_read_forks : FnScope N_read_forks ["text"] (defScope s_read_forks) := ⟨rfl, rfl, rfl, by decide +kernel, rfl, by decide +kernel, by decide +kernel⟩
abbrev s_lay_ways : Stmt := topS 31
abbrev N_lay_ways : List Str := ["root", "lefts", "rights", "preorder", "ways", "stack", "word", "number", "way"]
theorem sc_lay_ways : FnScope N_lay_ways ["root", "lefts", "rights"] (defScope s_lay_ways) := ⟨rfl, rfl, rfl, by decide +kernel, rfl, by decide +kernel, by decide +kernel⟩
abbrev s_Tree_init : Stmt := inClass (topS 32) 1
abbrev N_Tree_init : List Str := ["self", "text", "rows", "ascending", "row"]
theorem sc_Tree_init : FnScope N_Tree_init ["self", "text"] (defScope s_Tree_init) := ⟨rfl, rfl, rfl, by decide +kernel, rfl, by decide +kernel, by decide +kernel⟩
abbrev s_Tree_str : Stmt := inClass (topS 32) 2
abbrev N_Tree_str : List Str := ["self"]
theorem sc_Tree_str : FnScope N_Tree_str ["self"] (defScope s_Tree_str) := ⟨rfl, rfl, rfl, by decide +kernel, rfl, by decide +kernel, by decide +kernel⟩
abbrev s_Tree_len : Stmt := inClass (topS 32) 3
abbrev N_Tree_len : List Str := ["self"]
theorem sc_Tree_len : FnScope N_Tree_len ["self"] (defScope s_Tree_len) := ⟨rfl, rfl, rfl, by decide +kernel, rfl, by decide +kernel, by decide +kernel⟩
abbrev s_Tree_eq : Stmt := inClass (topS 32) 4
abbrev N_Tree_eq : List Str := ["self", "other"]
theorem sc_Tree_eq : FnScope N_Tree_eq ["self", "other"] (defScope s_Tree_eq) := ⟨rfl, rfl, rfl, by decide +kernel, rfl, by decide +kernel, by decide +kernel⟩
abbrev s_Tree_add : Stmt := inClass (topS 32) 5
abbrev N_Tree_add : List Str := ["self", "other"]
theorem sc_Tree_add : FnScope N_Tree_add ["self", "other"] (defScope s_Tree_add) := ⟨rfl, rfl, rfl, by decide +kernel, rfl, by decide +kernel, by decide +kernel⟩
abbrev s_Tree_forks : Stmt := inClass (topS 32) 6
abbrev N_Tree_forks : List Str := ["self"]
theorem sc_Tree_forks : FnScope N_Tree_forks ["self"] (defScope s_Tree_forks) := ⟨rfl, rfl, rfl, by decide +kernel, rfl, by decide +kernel, by decide +kernel⟩
abbrev s_Tree_height : Stmt := inClass (topS 32) 7
abbrev N_Tree_height : List Str := ["self"]
theorem sc_Tree_height : FnScope N_Tree_height ["self"] (defScope s_Tree_height) := ⟨rfl, rfl, rfl, by decide +kernel, rfl, by decide +kernel, by decide +kernel⟩
abbrev s_Tree_least_depth : Stmt := inClass (topS 32) 8
abbrev N_Tree_least_depth : List Str := ["self"]
theorem sc_Tree_least_depth : FnScope N_Tree_least_depth ["self"] (defScope s_Tree_least_depth) := ⟨rfl, rfl, rfl, by decide +kernel, rfl, by decide +kernel, by decide +kernel⟩
abbrev s_Tree_is_even : Stmt := inClass (topS 32) 9
abbrev N_Tree_is_even : List Str := ["self"]
theorem sc_Tree_is_even : FnScope N_Tree_is_even ["self"] (defScope s_Tree_is_even) := ⟨rfl, rfl, rfl, by decide +kernel, rfl, by decide +kernel, by decide +kernel⟩
abbrev s_Tree_top : Stmt := inClass (topS 32) 10
abbrev N_Tree_top : List Str := ["self"]
theorem sc_Tree_top : FnScope N_Tree_top ["self"] (defScope s_Tree_top) := ⟨rfl, rfl, rfl, by decide +kernel, rfl, by decide +kernel, by decide +kernel⟩
abbrev s_Tree_sides : Stmt := inClass (topS 32) 11
abbrev N_Tree_sides : List Str := ["self", "fork"]
theorem sc_Tree_sides : FnScope N_Tree_sides ["self", "fork"] (defScope s_Tree_sides) := ⟨rfl, rfl, rfl, by decide +kernel, rfl, by decide +kernel, by decide +kernel⟩
abbrev s_Tree_path : Stmt := inClass (topS 32) 12
abbrev N_Tree_path : List Str := ["self", "slot"]
theorem sc_Tree_path : FnScope N_Tree_path ["self", "slot"] (defScope s_Tree_path) := ⟨rfl, rfl, rfl, by decide +kernel, rfl, by decide +kernel, by decide +kernel⟩
abbrev s_Tree_depth : Stmt := inClass (topS 32) 13
abbrev N_Tree_depth : List Str := ["self", "slot"]
theorem sc_Tree_depth : FnScope N_Tree_depth ["self", "slot"] (defScope s_Tree_depth) := ⟨rfl, rfl, rfl, by decide +kernel, rfl, by decide +kernel, by decide +kernel⟩
abbrev s_Tree_span : Stmt := inClass (topS 32) 14
abbrev N_Tree_span : List Str := ["self", "fork"]
theorem sc_Tree_span : FnScope N_Tree_span ["self", "fork"] (defScope s_Tree_span) := ⟨rfl, rfl, rfl, by decide +kernel, rfl, by decide +kernel, by decide +kernel⟩
abbrev s_Tree_walk : Stmt := inClass (topS 32) 15
abbrev N_Tree_walk : List Str := ["self", "last"]
theorem sc_Tree_walk : FnScope N_Tree_walk ["self", "last"] (defScope s_Tree_walk) := ⟨rfl, rfl, rfl, by decide +kernel, rfl, by decide +kernel, by decide +kernel⟩
abbrev s_Tree_subtree : Stmt := inClass (topS 32) 16
abbrev N_Tree_subtree : List Str := ["self", "fork", "start", "stop"]
theorem sc_Tree_subtree : FnScope N_Tree_subtree ["self", "fork"] (defScope s_Tree_subtree) := ⟨rfl, rfl, rfl, by decide +kernel, rfl, by decide +kernel, by decide +kernel⟩
abbrev s_Tree_collapsed : Stmt := inClass (topS 32) 17
abbrev N_Tree_collapsed : List Str := ["self", "fork"]
theorem sc_Tree_collapsed : FnScope N_Tree_collapsed ["self", "fork"] (defScope s_Tree_collapsed) := ⟨rfl, rfl, rfl, by decide +kernel, rfl, by decide +kernel, by decide +kernel⟩
abbrev s_Tree_mirrored : Stmt := inClass (topS 32) 18
abbrev N_Tree_mirrored : List Str := ["self"]
theorem sc_Tree_mirrored : FnScope N_Tree_mirrored ["self"] (defScope s_Tree_mirrored) := ⟨rfl, rfl, rfl, by decide +kernel, rfl, by decide +kernel, by decide +kernel⟩
abbrev s_Tree_grown : Stmt := inClass (topS 32) 19
abbrev N_Tree_grown : List Str := ["self", "slot"]
theorem sc_Tree_grown : FnScope N_Tree_grown ["self", "slot"] (defScope s_Tree_grown) := ⟨rfl, rfl, rfl, by decide +kernel, rfl, by decide +kernel, by decide +kernel⟩
abbrev s_Tree_closed : Stmt := inClass (topS 32) 20
abbrev N_Tree_closed : List Str := ["self", "slot"]
theorem sc_Tree_closed : FnScope N_Tree_closed ["self", "slot"] (defScope s_Tree_closed) := ⟨rfl, rfl, rfl, by decide +kernel, rfl, by decide +kernel, by decide +kernel⟩
abbrev s_Tree_even : Stmt := inClass (topS 32) 21
abbrev N_Tree_even : List Str := ["cls", "height"]
theorem sc_Tree_even : FnScope N_Tree_even ["cls", "height"] (defScope s_Tree_even) := ⟨rfl, rfl, rfl, by decide +kernel, rfl, by decide +kernel, by decide +kernel⟩
abbrev s_Tree_comb : Stmt := inClass (topS 32) 22
abbrev N_Tree_comb : List Str := ["cls", "slots", "side"]
theorem sc_Tree_comb : FnScope N_Tree_comb ["cls", "slots", "side"] (defScope s_Tree_comb) := ⟨rfl, rfl, rfl, by decide +kernel, rfl, by decide +kernel, by decide +kernel⟩
abbrev s_l_is_integer : Stmt := topS 34
abbrev N_l_is_integer : List Str := ["_law_told"]
theorem sc_l_is_integer : FnScope N_l_is_integer ["_law_told"] (defScope s_l_is_integer) := ⟨rfl, rfl, rfl, by decide +kernel, rfl, by decide +kernel, by decide +kernel⟩
abbrev s_l_same : Stmt := topS 35
abbrev N_l_same : List Str := ["_law_told", "_law_due_here", "_law_k"]
theorem sc_l_same : FnScope N_l_same ["_law_told", "_law_due_here"] (defScope s_l_same) := ⟨rfl, rfl, rfl, by decide +kernel, rfl, by decide +kernel, by decide +kernel⟩
abbrev s_l_box : Stmt := topS 36
abbrev N_l_box : List Str := ["_law_script", "_law_cells", "_law_mixes", "_law_cell"]
theorem sc_l_box : FnScope N_l_box ["_law_script"] (defScope s_l_box) := ⟨rfl, rfl, rfl, by decide +kernel, rfl, by decide +kernel, by decide +kernel⟩
abbrev s_l_take : Stmt := topS 37
abbrev N_l_take : List Str := ["_law_box_here", "_law_size", "_law_greats", "_law_digits", "_law_step", "_law_mixes", "_law_cell", "_law_first", "_law_second", "_law_third"]
theorem sc_l_take : FnScope N_l_take ["_law_box_here", "_law_size"] (defScope s_l_take) := ⟨rfl, rfl, rfl, by decide +kernel, rfl, by decide +kernel, by decide +kernel⟩
abbrev s_l_join : Stmt := topS 38
abbrev N_l_join : List Str := ["_law_box_here", "_law_lean", "_law_room", "_law_power", "_law_k"]
theorem sc_l_join : FnScope N_l_join ["_law_box_here", "_law_lean", "_law_room"] (defScope s_l_join) := ⟨rfl, rfl, rfl, by decide +kernel, rfl, by decide +kernel, by decide +kernel⟩
abbrev s_l_tree : Stmt := topS 39
abbrev N_l_tree : List Str := ["_law_box_here", "_law_slots_here", "_law_lean", "_law_pieces", "_law_ways", "_law_step", "_law_at", "_law_left", "_law_right", "_law_k"]
theorem sc_l_tree : FnScope N_l_tree ["_law_box_here", "_law_slots_here"] (defScope s_l_tree) := ⟨rfl, rfl, rfl, by decide +kernel, rfl, by decide +kernel, by decide +kernel⟩
abbrev s_l_flags : Stmt := topS 40
abbrev N_l_flags : List Str := ["_law_box_here", "_law_many", "_law_style", "_law_k"]
theorem sc_l_flags : FnScope N_l_flags ["_law_box_here", "_law_many"] (defScope s_l_flags) := ⟨rfl, rfl, rfl, by decide +kernel, rfl, by decide +kernel, by decide +kernel⟩
abbrev s_l_slots : Stmt := topS 41
abbrev N_l_slots : List Str := ["_law_box_here", "_law_kind"]
theorem sc_l_slots : FnScope N_l_slots ["_law_box_here"] (defScope s_l_slots) := ⟨rfl, rfl, rfl, by decide +kernel, rfl, by decide +kernel, by decide +kernel⟩
abbrev s_l_start : Stmt := topS 42
abbrev N_l_start : List Str := ["_law_box_here", "_law_end", "_law_odd", "_law_style", "_law_at", "_law_start_here", "_law_k", "_law_other", "_law_pick"]
theorem sc_l_start : FnScope N_l_start ["_law_box_here", "_law_end", "_law_odd"] (defScope s_l_start) := ⟨rfl, rfl, rfl, by decide +kernel, rfl, by decide +kernel, by decide +kernel⟩
abbrev s_l_bent : Stmt := topS 43
abbrev N_l_bent : List Str := ["_law_box_here", "_law_flags_here", "_law_odd", "_law_way", "_law_at", "_law_sign"]
theorem sc_l_bent : FnScope N_l_bent ["_law_box_here", "_law_flags_here", "_law_odd"] (defScope s_l_bent) := ⟨rfl, rfl, rfl, by decide +kernel, rfl, by decide +kernel, by decide +kernel⟩
abbrev s_l_hit : Stmt := topS 44
abbrev N_l_hit : List Str := ["_law_flags_here", "_law_way", "_law_fork", "_law_side"]
theorem sc_l_hit : FnScope N_l_hit ["_law_flags_here", "_law_way"] (defScope s_l_hit) := ⟨rfl, rfl, rfl, by decide +kernel, rfl, by decide +kernel, by decide +kernel⟩
abbrev s_l_holders : Stmt := topS 45
abbrev N_l_holders : List Str := ["_law_flags_here", "_law_ways", "_law_found", "_law_slot", "_law_fork", "_law_side", "_law_way"]
theorem sc_l_holders : FnScope N_l_holders ["_law_flags_here", "_law_ways"] (defScope s_l_holders) := ⟨rfl, rfl, rfl, by decide +kernel, rfl, by decide +kernel, by decide +kernel⟩
abbrev s_l_above : Stmt := topS 46
abbrev N_l_above : List Str := ["_law_flags_here", "_law_ways", "_law_holders_here", "_law_found", "_law_way", "_law_above_here", "_law_fork", "_law_side"]
theorem sc_l_above : FnScope N_l_above ["_law_flags_here", "_law_ways"] (defScope s_l_above) := ⟨rfl, rfl, rfl, by decide +kernel, rfl, by decide +kernel, by decide +kernel⟩
abbrev s_l_due : Stmt := topS 47
abbrev N_l_due : List Str := ["_law_start_here", "_law_end", "_law_ways", "_law_holders_here", "_law_above_here", "_law_marked", "_law_fork", "_law_slot", "_law_k", "_law_way"]
theorem sc_l_due : FnScope N_l_due ["_law_start_here", "_law_end", "_law_ways"] (defScope s_l_due) := ⟨rfl, rfl, rfl, by decide +kernel, rfl, by decide +kernel, by decide +kernel⟩
abbrev s_l_order : Stmt := topS 48
abbrev N_l_order : List Str := ["_law_box_here", "_law_due_here", "_law_above_here", "_law_left", "_law_order_here", "_law_k", "_law_hanging", "_law_free", "_law_pick", "_law_slot"]
theorem sc_l_order : FnScope N_l_order ["_law_box_here", "_law_due_here", "_law_above_here"] (defScope s_l_order) := ⟨rfl, rfl, rfl, by decide +kernel, rfl, by decide +kernel, by decide +kernel⟩
abbrev s_l_search : Stmt := topS 49
abbrev N_l_search : List Str := ["_law_start_here", "_law_end", "_law_ways", "_law_seen", "_law_level", "_law_count", "_law_later", "_law_state", "_law_way", "_law_after"]
theorem sc_l_search : FnScope N_l_search ["_law_start_here", "_law_end", "_law_ways"] (defScope s_l_search) := ⟨rfl, rfl, rfl, by decide +kernel, rfl, by decide +kernel, by decide +kernel⟩
abbrev s_l_answers : Stmt := topS 50
abbrev N_l_answers : List Str := ["_law_tree_here", "_law_start_here", "_law_end", "_law_ways", "_law_due_here", "_law_told", "_law_count"]
theorem sc_l_answers : FnScope N_l_answers ["_law_tree_here", "_law_start_here", "_law_end", "_law_ways"] (defScope s_l_answers) := ⟨rfl, rfl, rfl, by decide +kernel, rfl, by decide +kernel, by decide +kernel⟩
abbrev s_l_plays : Stmt := topS 51
abbrev N_l_plays : List Str := ["_law_box_here", "_law_tree_here", "_law_start_here", "_law_end", "_law_ways", "_law_state", "_law_slot", "_law_after"]
theorem sc_l_plays : FnScope N_l_plays ["_law_box_here", "_law_tree_here", "_law_start_here", "_law_end", "_law_ways"] (defScope s_l_plays) := ⟨rfl, rfl, rfl, by decide +kernel, rfl, by decide +kernel, by decide +kernel⟩
abbrev s_l_comes : Stmt := topS 52
abbrev N_l_comes : List Str := ["_law_box_here", "_law_tree_here", "_law_ways", "_law_first", "_law_row", "_law_last", "_law_slot", "_law_k"]
theorem sc_l_comes : FnScope N_l_comes ["_law_box_here", "_law_tree_here", "_law_ways"] (defScope s_l_comes) := ⟨rfl, rfl, rfl, by decide +kernel, rfl, by decide +kernel, by decide +kernel⟩
abbrev s_l_fault : Stmt := topS 53
abbrev N_l_fault : List Str := ["_law_door", "_law_tree_here", "_law_start_here", "_law_end", "e"]
theorem sc_l_fault : FnScope N_l_fault ["_law_door", "_law_tree_here", "_law_start_here", "_law_end"] (defScope s_l_fault) := ⟨rfl, rfl, rfl, by decide +kernel, rfl, by decide +kernel, by decide +kernel⟩
abbrev s_law : Stmt := topS 54
abbrev N_law : List Str := ["_law_script", "_law_box_here", "_law_slots_here", "_law_text", "_law_ways", "_law_end", "_law_start_here", "_law_tree_here", "_law_row", "_law_bad_start", "_law_bad_end", "_law_door"]
theorem sc_law : FnScope N_law ["_law_script"] (defScope s_law) := ⟨rfl, rfl, rfl, by decide +kernel, rfl, by decide +kernel, by decide +kernel⟩
/-- where the text's classes stand -/
structure Ads where
  CacheError : Addr
  InvalidTree : Addr
  InvalidFlags : Addr
  InvalidSlot : Addr
  InvalidFork : Addr
  TooMany : Addr
  Tree : Addr
/-- what the module's names hold -/
structure Env (P : Program) (w : World) (K : PySem.W.Frag) (mg : Str → Option Value) (base : Heap) (a : Ads) : Prop where
  n_ValueError : mg "ValueError" = none
  n_all : mg "all" = none
  n_bool : mg "bool" = none
  n_enumerate : mg "enumerate" = none
  n_int : mg "int" = none
  n_isinstance : mg "isinstance" = none
  n_len : mg "len" = none
  n_list : mg "list" = none
  n_range : mg "range" = none
  n_repr : mg "repr" = none
  n_reversed : mg "reversed" = none
  n_sorted : mg "sorted" = none
  n_str : mg "str" = none
  n_tuple : mg "tuple" = none
  g_CacheError : mg "CacheError" = some (.ref a.CacheError)
  g_InvalidFlags : mg "InvalidFlags" = some (.ref a.InvalidFlags)
  g_InvalidSlot : mg "InvalidSlot" = some (.ref a.InvalidSlot)
  g_InvalidTree : mg "InvalidTree" = some (.ref a.InvalidTree)
  o_Tree : L2.Cls K a.Tree
  na_Tree_bounds : NoAttr K a.Tree "bounds"
  na_Tree_lefts : NoAttr K a.Tree "lefts"
  na_Tree_postorder : NoAttr K a.Tree "postorder"
  na_Tree_preorder : NoAttr K a.Tree "preorder"
  na_Tree_rights : NoAttr K a.Tree "rights"
  na_Tree_root : NoAttr K a.Tree "root"
  na_Tree_spans : NoAttr K a.Tree "spans"
  na_Tree_text : NoAttr K a.Tree "text"
  na_Tree_ways : NoAttr K a.Tree "ways"
  k_Tree_MOST : ∃ u, Con K a.Tree "MOST" (.int 64) u
  e_InvalidFlags : ErrC P w K mg base "InvalidFlags" "flags" a.InvalidFlags
  e_InvalidSlot : ErrC P w K mg base "InvalidSlot" "slot" a.InvalidSlot
  e_InvalidTree : ErrC P w K mg base "InvalidTree" "text" a.InvalidTree
section
variable {P : Program} {w : World} {K : PySem.W.Frag} {mg : Str → Option Value} {base : Heap}
theorem ini_InvalidTree {C fI : Addr} {fd : FuncData} (T : OexC K C) (hno : PySem.W.findIn K (.ref C) "text" = some none) (F : Fun K "__init__" "InvalidTree.__init__" s_InvalidTree_init fI fd) : FnOk P w K mg base (L2.CX P w) 1 fI fd ["self", "text"] (spErr C "text") := by
  refine F.okX sc_InvalidTree_init (fun vs H Q E h => ?_) (fun cdv A outer s H vs Q E hr h => ⟨_, pss_one (ps_ost (pv 0) (pv 1)), ?_⟩)
  · obtain ⟨a, v, rfl, _⟩ := h
    rfl
  · obtain ⟨a, v, rfl, h1, h2⟩ := h
    exact ⟨v, rfl, .ref a, rfl, a, C, rfl, T, hno, .inl ⟨h1, fun dx n1 n2 => h2 dx n1 n2⟩⟩
theorem ini_InvalidFlags {C fI : Addr} {fd : FuncData} (T : OexC K C) (hno : PySem.W.findIn K (.ref C) "flags" = some none) (F : Fun K "__init__" "InvalidFlags.__init__" s_InvalidFlags_init fI fd) : FnOk P w K mg base (L2.CX P w) 1 fI fd ["self", "flags"] (spErr C "flags") := by
  refine F.okX sc_InvalidFlags_init (fun vs H Q E h => ?_) (fun cdv A outer s H vs Q E hr h => ⟨_, pss_one (ps_ost (pv 0) (pv 1)), ?_⟩)
  · obtain ⟨a, v, rfl, _⟩ := h
    rfl
  · obtain ⟨a, v, rfl, h1, h2⟩ := h
    exact ⟨v, rfl, .ref a, rfl, a, C, rfl, T, hno, .inl ⟨h1, fun dx n1 n2 => h2 dx n1 n2⟩⟩
theorem ini_InvalidSlot {C fI : Addr} {fd : FuncData} (T : OexC K C) (hno : PySem.W.findIn K (.ref C) "slot" = some none) (F : Fun K "__init__" "InvalidSlot.__init__" s_InvalidSlot_init fI fd) : FnOk P w K mg base (L2.CX P w) 1 fI fd ["self", "slot"] (spErr C "slot") := by
  refine F.okX sc_InvalidSlot_init (fun vs H Q E h => ?_) (fun cdv A outer s H vs Q E hr h => ⟨_, pss_one (ps_ost (pv 0) (pv 1)), ?_⟩)
  · obtain ⟨a, v, rfl, _⟩ := h
    rfl
  · obtain ⟨a, v, rfl, h1, h2⟩ := h
    exact ⟨v, rfl, .ref a, rfl, a, C, rfl, T, hno, .inl ⟨h1, fun dx n1 n2 => h2 dx n1 n2⟩⟩
theorem ini_InvalidFork {C fI : Addr} {fd : FuncData} (T : OexC K C) (hno : PySem.W.findIn K (.ref C) "fork" = some none) (F : Fun K "__init__" "InvalidFork.__init__" s_InvalidFork_init fI fd) : FnOk P w K mg base (L2.CX P w) 1 fI fd ["self", "fork"] (spErr C "fork") := by
  refine F.okX sc_InvalidFork_init (fun vs H Q E h => ?_) (fun cdv A outer s H vs Q E hr h => ⟨_, pss_one (ps_ost (pv 0) (pv 1)), ?_⟩)
  · obtain ⟨a, v, rfl, _⟩ := h
    rfl
  · obtain ⟨a, v, rfl, h1, h2⟩ := h
    exact ⟨v, rfl, .ref a, rfl, a, C, rfl, T, hno, .inl ⟨h1, fun dx n1 n2 => h2 dx n1 n2⟩⟩
theorem ini_TooMany {C fI : Addr} {fd : FuncData} (T : OexC K C) (hno : PySem.W.findIn K (.ref C) "most" = some none) (F : Fun K "__init__" "TooMany.__init__" s_TooMany_init fI fd) : FnOk P w K mg base (L2.CX P w) 1 fI fd ["self", "most"] (spErr C "most") := by
  refine F.okX sc_TooMany_init (fun vs H Q E h => ?_) (fun cdv A outer s H vs Q E hr h => ⟨_, pss_one (ps_ost (pv 0) (pv 1)), ?_⟩)
  · obtain ⟨a, v, rfl, _⟩ := h
    rfl
  · obtain ⟨a, v, rfl, h1, h2⟩ := h
    exact ⟨v, rfl, .ref a, rfl, a, C, rfl, T, hno, .inl ⟨h1, fun dx n1 n2 => h2 dx n1 n2⟩⟩
end
/-! ### levels -/
abbrev l_is_integer : Nat := 1
abbrev l_is_place : Nat := 2
abbrev l_is_made_of : Nat := 1
abbrev l_checked_flags : Nat := 3
abbrev l_checked_pattern : Nat := 3
abbrev l_checked_slot : Nat := 3
abbrev l_checked_visits : Nat := 4
abbrev l_trail_rows : Nat := 3
abbrev l_forks_below : Nat := 3
abbrev l_needed_slots : Nat := 4
abbrev l_hits_between : Nat := 4
abbrev l_needed : Nat := 5
abbrev l_least_hits : Nat := 5
abbrev l_turned : Nat := 1
abbrev l_flags_after : Nat := 4
abbrev l_all_after : Nat := 5
abbrev l_ends_fork : Nat := 1
abbrev l_read_forks : Nat := 2
abbrev l_lay_ways : Nat := 1
abbrev l_Tree_init : Nat := 3
abbrev l_Tree_len : Nat := 1
abbrev l_Tree_forks : Nat := 1
abbrev l_l_is_integer : Nat := 1
abbrev l_l_same : Nat := 2
abbrev l_l_box : Nat := 1
abbrev l_l_take : Nat := 1
abbrev l_l_join : Nat := 2
abbrev l_l_tree : Nat := 3
abbrev l_l_flags : Nat := 2
abbrev l_l_slots : Nat := 2
abbrev l_l_start : Nat := 2
abbrev l_l_bent : Nat := 2
abbrev l_l_hit : Nat := 1
abbrev l_l_holders : Nat := 1
abbrev l_l_above : Nat := 2
abbrev l_l_due : Nat := 3
abbrev l_l_order : Nat := 2
abbrev l_l_search : Nat := 2
abbrev l_l_answers : Nat := 6
abbrev l_l_plays : Nat := 5
abbrev l_l_comes : Nat := 7
abbrev l_l_fault : Nat := 6
abbrev l_law : Nat := 8
/-! ### what each def promises -/
open TR
def ct_is_integer (K : PySem.W.Frag) : Ct (V × TY) where
  pre g vs H := vs = [g.1] ∧ Ty0 K H g.1 g.2
  post g H v H' := v = .bl (isInt g.1) ∧ Ext H H'
abbrev p_is_integer (K : PySem.W.Frag) (a : Ads) : Sp := spC (ct_is_integer K)
abbrev q_is_integer (K : PySem.W.Frag) (a : Ads) := rC (ct_is_integer K)
theorem c_is_integer {K : PySem.W.Frag} {a : Ads} : Ctr (p_is_integer K a) (q_is_integer K a) := ctrC
abbrev p_l_is_integer (K : PySem.W.Frag) (a : Ads) : Sp := spC (ct_is_integer K)
abbrev q_l_is_integer (K : PySem.W.Frag) (a : Ads) := rC (ct_is_integer K)
theorem c_l_is_integer {K : PySem.W.Frag} {a : Ads} : Ctr (p_l_is_integer K a) (q_l_is_integer K a) := ctrC
/-- a slot of n -/
def plcB (n : Nat) : V → Bool
  | .int i => decide (0 ≤ i) && decide (i < n)
  | _ => false
def ct_is_place (K : PySem.W.Frag) : Ct (Nat × V × TY) where
  pre g vs H := vs = [.int (g.1 : Nat), g.2.1] ∧ Ty0 K H g.2.1 g.2.2
  post g H v H' := v = .bl (plcB g.1 g.2.1) ∧ Ext H H'
abbrev p_is_place (K : PySem.W.Frag) (a : Ads) : Sp := spC (ct_is_place K)
abbrev q_is_place (K : PySem.W.Frag) (a : Ads) := rC (ct_is_place K)
theorem c_is_place {K : PySem.W.Frag} {a : Ads} : Ctr (p_is_place K a) (q_is_place K a) := ctrC
/-- the signs that flags are tried with -/
def sgnOk (u : Str) : Prop := u.cps.toList.length ≤ 100 ∧ ∀ c ∈ u.cps.toList, c ∈ [76, 82, 63, 46, 108, 120, 33]
def strOk : V → Prop
  | .str u => sgnOk u
  | _ => True
def madeL (q : Bool) (u : Str) : Bool := u.cps.toList.all fun c => c == 76 || c == 82 || (q && c == 63)
def madeB (q : Bool) : V → Bool
  | .str u => madeL q u
  | _ => false
def ct_is_made_of (K : PySem.W.Frag) : Ct (V × TY × Bool) where
  pre g vs H := vs = [g.1, .str (if g.2.2 then "LR?" else "LR")] ∧ Ty0 K H g.1 g.2.1 ∧ strOk g.1
  post g H v H' := v = .bl (madeB g.2.2 g.1) ∧ Ext H H'
abbrev p_is_made_of (K : PySem.W.Frag) (a : Ads) : Sp := spC (ct_is_made_of K)
abbrev q_is_made_of (K : PySem.W.Frag) (a : Ads) := rC (ct_is_made_of K)
theorem c_is_made_of {K : PySem.W.Frag} {a : Ads} : Ctr (p_is_made_of K a) (q_is_made_of K a) := ctrC
/-! trees -/
def sdS (b : Bool) : Str := ⟨#[cdB b]⟩
def pS (l : List Nat) : Str := ⟨l.toArray⟩
def fS (fl : List Bool) : Str := pS (fl.map cdB)
def tS (b : TR) : Str := ⟨(txt b).toArray⟩
def stD (s : Nat × Bool) : PyData := .tuple [.int (s.1 : Nat), .str (sdS s.2)]
def wyD (w : Way) : PyData := .tuple (w.map stD)
def wysD (b : TR) : PyData := .tuple ((wayB b 0).map wyD)
def nmD (ns : List Nat) : PyData := .tuple (ns.map fun n => .int (n : Nat))
def hgD : Option Nat → PyData
  | none => .none
  | some f => .int (f : Nat)
def hgV : Option Nat → V
  | none => .non
  | some f => .int (f : Nat)
def trD (i : Nat) (t : Tr) : PyData := .tuple [.int (i : Nat), nmD t.1, hgD t.2]
def trsD (b : TR) (fl : List Bool) : List PyData := (trB b fl).mapIdx trD
def prD (q : Nat × Nat) : PyData := .tuple [.int (q.1 : Nat), .int (q.2 : Nat)]
def spsD (b : TR) : PyData := .tuple ((List.range (nS b - 1)).map fun f => prD (spnF b 0 f))
structure TreeAt (K : PySem.W.Frag) (a : Ads) (H : Hp) (v : V) (b : TR) : Prop where
  ex : ∃ (p dx : Addr) (fs : List (Str × V)) (w sp : V), v = .ref p ∧ H p = some (.ins a.Tree dx fs) ∧ fs.lookup ("text" : Str) = some (.str (tS b)) ∧ fs.lookup ("ways" : Str) = some w ∧ MD K H [] w (wysD b) ∧ fs.lookup ("spans" : Str) = some sp ∧ MD K H [] sp (spsD b)
  sm : nS b ≤ 64
def flOk (q : Bool) (b : TR) : V → Bool
  | .str u => madeL q u && decide (u.cps.toList.length + 1 = nS b)
  | _ => false
def ct_checked (K : PySem.W.Frag) (a : Ads) (q : Bool) : Ct (V × TR × V × TY) where
  pre g vs H := vs = [g.1, g.2.2.1] ∧ TreeAt K a H g.1 g.2.1 ∧ Ty0 K H g.2.2.1 g.2.2.2 ∧ strOk g.2.2.1
  post g H v H' := flOk q g.2.1 g.2.2.1 = true ∧ v = g.2.2.1 ∧ Ext H H'
  exn g H c d H' := flOk q g.2.1 g.2.2.1 = false ∧ c = .ref a.InvalidFlags ∧ ∃ dd, d = some dd ∧ H dd = none ∧ Ext H H' ∧ H' dd = some (.xd [(("flags" : Str), g.2.2.1)])
abbrev p_checked_flags (K : PySem.W.Frag) (a : Ads) : Sp := spC (ct_checked K a false)
abbrev q_checked_flags (K : PySem.W.Frag) (a : Ads) := rC (ct_checked K a false)
theorem c_checked_flags {K : PySem.W.Frag} {a : Ads} : Ctr (p_checked_flags K a) (q_checked_flags K a) := ctrC
abbrev p_checked_pattern (K : PySem.W.Frag) (a : Ads) : Sp := spC (ct_checked K a true)
abbrev q_checked_pattern (K : PySem.W.Frag) (a : Ads) := rC (ct_checked K a true)
theorem c_checked_pattern {K : PySem.W.Frag} {a : Ads} : Ctr (p_checked_pattern K a) (q_checked_pattern K a) := ctrC
def ct_checked_slot (K : PySem.W.Frag) (a : Ads) : Ct (V × TR × V × TY) where
  pre g vs H := vs = [g.1, g.2.2.1] ∧ TreeAt K a H g.1 g.2.1 ∧ Ty0 K H g.2.2.1 g.2.2.2
  post g H v H' := plcB (nS g.2.1) g.2.2.1 = true ∧ v = g.2.2.1 ∧ Ext H H'
  exn g H c d H' := plcB (nS g.2.1) g.2.2.1 = false ∧ c = .ref a.InvalidSlot ∧ ∃ dd, d = some dd ∧ H dd = none ∧ Ext H H' ∧ H' dd = some (.xd [(("slot" : Str), g.2.2.1)])
abbrev p_checked_slot (K : PySem.W.Frag) (a : Ads) : Sp := spC (ct_checked_slot K a)
abbrev q_checked_slot (K : PySem.W.Frag) (a : Ads) := rC (ct_checked_slot K a)
theorem c_checked_slot {K : PySem.W.Frag} {a : Ads} : Ctr (p_checked_slot K a) (q_checked_slot K a) := ctrC
/-- a new list of the trails -/
def newTr (K : PySem.W.Frag) (b : TR) (fl : List Bool) (H : Hp) (v : V) (H' : Hp) : Prop := ∃ p xs, v = .ref p ∧ H p = none ∧ H' p = some (.lst xs) ∧ MDs K H' [] xs (trsD b fl)
def ct_trail_rows (K : PySem.W.Frag) (a : Ads) : Ct (V × TR × List Bool) where
  pre g vs H := vs = [g.1, .str (fS g.2.2)] ∧ TreeAt K a H g.1 g.2.1 ∧ g.2.2.length + 1 = nS g.2.1
  post g H v H' := newTr K g.2.1 g.2.2 H v H' ∧ Ext H H'
abbrev p_trail_rows (K : PySem.W.Frag) (a : Ads) : Sp := spC (ct_trail_rows K a)
abbrev q_trail_rows (K : PySem.W.Frag) (a : Ads) := rC (ct_trail_rows K a)
theorem c_trail_rows {K : PySem.W.Frag} {a : Ads} : Ctr (p_trail_rows K a) (q_trail_rows K a) := ctrC
def newL (ns : List Nat) (H : Hp) (v : V) (H' : Hp) : Prop := ∃ p, v = .ref p ∧ H p = none ∧ H' p = some (.lst (nV ns))
def ct_checked_visits (K : PySem.W.Frag) (a : Ads) : Ct (V × TR × Addr × List Nat) where
  pre g vs H := vs = [g.1, .ref g.2.2.1] ∧ TreeAt K a H g.1 g.2.1 ∧ SqL K H g.2.2.1 (nV g.2.2.2) ∧ ∀ i ∈ g.2.2.2, i < nS g.2.1
  post g H v H' := newL g.2.2.2 H v H' ∧ Ext H H'
abbrev p_checked_visits (K : PySem.W.Frag) (a : Ads) : Sp := spC (ct_checked_visits K a)
abbrev q_checked_visits (K : PySem.W.Frag) (a : Ads) := rC (ct_checked_visits K a)
theorem c_checked_visits {K : PySem.W.Frag} {a : Ads} : Ctr (p_checked_visits K a) (q_checked_visits K a) := ctrC
def ct_forks_below (K : PySem.W.Frag) (a : Ads) : Ct (V × TR × List Bool × Option Nat) where
  pre g vs H := vs = [g.1, .str (fS g.2.2.1), hgV g.2.2.2] ∧ TreeAt K a H g.1 g.2.1 ∧ g.2.2.1.length + 1 = nS g.2.1 ∧ ∀ h, g.2.2.2 = some h → h + 1 < nS g.2.1
  post g H v H' := MD K H' [] v (prD (hrg g.2.2.1 g.2.1 g.2.2.2)) ∧ Ext H H'
abbrev p_forks_below (K : PySem.W.Frag) (a : Ads) : Sp := spC (ct_forks_below K a)
abbrev q_forks_below (K : PySem.W.Frag) (a : Ads) := rC (ct_forks_below K a)
theorem c_forks_below {K : PySem.W.Frag} {a : Ads} : Ctr (p_forks_below K a) (q_forks_below K a) := ctrC
def difF (st : List Nat) (en : List Bool) : Nat → Bool := fun f => decide (st[f]? ≠ some (cdB (eF en f)))
abbrev dueL (st : List Nat) (en : List Bool) (b : TR) : List Nat := dueB en (difF st en) b
def ct_between (K : PySem.W.Frag) (a : Ads) (res : List Nat → List Bool → TR → Hp → V → Hp → Prop) : Ct (V × TR × List Nat × List Bool) where
  pre g vs H := vs = [g.1, .str (pS g.2.2.1), .str (fS g.2.2.2)] ∧ TreeAt K a H g.1 g.2.1 ∧ g.2.2.1.length + 1 = nS g.2.1 ∧ g.2.2.2.length + 1 = nS g.2.1
  post g H v H' := res g.2.2.1 g.2.2.2 g.2.1 H v H' ∧ Ext H H'
def resL (st : List Nat) (en : List Bool) (b : TR) (H : Hp) (v : V) (H' : Hp) : Prop := newL (dueL st en b) H v H'
def resN (st : List Nat) (en : List Bool) (b : TR) (_ : Hp) (v : V) (_ : Hp) : Prop := v = .int ((dueL st en b).length : Nat)
abbrev p_needed_slots (K : PySem.W.Frag) (a : Ads) : Sp := spC (ct_between K a resL)
abbrev q_needed_slots (K : PySem.W.Frag) (a : Ads) := rC (ct_between K a resL)
theorem c_needed_slots {K : PySem.W.Frag} {a : Ads} : Ctr (p_needed_slots K a) (q_needed_slots K a) := ctrC
abbrev p_hits_between (K : PySem.W.Frag) (a : Ads) : Sp := spC (ct_between K a resN)
abbrev q_hits_between (K : PySem.W.Frag) (a : Ads) := rC (ct_between K a resN)
theorem c_hits_between {K : PySem.W.Frag} {a : Ads} : Ctr (p_hits_between K a) (q_hits_between K a) := ctrC
def ct_door (K : PySem.W.Frag) (a : Ads) (res : List Nat → List Bool → TR → Hp → V → Hp → Prop) : Ct (V × TR × V × TY × V × TY) where
  pre g vs H := vs = [g.1, g.2.2.1, g.2.2.2.2.1] ∧ TreeAt K a H g.1 g.2.1 ∧ Ty0 K H g.2.2.1 g.2.2.2.1 ∧ strOk g.2.2.1 ∧ Ty0 K H g.2.2.2.2.1 g.2.2.2.2.2 ∧ strOk g.2.2.2.2.1
  post g H v H' := flOk true g.2.1 g.2.2.1 = true ∧ flOk false g.2.1 g.2.2.2.2.1 = true ∧ (∀ st en, g.2.2.1 = .str (pS st) → g.2.2.2.2.1 = .str (fS en) → res st en g.2.1 H v H') ∧ Ext H H'
  exn g H c d H' := c = .ref a.InvalidFlags ∧ ∃ dd, d = some dd ∧ H dd = none ∧ Ext H H' ∧ ((flOk true g.2.1 g.2.2.1 = false ∧ H' dd = some (.xd [(("flags" : Str), g.2.2.1)])) ∨ (flOk true g.2.1 g.2.2.1 = true ∧ flOk false g.2.1 g.2.2.2.2.1 = false ∧ H' dd = some (.xd [(("flags" : Str), g.2.2.2.2.1)])))
abbrev p_needed (K : PySem.W.Frag) (a : Ads) : Sp := spC (ct_door K a resL)
abbrev q_needed (K : PySem.W.Frag) (a : Ads) := rC (ct_door K a resL)
theorem c_needed {K : PySem.W.Frag} {a : Ads} : Ctr (p_needed K a) (q_needed K a) := ctrC
abbrev p_least_hits (K : PySem.W.Frag) (a : Ads) : Sp := spC (ct_door K a resN)
abbrev q_least_hits (K : PySem.W.Frag) (a : Ads) := rC (ct_door K a resN)
theorem c_least_hits {K : PySem.W.Frag} {a : Ads} : Ctr (p_least_hits K a) (q_least_hits K a) := ctrC
def patOk (st : List Nat) : Prop := ∀ c ∈ st, c ∈ [76, 82, 63]
def ct_turned (K : PySem.W.Frag) (a : Ads) (ok : List Nat → Prop) : Ct (V × TR × List Nat × Nat) where
  pre g vs H := vs = [g.1, .str (pS g.2.2.1), .int (g.2.2.2 : Nat)] ∧ TreeAt K a H g.1 g.2.1 ∧ g.2.2.1.length + 1 = nS g.2.1 ∧ g.2.2.2 < nS g.2.1 ∧ ok g.2.2.1
  post g H v H' := v = .str (pS (hitL g.2.2.1 (wy g.2.1 g.2.2.2))) ∧ Ext H H'
abbrev p_turned (K : PySem.W.Frag) (a : Ads) : Sp := spC (ct_turned K a fun _ => True)
abbrev q_turned (K : PySem.W.Frag) (a : Ads) := rC (ct_turned K a fun _ => True)
theorem c_turned {K : PySem.W.Frag} {a : Ads} : Ctr (p_turned K a) (q_turned K a) := ctrC
abbrev p_flags_after (K : PySem.W.Frag) (a : Ads) : Sp := spC (ct_turned K a patOk)
abbrev q_flags_after (K : PySem.W.Frag) (a : Ads) := rC (ct_turned K a patOk)
theorem c_flags_after {K : PySem.W.Frag} {a : Ads} : Ctr (p_flags_after K a) (q_flags_after K a) := ctrC
def ct_all_after (K : PySem.W.Frag) (a : Ads) : Ct (V × TR × List Bool × Addr × List Nat) where
  pre g vs H := vs = [g.1, .str (fS g.2.2.1), .ref g.2.2.2.1] ∧ TreeAt K a H g.1 g.2.1 ∧ g.2.2.1.length + 1 = nS g.2.1 ∧ SqL K H g.2.2.2.1 (nV g.2.2.2.2) ∧ ∀ i ∈ g.2.2.2.2, i < nS g.2.1
  post g H v H' := v = .str (pS (hitsL (g.2.2.1.map cdB) (g.2.2.2.2.map (wy g.2.1)))) ∧ Ext H H'
abbrev p_all_after (K : PySem.W.Frag) (a : Ads) : Sp := spC (ct_all_after K a)
abbrev q_all_after (K : PySem.W.Frag) (a : Ads) := rC (ct_all_after K a)
theorem c_all_after {K : PySem.W.Frag} {a : Ads} : Ctr (p_all_after K a) (q_all_after K a) := ctrC
/-! the reading -/
def kdS (k : Nat) : Str := if k = 0 then "open" else if k = 1 then "slot" else "fork"
def pnD (n : PN) : PyData := .tuple [.str (kdS n.1), .int (n.2.1 : Nat), .int (n.2.2.1 : Nat), .int (n.2.2.2.1 : Nat), .int (n.2.2.2.2 : Nat)]
def ndD (n : Nat × Nat) : PyData := .tuple [.str (kdS n.1), .int (n.2 : Nat)]
def ct_ends_fork (K : PySem.W.Frag) : Ct (V × List PN) where
  pre g vs H := vs = [g.1] ∧ (∃ p xs, g.1 = .ref p ∧ SqL K H p xs ∧ MDs K H [] xs (g.2.map pnD)) ∧ g.2.length ≤ 1000 ∧ ∀ n ∈ g.2, n.1 ≤ 2
  post g H v H' := v = .bl (endsF g.2) ∧ Ext H H'
abbrev p_ends_fork (K : PySem.W.Frag) (a : Ads) : Sp := spC (ct_ends_fork K)
abbrev q_ends_fork (K : PySem.W.Frag) (a : Ads) := rC (ct_ends_fork K)
theorem c_ends_fork {K : PySem.W.Frag} {a : Ads} : Ctr (p_ends_fork K a) (q_ends_fork K a) := ctrC
/-- a row of read_forks -/
def rowR (K : PySem.W.Frag) (G : List (Addr × HO)) (F : Hp) (v : V) (r : TR.Row) : Prop := ∃ t r1 r2 r3 r4, v = .ref t ∧ At ⟨F, G⟩ t (.tup [.int (r.1 : Nat), r1, r2, r3, r4]) ∧ MD K F G r1 (ndD r.2.1) ∧ MD K F G r2 (ndD r.2.2.1) ∧ MD K F G r3 (prD r.2.2.2.1)
def ct_read_forks (K : PySem.W.Frag) : Ct TR where
  pre b vs H := vs = [.str (tS b)] ∧ nS b ≤ 64
  post b H v H' := (∃ p xs, v = .ref p ∧ H p = none ∧ H' p = some (.lst xs) ∧ allV (rowR K [] H') xs (rowsB b 0 0)) ∧ Ext H H'
abbrev p_read_forks (K : PySem.W.Frag) (a : Ads) : Sp := spC (ct_read_forks K)
abbrev q_read_forks (K : PySem.W.Frag) (a : Ads) := rC (ct_read_forks K)
theorem c_read_forks {K : PySem.W.Frag} {a : Ads} : Ctr (p_read_forks K a) (q_read_forks K a) := ctrC
def ct_lay_ways (K : PySem.W.Frag) : Ct (TR × V × V × V × List (Nat × Nat) × List (Nat × Nat)) where
  pre g vs H := vs = [g.2.1, g.2.2.1, g.2.2.2.1] ∧ nS g.1 ≤ 64 ∧ MD K H [] g.2.1 (ndD (ndB g.1 0)) ∧ MD K H [] g.2.2.1 (.tuple (g.2.2.2.2.1.map ndD)) ∧ MD K H [] g.2.2.2.1 (.tuple (g.2.2.2.2.2.map ndD)) ∧ Fits g.1 0 g.2.2.2.2.1 g.2.2.2.2.2
  post g H v H' := (∃ p u w, v = .ref p ∧ SqT K H' p [u, w] ∧ MD K H' [] w (wysD g.1)) ∧ Ext H H'
abbrev p_lay_ways (K : PySem.W.Frag) (a : Ads) : Sp := spC (ct_lay_ways K)
abbrev q_lay_ways (K : PySem.W.Frag) (a : Ads) := rC (ct_lay_ways K)
theorem c_lay_ways {K : PySem.W.Frag} {a : Ads} : Ctr (p_lay_ways K a) (q_lay_ways K a) := ctrC
def ct_Tree_init (K : PySem.W.Frag) (a : Ads) : Ct (Addr × Addr × TR) where
  pre g vs H := vs = [.ref g.1, .str (tS g.2.2)] ∧ H g.1 = some (.ins a.Tree g.2.1 []) ∧ nS g.2.2 ≤ 64
  post g H v H' := v = .non ∧ TreeAt K a H' (.ref g.1) g.2.2 ∧ ∀ c o, c ≠ g.1 → H c = some o → H' c = some o
abbrev p_Tree_init (K : PySem.W.Frag) (a : Ads) : Sp := spC (ct_Tree_init K a)
abbrev q_Tree_init (K : PySem.W.Frag) (a : Ads) := rC (ct_Tree_init K a)
theorem c_Tree_init {K : PySem.W.Frag} {a : Ads} : Ctr (p_Tree_init K a) (q_Tree_init K a) := ctrC
def ct_tree_n (K : PySem.W.Frag) (a : Ads) (f : TR → Nat) : Ct (V × TR) where
  pre g vs H := vs = [g.1] ∧ TreeAt K a H g.1 g.2
  post g H v H' := v = .int (f g.2 : Nat) ∧ Ext H H'
abbrev p_Tree_len (K : PySem.W.Frag) (a : Ads) : Sp := spC (ct_tree_n K a nS)
abbrev q_Tree_len (K : PySem.W.Frag) (a : Ads) := rC (ct_tree_n K a nS)
theorem c_Tree_len {K : PySem.W.Frag} {a : Ads} : Ctr (p_Tree_len K a) (q_Tree_len K a) := ctrC
abbrev p_Tree_forks (K : PySem.W.Frag) (a : Ads) : Sp := spC (ct_tree_n K a fun b => nS b - 1)
abbrev q_Tree_forks (K : PySem.W.Frag) (a : Ads) := rC (ct_tree_n K a fun b => nS b - 1)
theorem c_Tree_forks {K : PySem.W.Frag} {a : Ads} : Ctr (p_Tree_forks K a) (q_Tree_forks K a) := ctrC
/-! the law's -/
def ct_l_box (K : PySem.W.Frag) : Ct (Addr × List Int) where
  pre g vs H := vs = [.ref g.1] ∧ SqL K H g.1 (g.2.map V.int)
  post g H v H' := ∃ b m x, v = .ref b ∧ H b = none ∧ H x.g = none ∧ H m = none ∧ BoxAt b m x H' ∧ x.ms ≠ [] ∧ Ext H H'
abbrev p_l_box (K : PySem.W.Frag) (a : Ads) : Sp := spC (ct_l_box K)
abbrev q_l_box (K : PySem.W.Frag) (a : Ads) := rC (ct_l_box K)
theorem c_l_box {K : PySem.W.Frag} {a : Ads} : Ctr (p_l_box K a) (q_l_box K a) := ctrC
def ct_l_take : Ct (Addr × Addr × Bx × Int) := ct_box (fun size => [.int size]) (fun size _ v _ => ∃ r : Nat, v = .int (r : Nat) ∧ ((r : Int) < size ∨ r = 0 ∧ size < 1)) (fun size _ => size < 1073741824)
abbrev p_l_take (K : PySem.W.Frag) (a : Ads) : Sp := spC ct_l_take
abbrev q_l_take (K : PySem.W.Frag) (a : Ads) := rC ct_l_take
theorem c_l_take {K : PySem.W.Frag} {a : Ads} : Ctr (p_l_take K a) (q_l_take K a) := ctrC
def ct_l_join : Ct (Addr × Addr × Bx × Nat × Nat) := ct_box (fun g => [.int (g.1 : Nat), .int (g.2 : Nat)]) (fun g _ v _ => ∃ r : Nat, v = .int (r : Nat) ∧ r < g.2) (fun g _ => 1 ≤ g.2 ∧ g.2 ≤ 63)
abbrev p_l_join (K : PySem.W.Frag) (a : Ads) : Sp := spC ct_l_join
abbrev q_l_join (K : PySem.W.Frag) (a : Ads) := rC ct_l_join
theorem c_l_join {K : PySem.W.Frag} {a : Ads} : Ctr (p_l_join K a) (q_l_join K a) := ctrC
/-- the law's ways: lists -/
def lwyR (K : PySem.W.Frag) (G : List (Addr × HO)) (F : Hp) (v : V) (w : Way) : Prop := ∃ p xs, v = .ref p ∧ mL K F G p xs ∧ MDs K F G xs (w.map stD)
def lwsR (K : PySem.W.Frag) (F : Hp) (v : V) (b : TR) : Prop := ∃ p xs, v = .ref p ∧ SqL K F p xs ∧ allV (lwyR K [] F) xs (wayB b 0)
def ct_l_tree (K : PySem.W.Frag) : Ct (Addr × Addr × Bx × Nat) := ct_box (fun n => [.int (n : Nat)]) (fun n _ v H' => ∃ b p wv, nS b = n ∧ v = .ref p ∧ SqT K H' p [.str (tS b), wv] ∧ lwsR K H' wv b) (fun n _ => 1 ≤ n ∧ n ≤ 64)
abbrev p_l_tree (K : PySem.W.Frag) (a : Ads) : Sp := spC (ct_l_tree K)
abbrev q_l_tree (K : PySem.W.Frag) (a : Ads) := rC (ct_l_tree K)
theorem c_l_tree {K : PySem.W.Frag} {a : Ads} : Ctr (p_l_tree K a) (q_l_tree K a) := ctrC
def ct_l_flags : Ct (Addr × Addr × Bx × Nat) := ct_box (fun n => [.int (n : Nat)]) (fun n _ v _ => ∃ fl, fl.length = n ∧ v = .str (fS fl)) (fun n _ => n ≤ 63)
abbrev p_l_flags (K : PySem.W.Frag) (a : Ads) : Sp := spC ct_l_flags
abbrev q_l_flags (K : PySem.W.Frag) (a : Ads) := rC ct_l_flags
theorem c_l_flags {K : PySem.W.Frag} {a : Ads} : Ctr (p_l_flags K a) (q_l_flags K a) := ctrC
def ct_l_slots : Ct (Addr × Addr × Bx × Unit) := ct_box (fun _ => []) (fun _ _ v _ => ∃ n : Nat, v = .int (n : Nat) ∧ 1 ≤ n ∧ n ≤ 64) (fun _ _ => True)
abbrev p_l_slots (K : PySem.W.Frag) (a : Ads) : Sp := spC ct_l_slots
abbrev q_l_slots (K : PySem.W.Frag) (a : Ads) := rC ct_l_slots
theorem c_l_slots {K : PySem.W.Frag} {a : Ads} : Ctr (p_l_slots K a) (q_l_slots K a) := ctrC
/-- flags of another kind -/
def BadF (q : Bool) (n : Nat) (H : Hp) (v : V) (H' : Hp) : Prop := (∃ u, v = .str u ∧ sgnOk u ∧ (madeL q u && decide (u.cps.toList.length = n)) = false) ∨ v = .non ∨
  ∃ (p : Addr) (us : List Str), v = .ref p ∧ H p = none ∧ H' p = some (.lst (us.map V.str)) ∧ us.length ≤ 100 ∧ ∀ u ∈ us, ∃ c ∈ [76, 82, 63], u = pS [c]
def ct_l_bent : Ct (Addr × Addr × Bx × List Nat × Bool) := ct_box (fun g => [.str (pS g.1), .str (if g.2 then "!.lx" else "?.lx")]) (fun g H v H' => BadF g.2 g.1.length H v H') (fun g _ => g.1.length ≤ 63 ∧ patOk g.1)
abbrev p_l_bent (K : PySem.W.Frag) (a : Ads) : Sp := spC (ct_l_bent)
abbrev q_l_bent (K : PySem.W.Frag) (a : Ads) := rC (ct_l_bent)
theorem c_l_bent {K : PySem.W.Frag} {a : Ads} : Ctr (p_l_bent K a) (q_l_bent K a) := ctrC
def ct_l_start : Ct (Addr × Addr × Bx × List Bool) := ct_box (fun en => [.str (fS en), .str "?"]) (fun en _ v _ => ∃ st, v = .str (pS st) ∧ st.length = en.length ∧ patOk st) (fun en _ => en.length ≤ 63)
abbrev p_l_start (K : PySem.W.Frag) (a : Ads) : Sp := spC (ct_l_start)
abbrev q_l_start (K : PySem.W.Frag) (a : Ads) := rC (ct_l_start)
theorem c_l_start {K : PySem.W.Frag} {a : Ads} : Ctr (p_l_start K a) (q_l_start K a) := ctrC
def ct_l_hit (K : PySem.W.Frag) : Ct (List Nat × V × Way) where
  pre g vs H := vs = [.str (pS g.1), g.2.1] ∧ lwyR K [] H g.2.1 g.2.2 ∧ (∀ s ∈ g.2.2, s.1 < g.1.length) ∧ g.1.length ≤ 64
  post g H v H' := v = .str (pS (hitL g.1 g.2.2)) ∧ Ext H H'
abbrev p_l_hit (K : PySem.W.Frag) (a : Ads) : Sp := spC (ct_l_hit K)
abbrev q_l_hit (K : PySem.W.Frag) (a : Ads) := rC (ct_l_hit K)
theorem c_l_hit {K : PySem.W.Frag} {a : Ads} : Ctr (p_l_hit K a) (q_l_hit K a) := ctrC
def holL (en : List Bool) (b : TR) : List Nat := (List.range (nS b - 1)).map (hol0 en b) ++ [0]
def abvL (en : List Bool) (b : TR) : List V := (List.range (nS b)).map fun i => hgV (par0 en b i)
def ct_ways (K : PySem.W.Frag) (res : List Bool → TR → Hp → V → Hp → Prop) : Ct (List Bool × V × TR) where
  pre g vs H := vs = [.str (fS g.1), g.2.1] ∧ lwsR K H g.2.1 g.2.2 ∧ g.1.length + 1 = nS g.2.2 ∧ nS g.2.2 ≤ 64
  post g H v H' := res g.1 g.2.2 H v H' ∧ Ext H H'
abbrev p_l_holders (K : PySem.W.Frag) (a : Ads) : Sp := spC (ct_ways K fun en b => newL (holL en b))
abbrev q_l_holders (K : PySem.W.Frag) (a : Ads) := rC (ct_ways K fun en b => newL (holL en b))
theorem c_l_holders {K : PySem.W.Frag} {a : Ads} : Ctr (p_l_holders K a) (q_l_holders K a) := ctrC
abbrev p_l_above (K : PySem.W.Frag) (a : Ads) : Sp := spC (ct_ways K fun en b H v H' => ∃ p, v = .ref p ∧ H p = none ∧ H' p = some (.lst (abvL en b)))
abbrev q_l_above (K : PySem.W.Frag) (a : Ads) := rC (ct_ways K fun en b H v H' => ∃ p, v = .ref p ∧ H p = none ∧ H' p = some (.lst (abvL en b)))
theorem c_l_above {K : PySem.W.Frag} {a : Ads} : Ctr (p_l_above K a) (q_l_above K a) := ctrC
def ct_two (K : PySem.W.Frag) (m : Nat) (res : List Nat → List Bool → TR → Hp → V → Hp → Prop) : Ct (List Nat × List Bool × V × TR) where
  pre g vs H := vs = [.str (pS g.1), .str (fS g.2.1), g.2.2.1] ∧ lwsR K H g.2.2.1 g.2.2.2 ∧ g.1.length + 1 = nS g.2.2.2 ∧ g.2.1.length + 1 = nS g.2.2.2 ∧ nS g.2.2.2 ≤ m
  post g H v H' := res g.1 g.2.1 g.2.2.2 H v H' ∧ Ext H H'
abbrev p_l_due (K : PySem.W.Frag) (a : Ads) : Sp := spC (ct_two K 64 resL)
abbrev q_l_due (K : PySem.W.Frag) (a : Ads) := rC (ct_two K 64 resL)
theorem c_l_due {K : PySem.W.Frag} {a : Ads} : Ctr (p_l_due K a) (q_l_due K a) := ctrC
abbrev p_l_search (K : PySem.W.Frag) (a : Ads) : Sp := spC (ct_two K 5 resN)
abbrev q_l_search (K : PySem.W.Frag) (a : Ads) := rC (ct_two K 5 resN)
theorem c_l_search {K : PySem.W.Frag} {a : Ads} : Ctr (p_l_search K a) (q_l_search K a) := ctrC
def ct_l_same (K : PySem.W.Frag) : Ct (V × V × List Nat) where
  pre g vs H := vs = [g.1, g.2.1] ∧ (∃ p, g.1 = .ref p ∧ SqL K H p (nV g.2.2)) ∧ (∃ p, g.2.1 = .ref p ∧ SqL K H p (nV g.2.2)) ∧ g.2.2.length ≤ 64
  post g H v H' := v = .bl true ∧ Ext H H'
abbrev p_l_same (K : PySem.W.Frag) (a : Ads) : Sp := spC (ct_l_same K)
abbrev q_l_same (K : PySem.W.Frag) (a : Ads) := rC (ct_l_same K)
theorem c_l_same {K : PySem.W.Frag} {a : Ads} : Ctr (p_l_same K a) (q_l_same K a) := ctrC
def ct_l_order (K : PySem.W.Frag) : Ct (Addr × Addr × Bx × Addr × List Nat × Addr × List Bool × TR) := ct_box (fun g => [.ref g.1, .ref g.2.2.1])
  (fun g H v H' => ∃ p ord, v = .ref p ∧ H p = none ∧ H' p = some (.lst (nV ord)) ∧ ord.Perm g.2.1 ∧ ord.Pairwise fun x y => par0 g.2.2.2.1 g.2.2.2.2 y ≠ some x)
  (fun g H => SqL K H g.1 (nV g.2.1) ∧ SqL K H g.2.2.1 (abvL g.2.2.2.1 g.2.2.2.2) ∧ g.2.1.Nodup ∧ (∀ x ∈ g.2.1, x < nS g.2.2.2.2) ∧ nS g.2.2.2.2 ≤ 64)
abbrev p_l_order (K : PySem.W.Frag) (a : Ads) : Sp := spC (ct_l_order K)
abbrev q_l_order (K : PySem.W.Frag) (a : Ads) := rC (ct_l_order K)
theorem c_l_order {K : PySem.W.Frag} {a : Ads} : Ctr (p_l_order K a) (q_l_order K a) := ctrC
def ct_l_answers (K : PySem.W.Frag) (a : Ads) : Ct (V × TR × List Nat × List Bool × V) where
  pre g vs H := vs = [g.1, .str (pS g.2.2.1), .str (fS g.2.2.2.1), g.2.2.2.2] ∧ TreeAt K a H g.1 g.2.1 ∧ lwsR K H g.2.2.2.2 g.2.1 ∧ g.2.2.1.length + 1 = nS g.2.1 ∧ g.2.2.2.1.length + 1 = nS g.2.1 ∧ patOk g.2.2.1
  post g H v H' := v = .bl true ∧ Ext H H'
abbrev p_l_answers (K : PySem.W.Frag) (a : Ads) : Sp := spC (ct_l_answers K a)
abbrev q_l_answers (K : PySem.W.Frag) (a : Ads) := rC (ct_l_answers K a)
theorem c_l_answers {K : PySem.W.Frag} {a : Ads} : Ctr (p_l_answers K a) (q_l_answers K a) := ctrC
def ct_l_plays (K : PySem.W.Frag) (a : Ads) : Ct (Addr × Addr × Bx × V × TR × List Nat × List Bool × V) := ct_box (fun g => [g.1, .str (pS g.2.2.1), .str (fS g.2.2.2.1), g.2.2.2.2]) (fun _ _ v _ => v = .bl true)
  (fun g H => TreeAt K a H g.1 g.2.1 ∧ lwsR K H g.2.2.2.2 g.2.1 ∧ g.2.2.1.length + 1 = nS g.2.1 ∧ g.2.2.2.1.length + 1 = nS g.2.1 ∧ patOk g.2.2.1)
abbrev p_l_plays (K : PySem.W.Frag) (a : Ads) : Sp := spC (ct_l_plays K a)
abbrev q_l_plays (K : PySem.W.Frag) (a : Ads) := rC (ct_l_plays K a)
theorem c_l_plays {K : PySem.W.Frag} {a : Ads} : Ctr (p_l_plays K a) (q_l_plays K a) := ctrC
def ct_l_comes (K : PySem.W.Frag) (a : Ads) : Ct (Addr × Addr × Bx × V × TR × V) := ct_box (fun g => [g.1, g.2.2]) (fun _ _ v _ => v = .bl true) (fun g H => TreeAt K a H g.1 g.2.1 ∧ lwsR K H g.2.2 g.2.1)
abbrev p_l_comes (K : PySem.W.Frag) (a : Ads) : Sp := spC (ct_l_comes K a)
abbrev q_l_comes (K : PySem.W.Frag) (a : Ads) := rC (ct_l_comes K a)
theorem c_l_comes {K : PySem.W.Frag} {a : Ads} : Ctr (p_l_comes K a) (q_l_comes K a) := ctrC
structure FaultG where
  door : Int
  tv : V
  b : TR
  sv : V
  st : TY
  ev : V
  et : TY
  z : Str
def ct_l_fault (K : PySem.W.Frag) (a : Ads) : Ct FaultG where
  pre g vs H := vs = [.int g.door, g.tv, g.sv, g.ev] ∧ TreeAt K a H g.tv g.b ∧ Ty0 K H g.sv g.st ∧ strOk g.sv ∧ Ty0 K H g.ev g.et ∧ strOk g.ev ∧
    (if flOk true g.b g.sv then flOk false g.b g.ev = false ∧ RprV K H g.ev g.z else RprV K H g.sv g.z)
  post g H v H' := (∃ p, v = .ref p ∧ H p = none ∧ H' p = some (.tup [.str "InvalidFlags", .str g.z])) ∧ Ext H H'
abbrev p_l_fault (K : PySem.W.Frag) (a : Ads) : Sp := spC (ct_l_fault K a)
abbrev q_l_fault (K : PySem.W.Frag) (a : Ads) := rC (ct_l_fault K a)
theorem c_l_fault {K : PySem.W.Frag} {a : Ads} : Ctr (p_l_fault K a) (q_l_fault K a) := ctrC
def ct_law (K : PySem.W.Frag) : Ct (Addr × List Int) where
  pre g vs H := vs = [.ref g.1] ∧ SqL K H g.1 (g.2.map V.int)
  post g H v H' := v = .bl true
abbrev p_law (K : PySem.W.Frag) (a : Ads) : Sp := spC (ct_law K)
abbrev q_law (K : PySem.W.Frag) (a : Ads) := rC (ct_law K)
theorem c_law {K : PySem.W.Frag} {a : Ads} : Ctr (p_law K a) (q_law K a) := ctrC
/-! ### readings and derivations (printed by gen.py) -/
def r_is_integer (K : PySem.W.Frag) (a : Ads) : sS := sRet (sAndV (sIsi K .int (sVar 0)) (sNotV K (sIsi K .bool (sVar 0))))
def r_is_place (K : PySem.W.Frag) (a : Ads) : sS := sRet (sAndV (sCallD (q_is_integer K a) [] (sCons (sVar 1) (sNil))) (sChain oLe oLt (sC (.int 0)) (sVar 1) (sVar 0)))
def r_is_made_of (K : PySem.W.Frag) (a : Ads) : sS := sRet (sAndV (sIsi K .str (sVar 0)) (sCall1 (nAll K) (sCons (sLc (siStr (sVar 0)) (sgName 2) (sYes) (sOp (oIn K false) (sVar 2) (sVar 1)) [2]) (sNil))))
def r_checked_flags (K : PySem.W.Frag) (a : Ads) : sS := sSeq (sIfS (sOr (sNot (sTru K (sCallD (q_is_made_of K a) [] (sCons (sVar 1) (sCons (sC (.str ("LR" : Str))) (sNil)))))) (sTst (sOp (oNe K) (sCall1 (nLen K) (sCons (sVar 1) (sNil))) (sProO a.Tree (q_Tree_forks K a) (sVar 0))))) (sRaise a.InvalidFlags ("flags" : Str) (sVar 1)) (sNext)) (sRet (sVar 1))
def r_checked_pattern (K : PySem.W.Frag) (a : Ads) : sS := sSeq (sIfS (sOr (sNot (sTru K (sCallD (q_is_made_of K a) [] (sCons (sVar 1) (sCons (sC (.str ("LR?" : Str))) (sNil)))))) (sTst (sOp (oNe K) (sCall1 (nLen K) (sCons (sVar 1) (sNil))) (sProO a.Tree (q_Tree_forks K a) (sVar 0))))) (sRaise a.InvalidFlags ("flags" : Str) (sVar 1)) (sNext)) (sRet (sVar 1))
def r_checked_slot (K : PySem.W.Frag) (a : Ads) : sS := sSeq (sIfS (sNot (sTru K (sCallD (q_is_place K a) [] (sCons (sLenO a.Tree (q_Tree_len K a) (sVar 0)) (sCons (sVar 1) (sNil)))))) (sRaise a.InvalidSlot ("slot" : Str) (sVar 1)) (sNext)) (sRet (sVar 1))
def r_checked_visits (K : PySem.W.Frag) (a : Ads) : sS := sSeq (sIfS (sNot (sTru K (sIsi K .list (sVar 1)))) (sRaise a.InvalidSlot ("slot" : Str) (sVar 1)) (sNext)) (sSeq (sFor (siSeq K (sVar 1)) (sgName 2) (sDrop (sCallD (q_checked_slot K a) [] (sCons (sVar 0) (sCons (sVar 2) (sNil)))))) (sRet (sCall1 (nList K) (sCons (sVar 1) (sNil)))))
def r_trail_rows (K : PySem.W.Frag) (a : Ads) : sS := sSeq (sSet (sLst (sNil)) 2) (sSeq (sFor (siR1 (sCons (sLenO a.Tree (q_Tree_len K a) (sVar 0)) (sNil))) (sgName 3) (sSeq (sSet (sOp (oIx K) (sFldO a.Tree ("ways" : Str) (sVar 0)) (sVar 3)) 4) (sSeq (sSet (sCall1 (nLen K) (sCons (sVar 4) (sNil))) 5) (sSeq (sWhile (sAnd (sTst (sOp oGt (sVar 5) (sC (.int 0)))) (sTst (sOp (oEq K) (sOp (oIx K) (sVar 1) (sOp (oIx K) (sOp (oIx K) (sVar 4) (sOp oSub (sVar 5) (sC (.int 1)))) (sC (.int 0)))) (sOp (oIx K) (sOp (oIx K) (sVar 4) (sOp oSub (sVar 5) (sC (.int 1)))) (sC (.int 1)))))) (sSet (sOp oSub (sVar 5) (sC (.int 1))) 5)) (sSeq (sSet (sTuple K (sLc (siSeq K (sSlT K (sVar 4) (sPart (sVar 5)) sNoP)) (sgName 8) (sYes) (sOp (oIx K) (sVar 8) (sC (.int 0))) [8])) 6) (sSeq (sSet (sIf (sTst (sOp oGt (sVar 5) (sC (.int 0)))) (sOp (oIx K) (sOp (oIx K) (sVar 4) (sOp oSub (sVar 5) (sC (.int 1)))) (sC (.int 0))) (sC .non)) 7) (sDrop (sMt K "list" mAppend (sVar 2) (sCons (sTup (sCons (sVar 3) (sCons (sVar 6) (sCons (sVar 7) (sNil))))) (sNil)))))))))) (sRet (sVar 2)))
def r_forks_below (K : PySem.W.Frag) (a : Ads) : sS := sSeq (sIfS (sTst (sOp oIsN (sVar 2) (sC .non))) (sRet (sTup (sCons (sC (.int 0)) (sCons (sProO a.Tree (q_Tree_forks K a) (sVar 0)) (sNil))))) (sNext)) (sSeq (sAsg (sOp (oIx K) (sFldO a.Tree ("spans" : Str) (sVar 0)) (sVar 2)) (sgTup K 2 (sgCons (sgName 3) (sgCons (sgName 4) (sgNil))))) (sSeq (sIfS (sTst (sOp (oEq K) (sOp (oIx K) (sVar 1) (sVar 2)) (sC (.str ("L" : Str))))) (sRet (sTup (sCons (sOp oAdd (sVar 2) (sC (.int 1))) (sCons (sVar 4) (sNil))))) (sNext)) (sRet (sTup (sCons (sVar 3) (sCons (sVar 2) (sNil)))))))
def r_needed_slots (K : PySem.W.Frag) (a : Ads) : sS := sSeq (sSet (sLst (sNil)) 3) (sSeq (sFor (siSeq K (sCallD (q_trail_rows K a) [] (sCons (sVar 0) (sCons (sVar 2) (sNil))))) (sgTup K 3 (sgCons (sgName 4) (sgCons (sgName 5) (sgCons (sgName 6) (sgNil))))) (sSeq (sAsg (sCallD (q_forks_below K a) [] (sCons (sVar 0) (sCons (sVar 2) (sCons (sVar 6) (sNil))))) (sgTup K 2 (sgCons (sgName 7) (sgCons (sgName 8) (sgNil))))) (sIfS (sTst (sOp (oNe K) (sSl K (sVar 1) (sPart (sVar 7)) (sPart (sVar 8))) (sSl K (sVar 2) (sPart (sVar 7)) (sPart (sVar 8))))) (sDrop (sMt K "list" mAppend (sVar 3) (sCons (sVar 4) (sNil)))) (sNext)))) (sRet (sVar 3)))
def r_hits_between (K : PySem.W.Frag) (a : Ads) : sS := sSeq (sSet (sC (.int 0)) 3) (sSeq (sFor (siSeq K (sOp oAdd (sLst (sCons (sC .non) (sNil))) (sRgL (sProO a.Tree (q_Tree_forks K a) (sVar 0))))) (sgName 4) (sSeq (sAsg (sCallD (q_forks_below K a) [] (sCons (sVar 0) (sCons (sVar 2) (sCons (sVar 4) (sNil))))) (sgTup K 2 (sgCons (sgName 5) (sgCons (sgName 6) (sgNil))))) (sIfS (sTst (sOp (oNe K) (sSl K (sVar 1) (sPart (sVar 5)) (sPart (sVar 6))) (sSl K (sVar 2) (sPart (sVar 5)) (sPart (sVar 6))))) (sSet (sOp oAdd (sVar 3) (sC (.int 1))) 3) (sNext)))) (sRet (sVar 3)))
def r_needed (K : PySem.W.Frag) (a : Ads) : sS := sSeq (sDrop (sCallD (q_checked_pattern K a) [] (sCons (sVar 0) (sCons (sVar 1) (sNil))))) (sSeq (sDrop (sCallD (q_checked_flags K a) [] (sCons (sVar 0) (sCons (sVar 2) (sNil))))) (sRet (sCallD (q_needed_slots K a) [] (sCons (sVar 0) (sCons (sVar 1) (sCons (sVar 2) (sNil)))))))
def r_least_hits (K : PySem.W.Frag) (a : Ads) : sS := sSeq (sDrop (sCallD (q_checked_pattern K a) [] (sCons (sVar 0) (sCons (sVar 1) (sNil))))) (sSeq (sDrop (sCallD (q_checked_flags K a) [] (sCons (sVar 0) (sCons (sVar 2) (sNil))))) (sRet (sCallD (q_hits_between K a) [] (sCons (sVar 0) (sCons (sVar 1) (sCons (sVar 2) (sNil)))))))
def r_turned (K : PySem.W.Frag) (a : Ads) : sS := sSeq (sSet (sCall1 nListS (sCons (sVar 1) (sNil))) 3) (sSeq (sFor (siSeq K (sOp (oIx K) (sFldO a.Tree ("ways" : Str) (sVar 0)) (sVar 2))) (sgTup K 2 (sgCons (sgName 4) (sgCons (sgName 5) (sgNil)))) (sAsg (sVar 5) (sgSub (sVar 3) (sVar 4)))) (sRet (sMt K "str" (mJoin K) (sC (.str ("" : Str))) (sCons (sVar 3) (sNil)))))
def r_flags_after (K : PySem.W.Frag) (a : Ads) : sS := sSeq (sDrop (sCallD (q_checked_pattern K a) [] (sCons (sVar 0) (sCons (sVar 1) (sNil))))) (sSeq (sDrop (sCallD (q_checked_slot K a) [] (sCons (sVar 0) (sCons (sVar 2) (sNil))))) (sRet (sCallD (q_turned K a) [] (sCons (sVar 0) (sCons (sVar 1) (sCons (sVar 2) (sNil)))))))
def r_all_after (K : PySem.W.Frag) (a : Ads) : sS := sSeq (sDrop (sCallD (q_checked_flags K a) [] (sCons (sVar 0) (sCons (sVar 1) (sNil))))) (sSeq (sSet (sCallD (q_checked_visits K a) [] (sCons (sVar 0) (sCons (sVar 2) (sNil)))) 3) (sSeq (sFor (siSeq K (sVar 3)) (sgName 4) (sSet (sCallD (q_turned K a) [] (sCons (sVar 0) (sCons (sVar 1) (sCons (sVar 4) (sNil))))) 1)) (sRet (sVar 1))))
def r_ends_fork (K : PySem.W.Frag) (a : Ads) : sS := sRet (sOp (oEq K) (sLc (siSeq K (sSl K (sVar 0) (sPart (s1Op oNeg (sC (.int 3)))) sNoP)) (sgName 1) (sYes) (sOp (oEq K) (sOp (oIx K) (sVar 1) (sC (.int 0))) (sC (.str ("open" : Str)))) [1]) (sLst (sCons (sC (.bl true)) (sCons (sC (.bl false)) (sCons (sC (.bl false)) (sNil))))))
def r_read_forks (K : PySem.W.Frag) (a : Ads) : sS := sSeq (sSet (sLst (sNil)) 1) (sSeq (sSet (sLst (sNil)) 2) (sSeq (sSet (sC (.int 0)) 3) (sSeq (sFor (siEnS (sCons (sVar 0) (sNil))) (sgTup K 2 (sgCons (sgName 4) (sgCons (sgName 5) (sgNil)))) (sIfS (sTst (sOp (oEq K) (sVar 5) (sC (.str ("(" : Str))))) (sDrop (sMt K "list" mAppend (sVar 1) (sCons (sTup (sCons (sC (.str ("open" : Str))) (sCons (sC (.int 0)) (sCons (sC (.int 0)) (sCons (sC (.int 0)) (sCons (sVar 4) (sNil))))))) (sNil)))) (sIfS (sTst (sOp (oEq K) (sVar 5) (sC (.str ("." : Str))))) (sSeq (sDrop (sMt K "list" mAppend (sVar 1) (sCons (sTup (sCons (sC (.str ("slot" : Str))) (sCons (sVar 3) (sCons (sVar 3) (sCons (sVar 3) (sCons (sVar 4) (sNil))))))) (sNil)))) (sSet (sOp oAdd (sVar 3) (sC (.int 1))) 3)) (sIfS (sAnd (sTst (sOp (oEq K) (sVar 5) (sC (.str (")" : Str))))) (sTru K (sCallD (q_ends_fork K a) [] (sCons (sVar 1) (sNil))))) (sSeq (sSet (sMt K "list" mPop (sVar 1) sNil) 6) (sSeq (sSet (sMt K "list" mPop (sVar 1) sNil) 7) (sSeq (sAsg (sTup (sCons (sOp (oIx K) (sVar 7) (sC (.int 2))) (sCons (sOp (oIx K) (sVar 7) (sC (.int 3))) (sCons (sOp (oIx K) (sVar 6) (sC (.int 3))) (sCons (sOp (oIx K) (sMt K "list" mPop (sVar 1) sNil) (sC (.int 4))) (sNil)))))) (sgTup K 4 (sgCons (sgName 8) (sgCons (sgName 9) (sgCons (sgName 10) (sgCons (sgName 11) (sgNil))))))) (sSeq (sDrop (sMt K "list" mAppend (sVar 2) (sCons (sTup (sCons (sVar 9) (sCons (sSl K (sVar 7) sNoP (sPart (sC (.int 2)))) (sCons (sSl K (sVar 6) sNoP (sPart (sC (.int 2)))) (sCons (sTup (sCons (sVar 8) (sCons (sVar 10) (sNil)))) (sCons (sTup (sCons (sVar 11) (sCons (sOp oAdd (sVar 4) (sC (.int 1))) (sNil)))) (sNil))))))) (sNil)))) (sDrop (sMt K "list" mAppend (sVar 1) (sCons (sTup (sCons (sC (.str ("fork" : Str))) (sCons (sVar 9) (sCons (sVar 8) (sCons (sVar 10) (sCons (sVar 11) (sNil))))))) (sNil)))))))) (sRet (sC .non)))))) (sSeq (sIfS (sOr (sTst (sOp (oNe K) (sCall1 (nLen K) (sCons (sVar 1) (sNil))) (sC (.int 1)))) (sTst (sOp (oEq K) (sOp (oIx K) (sOp (oIx K) (sVar 1) (sC (.int 0))) (sC (.int 0))) (sC (.str ("open" : Str)))))) (sRet (sC .non)) (sNext)) (sRet (sVar 2))))))
def r_lay_ways (K : PySem.W.Frag) (a : Ads) : sS := sSeq (sSet (sLst (sNil)) 3) (sSeq (sSet (sLst (sNil)) 4) (sSeq (sSet (sLst (sCons (sTup (sCons (sVar 0) (sCons (sTup (sNil)) (sNil)))) (sNil))) 5) (sSeq (sWhile (sTru K (sVar 5)) (sSeq (sAsg (sMt K "list" mPop (sVar 5) sNil) (sgTup K 2 (sgCons (sgTup K 2 (sgCons (sgName 6) (sgCons (sgName 7) (sgNil)))) (sgCons (sgName 8) (sgNil))))) (sIfS (sTst (sOp (oEq K) (sVar 6) (sC (.str ("slot" : Str))))) (sDrop (sMt K "list" mAppend (sVar 4) (sCons (sVar 8) (sNil)))) (sSeq (sDrop (sMt K "list" mAppend (sVar 3) (sCons (sVar 7) (sNil)))) (sSeq (sDrop (sMt K "list" mAppend (sVar 5) (sCons (sTup (sCons (sOp (oIx K) (sVar 2) (sVar 7)) (sCons (sOp (oAddT K) (sVar 8) (sTup (sCons (sTup (sCons (sVar 7) (sCons (sC (.str ("R" : Str))) (sNil)))) (sNil)))) (sNil)))) (sNil)))) (sDrop (sMt K "list" mAppend (sVar 5) (sCons (sTup (sCons (sOp (oIx K) (sVar 1) (sVar 7)) (sCons (sOp (oAddT K) (sVar 8) (sTup (sCons (sTup (sCons (sVar 7) (sCons (sC (.str ("L" : Str))) (sNil)))) (sNil)))) (sNil)))) (sNil))))))))) (sRet (sTup (sCons (sTuple K (sVar 3)) (sCons (sTuple K (sVar 4)) (sNil))))))))
def r_Tree_init (K : PySem.W.Frag) (a : Ads) : sS := sSeq (sSet (sC .non) 2) (sCut (sIfS (sAnd (sTru K (sIsi K .str (sVar 1))) (sTst (sOp oLe (sCall1 (nLen K) (sCons (sVar 1) (sNil))) (sOp oSub (sOp oMul (sC (.int 3)) (sConO a.Tree ("MOST" : Str) (.int 64) (sVar 0))) (sC (.int 2)))))) (sSet (sCallD (q_read_forks K a) [] (sCons (sVar 1) (sNil))) 2) (sNext)) (sSeq (sIfS (sTst (sOp oIsN (sVar 2) (sC .non))) (sRaise a.InvalidTree ("text" : Str) (sVar 1)) (sNext)) (sSeq (sSet (sCall1 (nSortRow K) (sCons (sVar 2) (sNil))) 3) (sSeq (sSetO a.Tree ("text" : Str) (sVar 0) (sVar 1)) (sSeq (sSetO a.Tree ("lefts" : Str) (sVar 0) (sTuple K (sLc (siSeq K (sVar 3)) (sgName 4) (sYes) (sOp (oIx K) (sVar 4) (sC (.int 1))) [4]))) (sSeq (sSetO a.Tree ("rights" : Str) (sVar 0) (sTuple K (sLc (siSeq K (sVar 3)) (sgName 4) (sYes) (sOp (oIx K) (sVar 4) (sC (.int 2))) [4]))) (sSeq (sSetO a.Tree ("spans" : Str) (sVar 0) (sTuple K (sLc (siSeq K (sVar 3)) (sgName 4) (sYes) (sOp (oIx K) (sVar 4) (sC (.int 3))) [4]))) (sSeq (sSetO a.Tree ("bounds" : Str) (sVar 0) (sTuple K (sLc (siSeq K (sVar 3)) (sgName 4) (sYes) (sOp (oIx K) (sVar 4) (sC (.int 4))) [4]))) (sSeq (sSetO a.Tree ("postorder" : Str) (sVar 0) (sTuple K (sLc (siSeq K (sVar 2)) (sgName 4) (sYes) (sOp (oIx K) (sVar 4) (sC (.int 0))) [4]))) (sSeq (sSetO a.Tree ("root" : Str) (sVar 0) (sIf (sTru K (sVar 2)) (sTup (sCons (sC (.str ("fork" : Str))) (sCons (sOp (oIx K) (sOp (oIx K) (sVar 2) (s1Op oNeg (sC (.int 1)))) (sC (.int 0))) (sNil)))) (sTup (sCons (sC (.str ("slot" : Str))) (sCons (sC (.int 0)) (sNil)))))) (sAsg (sCallD (q_lay_ways K a) [] (sCons (sFldO a.Tree ("root" : Str) (sVar 0)) (sCons (sFldO a.Tree ("lefts" : Str) (sVar 0)) (sCons (sFldO a.Tree ("rights" : Str) (sVar 0)) (sNil))))) (sgTup K 2 (sgCons (sgFld a.Tree ("preorder" : Str) (sVar 0)) (sgCons (sgFld a.Tree ("ways" : Str) (sVar 0)) (sgNil)))))))))))))))
def r_Tree_len (K : PySem.W.Frag) (a : Ads) : sS := sRet (sCall1 (nLen K) (sCons (sFldO a.Tree ("ways" : Str) (sVar 0)) (sNil)))
def r_Tree_forks (K : PySem.W.Frag) (a : Ads) : sS := sRet (sCall1 (nLen K) (sCons (sFldO a.Tree ("spans" : Str) (sVar 0)) (sNil)))
def r_l_is_integer (K : PySem.W.Frag) (a : Ads) : sS := sRet (sAndV (sIsi K .int (sVar 0)) (sNotV K (sIsi K .bool (sVar 0))))
def r_l_same (K : PySem.W.Frag) (a : Ads) : sS := sSeq (sIfS (sOr (sNot (sTru K (sIsi K .list (sVar 0)))) (sTst (sOp (oNe K) (sCall1 (nLen K) (sCons (sVar 0) (sNil))) (sCall1 (nLen K) (sCons (sVar 1) (sNil)))))) (sRet (sC (.bl false))) (sNext)) (sSeq (sFor (siR1 (sCons (sCall1 (nLen K) (sCons (sVar 1) (sNil))) (sNil))) (sgName 2) (sIfS (sOr (sNot (sTru K (sCallD (q_l_is_integer K a) [] (sCons (sOp (oIx K) (sVar 0) (sVar 2)) (sNil))))) (sTst (sOp (oNe K) (sOp (oIx K) (sVar 0) (sVar 2)) (sOp (oIx K) (sVar 1) (sVar 2))))) (sRet (sC (.bl false))) (sNext))) (sRet (sC (.bl true))))
def r_l_box (K : PySem.W.Frag) (a : Ads) : sS := sSeq (sSet (sLc (siSeq K (sSl K (sVar 0) sNoP (sPart (sC (.int 63))))) (sgName 3) (sYes) (sCall1 nInt (sCons (sVar 3) (sNil))) [3]) 1) (sSeq (sSet (sLc (siSeq K (sVar 1)) (sgName 3) (sYes) (sOp oMod (sCall1 nInt (sCons (sVar 3) (sNil))) (sC (.int 2147483647))) [3]) 2) (sCut (sIfS (sNot (sTru K (sVar 2))) (sSet (sLst (sCons (sC (.int 0)) (sNil))) 2) (sNext)) (sRet (sLst (sCons (sLc (siSeq K (sVar 1)) (sgName 3) (sTst (sOp oGe (sVar 3) (sOp oPow (sC (.int 10)) (sC (.int 18))))) (sVar 3) [3]) (sCons (sVar 2) (sCons (sC (.int 0)) (sNil))))))))
def r_l_take (K : PySem.W.Frag) (a : Ads) : sS := sSeq (sIfS (sTst (sOp oLt (sVar 1) (sC (.int 2)))) (sRet (sC (.int 0))) (sNext)) (sSeq (sSet (sOp (oIx K) (sVar 0) (sC (.int 0))) 2) (sSeq (sIfS (sTru K (sVar 2)) (sSeq (sSet (sOp (oIx K) (sVar 2) (sC (.int 0))) 3) (sCut (sIfS (sTst (sOp oLt (sOp oFdv (sVar 3) (sVar 1)) (sC (.int 2)))) (sAsg (sSl K (sVar 2) (sPart (sC (.int 1))) sNoP) (sgSub (sVar 0) (sC (.int 0)))) (sAsg (sOp oFdv (sVar 3) (sVar 1)) (sgSub (sVar 2) (sC (.int 0))))) (sRet (sOp oMod (sCall1 nInt (sCons (sVar 3) (sNil))) (sVar 1))))) (sNext)) (sSeq (sSet (sOp (oIx K) (sVar 0) (sC (.int 2))) 4) (sSeq (sAsg (sOp oAdd (sVar 4) (sC (.int 1))) (sgSub (sVar 0) (sC (.int 2)))) (sSeq (sSet (sOp (oIx K) (sVar 0) (sC (.int 1))) 5) (sSeq (sSet (sOp (oIx K) (sVar 5) (sOp oMod (sCall1 nInt (sCons (sVar 4) (sNil))) (sCall1 (nLen K) (sCons (sVar 5) (sNil))))) 6) (sSeq (sSet (sOp oMod (sCall1 nInt (sCons (sOp oAdd (sOp oAdd (sOp oMul (sVar 6) (sC (.int 48271))) (sOp oMul (sVar 4) (sC (.int 69621)))) (sC (.int 7919))) (sNil))) (sC (.int 2147483647))) 7) (sSeq (sSet (sOp oMod (sCall1 nInt (sCons (sOp oAdd (sOp oAdd (sOp oAdd (sOp oMul (sVar 7) (sVar 7)) (sOp oMul (sVar 6) (sC (.int 40692)))) (sOp oMul (sVar 4) (sC (.int 16807)))) (sC (.int 101))) (sNil))) (sC (.int 2147483399))) 8) (sSeq (sSet (sOp oMod (sCall1 nInt (sCons (sOp oAdd (sOp oAdd (sOp oMul (sVar 8) (sVar 8)) (sOp oMul (sVar 7) (sC (.int 7)))) (sVar 4)) (sNil))) (sC (.int 1000000007))) 9) (sRet (sOp oMod (sOp oFdv (sCall1 nInt (sCons (sVar 9) (sNil))) (sC (.int 11))) (sVar 1))))))))))))
def r_l_join (K : PySem.W.Frag) (a : Ads) : sS := sSeq (sIfS (sTst (sOp (oEq K) (sVar 1) (sC (.int 0)))) (sRet (sOp oSub (sVar 2) (sC (.int 1)))) (sNext)) (sSeq (sIfS (sTst (sOp (oEq K) (sVar 1) (sC (.int 1)))) (sRet (sC (.int 0))) (sNext)) (sSeq (sIfS (sTst (sOp (oEq K) (sVar 1) (sC (.int 2)))) (sSeq (sSet (sC (.int 1)) 3) (sSeq (sFor (siR1 (sCons (sC (.int 7)) (sNil))) (sgName 4) (sIfS (sTst (sOp oLt (sVar 3) (sOp oAdd (sVar 2) (sC (.int 1))))) (sSet (sOp oMul (sVar 3) (sC (.int 2))) 3) (sNext))) (sRet (sOp oSub (sOp oSub (sVar 3) (sVar 2)) (sC (.int 1)))))) (sNext)) (sRet (sCallD (q_l_take K a) [] (sCons (sVar 0) (sCons (sVar 2) (sNil)))))))
def r_l_tree (K : PySem.W.Frag) (a : Ads) : sS := sSeq (sSet (sCallD (q_l_take K a) [] (sCons (sVar 0) (sCons (sC (.int 6)) (sNil)))) 2) (sSeq (sSet (sLc (siR1 (sCons (sVar 1) (sNil))) (sgName 9) (sYes) (sLst (sCons (sC (.str ("." : Str))) (sCons (sVar 9) (sCons (sVar 9) (sNil))))) [9]) 3) (sSeq (sSet (sLc (siR1 (sCons (sVar 1) (sNil))) (sgName 9) (sYes) (sLst (sNil)) [9]) 4) (sSeq (sFor (siR1 (sCons (sOp oSub (sVar 1) (sC (.int 1))) (sNil))) (sgName 5) (sSeq (sSet (sCallD (q_l_join K a) [] (sCons (sVar 0) (sCons (sVar 2) (sCons (sOp oSub (sCall1 (nLen K) (sCons (sVar 3) (sNil))) (sC (.int 1))) (sNil))))) 6) (sSeq (sSet (sOp (oIx K) (sVar 3) (sVar 6)) 7) (sSeq (sSet (sOp (oIx K) (sVar 3) (sOp oAdd (sVar 6) (sC (.int 1)))) 8) (sSeq (sFor (siR2 (sCons (sOp (oIx K) (sVar 7) (sC (.int 1))) (sCons (sOp oAdd (sOp (oIx K) (sVar 8) (sC (.int 2))) (sC (.int 1))) (sNil)))) (sgName 9) (sAsg (sOp oAdd (sLst (sCons (sTup (sCons (sOp (oIx K) (sVar 7) (sC (.int 2))) (sCons (sOp (oIx K) (sC (.str ("LR" : Str))) (sCall1 nInt (sCons (sOp oGt (sVar 9) (sOp (oIx K) (sVar 7) (sC (.int 2)))) (sNil)))) (sNil)))) (sNil))) (sOp (oIx K) (sVar 4) (sVar 9))) (sgSub (sVar 4) (sVar 9)))) (sSet (sOp oAdd (sOp oAdd (sSl K (sVar 3) sNoP (sPart (sVar 6))) (sLst (sCons (sLst (sCons (sOp oAdd (sOp oAdd (sOp oAdd (sC (.str ("(" : Str))) (sOp (oIx K) (sVar 7) (sC (.int 0)))) (sOp (oIx K) (sVar 8) (sC (.int 0)))) (sC (.str (")" : Str)))) (sCons (sOp (oIx K) (sVar 7) (sC (.int 1))) (sCons (sOp (oIx K) (sVar 8) (sC (.int 2))) (sNil))))) (sNil)))) (sSl K (sVar 3) (sPart (sOp oAdd (sVar 6) (sC (.int 2)))) sNoP)) 3)))))) (sRet (sTup (sCons (sOp (oIx K) (sOp (oIx K) (sVar 3) (sC (.int 0))) (sC (.int 0))) (sCons (sVar 4) (sNil))))))))
def r_l_flags (K : PySem.W.Frag) (a : Ads) : sS := sSeq (sSet (sCallD (q_l_take K a) [] (sCons (sVar 0) (sCons (sC (.int 5)) (sNil)))) 2) (sSeq (sIfS (sTst (sOp oLt (sVar 2) (sC (.int 2)))) (sRet (sOp oMulS (sOp (oIx K) (sC (.str ("LR" : Str))) (sVar 2)) (sVar 1))) (sNext)) (sRet (sMt K "str" (mJoin K) (sC (.str ("" : Str))) (sCons (sLc (siR1 (sCons (sVar 1) (sNil))) (sgName 3) (sYes) (sOp (oIx K) (sC (.str ("LR" : Str))) (sCallD (q_l_take K a) [] (sCons (sVar 0) (sCons (sC (.int 2)) (sNil))))) [3]) (sNil)))))
def r_l_slots (K : PySem.W.Frag) (a : Ads) : sS := sSeq (sSet (sCallD (q_l_take K a) [] (sCons (sVar 0) (sCons (sC (.int 16)) (sNil)))) 1) (sSeq (sIfS (sTst (sOp (oEq K) (sVar 1) (sC (.int 0)))) (sRet (sC (.int 1))) (sNext)) (sSeq (sIfS (sTst (sOp (oEq K) (sVar 1) (sC (.int 1)))) (sRet (sC (.int 64))) (sNext)) (sSeq (sIfS (sTst (sOp oLt (sVar 1) (sC (.int 4)))) (sRet (sOp oAdd (sC (.int 10)) (sCallD (q_l_take K a) [] (sCons (sVar 0) (sCons (sC (.int 20)) (sNil)))))) (sNext)) (sRet (sOp oSub (sC (.int 8)) (sCallD (q_l_take K a) [] (sCons (sVar 0) (sCons (sC (.int 7)) (sNil)))))))))
def r_l_start (K : PySem.W.Frag) (a : Ads) : sS := sSeq (sSet (sCallD (q_l_take K a) [] (sCons (sVar 0) (sCons (sC (.int 6)) (sNil)))) 3) (sSeq (sSet (sCallD (q_l_take K a) [] (sCons (sVar 0) (sCons (sCall1 (nLen K) (sCons (sVar 1) (sNil))) (sNil)))) 4) (sSeq (sSet (sC (.str ("" : Str))) 5) (sSeq (sFor (siR1 (sCons (sCall1 (nLen K) (sCons (sVar 1) (sNil))) (sNil))) (sgName 6) (sSeq (sSet (sOp (oIx K) (sC (.str ("LR" : Str))) (sCall1 nInt (sCons (sOp (oEq K) (sOp (oIx K) (sVar 1) (sVar 6)) (sC (.str ("L" : Str)))) (sNil)))) 7) (sSeq (sSet (sC (.int 0)) 8) (sCut (sIfS (sTst (sOp (oEq K) (sVar 3) (sC (.int 3)))) (sSet (sC (.int 2)) 8) (sNext)) (sCut (sIfS (sTst (sOp oGt (sVar 3) (sC (.int 3)))) (sSet (sOp oMod (sCall1 nInt (sCons (sCallD (q_l_take K a) [] (sCons (sVar 0) (sCons (sC (.int 4)) (sNil)))) (sNil))) (sC (.int 3))) 8) (sNext)) (sCut (sIfS (sAnd (sOr (sTst (sOp (oEq K) (sVar 3) (sC (.int 1)))) (sTst (sOp (oEq K) (sVar 3) (sC (.int 2))))) (sTst (sOp (oEq K) (sVar 6) (sVar 4)))) (sSet (sVar 3) 8) (sNext)) (sSet (sOp oAdd (sVar 5) (sOp (oIx K) (sLst (sCons (sOp (oIx K) (sVar 1) (sVar 6)) (sCons (sVar 7) (sCons (sIf (sTru K (sVar 2)) (sVar 2) (sVar 7)) (sNil))))) (sVar 8))) 5))))))) (sRet (sVar 5)))))
def r_l_bent (K : PySem.W.Frag) (a : Ads) : sS := sSeq (sSet (sCallD (q_l_take K a) [] (sCons (sVar 0) (sCons (sC (.int 8)) (sNil)))) 3) (sSeq (sSet (sCallD (q_l_take K a) [] (sCons (sVar 0) (sCons (sCall1 (nLen K) (sCons (sVar 1) (sNil))) (sNil)))) 4) (sSeq (sIfS (sTst (sOp oLt (sVar 3) (sC (.int 4)))) (sRet (sOp oAdd (sOp oAdd (sSl K (sVar 1) sNoP (sPart (sVar 4))) (sOp (oIx K) (sVar 2) (sVar 3))) (sSl K (sVar 1) (sPart (sOp oAdd (sVar 4) (sC (.int 1)))) sNoP))) (sNext)) (sSeq (sIfS (sTst (sOp (oEq K) (sVar 3) (sC (.int 4)))) (sRet (sOp oAdd (sVar 1) (sOp (oIx K) (sC (.str ("LR" : Str))) (sCallD (q_l_take K a) [] (sCons (sVar 0) (sCons (sC (.int 2)) (sNil))))))) (sNext)) (sSeq (sIfS (sTst (sOp (oEq K) (sVar 3) (sC (.int 5)))) (sRet (sIf (sTru K (sVar 1)) (sSl K (sVar 1) (sPart (sC (.int 1))) sNoP) (sC (.str ("R" : Str))))) (sNext)) (sSeq (sIfS (sTst (sOp (oEq K) (sVar 3) (sC (.int 6)))) (sRet (sLc (siStr (sVar 1)) (sgName 5) (sYes) (sVar 5) [5])) (sNext)) (sRet (sC .non)))))))
def r_l_hit (K : PySem.W.Frag) (a : Ads) : sS := sSeq (sFor (siSeq K (sVar 1)) (sgTup K 2 (sgCons (sgName 2) (sgCons (sgName 3) (sgNil)))) (sSet (sOp oAdd (sOp oAdd (sSl K (sVar 0) sNoP (sPart (sVar 2))) (sVar 3)) (sSl K (sVar 0) (sPart (sOp oAdd (sVar 2) (sC (.int 1)))) sNoP)) 0)) (sRet (sVar 0))
def r_l_holders (K : PySem.W.Frag) (a : Ads) : sS := sSeq (sSet (sLc (siSeq K (sVar 1)) (sgName 6) (sYes) (sC (.int 0)) [6]) 2) (sCut (sFor (siR1 (sCons (sCall1 (nLen K) (sCons (sVar 1) (sNil))) (sNil))) (sgName 3) (sFor (siRev K (sOp (oIx K) (sVar 1) (sVar 3))) (sgTup K 2 (sgCons (sgName 4) (sgCons (sgName 5) (sgNil)))) (sSeq (sIfS (sTst (sOp (oNe K) (sOp (oIx K) (sVar 0) (sVar 4)) (sVar 5))) (sBreak) (sNext)) (sAsg (sVar 3) (sgSub (sVar 2) (sVar 4)))))) (sRet (sVar 2)))
def r_l_above (K : PySem.W.Frag) (a : Ads) : sS := sSeq (sSet (sCallD (q_l_holders K a) [] (sCons (sVar 0) (sCons (sVar 1) (sNil)))) 2) (sSeq (sSet (sLst (sNil)) 3) (sSeq (sFor (siSeq K (sVar 1)) (sgName 4) (sSeq (sSet (sC .non) 5) (sSeq (sFor (siSeq K (sVar 4)) (sgTup K 2 (sgCons (sgName 6) (sgCons (sgName 7) (sgNil)))) (sIfS (sTst (sOp (oNe K) (sOp (oIx K) (sVar 0) (sVar 6)) (sVar 7))) (sSet (sOp (oIx K) (sVar 2) (sVar 6)) 5) (sNext))) (sDrop (sMt K "list" mAppend (sVar 3) (sCons (sVar 5) (sNil))))))) (sRet (sVar 3))))
def r_l_due (K : PySem.W.Frag) (a : Ads) : sS := sSeq (sSet (sCallD (q_l_holders K a) [] (sCons (sVar 1) (sCons (sVar 2) (sNil)))) 3) (sSeq (sSet (sCallD (q_l_above K a) [] (sCons (sVar 1) (sCons (sVar 2) (sNil)))) 4) (sSeq (sSet (sLc (siSeq K (sVar 2)) (sgName 9) (sYes) (sC (.bl false)) [9]) 5) (sCut (sFor (siR1 (sCons (sCall1 (nLen K) (sCons (sVar 1) (sNil))) (sNil))) (sgName 6) (sSeq (sSet (sIf (sTst (sOp (oNe K) (sOp (oIx K) (sVar 0) (sVar 6)) (sOp (oIx K) (sVar 1) (sVar 6)))) (sOp (oIx K) (sVar 3) (sVar 6)) (sC .non)) 7) (sFor (siR1 (sCons (sCall1 (nLen K) (sCons (sVar 2) (sNil))) (sNil))) (sgName 8) (sSeq (sIfS (sTst (sOp oIsN (sVar 7) (sC .non))) (sBreak) (sNext)) (sSeq (sAsg (sC (.bl true)) (sgSub (sVar 5) (sVar 7))) (sSet (sOp (oIx K) (sVar 4) (sVar 7)) 7)))))) (sRet (sLc (siR1 (sCons (sCall1 (nLen K) (sCons (sVar 2) (sNil))) (sNil))) (sgName 8) (sTru K (sOp (oIx K) (sVar 5) (sVar 8))) (sVar 8) [8])))))
def r_l_order (K : PySem.W.Frag) (a : Ads) : sS := sSeq (sSet (sCall1 (nList K) (sCons (sVar 1) (sNil))) 3) (sSeq (sSet (sLst (sNil)) 4) (sSeq (sFor (siR1 (sCons (sCall1 (nLen K) (sCons (sVar 1) (sNil))) (sNil))) (sgName 5) (sSeq (sSet (sLc (siSeq K (sVar 3)) (sgName 9) (sYes) (sOp (oIx K) (sVar 2) (sVar 9)) [9]) 6) (sSeq (sSet (sLc (siSeq K (sVar 3)) (sgName 9) (sTst (sOp (oIn K true) (sVar 9) (sVar 6))) (sVar 9) [9]) 7) (sSeq (sSet (sOp (oIx K) (sVar 7) (sCallD (q_l_take K a) [] (sCons (sVar 0) (sCons (sCall1 (nLen K) (sCons (sVar 7) (sNil))) (sNil))))) 8) (sSeq (sDrop (sMt K "list" mAppend (sVar 4) (sCons (sVar 8) (sNil)))) (sSet (sLc (siSeq K (sVar 3)) (sgName 9) (sTst (sOp (oNe K) (sVar 9) (sVar 8))) (sVar 9) [9]) 3)))))) (sRet (sVar 4))))
def r_l_search (K : PySem.W.Frag) (a : Ads) : sS := sSeq (sSet (sDis1 (sVar 0) (sC (.bl true))) 3) (sSeq (sSet (sLst (sCons (sVar 0) (sNil))) 4) (sSeq (sFor (siR1 (sCons (sOp oAdd (sCall1 (nLen K) (sCons (sVar 2) (sNil))) (sC (.int 1))) (sNil))) (sgName 5) (sSeq (sIfS (sDInT false (sVar 1) (sVar 3)) (sRet (sVar 5)) (sNext)) (sSeq (sSet (sLst (sNil)) 6) (sSeq (sFor (siSeq K (sVar 4)) (sgName 7) (sFor (siSeq K (sVar 2)) (sgName 8) (sSeq (sSet (sCallD (q_l_hit K a) [] (sCons (sVar 7) (sCons (sVar 8) (sNil)))) 9) (sIfS (sDInT true (sVar 9) (sVar 3)) (sSeq (sDPutK (sVar 3) (sVar 9) (sC (.bl true))) (sDrop (sMt K "list" mAppend (sVar 6) (sCons (sVar 9) (sNil))))) (sNext))))) (sSet (sVar 6) 4))))) (sRet (s1Op oNeg (sC (.int 1))))))
def r_l_answers (K : PySem.W.Frag) (a : Ads) : sS := sSeq (sSet (sCallD (q_l_due K a) [] (sCons (sVar 1) (sCons (sVar 2) (sCons (sVar 3) (sNil))))) 4) (sSeq (sSet (sCallD (q_needed K a) [] (sCons (sVar 0) (sCons (sVar 1) (sCons (sVar 2) (sNil))))) 5) (sSeq (sIfS (sNot (sTru K (sCallD (q_l_same K a) [] (sCons (sVar 5) (sCons (sVar 4) (sNil)))))) (sRet (sC (.bl false))) (sNext)) (sSeq (sDrop (sMt K "list" mReverse (sVar 5) sNil)) (sSeq (sDrop (sMt K "list" mAppend (sVar 5) (sCons (s1Op oNeg (sC (.int 1))) (sNil)))) (sSeq (sIfS (sNot (sTru K (sCallD (q_l_same K a) [] (sCons (sCallD (q_needed K a) [] (sCons (sVar 0) (sCons (sVar 1) (sCons (sVar 2) (sNil))))) (sCons (sVar 4) (sNil)))))) (sRet (sC (.bl false))) (sNext)) (sSeq (sSet (sCallD (q_least_hits K a) [] (sCons (sVar 0) (sCons (sVar 1) (sCons (sVar 2) (sNil))))) 6) (sSeq (sIfS (sOr (sNot (sTru K (sCallD (q_l_is_integer K a) [] (sCons (sVar 6) (sNil))))) (sTst (sOp (oNe K) (sVar 6) (sCall1 (nLen K) (sCons (sVar 4) (sNil)))))) (sRet (sC (.bl false))) (sNext)) (sRet (sOrV (sOp oGt (sCall1 (nLen K) (sCons (sVar 3) (sNil))) (sC (.int 5))) (sOp (oEq K) (sVar 6) (sCallD (q_l_search K a) [] (sCons (sVar 1) (sCons (sVar 2) (sCons (sVar 3) (sNil)))))))))))))))
def r_l_plays (K : PySem.W.Frag) (a : Ads) : sS := sSeq (sSet (sVar 2) 5) (sSeq (sFor (siSeq K (sCallD (q_l_order K a) [] (sCons (sVar 0) (sCons (sCallD (q_l_due K a) [] (sCons (sVar 2) (sCons (sVar 3) (sCons (sVar 4) (sNil))))) (sCons (sCallD (q_l_above K a) [] (sCons (sVar 3) (sCons (sVar 4) (sNil)))) (sNil)))))) (sgName 6) (sSeq (sSet (sCallD (q_l_hit K a) [] (sCons (sVar 5) (sCons (sOp (oIx K) (sVar 4) (sVar 6)) (sNil)))) 7) (sSeq (sIfS (sTst (sOp (oNe K) (sCallD (q_flags_after K a) [] (sCons (sVar 1) (sCons (sVar 5) (sCons (sVar 6) (sNil))))) (sVar 7))) (sRet (sC (.bl false))) (sNext)) (sSet (sVar 7) 5)))) (sRet (sOp (oEq K) (sVar 5) (sVar 3))))
def r_l_comes (K : PySem.W.Frag) (a : Ads) : sS := sSeq (sSet (sCallD (q_l_flags K a) [] (sCons (sVar 0) (sCons (sOp oSub (sCall1 (nLen K) (sCons (sVar 2) (sNil))) (sC (.int 1))) (sNil)))) 3) (sSeq (sSet (sLc (siR1 (sCons (sOp oAdd (sC (.int 1)) (sCallD (q_l_take K a) [] (sCons (sVar 0) (sCons (sC (.int 6)) (sNil))))) (sNil))) (sgName 7) (sYes) (sCallD (q_l_take K a) [] (sCons (sVar 0) (sCons (sCall1 (nLen K) (sCons (sVar 2) (sNil))) (sNil)))) [7]) 4) (sSeq (sSet (sVar 3) 5) (sSeq (sFor (siSeq K (sVar 4)) (sgName 6) (sSet (sCallD (q_l_hit K a) [] (sCons (sVar 5) (sCons (sOp (oIx K) (sVar 2) (sVar 6)) (sNil)))) 5)) (sSeq (sIfS (sTst (sOp (oNe K) (sCallD (q_all_after K a) [] (sCons (sVar 1) (sCons (sVar 3) (sCons (sCall1 (nList K) (sCons (sVar 4) (sNil))) (sNil))))) (sVar 5))) (sRet (sC (.bl false))) (sNext)) (sSeq (sIfS (sNot (sTru K (sCallD (q_l_answers K a) [] (sCons (sVar 1) (sCons (sVar 3) (sCons (sVar 5) (sCons (sVar 2) (sNil)))))))) (sRet (sC (.bl false))) (sNext)) (sSeq (sFor (siSeq K (sCallD (q_needed K a) [] (sCons (sVar 1) (sCons (sVar 3) (sCons (sVar 5) (sNil)))))) (sgName 6) (sIfS (sTst (sOp (oIn K true) (sVar 6) (sVar 4))) (sRet (sC (.bl false))) (sNext))) (sRet (sOp oLe (sCallD (q_least_hits K a) [] (sCons (sVar 1) (sCons (sVar 3) (sCons (sVar 5) (sNil))))) (sCall1 (nLen K) (sCons (sVar 4) (sNil)))))))))))
def r_l_fault (K : PySem.W.Frag) (a : Ads) : sS := sCut (sTryAs K (.ref a.InvalidFlags) 4 (sIfS (sTst (sOp (oEq K) (sVar 0) (sC (.int 0)))) (sDrop (sCallD (q_needed K a) [] (sCons (sVar 1) (sCons (sVar 2) (sCons (sVar 3) (sNil)))))) (sDrop (sCallD (q_least_hits K a) [] (sCons (sVar 1) (sCons (sVar 2) (sCons (sVar 3) (sNil))))))) (fun ea cls ed => sSeq (sIfS (sOr (sTru K (sCall1 (nIsY K ea cls ed) (sCons (sVar 4) (sCons (sC (.ref a.InvalidSlot)) (sNil))))) (sOr (sNot (sTru K (sCall1 (nIsY K ea cls ed) (sCons (sVar 4) (sCons (sC (.ref a.CacheError)) (sNil)))))) (sNot (sTru K (sCall1 (nIsY K ea cls ed) (sCons (sVar 4) (sCons (sC (.ty "ValueError")) (sNil)))))))) (sRet (sTup (sCons (sC (.str ("a class of another family" : Str))) (sCons (sC (.str ("" : Str))) (sNil))))) (sNext)) (sRet (sTup (sCons (sC (.str ("InvalidFlags" : Str))) (sCons (sCall1 (nRepr K) (sCons (sXf ea cls ed a.InvalidFlags ("flags" : Str) (sVar 4)) (sNil))) (sNil))))))) (sRet (sTup (sCons (sC (.str ("no error" : Str))) (sCons (sC (.str ("" : Str))) (sNil)))))
def r_law (K : PySem.W.Frag) (a : Ads) : sS := sSeq (sSet (sCallD (q_l_box K a) [] (sCons (sVar 0) (sNil))) 1) (sSeq (sSet (sCallD (q_l_slots K a) [] (sCons (sVar 1) (sNil))) 2) (sSeq (sAsg (sCallD (q_l_tree K a) [] (sCons (sVar 1) (sCons (sVar 2) (sNil)))) (sgTup K 2 (sgCons (sgName 3) (sgCons (sgName 4) (sgNil))))) (sSeq (sSet (sCallD (q_l_flags K a) [] (sCons (sVar 1) (sCons (sOp oSub (sVar 2) (sC (.int 1))) (sNil)))) 5) (sSeq (sSet (sCallD (q_l_start K a) [] (sCons (sVar 1) (sCons (sVar 5) (sCons (sC (.str ("?" : Str))) (sNil))))) 6) (sSeq (sSet (sMakO a.Tree (q_Tree_init K a) (sCons (sVar 3) (sNil))) 7) (sSeq (sFor (siSeq K (sLst (sCons (sVar 6) (sCons (sOp oMulS (sC (.str ("?" : Str))) (sOp oSub (sVar 2) (sC (.int 1)))) (sNil))))) (sgName 8) (sIfS (sNot (sTru K (sCallD (q_l_answers K a) [] (sCons (sVar 7) (sCons (sVar 8) (sCons (sVar 5) (sCons (sVar 4) (sNil)))))))) (sRet (sC (.bl false))) (sNext))) (sSeq (sIfS (sOr (sNot (sTru K (sCallD (q_l_plays K a) [] (sCons (sVar 1) (sCons (sVar 7) (sCons (sVar 6) (sCons (sVar 5) (sCons (sVar 4) (sNil))))))))) (sNot (sTru K (sCallD (q_l_comes K a) [] (sCons (sVar 1) (sCons (sVar 7) (sCons (sVar 4) (sNil)))))))) (sRet (sC (.bl false))) (sNext)) (sSeq (sSet (sCallD (q_l_bent K a) [] (sCons (sVar 1) (sCons (sVar 6) (sCons (sC (.str ("!.lx" : Str))) (sNil))))) 9) (sSeq (sSet (sCallD (q_l_bent K a) [] (sCons (sVar 1) (sCons (sVar 5) (sCons (sC (.str ("?.lx" : Str))) (sNil))))) 10) (sSeq (sFor (siR1 (sCons (sC (.int 2)) (sNil))) (sgName 11) (sSeq (sIfS (sTst (sOp (oNe K) (sCallD (q_l_fault K a) [] (sCons (sVar 11) (sCons (sVar 7) (sCons (sVar 9) (sCons (sVar 5) (sNil)))))) (sTup (sCons (sC (.str ("InvalidFlags" : Str))) (sCons (sCall1 (nRepr K) (sCons (sVar 9) (sNil))) (sNil)))))) (sRet (sC (.bl false))) (sNext)) (sSeq (sIfS (sTst (sOp (oNe K) (sCallD (q_l_fault K a) [] (sCons (sVar 11) (sCons (sVar 7) (sCons (sVar 6) (sCons (sVar 10) (sNil)))))) (sTup (sCons (sC (.str ("InvalidFlags" : Str))) (sCons (sCall1 (nRepr K) (sCons (sVar 10) (sNil))) (sNil)))))) (sRet (sC (.bl false))) (sNext)) (sIfS (sTst (sOp (oNe K) (sCallD (q_l_fault K a) [] (sCons (sVar 11) (sCons (sVar 7) (sCons (sVar 9) (sCons (sVar 10) (sNil)))))) (sTup (sCons (sC (.str ("InvalidFlags" : Str))) (sCons (sCall1 (nRepr K) (sCons (sVar 9) (sNil))) (sNil)))))) (sRet (sC (.bl false))) (sNext))))) (sRet (sOp (oEq K) (sFldO a.Tree ("text" : Str) (sVar 7)) (sVar 3)))))))))))))
section
variable {P : Program} {w : World} {K : PySem.W.Frag} {mg : Str → Option Value} {base : Heap} {a : Ads}
theorem d_is_integer (G : Env P w K mg base a)  {f : Addr} {cdv : Value} {A : Around} {outer : List PySem.Env} {s : Shared} {H : Hp} {E : XK} (hr : Room (l_is_integer - 1) (A.deeper (envOfC "is_integer" (defScope s_is_integer) s.heap.objs.size f cdv))) :
    PSs (cxOf (L2.CX P w) P w K mg base N_is_integer "is_integer" (defScope s_is_integer) f cdv A outer s H E) (defBody s_is_integer) (dS (fun c d _ H => E c d H) (r_is_integer K a)) := by
  have tk : Takes (cxOf (L2.CX P w) P w K mg base N_is_integer "is_integer" (defScope s_is_integer) f cdv A outer s H E) (fun c d _ H => E c d H) := takes_of rfl rfl rfl rfl
  have hp : PassesOwn (model P w) (cxOf (L2.CX P w) P w K mg base N_is_integer "is_integer" (defScope s_is_integer) f cdv A outer s H E).A (cxOf (L2.CX P w) P w K mg base N_is_integer "is_integer" (defScope s_is_integer) f cdv A outer s H E).env (cxOf (L2.CX P w) P w K mg base N_is_integer "is_integer" (defScope s_is_integer) f cdv A outer s H E).xe := passes_of rfl
  exact (hOne (hRet (gAndV (gIsi (by rfl) G.n_isinstance (gv 0) (by decide) (by rfl) G.n_int (by decide +kernel)) (gOneV (gNotV (gIsi (by rfl) G.n_isinstance (gv 0) (by decide) (by rfl) G.n_bool (by decide +kernel)))))))
theorem d_is_place (G : Env P w K mg base a) (T_is_integer : DefC P w K mg base "is_integer" ["value"] l_is_integer [] (p_is_integer K a)) {f : Addr} {cdv : Value} {A : Around} {outer : List PySem.Env} {s : Shared} {H : Hp} {E : XK} (hr : Room (l_is_place - 1) (A.deeper (envOfC "is_place" (defScope s_is_place) s.heap.objs.size f cdv))) :
    PSs (cxOf (L2.CX P w) P w K mg base N_is_place "is_place" (defScope s_is_place) f cdv A outer s H E) (defBody s_is_place) (dS (fun c d _ H => E c d H) (r_is_place K a)) := by
  have tk : Takes (cxOf (L2.CX P w) P w K mg base N_is_place "is_place" (defScope s_is_place) f cdv A outer s H E) (fun c d _ H => E c d H) := takes_of rfl rfl rfl rfl
  have hp : PassesOwn (model P w) (cxOf (L2.CX P w) P w K mg base N_is_place "is_place" (defScope s_is_place) f cdv A outer s H E).A (cxOf (L2.CX P w) P w K mg base N_is_place "is_place" (defScope s_is_place) f cdv A outer s H E).env (cxOf (L2.CX P w) P w K mg base N_is_place "is_place" (defScope s_is_place) f cdv A outer s H E).xe := passes_of rfl
  exact (hOne (hRet (gAndV (gCall1 c_is_integer T_is_integer hr (by decide) (by rfl) tk (gCons (gv 1) gNil)) (gOneV (gChain (OpR.or op_le op_le_str) (OpR.or op_lt op_lt_str) lOrd lOrd gInt (gv 1) (gv 0))))))
theorem d_is_made_of (G : Env P w K mg base a)  {f : Addr} {cdv : Value} {A : Around} {outer : List PySem.Env} {s : Shared} {H : Hp} {E : XK} (hr : Room (l_is_made_of - 1) (A.deeper (envOfC "is_made_of" (defScope s_is_made_of) s.heap.objs.size f cdv))) :
    PSs (cxOf (L2.CX P w) P w K mg base N_is_made_of "is_made_of" (defScope s_is_made_of) f cdv A outer s H E) (defBody s_is_made_of) (dS (fun c d _ H => E c d H) (r_is_made_of K a)) := by
  have tk : Takes (cxOf (L2.CX P w) P w K mg base N_is_made_of "is_made_of" (defScope s_is_made_of) f cdv A outer s H E) (fun c d _ H => E c d H) := takes_of rfl rfl rfl rfl
  have hp : PassesOwn (model P w) (cxOf (L2.CX P w) P w K mg base N_is_made_of "is_made_of" (defScope s_is_made_of) f cdv A outer s H E).A (cxOf (L2.CX P w) P w K mg base N_is_made_of "is_made_of" (defScope s_is_made_of) f cdv A outer s H E).env (cxOf (L2.CX P w) P w K mg base N_is_made_of "is_made_of" (defScope s_is_made_of) f cdv A outer s H E).xe := passes_of rfl
  exact (hOne (hRet (gAndV (gIsi (by rfl) G.n_isinstance (gv 0) (by decide) (by rfl) G.n_str (by decide +kernel)) (gOneV (gB (cr_all rfl) lAll (by rfl) G.n_all (by decide +kernel) (gCons (gLc (own := [("sign", 2)]) rfl sc_is_made_of.nd (iStrS (gv 0)) (blkOk_by (own := [("sign", 2)]) (N := N_is_made_of) (sc := defScope s_is_made_of) (by decide +kernel)) (fun _ _ _ _ _ => (ggName (i := 2) sc_is_made_of.nd rfl (.inl rfl))) (fun _ _ _ _ _ => gNoIf) (fun _ _ _ _ _ => (gIn (gv 2) (gv 1) (by rfl)))) gNil))))))
theorem d_checked_flags (G : Env P w K mg base a) (T_is_made_of : DefC P w K mg base "is_made_of" ["value", "signs"] l_is_made_of [] (p_is_made_of K a)) (T_Tree_forks : ProC P w K mg base a.Tree "forks" l_Tree_forks (p_Tree_forks K a)) {f : Addr} {cdv : Value} {A : Around} {outer : List PySem.Env} {s : Shared} {H : Hp} {E : XK} (hr : Room (l_checked_flags - 1) (A.deeper (envOfC "checked_flags" (defScope s_checked_flags) s.heap.objs.size f cdv))) :
    PSs (cxOf (L2.CX P w) P w K mg base N_checked_flags "checked_flags" (defScope s_checked_flags) f cdv A outer s H E) (defBody s_checked_flags) (dS (fun c d _ H => E c d H) (r_checked_flags K a)) := by
  have tk : Takes (cxOf (L2.CX P w) P w K mg base N_checked_flags "checked_flags" (defScope s_checked_flags) f cdv A outer s H E) (fun c d _ H => E c d H) := takes_of rfl rfl rfl rfl
  have hp : PassesOwn (model P w) (cxOf (L2.CX P w) P w K mg base N_checked_flags "checked_flags" (defScope s_checked_flags) f cdv A outer s H E).A (cxOf (L2.CX P w) P w K mg base N_checked_flags "checked_flags" (defScope s_checked_flags) f cdv A outer s H E).env (cxOf (L2.CX P w) P w K mg base N_checked_flags "checked_flags" (defScope s_checked_flags) f cdv A outer s H E).xe := passes_of rfl
  exact (hCons (hIf (PW.pt (gOr (gTNot (gTru (gCall1 c_is_made_of T_is_made_of hr (by decide) (by rfl) tk (gCons (gv 1) (gCons gStr gNil))))) (gOr1 (gTNe hr.units (gB call_len lLen (by rfl) G.n_len (by decide +kernel) (gCons (gv 1) gNil)) (gProO c_Tree_forks G.o_Tree T_Tree_forks hr (by decide) (gv 0)))))) (hOne (hRaise (k := 0) rfl tk G.e_InvalidFlags (hr.mono (by decide)) (by rfl) (gv 1))) hNil) (hOne (hRet (gv 1))))
theorem d_checked_pattern (G : Env P w K mg base a) (T_is_made_of : DefC P w K mg base "is_made_of" ["value", "signs"] l_is_made_of [] (p_is_made_of K a)) (T_Tree_forks : ProC P w K mg base a.Tree "forks" l_Tree_forks (p_Tree_forks K a)) {f : Addr} {cdv : Value} {A : Around} {outer : List PySem.Env} {s : Shared} {H : Hp} {E : XK} (hr : Room (l_checked_pattern - 1) (A.deeper (envOfC "checked_pattern" (defScope s_checked_pattern) s.heap.objs.size f cdv))) :
    PSs (cxOf (L2.CX P w) P w K mg base N_checked_pattern "checked_pattern" (defScope s_checked_pattern) f cdv A outer s H E) (defBody s_checked_pattern) (dS (fun c d _ H => E c d H) (r_checked_pattern K a)) := by
  have tk : Takes (cxOf (L2.CX P w) P w K mg base N_checked_pattern "checked_pattern" (defScope s_checked_pattern) f cdv A outer s H E) (fun c d _ H => E c d H) := takes_of rfl rfl rfl rfl
  have hp : PassesOwn (model P w) (cxOf (L2.CX P w) P w K mg base N_checked_pattern "checked_pattern" (defScope s_checked_pattern) f cdv A outer s H E).A (cxOf (L2.CX P w) P w K mg base N_checked_pattern "checked_pattern" (defScope s_checked_pattern) f cdv A outer s H E).env (cxOf (L2.CX P w) P w K mg base N_checked_pattern "checked_pattern" (defScope s_checked_pattern) f cdv A outer s H E).xe := passes_of rfl
  exact (hCons (hIf (PW.pt (gOr (gTNot (gTru (gCall1 c_is_made_of T_is_made_of hr (by decide) (by rfl) tk (gCons (gv 1) (gCons gStr gNil))))) (gOr1 (gTNe hr.units (gB call_len lLen (by rfl) G.n_len (by decide +kernel) (gCons (gv 1) gNil)) (gProO c_Tree_forks G.o_Tree T_Tree_forks hr (by decide) (gv 0)))))) (hOne (hRaise (k := 0) rfl tk G.e_InvalidFlags (hr.mono (by decide)) (by rfl) (gv 1))) hNil) (hOne (hRet (gv 1))))
theorem d_checked_slot (G : Env P w K mg base a) (T_is_place : DefC P w K mg base "is_place" ["many", "value"] l_is_place [] (p_is_place K a)) (T_Tree_len : MetC P w K mg base a.Tree "__len__" ["self"] l_Tree_len (p_Tree_len K a)) {f : Addr} {cdv : Value} {A : Around} {outer : List PySem.Env} {s : Shared} {H : Hp} {E : XK} (hr : Room (l_checked_slot - 1) (A.deeper (envOfC "checked_slot" (defScope s_checked_slot) s.heap.objs.size f cdv))) :
    PSs (cxOf (L2.CX P w) P w K mg base N_checked_slot "checked_slot" (defScope s_checked_slot) f cdv A outer s H E) (defBody s_checked_slot) (dS (fun c d _ H => E c d H) (r_checked_slot K a)) := by
  have tk : Takes (cxOf (L2.CX P w) P w K mg base N_checked_slot "checked_slot" (defScope s_checked_slot) f cdv A outer s H E) (fun c d _ H => E c d H) := takes_of rfl rfl rfl rfl
  have hp : PassesOwn (model P w) (cxOf (L2.CX P w) P w K mg base N_checked_slot "checked_slot" (defScope s_checked_slot) f cdv A outer s H E).A (cxOf (L2.CX P w) P w K mg base N_checked_slot "checked_slot" (defScope s_checked_slot) f cdv A outer s H E).env (cxOf (L2.CX P w) P w K mg base N_checked_slot "checked_slot" (defScope s_checked_slot) f cdv A outer s H E).xe := passes_of rfl
  exact (hCons (hIf (gTNot (gTru (gCall1 c_is_place T_is_place hr (by decide) (by rfl) tk (gCons (gLenO c_Tree_len T_Tree_len hr (by decide) (by rfl) G.n_len (gv 0)) (gCons (gv 1) gNil))))) (hOne (hRaise (k := 0) rfl tk G.e_InvalidSlot (hr.mono (by decide)) (by rfl) (gv 1))) hNil) (hOne (hRet (gv 1))))
theorem d_checked_visits (G : Env P w K mg base a) (T_checked_slot : DefC P w K mg base "checked_slot" ["tree", "slot"] l_checked_slot [] (p_checked_slot K a)) {f : Addr} {cdv : Value} {A : Around} {outer : List PySem.Env} {s : Shared} {H : Hp} {E : XK} (hr : Room (l_checked_visits - 1) (A.deeper (envOfC "checked_visits" (defScope s_checked_visits) s.heap.objs.size f cdv))) :
    PSs (cxOf (L2.CX P w) P w K mg base N_checked_visits "checked_visits" (defScope s_checked_visits) f cdv A outer s H E) (defBody s_checked_visits) (dS (fun c d _ H => E c d H) (r_checked_visits K a)) := by
  have tk : Takes (cxOf (L2.CX P w) P w K mg base N_checked_visits "checked_visits" (defScope s_checked_visits) f cdv A outer s H E) (fun c d _ H => E c d H) := takes_of rfl rfl rfl rfl
  have hp : PassesOwn (model P w) (cxOf (L2.CX P w) P w K mg base N_checked_visits "checked_visits" (defScope s_checked_visits) f cdv A outer s H E).A (cxOf (L2.CX P w) P w K mg base N_checked_visits "checked_visits" (defScope s_checked_visits) f cdv A outer s H E).env (cxOf (L2.CX P w) P w K mg base N_checked_visits "checked_visits" (defScope s_checked_visits) f cdv A outer s H E).xe := passes_of rfl
  exact (hCons (hIf (gTNot (gTru (gIsi (by rfl) G.n_isinstance (gv 1) (by decide) (by rfl) G.n_list (by decide +kernel)))) (hOne (hRaise (k := 0) rfl tk G.e_InvalidSlot (hr.mono (by decide)) (by rfl) (gv 1))) hNil) (hCons (hFor hp rfl (iSeq (gv 1)) (ggName (i := 2) sc_checked_visits.nd rfl (.inl rfl)) (hOne (hExpr (gCall1 c_checked_slot T_checked_slot hr (by decide) (by rfl) tk (gCons (gv 0) (gCons (gv 2) gNil)))))) (hOne (hRet (gTy call_list_of lList (by rfl) G.n_list (by decide +kernel) (gCons (gv 1) gNil))))))
theorem d_trail_rows (G : Env P w K mg base a) (T_Tree_len : MetC P w K mg base a.Tree "__len__" ["self"] l_Tree_len (p_Tree_len K a)) {f : Addr} {cdv : Value} {A : Around} {outer : List PySem.Env} {s : Shared} {H : Hp} {E : XK} (hr : Room (l_trail_rows - 1) (A.deeper (envOfC "trail_rows" (defScope s_trail_rows) s.heap.objs.size f cdv))) :
    PSs (cxOf (L2.CX P w) P w K mg base N_trail_rows "trail_rows" (defScope s_trail_rows) f cdv A outer s H E) (defBody s_trail_rows) (dS (fun c d _ H => E c d H) (r_trail_rows K a)) := by
  have tk : Takes (cxOf (L2.CX P w) P w K mg base N_trail_rows "trail_rows" (defScope s_trail_rows) f cdv A outer s H E) (fun c d _ H => E c d H) := takes_of rfl rfl rfl rfl
  have hp : PassesOwn (model P w) (cxOf (L2.CX P w) P w K mg base N_trail_rows "trail_rows" (defScope s_trail_rows) f cdv A outer s H E).A (cxOf (L2.CX P w) P w K mg base N_trail_rows "trail_rows" (defScope s_trail_rows) f cdv A outer s H E).env (cxOf (L2.CX P w) P w K mg base N_trail_rows "trail_rows" (defScope s_trail_rows) f cdv A outer s H E).xe := passes_of rfl
  exact (hCons (hSet (i := 2) sc_trail_rows.nd rfl (.inl rfl) (gLst gNil)) (hCons (hFor hp rfl (iR1 (by rfl) G.n_range (gCons (gLenO c_Tree_len T_Tree_len hr (by decide) (by rfl) G.n_len (gv 0)) gNil)) (ggName (i := 3) sc_trail_rows.nd rfl (.inl rfl)) (hCons (hSet (i := 4) sc_trail_rows.nd rfl (.inl rfl) (gIx (gFldO G.o_Tree G.na_Tree_ways (gv 0)) (gv 3) (by intro _ _; rfl))) (hCons (hSet (i := 5) sc_trail_rows.nd rfl (.inl rfl) (gB call_len lLen (by rfl) G.n_len (by decide +kernel) (gCons (gv 4) gNil))) (hCons (hWhile hp (PW.pt (gAnd (gTGt (gv 5) gInt) (gAnd1 (gTEq hr.units (gIx (gv 1) (gIx (gIx (gv 4) (gSub (gv 5) gInt) (by intro _ _; rfl)) gInt (by intro _ _; rfl)) (by intro _ _; rfl)) (gIx (gIx (gv 4) (gSub (gv 5) gInt) (by intro _ _; rfl)) gInt (by intro _ _; rfl)))))) (hOne (hSet (i := 5) sc_trail_rows.nd rfl (.inl rfl) (gSub (gv 5) gInt)))) (hCons (hSet (i := 6) sc_trail_rows.nd rfl (.inl rfl) (gTuple (by rfl) G.n_tuple (gLc (own := [("step", 8)]) rfl sc_trail_rows.nd (iSeq (gSlT (gv 4) (gPart (gv 5)) gNoP)) (blkOk_by (own := [("step", 8)]) (N := N_trail_rows) (sc := defScope s_trail_rows) (by decide +kernel)) (fun _ _ _ _ _ => (ggName (i := 8) sc_trail_rows.nd rfl (.inl rfl))) (fun _ _ _ _ _ => gNoIf) (fun _ _ _ _ _ => (gIx (gv 8) gInt (by intro _ _; rfl)))))) (hCons (hSet (i := 7) sc_trail_rows.nd rfl (.inl rfl) (gIfE (gTGt (gv 5) gInt) (gIx (gIx (gv 4) (gSub (gv 5) gInt) (by intro _ _; rfl)) gInt (by intro _ _; rfl)) gNon)) (hOne (hExpr (gM PySem.F.plainAttrs_list PySem.F.slot_list_append PySem.F.type_list_append mt_append lAppend (gv 2) (gCons (gTup (gCons (gv 3) (gCons (gv 6) (gCons (gv 7) gNil)))) gNil)))))))))) (hOne (hRet (gv 2)))))
theorem d_forks_below (G : Env P w K mg base a) (T_Tree_forks : ProC P w K mg base a.Tree "forks" l_Tree_forks (p_Tree_forks K a)) {f : Addr} {cdv : Value} {A : Around} {outer : List PySem.Env} {s : Shared} {H : Hp} {E : XK} (hr : Room (l_forks_below - 1) (A.deeper (envOfC "forks_below" (defScope s_forks_below) s.heap.objs.size f cdv))) :
    PSs (cxOf (L2.CX P w) P w K mg base N_forks_below "forks_below" (defScope s_forks_below) f cdv A outer s H E) (defBody s_forks_below) (dS (fun c d _ H => E c d H) (r_forks_below K a)) := by
  have tk : Takes (cxOf (L2.CX P w) P w K mg base N_forks_below "forks_below" (defScope s_forks_below) f cdv A outer s H E) (fun c d _ H => E c d H) := takes_of rfl rfl rfl rfl
  have hp : PassesOwn (model P w) (cxOf (L2.CX P w) P w K mg base N_forks_below "forks_below" (defScope s_forks_below) f cdv A outer s H E).A (cxOf (L2.CX P w) P w K mg base N_forks_below "forks_below" (defScope s_forks_below) f cdv A outer s H E).env (cxOf (L2.CX P w) P w K mg base N_forks_below "forks_below" (defScope s_forks_below) f cdv A outer s H E).xe := passes_of rfl
  exact (hCons (hIf (gTIsN (gv 2) gNon) (hOne (hRet (gTup (gCons gInt (gCons (gProO c_Tree_forks G.o_Tree T_Tree_forks hr (by decide) (gv 0)) gNil))))) hNil) (hCons (hAsg (gIx (gFldO G.o_Tree G.na_Tree_spans (gv 0)) (gv 2) (by intro _ _; rfl)) (ggTup rfl (ggCons (ggName (i := 3) sc_forks_below.nd rfl (.inl rfl)) (ggCons (ggName (i := 4) sc_forks_below.nd rfl (.inl rfl)) ggNil)))) (hCons (hIf (gTEq hr.units (gIx (gv 1) (gv 2) (by intro _ _; rfl)) gStr) (hOne (hRet (gTup (gCons (gAdd (gv 2) gInt) (gCons (gv 4) gNil))))) hNil) (hOne (hRet (gTup (gCons (gv 3) (gCons (gv 2) gNil))))))))
theorem d_needed_slots (G : Env P w K mg base a) (T_forks_below : DefC P w K mg base "forks_below" ["tree", "flags", "hang"] l_forks_below [] (p_forks_below K a)) (T_trail_rows : DefC P w K mg base "trail_rows" ["tree", "flags"] l_trail_rows [] (p_trail_rows K a)) {f : Addr} {cdv : Value} {A : Around} {outer : List PySem.Env} {s : Shared} {H : Hp} {E : XK} (hr : Room (l_needed_slots - 1) (A.deeper (envOfC "needed_slots" (defScope s_needed_slots) s.heap.objs.size f cdv))) :
    PSs (cxOf (L2.CX P w) P w K mg base N_needed_slots "needed_slots" (defScope s_needed_slots) f cdv A outer s H E) (defBody s_needed_slots) (dS (fun c d _ H => E c d H) (r_needed_slots K a)) := by
  have tk : Takes (cxOf (L2.CX P w) P w K mg base N_needed_slots "needed_slots" (defScope s_needed_slots) f cdv A outer s H E) (fun c d _ H => E c d H) := takes_of rfl rfl rfl rfl
  have hp : PassesOwn (model P w) (cxOf (L2.CX P w) P w K mg base N_needed_slots "needed_slots" (defScope s_needed_slots) f cdv A outer s H E).A (cxOf (L2.CX P w) P w K mg base N_needed_slots "needed_slots" (defScope s_needed_slots) f cdv A outer s H E).env (cxOf (L2.CX P w) P w K mg base N_needed_slots "needed_slots" (defScope s_needed_slots) f cdv A outer s H E).xe := passes_of rfl
  exact (hCons (hSet (i := 3) sc_needed_slots.nd rfl (.inl rfl) (gLst gNil)) (hCons (hFor hp rfl (iSeq (gCall1 c_trail_rows T_trail_rows hr (by decide) (by rfl) tk (gCons (gv 0) (gCons (gv 2) gNil)))) (ggTup rfl (ggCons (ggName (i := 4) sc_needed_slots.nd rfl (.inl rfl)) (ggCons (ggName (i := 5) sc_needed_slots.nd rfl (.inl rfl)) (ggCons (ggName (i := 6) sc_needed_slots.nd rfl (.inl rfl)) ggNil)))) (hCons (hAsg (gCall1 c_forks_below T_forks_below hr (by decide) (by rfl) tk (gCons (gv 0) (gCons (gv 2) (gCons (gv 6) gNil)))) (ggTup rfl (ggCons (ggName (i := 7) sc_needed_slots.nd rfl (.inl rfl)) (ggCons (ggName (i := 8) sc_needed_slots.nd rfl (.inl rfl)) ggNil)))) (hOne (hIf (gTNe hr.units (gSl (gv 1) (gPart (gv 7)) (gPart (gv 8))) (gSl (gv 2) (gPart (gv 7)) (gPart (gv 8)))) (hOne (hExpr (gM PySem.F.plainAttrs_list PySem.F.slot_list_append PySem.F.type_list_append mt_append lAppend (gv 3) (gCons (gv 4) gNil)))) hNil)))) (hOne (hRet (gv 3)))))
theorem d_hits_between (G : Env P w K mg base a) (T_forks_below : DefC P w K mg base "forks_below" ["tree", "flags", "hang"] l_forks_below [] (p_forks_below K a)) (T_Tree_forks : ProC P w K mg base a.Tree "forks" l_Tree_forks (p_Tree_forks K a)) {f : Addr} {cdv : Value} {A : Around} {outer : List PySem.Env} {s : Shared} {H : Hp} {E : XK} (hr : Room (l_hits_between - 1) (A.deeper (envOfC "hits_between" (defScope s_hits_between) s.heap.objs.size f cdv))) :
    PSs (cxOf (L2.CX P w) P w K mg base N_hits_between "hits_between" (defScope s_hits_between) f cdv A outer s H E) (defBody s_hits_between) (dS (fun c d _ H => E c d H) (r_hits_between K a)) := by
  have tk : Takes (cxOf (L2.CX P w) P w K mg base N_hits_between "hits_between" (defScope s_hits_between) f cdv A outer s H E) (fun c d _ H => E c d H) := takes_of rfl rfl rfl rfl
  have hp : PassesOwn (model P w) (cxOf (L2.CX P w) P w K mg base N_hits_between "hits_between" (defScope s_hits_between) f cdv A outer s H E).A (cxOf (L2.CX P w) P w K mg base N_hits_between "hits_between" (defScope s_hits_between) f cdv A outer s H E).env (cxOf (L2.CX P w) P w K mg base N_hits_between "hits_between" (defScope s_hits_between) f cdv A outer s H E).xe := passes_of rfl
  exact (hCons (hSet (i := 3) sc_hits_between.nd rfl (.inl rfl) gInt) (hCons (hFor hp rfl (iSeq (gAdd (gLst (gCons gNon gNil)) (gRgL rfl (by rfl) G.n_list (by rfl) G.n_range (gProO c_Tree_forks G.o_Tree T_Tree_forks hr (by decide) (gv 0))))) (ggName (i := 4) sc_hits_between.nd rfl (.inl rfl)) (hCons (hAsg (gCall1 c_forks_below T_forks_below hr (by decide) (by rfl) tk (gCons (gv 0) (gCons (gv 2) (gCons (gv 4) gNil)))) (ggTup rfl (ggCons (ggName (i := 5) sc_hits_between.nd rfl (.inl rfl)) (ggCons (ggName (i := 6) sc_hits_between.nd rfl (.inl rfl)) ggNil)))) (hOne (hIf (gTNe hr.units (gSl (gv 1) (gPart (gv 5)) (gPart (gv 6))) (gSl (gv 2) (gPart (gv 5)) (gPart (gv 6)))) (hOne (hSet (i := 3) sc_hits_between.nd rfl (.inl rfl) (gAdd (gv 3) gInt))) hNil)))) (hOne (hRet (gv 3)))))
theorem d_needed (G : Env P w K mg base a) (T_checked_flags : DefC P w K mg base "checked_flags" ["tree", "flags"] l_checked_flags [] (p_checked_flags K a)) (T_checked_pattern : DefC P w K mg base "checked_pattern" ["tree", "pattern"] l_checked_pattern [] (p_checked_pattern K a)) (T_needed_slots : DefC P w K mg base "needed_slots" ["tree", "start", "end"] l_needed_slots [] (p_needed_slots K a)) {f : Addr} {cdv : Value} {A : Around} {outer : List PySem.Env} {s : Shared} {H : Hp} {E : XK} (hr : Room (l_needed - 1) (A.deeper (envOfC "needed" (defScope s_needed) s.heap.objs.size f cdv))) :
    PSs (cxOf (L2.CX P w) P w K mg base N_needed "needed" (defScope s_needed) f cdv A outer s H E) (defBody s_needed) (dS (fun c d _ H => E c d H) (r_needed K a)) := by
  have tk : Takes (cxOf (L2.CX P w) P w K mg base N_needed "needed" (defScope s_needed) f cdv A outer s H E) (fun c d _ H => E c d H) := takes_of rfl rfl rfl rfl
  have hp : PassesOwn (model P w) (cxOf (L2.CX P w) P w K mg base N_needed "needed" (defScope s_needed) f cdv A outer s H E).A (cxOf (L2.CX P w) P w K mg base N_needed "needed" (defScope s_needed) f cdv A outer s H E).env (cxOf (L2.CX P w) P w K mg base N_needed "needed" (defScope s_needed) f cdv A outer s H E).xe := passes_of rfl
  exact (hCons (hExpr (gCall1 c_checked_pattern T_checked_pattern hr (by decide) (by rfl) tk (gCons (gv 0) (gCons (gv 1) gNil)))) (hCons (hExpr (gCall1 c_checked_flags T_checked_flags hr (by decide) (by rfl) tk (gCons (gv 0) (gCons (gv 2) gNil)))) (hOne (hRet (gCall1 c_needed_slots T_needed_slots hr (by decide) (by rfl) tk (gCons (gv 0) (gCons (gv 1) (gCons (gv 2) gNil))))))))
theorem d_least_hits (G : Env P w K mg base a) (T_checked_flags : DefC P w K mg base "checked_flags" ["tree", "flags"] l_checked_flags [] (p_checked_flags K a)) (T_checked_pattern : DefC P w K mg base "checked_pattern" ["tree", "pattern"] l_checked_pattern [] (p_checked_pattern K a)) (T_hits_between : DefC P w K mg base "hits_between" ["tree", "start", "end"] l_hits_between [] (p_hits_between K a)) {f : Addr} {cdv : Value} {A : Around} {outer : List PySem.Env} {s : Shared} {H : Hp} {E : XK} (hr : Room (l_least_hits - 1) (A.deeper (envOfC "least_hits" (defScope s_least_hits) s.heap.objs.size f cdv))) :
    PSs (cxOf (L2.CX P w) P w K mg base N_least_hits "least_hits" (defScope s_least_hits) f cdv A outer s H E) (defBody s_least_hits) (dS (fun c d _ H => E c d H) (r_least_hits K a)) := by
  have tk : Takes (cxOf (L2.CX P w) P w K mg base N_least_hits "least_hits" (defScope s_least_hits) f cdv A outer s H E) (fun c d _ H => E c d H) := takes_of rfl rfl rfl rfl
  have hp : PassesOwn (model P w) (cxOf (L2.CX P w) P w K mg base N_least_hits "least_hits" (defScope s_least_hits) f cdv A outer s H E).A (cxOf (L2.CX P w) P w K mg base N_least_hits "least_hits" (defScope s_least_hits) f cdv A outer s H E).env (cxOf (L2.CX P w) P w K mg base N_least_hits "least_hits" (defScope s_least_hits) f cdv A outer s H E).xe := passes_of rfl
  exact (hCons (hExpr (gCall1 c_checked_pattern T_checked_pattern hr (by decide) (by rfl) tk (gCons (gv 0) (gCons (gv 1) gNil)))) (hCons (hExpr (gCall1 c_checked_flags T_checked_flags hr (by decide) (by rfl) tk (gCons (gv 0) (gCons (gv 2) gNil)))) (hOne (hRet (gCall1 c_hits_between T_hits_between hr (by decide) (by rfl) tk (gCons (gv 0) (gCons (gv 1) (gCons (gv 2) gNil))))))))
theorem d_turned (G : Env P w K mg base a)  {f : Addr} {cdv : Value} {A : Around} {outer : List PySem.Env} {s : Shared} {H : Hp} {E : XK} (hr : Room (l_turned - 1) (A.deeper (envOfC "turned" (defScope s_turned) s.heap.objs.size f cdv))) :
    PSs (cxOf (L2.CX P w) P w K mg base N_turned "turned" (defScope s_turned) f cdv A outer s H E) (defBody s_turned) (dS (fun c d _ H => E c d H) (r_turned K a)) := by
  have tk : Takes (cxOf (L2.CX P w) P w K mg base N_turned "turned" (defScope s_turned) f cdv A outer s H E) (fun c d _ H => E c d H) := takes_of rfl rfl rfl rfl
  have hp : PassesOwn (model P w) (cxOf (L2.CX P w) P w K mg base N_turned "turned" (defScope s_turned) f cdv A outer s H E).A (cxOf (L2.CX P w) P w K mg base N_turned "turned" (defScope s_turned) f cdv A outer s H E).env (cxOf (L2.CX P w) P w K mg base N_turned "turned" (defScope s_turned) f cdv A outer s H E).xe := passes_of rfl
  exact (hCons (hSet (i := 3) sc_turned.nd rfl (.inl rfl) (gTy (cr_listS rfl) lListS (by rfl) G.n_list (by decide +kernel) (gCons (gv 1) gNil))) (hCons (hFor hp rfl (iSeq (gIx (gFldO G.o_Tree G.na_Tree_ways (gv 0)) (gv 2) (by intro _ _; rfl))) (ggTup rfl (ggCons (ggName (i := 4) sc_turned.nd rfl (.inl rfl)) (ggCons (ggName (i := 5) sc_turned.nd rfl (.inl rfl)) ggNil))) (hOne (hAsg (gv 5) (ggSub (gv 3) (gv 4))))) (hOne (hRet (gM PySem.F.plainAttrs_str PySem.F.slot_str_join PySem.F.type_str_join mt_join lJoin gStr (gCons (gv 3) gNil))))))
theorem d_flags_after (G : Env P w K mg base a) (T_checked_pattern : DefC P w K mg base "checked_pattern" ["tree", "pattern"] l_checked_pattern [] (p_checked_pattern K a)) (T_checked_slot : DefC P w K mg base "checked_slot" ["tree", "slot"] l_checked_slot [] (p_checked_slot K a)) (T_turned : DefC P w K mg base "turned" ["tree", "flags", "slot"] l_turned [] (p_turned K a)) {f : Addr} {cdv : Value} {A : Around} {outer : List PySem.Env} {s : Shared} {H : Hp} {E : XK} (hr : Room (l_flags_after - 1) (A.deeper (envOfC "flags_after" (defScope s_flags_after) s.heap.objs.size f cdv))) :
    PSs (cxOf (L2.CX P w) P w K mg base N_flags_after "flags_after" (defScope s_flags_after) f cdv A outer s H E) (defBody s_flags_after) (dS (fun c d _ H => E c d H) (r_flags_after K a)) := by
  have tk : Takes (cxOf (L2.CX P w) P w K mg base N_flags_after "flags_after" (defScope s_flags_after) f cdv A outer s H E) (fun c d _ H => E c d H) := takes_of rfl rfl rfl rfl
  have hp : PassesOwn (model P w) (cxOf (L2.CX P w) P w K mg base N_flags_after "flags_after" (defScope s_flags_after) f cdv A outer s H E).A (cxOf (L2.CX P w) P w K mg base N_flags_after "flags_after" (defScope s_flags_after) f cdv A outer s H E).env (cxOf (L2.CX P w) P w K mg base N_flags_after "flags_after" (defScope s_flags_after) f cdv A outer s H E).xe := passes_of rfl
  exact (hCons (hExpr (gCall1 c_checked_pattern T_checked_pattern hr (by decide) (by rfl) tk (gCons (gv 0) (gCons (gv 1) gNil)))) (hCons (hExpr (gCall1 c_checked_slot T_checked_slot hr (by decide) (by rfl) tk (gCons (gv 0) (gCons (gv 2) gNil)))) (hOne (hRet (gCall1 c_turned T_turned hr (by decide) (by rfl) tk (gCons (gv 0) (gCons (gv 1) (gCons (gv 2) gNil))))))))
theorem d_all_after (G : Env P w K mg base a) (T_checked_flags : DefC P w K mg base "checked_flags" ["tree", "flags"] l_checked_flags [] (p_checked_flags K a)) (T_checked_visits : DefC P w K mg base "checked_visits" ["tree", "slots"] l_checked_visits [] (p_checked_visits K a)) (T_turned : DefC P w K mg base "turned" ["tree", "flags", "slot"] l_turned [] (p_turned K a)) {f : Addr} {cdv : Value} {A : Around} {outer : List PySem.Env} {s : Shared} {H : Hp} {E : XK} (hr : Room (l_all_after - 1) (A.deeper (envOfC "all_after" (defScope s_all_after) s.heap.objs.size f cdv))) :
    PSs (cxOf (L2.CX P w) P w K mg base N_all_after "all_after" (defScope s_all_after) f cdv A outer s H E) (defBody s_all_after) (dS (fun c d _ H => E c d H) (r_all_after K a)) := by
  have tk : Takes (cxOf (L2.CX P w) P w K mg base N_all_after "all_after" (defScope s_all_after) f cdv A outer s H E) (fun c d _ H => E c d H) := takes_of rfl rfl rfl rfl
  have hp : PassesOwn (model P w) (cxOf (L2.CX P w) P w K mg base N_all_after "all_after" (defScope s_all_after) f cdv A outer s H E).A (cxOf (L2.CX P w) P w K mg base N_all_after "all_after" (defScope s_all_after) f cdv A outer s H E).env (cxOf (L2.CX P w) P w K mg base N_all_after "all_after" (defScope s_all_after) f cdv A outer s H E).xe := passes_of rfl
  exact (hCons (hExpr (gCall1 c_checked_flags T_checked_flags hr (by decide) (by rfl) tk (gCons (gv 0) (gCons (gv 1) gNil)))) (hCons (hSet (i := 3) sc_all_after.nd rfl (.inl rfl) (gCall1 c_checked_visits T_checked_visits hr (by decide) (by rfl) tk (gCons (gv 0) (gCons (gv 2) gNil)))) (hCons (hFor hp rfl (iSeq (gv 3)) (ggName (i := 4) sc_all_after.nd rfl (.inl rfl)) (hOne (hSet (i := 1) sc_all_after.nd rfl (.inl rfl) (gCall1 c_turned T_turned hr (by decide) (by rfl) tk (gCons (gv 0) (gCons (gv 1) (gCons (gv 4) gNil))))))) (hOne (hRet (gv 1))))))
theorem d_ends_fork (G : Env P w K mg base a)  {f : Addr} {cdv : Value} {A : Around} {outer : List PySem.Env} {s : Shared} {H : Hp} {E : XK} (hr : Room (l_ends_fork - 1) (A.deeper (envOfC "ends_fork" (defScope s_ends_fork) s.heap.objs.size f cdv))) :
    PSs (cxOf (L2.CX P w) P w K mg base N_ends_fork "ends_fork" (defScope s_ends_fork) f cdv A outer s H E) (defBody s_ends_fork) (dS (fun c d _ H => E c d H) (r_ends_fork K a)) := by
  have tk : Takes (cxOf (L2.CX P w) P w K mg base N_ends_fork "ends_fork" (defScope s_ends_fork) f cdv A outer s H E) (fun c d _ H => E c d H) := takes_of rfl rfl rfl rfl
  have hp : PassesOwn (model P w) (cxOf (L2.CX P w) P w K mg base N_ends_fork "ends_fork" (defScope s_ends_fork) f cdv A outer s H E).A (cxOf (L2.CX P w) P w K mg base N_ends_fork "ends_fork" (defScope s_ends_fork) f cdv A outer s H E).env (cxOf (L2.CX P w) P w K mg base N_ends_fork "ends_fork" (defScope s_ends_fork) f cdv A outer s H E).xe := passes_of rfl
  exact (hOne (hRet (gEq hr.units (gLc (own := [("node", 1)]) rfl sc_ends_fork.nd (iSeq (gSl (gv 0) (gPart (gNeg gInt)) gNoP)) (blkOk_by (own := [("node", 1)]) (N := N_ends_fork) (sc := defScope s_ends_fork) (by decide +kernel)) (fun _ _ _ _ _ => (ggName (i := 1) sc_ends_fork.nd rfl (.inl rfl))) (fun _ _ _ _ _ => gNoIf) (fun _ _ _ _ _ => (gEq hr.units (gIx (gv 1) gInt (by intro _ _; rfl)) gStr))) (gLst (gCons gBl (gCons gBl (gCons gBl gNil)))))))
theorem d_read_forks (G : Env P w K mg base a) (T_ends_fork : DefC P w K mg base "ends_fork" ["stack"] l_ends_fork [] (p_ends_fork K a)) {f : Addr} {cdv : Value} {A : Around} {outer : List PySem.Env} {s : Shared} {H : Hp} {E : XK} (hr : Room (l_read_forks - 1) (A.deeper (envOfC "read_forks" (defScope s_read_forks) s.heap.objs.size f cdv))) :
    PSs (cxOf (L2.CX P w) P w K mg base N_read_forks "read_forks" (defScope s_read_forks) f cdv A outer s H E) (defBody s_read_forks) (dS (fun c d _ H => E c d H) (r_read_forks K a)) := by
  have tk : Takes (cxOf (L2.CX P w) P w K mg base N_read_forks "read_forks" (defScope s_read_forks) f cdv A outer s H E) (fun c d _ H => E c d H) := takes_of rfl rfl rfl rfl
  have hp : PassesOwn (model P w) (cxOf (L2.CX P w) P w K mg base N_read_forks "read_forks" (defScope s_read_forks) f cdv A outer s H E).A (cxOf (L2.CX P w) P w K mg base N_read_forks "read_forks" (defScope s_read_forks) f cdv A outer s H E).env (cxOf (L2.CX P w) P w K mg base N_read_forks "read_forks" (defScope s_read_forks) f cdv A outer s H E).xe := passes_of rfl
  exact (hCons (hSet (i := 1) sc_read_forks.nd rfl (.inl rfl) (gLst gNil)) (hCons (hSet (i := 2) sc_read_forks.nd rfl (.inl rfl) (gLst gNil)) (hCons (hSet (i := 3) sc_read_forks.nd rfl (.inl rfl) gInt) (hCons (hFor hp rfl (iEnS (by rfl) G.n_enumerate (gCons (gv 0) gNil)) (ggTup rfl (ggCons (ggName (i := 4) sc_read_forks.nd rfl (.inl rfl)) (ggCons (ggName (i := 5) sc_read_forks.nd rfl (.inl rfl)) ggNil))) (hOne (hIf (gTEq hr.units (gv 5) gStr) (hOne (hExpr (gM PySem.F.plainAttrs_list PySem.F.slot_list_append PySem.F.type_list_append mt_append lAppend (gv 1) (gCons (gTup (gCons gStr (gCons gInt (gCons gInt (gCons gInt (gCons (gv 4) gNil)))))) gNil)))) (hOne (hIf (gTEq hr.units (gv 5) gStr) (hCons (hExpr (gM PySem.F.plainAttrs_list PySem.F.slot_list_append PySem.F.type_list_append mt_append lAppend (gv 1) (gCons (gTup (gCons gStr (gCons (gv 3) (gCons (gv 3) (gCons (gv 3) (gCons (gv 4) gNil)))))) gNil))) (hOne (hSet (i := 3) sc_read_forks.nd rfl (.inl rfl) (gAdd (gv 3) gInt)))) (hOne (hIf (PW.pt (gAnd (gTEq hr.units (gv 5) gStr) (gAnd1 (gTru (gCall1 c_ends_fork T_ends_fork hr (by decide) (by rfl) tk (gCons (gv 1) gNil)))))) (hCons (hSet (i := 6) sc_read_forks.nd rfl (.inl rfl) (gM0 PySem.F.plainAttrs_list PySem.F.slot_list_pop PySem.F.type_list_pop mt_pop lPop (gv 1))) (hCons (hSet (i := 7) sc_read_forks.nd rfl (.inl rfl) (gM0 PySem.F.plainAttrs_list PySem.F.slot_list_pop PySem.F.type_list_pop mt_pop lPop (gv 1))) (hCons (hAsg (gTup (gCons (gIx (gv 7) gInt (by intro _ _; rfl)) (gCons (gIx (gv 7) gInt (by intro _ _; rfl)) (gCons (gIx (gv 6) gInt (by intro _ _; rfl)) (gCons (gIx (gM0 PySem.F.plainAttrs_list PySem.F.slot_list_pop PySem.F.type_list_pop mt_pop lPop (gv 1)) gInt (by intro _ _; rfl)) gNil))))) (ggTup rfl (ggCons (ggName (i := 8) sc_read_forks.nd rfl (.inl rfl)) (ggCons (ggName (i := 9) sc_read_forks.nd rfl (.inl rfl)) (ggCons (ggName (i := 10) sc_read_forks.nd rfl (.inl rfl)) (ggCons (ggName (i := 11) sc_read_forks.nd rfl (.inl rfl)) ggNil)))))) (hCons (hExpr (gM PySem.F.plainAttrs_list PySem.F.slot_list_append PySem.F.type_list_append mt_append lAppend (gv 2) (gCons (gTup (gCons (gv 9) (gCons (gSl (gv 7) gNoP (gPart gInt)) (gCons (gSl (gv 6) gNoP (gPart gInt)) (gCons (gTup (gCons (gv 8) (gCons (gv 10) gNil))) (gCons (gTup (gCons (gv 11) (gCons (gAdd (gv 4) gInt) gNil))) gNil)))))) gNil))) (hOne (hExpr (gM PySem.F.plainAttrs_list PySem.F.slot_list_append PySem.F.type_list_append mt_append lAppend (gv 1) (gCons (gTup (gCons gStr (gCons (gv 9) (gCons (gv 8) (gCons (gv 10) (gCons (gv 11) gNil)))))) gNil)))))))) (hOne (hRet gNon))))))))) (hCons (hIf (PW.pt (gOr (gTNe hr.units (gB call_len lLen (by rfl) G.n_len (by decide +kernel) (gCons (gv 1) gNil)) gInt) (gOr1 (gTEq hr.units (gIx (gIx (gv 1) gInt (by intro _ _; rfl)) gInt (by intro _ _; rfl)) gStr)))) (hOne (hRet gNon)) hNil) (hOne (hRet (gv 2))))))))
theorem d_lay_ways (G : Env P w K mg base a)  {f : Addr} {cdv : Value} {A : Around} {outer : List PySem.Env} {s : Shared} {H : Hp} {E : XK} (hr : Room (l_lay_ways - 1) (A.deeper (envOfC "lay_ways" (defScope s_lay_ways) s.heap.objs.size f cdv))) :
    PSs (cxOf (L2.CX P w) P w K mg base N_lay_ways "lay_ways" (defScope s_lay_ways) f cdv A outer s H E) (defBody s_lay_ways) (dS (fun c d _ H => E c d H) (r_lay_ways K a)) := by
  have tk : Takes (cxOf (L2.CX P w) P w K mg base N_lay_ways "lay_ways" (defScope s_lay_ways) f cdv A outer s H E) (fun c d _ H => E c d H) := takes_of rfl rfl rfl rfl
  have hp : PassesOwn (model P w) (cxOf (L2.CX P w) P w K mg base N_lay_ways "lay_ways" (defScope s_lay_ways) f cdv A outer s H E).A (cxOf (L2.CX P w) P w K mg base N_lay_ways "lay_ways" (defScope s_lay_ways) f cdv A outer s H E).env (cxOf (L2.CX P w) P w K mg base N_lay_ways "lay_ways" (defScope s_lay_ways) f cdv A outer s H E).xe := passes_of rfl
  exact (hCons (hSet (i := 3) sc_lay_ways.nd rfl (.inl rfl) (gLst gNil)) (hCons (hSet (i := 4) sc_lay_ways.nd rfl (.inl rfl) (gLst gNil)) (hCons (hSet (i := 5) sc_lay_ways.nd rfl (.inl rfl) (gLst (gCons (gTup (gCons (gv 0) (gCons (gTup gNil) gNil))) gNil))) (hCons (hWhile hp (gTru (gv 5)) (hCons (hAsg (gM0 PySem.F.plainAttrs_list PySem.F.slot_list_pop PySem.F.type_list_pop mt_pop lPop (gv 5)) (ggTup rfl (ggCons (ggTup rfl (ggCons (ggName (i := 6) sc_lay_ways.nd rfl (.inl rfl)) (ggCons (ggName (i := 7) sc_lay_ways.nd rfl (.inl rfl)) ggNil))) (ggCons (ggName (i := 8) sc_lay_ways.nd rfl (.inl rfl)) ggNil)))) (hOne (hIf (gTEq hr.units (gv 6) gStr) (hOne (hExpr (gM PySem.F.plainAttrs_list PySem.F.slot_list_append PySem.F.type_list_append mt_append lAppend (gv 4) (gCons (gv 8) gNil)))) (hCons (hExpr (gM PySem.F.plainAttrs_list PySem.F.slot_list_append PySem.F.type_list_append mt_append lAppend (gv 3) (gCons (gv 7) gNil))) (hCons (hExpr (gM PySem.F.plainAttrs_list PySem.F.slot_list_append PySem.F.type_list_append mt_append lAppend (gv 5) (gCons (gTup (gCons (gIx (gv 2) (gv 7) (by intro _ _; rfl)) (gCons (gAddT (gv 8) (gTup (gCons (gTup (gCons (gv 7) (gCons gStr gNil))) gNil))) gNil))) gNil))) (hOne (hExpr (gM PySem.F.plainAttrs_list PySem.F.slot_list_append PySem.F.type_list_append mt_append lAppend (gv 5) (gCons (gTup (gCons (gIx (gv 1) (gv 7) (by intro _ _; rfl)) (gCons (gAddT (gv 8) (gTup (gCons (gTup (gCons (gv 7) (gCons gStr gNil))) gNil))) gNil))) gNil)))))))))) (hOne (hRet (gTup (gCons (gTuple (by rfl) G.n_tuple (gv 3)) (gCons (gTuple (by rfl) G.n_tuple (gv 4)) gNil)))))))))
theorem d_Tree_init (G : Env P w K mg base a) (T_lay_ways : DefC P w K mg base "lay_ways" ["root", "lefts", "rights"] l_lay_ways [] (p_lay_ways K a)) (T_read_forks : DefC P w K mg base "read_forks" ["text"] l_read_forks [] (p_read_forks K a)) {f : Addr} {cdv : Value} {A : Around} {outer : List PySem.Env} {s : Shared} {H : Hp} {E : XK} (hr : Room (l_Tree_init - 1) (A.deeper (envOfC "Tree.__init__" (defScope s_Tree_init) s.heap.objs.size f cdv))) :
    PSs (cxOf (L2.CX P w) P w K mg base N_Tree_init "Tree.__init__" (defScope s_Tree_init) f cdv A outer s H E) (defBody s_Tree_init) (dS (fun c d _ H => E c d H) (r_Tree_init K a)) := by
  have tk : Takes (cxOf (L2.CX P w) P w K mg base N_Tree_init "Tree.__init__" (defScope s_Tree_init) f cdv A outer s H E) (fun c d _ H => E c d H) := takes_of rfl rfl rfl rfl
  have hp : PassesOwn (model P w) (cxOf (L2.CX P w) P w K mg base N_Tree_init "Tree.__init__" (defScope s_Tree_init) f cdv A outer s H E).A (cxOf (L2.CX P w) P w K mg base N_Tree_init "Tree.__init__" (defScope s_Tree_init) f cdv A outer s H E).env (cxOf (L2.CX P w) P w K mg base N_Tree_init "Tree.__init__" (defScope s_Tree_init) f cdv A outer s H E).xe := passes_of rfl
  exact (hCons (hSet (i := 2) sc_Tree_init.nd rfl (.inl rfl) gNon) (hCut (hIf (PW.pt (gAnd (gTru (gIsi (by rfl) G.n_isinstance (gv 1) (by decide) (by rfl) G.n_str (by decide +kernel))) (gAnd1 (gTLe (gB call_len lLen (by rfl) G.n_len (by decide +kernel) (gCons (gv 1) gNil)) (gSub (gMul gInt (gConO G.o_Tree G.k_Tree_MOST (gv 0))) gInt))))) (hOne (hSet (i := 2) sc_Tree_init.nd rfl (.inl rfl) (gCall1 c_read_forks T_read_forks hr (by decide) (by rfl) tk (gCons (gv 1) gNil)))) hNil) (hCons (hIf (gTIsN (gv 2) gNon) (hOne (hRaise (k := 0) rfl tk G.e_InvalidTree (hr.mono (by decide)) (by rfl) (gv 1))) hNil) (hCons (hSet (i := 3) sc_Tree_init.nd rfl (.inl rfl) (gB cr_sortRow lSortRow (by rfl) G.n_sorted (by decide +kernel) (gCons (gv 2) gNil))) (hCons (hSetO G.o_Tree G.na_Tree_text (gv 0) (gv 1)) (hCons (hSetO G.o_Tree G.na_Tree_lefts (gv 0) (gTuple (by rfl) G.n_tuple (gLc (own := [("row", 4)]) rfl sc_Tree_init.nd (iSeq (gv 3)) (blkOk_by (own := [("row", 4)]) (N := N_Tree_init) (sc := defScope s_Tree_init) (by decide +kernel)) (fun _ _ _ _ _ => (ggName (i := 4) sc_Tree_init.nd rfl (.inl rfl))) (fun _ _ _ _ _ => gNoIf) (fun _ _ _ _ _ => (gIx (gv 4) gInt (by intro _ _; rfl)))))) (hCons (hSetO G.o_Tree G.na_Tree_rights (gv 0) (gTuple (by rfl) G.n_tuple (gLc (own := [("row", 4)]) rfl sc_Tree_init.nd (iSeq (gv 3)) (blkOk_by (own := [("row", 4)]) (N := N_Tree_init) (sc := defScope s_Tree_init) (by decide +kernel)) (fun _ _ _ _ _ => (ggName (i := 4) sc_Tree_init.nd rfl (.inl rfl))) (fun _ _ _ _ _ => gNoIf) (fun _ _ _ _ _ => (gIx (gv 4) gInt (by intro _ _; rfl)))))) (hCons (hSetO G.o_Tree G.na_Tree_spans (gv 0) (gTuple (by rfl) G.n_tuple (gLc (own := [("row", 4)]) rfl sc_Tree_init.nd (iSeq (gv 3)) (blkOk_by (own := [("row", 4)]) (N := N_Tree_init) (sc := defScope s_Tree_init) (by decide +kernel)) (fun _ _ _ _ _ => (ggName (i := 4) sc_Tree_init.nd rfl (.inl rfl))) (fun _ _ _ _ _ => gNoIf) (fun _ _ _ _ _ => (gIx (gv 4) gInt (by intro _ _; rfl)))))) (hCons (hSetO G.o_Tree G.na_Tree_bounds (gv 0) (gTuple (by rfl) G.n_tuple (gLc (own := [("row", 4)]) rfl sc_Tree_init.nd (iSeq (gv 3)) (blkOk_by (own := [("row", 4)]) (N := N_Tree_init) (sc := defScope s_Tree_init) (by decide +kernel)) (fun _ _ _ _ _ => (ggName (i := 4) sc_Tree_init.nd rfl (.inl rfl))) (fun _ _ _ _ _ => gNoIf) (fun _ _ _ _ _ => (gIx (gv 4) gInt (by intro _ _; rfl)))))) (hCons (hSetO G.o_Tree G.na_Tree_postorder (gv 0) (gTuple (by rfl) G.n_tuple (gLc (own := [("row", 4)]) rfl sc_Tree_init.nd (iSeq (gv 2)) (blkOk_by (own := [("row", 4)]) (N := N_Tree_init) (sc := defScope s_Tree_init) (by decide +kernel)) (fun _ _ _ _ _ => (ggName (i := 4) sc_Tree_init.nd rfl (.inl rfl))) (fun _ _ _ _ _ => gNoIf) (fun _ _ _ _ _ => (gIx (gv 4) gInt (by intro _ _; rfl)))))) (hCons (hSetO G.o_Tree G.na_Tree_root (gv 0) (gIfE (gTru (gv 2)) (gTup (gCons gStr (gCons (gIx (gIx (gv 2) (gNeg gInt) (by intro _ _; rfl)) gInt (by intro _ _; rfl)) gNil))) (gTup (gCons gStr (gCons gInt gNil))))) (hOne (hAsg (gCall1 c_lay_ways T_lay_ways hr (by decide) (by rfl) tk (gCons (gFldO G.o_Tree G.na_Tree_root (gv 0)) (gCons (gFldO G.o_Tree G.na_Tree_lefts (gv 0)) (gCons (gFldO G.o_Tree G.na_Tree_rights (gv 0)) gNil)))) (ggTup rfl (ggCons (ggFld G.o_Tree G.na_Tree_preorder (gv 0)) (ggCons (ggFld G.o_Tree G.na_Tree_ways (gv 0)) ggNil))))))))))))))))
theorem d_Tree_len (G : Env P w K mg base a)  {f : Addr} {cdv : Value} {A : Around} {outer : List PySem.Env} {s : Shared} {H : Hp} {E : XK} (hr : Room (l_Tree_len - 1) (A.deeper (envOfC "Tree.__len__" (defScope s_Tree_len) s.heap.objs.size f cdv))) :
    PSs (cxOf (L2.CX P w) P w K mg base N_Tree_len "Tree.__len__" (defScope s_Tree_len) f cdv A outer s H E) (defBody s_Tree_len) (dS (fun c d _ H => E c d H) (r_Tree_len K a)) := by
  have tk : Takes (cxOf (L2.CX P w) P w K mg base N_Tree_len "Tree.__len__" (defScope s_Tree_len) f cdv A outer s H E) (fun c d _ H => E c d H) := takes_of rfl rfl rfl rfl
  have hp : PassesOwn (model P w) (cxOf (L2.CX P w) P w K mg base N_Tree_len "Tree.__len__" (defScope s_Tree_len) f cdv A outer s H E).A (cxOf (L2.CX P w) P w K mg base N_Tree_len "Tree.__len__" (defScope s_Tree_len) f cdv A outer s H E).env (cxOf (L2.CX P w) P w K mg base N_Tree_len "Tree.__len__" (defScope s_Tree_len) f cdv A outer s H E).xe := passes_of rfl
  exact (hOne (hRet (gB call_len lLen (by rfl) G.n_len (by decide +kernel) (gCons (gFldO G.o_Tree G.na_Tree_ways (gv 0)) gNil))))
theorem d_Tree_forks (G : Env P w K mg base a)  {f : Addr} {cdv : Value} {A : Around} {outer : List PySem.Env} {s : Shared} {H : Hp} {E : XK} (hr : Room (l_Tree_forks - 1) (A.deeper (envOfC "Tree.forks" (defScope s_Tree_forks) s.heap.objs.size f cdv))) :
    PSs (cxOf (L2.CX P w) P w K mg base N_Tree_forks "Tree.forks" (defScope s_Tree_forks) f cdv A outer s H E) (defBody s_Tree_forks) (dS (fun c d _ H => E c d H) (r_Tree_forks K a)) := by
  have tk : Takes (cxOf (L2.CX P w) P w K mg base N_Tree_forks "Tree.forks" (defScope s_Tree_forks) f cdv A outer s H E) (fun c d _ H => E c d H) := takes_of rfl rfl rfl rfl
  have hp : PassesOwn (model P w) (cxOf (L2.CX P w) P w K mg base N_Tree_forks "Tree.forks" (defScope s_Tree_forks) f cdv A outer s H E).A (cxOf (L2.CX P w) P w K mg base N_Tree_forks "Tree.forks" (defScope s_Tree_forks) f cdv A outer s H E).env (cxOf (L2.CX P w) P w K mg base N_Tree_forks "Tree.forks" (defScope s_Tree_forks) f cdv A outer s H E).xe := passes_of rfl
  exact (hOne (hRet (gB call_len lLen (by rfl) G.n_len (by decide +kernel) (gCons (gFldO G.o_Tree G.na_Tree_spans (gv 0)) gNil))))
theorem d_l_is_integer (G : Env P w K mg base a)  {f : Addr} {cdv : Value} {A : Around} {outer : List PySem.Env} {s : Shared} {H : Hp} {E : XK} (hr : Room (l_l_is_integer - 1) (A.deeper (envOfC "_law_is_integer" (defScope s_l_is_integer) s.heap.objs.size f cdv))) :
    PSs (cxOf (L2.CX P w) P w K mg base N_l_is_integer "_law_is_integer" (defScope s_l_is_integer) f cdv A outer s H E) (defBody s_l_is_integer) (dS (fun c d _ H => E c d H) (r_l_is_integer K a)) := by
  have tk : Takes (cxOf (L2.CX P w) P w K mg base N_l_is_integer "_law_is_integer" (defScope s_l_is_integer) f cdv A outer s H E) (fun c d _ H => E c d H) := takes_of rfl rfl rfl rfl
  have hp : PassesOwn (model P w) (cxOf (L2.CX P w) P w K mg base N_l_is_integer "_law_is_integer" (defScope s_l_is_integer) f cdv A outer s H E).A (cxOf (L2.CX P w) P w K mg base N_l_is_integer "_law_is_integer" (defScope s_l_is_integer) f cdv A outer s H E).env (cxOf (L2.CX P w) P w K mg base N_l_is_integer "_law_is_integer" (defScope s_l_is_integer) f cdv A outer s H E).xe := passes_of rfl
  exact (hOne (hRet (gAndV (gIsi (by rfl) G.n_isinstance (gv 0) (by decide) (by rfl) G.n_int (by decide +kernel)) (gOneV (gNotV (gIsi (by rfl) G.n_isinstance (gv 0) (by decide) (by rfl) G.n_bool (by decide +kernel)))))))
theorem d_l_same (G : Env P w K mg base a) (T_l_is_integer : DefC P w K mg base "_law_is_integer" ["_law_told"] l_l_is_integer [] (p_l_is_integer K a)) {f : Addr} {cdv : Value} {A : Around} {outer : List PySem.Env} {s : Shared} {H : Hp} {E : XK} (hr : Room (l_l_same - 1) (A.deeper (envOfC "_law_same" (defScope s_l_same) s.heap.objs.size f cdv))) :
    PSs (cxOf (L2.CX P w) P w K mg base N_l_same "_law_same" (defScope s_l_same) f cdv A outer s H E) (defBody s_l_same) (dS (fun c d _ H => E c d H) (r_l_same K a)) := by
  have tk : Takes (cxOf (L2.CX P w) P w K mg base N_l_same "_law_same" (defScope s_l_same) f cdv A outer s H E) (fun c d _ H => E c d H) := takes_of rfl rfl rfl rfl
  have hp : PassesOwn (model P w) (cxOf (L2.CX P w) P w K mg base N_l_same "_law_same" (defScope s_l_same) f cdv A outer s H E).A (cxOf (L2.CX P w) P w K mg base N_l_same "_law_same" (defScope s_l_same) f cdv A outer s H E).env (cxOf (L2.CX P w) P w K mg base N_l_same "_law_same" (defScope s_l_same) f cdv A outer s H E).xe := passes_of rfl
  exact (hCons (hIf (PW.pt (gOr (gTNot (gTru (gIsi (by rfl) G.n_isinstance (gv 0) (by decide) (by rfl) G.n_list (by decide +kernel)))) (gOr1 (gTNe hr.units (gB call_len lLen (by rfl) G.n_len (by decide +kernel) (gCons (gv 0) gNil)) (gB call_len lLen (by rfl) G.n_len (by decide +kernel) (gCons (gv 1) gNil)))))) (hOne (hRet gBl)) hNil) (hCons (hFor hp rfl (iR1 (by rfl) G.n_range (gCons (gB call_len lLen (by rfl) G.n_len (by decide +kernel) (gCons (gv 1) gNil)) gNil)) (ggName (i := 2) sc_l_same.nd rfl (.inl rfl)) (hOne (hIf (PW.pt (gOr (gTNot (gTru (gCall1 c_l_is_integer T_l_is_integer hr (by decide) (by rfl) tk (gCons (gIx (gv 0) (gv 2) (by intro _ _; rfl)) gNil)))) (gOr1 (gTNe hr.units (gIx (gv 0) (gv 2) (by intro _ _; rfl)) (gIx (gv 1) (gv 2) (by intro _ _; rfl)))))) (hOne (hRet gBl)) hNil))) (hOne (hRet gBl))))
theorem d_l_box (G : Env P w K mg base a)  {f : Addr} {cdv : Value} {A : Around} {outer : List PySem.Env} {s : Shared} {H : Hp} {E : XK} (hr : Room (l_l_box - 1) (A.deeper (envOfC "_law_box" (defScope s_l_box) s.heap.objs.size f cdv))) :
    PSs (cxOf (L2.CX P w) P w K mg base N_l_box "_law_box" (defScope s_l_box) f cdv A outer s H E) (defBody s_l_box) (dS (fun c d _ H => E c d H) (r_l_box K a)) := by
  have tk : Takes (cxOf (L2.CX P w) P w K mg base N_l_box "_law_box" (defScope s_l_box) f cdv A outer s H E) (fun c d _ H => E c d H) := takes_of rfl rfl rfl rfl
  have hp : PassesOwn (model P w) (cxOf (L2.CX P w) P w K mg base N_l_box "_law_box" (defScope s_l_box) f cdv A outer s H E).A (cxOf (L2.CX P w) P w K mg base N_l_box "_law_box" (defScope s_l_box) f cdv A outer s H E).env (cxOf (L2.CX P w) P w K mg base N_l_box "_law_box" (defScope s_l_box) f cdv A outer s H E).xe := passes_of rfl
  exact (hCons (hSetLc (i := 1) (own := [("_law_cell", 3)]) rfl sc_l_box.nd rfl rfl (sw_true rfl rfl rfl (by decide +kernel)) (iSeq (gSl (gv 0) gNoP (gPart gInt))) (blkOk_by (own := [("_law_cell", 3)]) (N := N_l_box) (sc := defScope s_l_box) (by decide +kernel)) (fun _ _ _ _ _ => (ggName (i := 3) sc_l_box.nd rfl (.inl rfl))) (fun _ _ _ _ _ => gNoIf) (fun _ _ _ _ _ => (gTy call_int1 lInt (by rfl) G.n_int (by decide +kernel) (gCons (gv 3) gNil)))) (hCons (hSetLc (i := 2) (own := [("_law_cell", 3)]) rfl sc_l_box.nd rfl rfl (sw_true rfl rfl rfl (by decide +kernel)) (iSeq (gv 1)) (blkOk_by (own := [("_law_cell", 3)]) (N := N_l_box) (sc := defScope s_l_box) (by decide +kernel)) (fun _ _ _ _ _ => (ggName (i := 3) sc_l_box.nd rfl (.inl rfl))) (fun _ _ _ _ _ => gNoIf) (fun _ _ _ _ _ => (gMod (gTy call_int1 lInt (by rfl) G.n_int (by decide +kernel) (gCons (gv 3) gNil)) gInt))) (hCut (hIf (gTNot (gTru (gv 2))) (hOne (hSet (i := 2) sc_l_box.nd rfl (.inl rfl) (gLst (gCons gInt gNil)))) hNil) (hOne (hRet (gLst (gCons (gLc (own := [("_law_cell", 3)]) rfl sc_l_box.nd (iSeq (gv 1)) (blkOk_by (own := [("_law_cell", 3)]) (N := N_l_box) (sc := defScope s_l_box) (by decide +kernel)) (fun _ _ _ _ _ => (ggName (i := 3) sc_l_box.nd rfl (.inl rfl))) (fun _ _ _ _ _ => (gOneIf (gTGe (gv 3) (gPow gInt gInt)))) (fun _ _ _ _ _ => (gv 3))) (gCons (gv 2) (gCons gInt gNil)))))))))
theorem d_l_take (G : Env P w K mg base a)  {f : Addr} {cdv : Value} {A : Around} {outer : List PySem.Env} {s : Shared} {H : Hp} {E : XK} (hr : Room (l_l_take - 1) (A.deeper (envOfC "_law_take" (defScope s_l_take) s.heap.objs.size f cdv))) :
    PSs (cxOf (L2.CX P w) P w K mg base N_l_take "_law_take" (defScope s_l_take) f cdv A outer s H E) (defBody s_l_take) (dS (fun c d _ H => E c d H) (r_l_take K a)) := by
  have tk : Takes (cxOf (L2.CX P w) P w K mg base N_l_take "_law_take" (defScope s_l_take) f cdv A outer s H E) (fun c d _ H => E c d H) := takes_of rfl rfl rfl rfl
  have hp : PassesOwn (model P w) (cxOf (L2.CX P w) P w K mg base N_l_take "_law_take" (defScope s_l_take) f cdv A outer s H E).A (cxOf (L2.CX P w) P w K mg base N_l_take "_law_take" (defScope s_l_take) f cdv A outer s H E).env (cxOf (L2.CX P w) P w K mg base N_l_take "_law_take" (defScope s_l_take) f cdv A outer s H E).xe := passes_of rfl
  exact (hCons (hIf (gTLt (gv 1) gInt) (hOne (hRet gInt)) hNil) (hCons (hSet (i := 2) sc_l_take.nd rfl (.inl rfl) (gIx (gv 0) gInt (by intro _ _; rfl))) (hCons (hIf (gTru (gv 2)) (hCons (hSet (i := 3) sc_l_take.nd rfl (.inl rfl) (gIx (gv 2) gInt (by intro _ _; rfl))) (hCut (hIf (gTLt (gFdv (gv 3) (gv 1)) gInt) (hOne (hAsg (gSl (gv 2) (gPart gInt) gNoP) (ggSub (gv 0) gInt))) (hOne (hAsg (gFdv (gv 3) (gv 1)) (ggSub (gv 2) gInt)))) (hOne (hRet (gMod (gTy call_int1 lInt (by rfl) G.n_int (by decide +kernel) (gCons (gv 3) gNil)) (gv 1)))))) hNil) (hCons (hSet (i := 4) sc_l_take.nd rfl (.inl rfl) (gIx (gv 0) gInt (by intro _ _; rfl))) (hCons (hAsg (gAdd (gv 4) gInt) (ggSub (gv 0) gInt)) (hCons (hSet (i := 5) sc_l_take.nd rfl (.inl rfl) (gIx (gv 0) gInt (by intro _ _; rfl))) (hCons (hSet (i := 6) sc_l_take.nd rfl (.inl rfl) (gIx (gv 5) (gMod (gTy call_int1 lInt (by rfl) G.n_int (by decide +kernel) (gCons (gv 4) gNil)) (gB call_len lLen (by rfl) G.n_len (by decide +kernel) (gCons (gv 5) gNil))) (by intro _ _; rfl))) (hCons (hSet (i := 7) sc_l_take.nd rfl (.inl rfl) (gMod (gTy call_int1 lInt (by rfl) G.n_int (by decide +kernel) (gCons (gAdd (gAdd (gMul (gv 6) gInt) (gMul (gv 4) gInt)) gInt) gNil)) gInt)) (hCons (hSet (i := 8) sc_l_take.nd rfl (.inl rfl) (gMod (gTy call_int1 lInt (by rfl) G.n_int (by decide +kernel) (gCons (gAdd (gAdd (gAdd (gMul (gv 7) (gv 7)) (gMul (gv 6) gInt)) (gMul (gv 4) gInt)) gInt) gNil)) gInt)) (hCons (hSet (i := 9) sc_l_take.nd rfl (.inl rfl) (gMod (gTy call_int1 lInt (by rfl) G.n_int (by decide +kernel) (gCons (gAdd (gAdd (gMul (gv 8) (gv 8)) (gMul (gv 7) gInt)) (gv 4)) gNil)) gInt)) (hOne (hRet (gMod (gFdv (gTy call_int1 lInt (by rfl) G.n_int (by decide +kernel) (gCons (gv 9) gNil)) gInt) (gv 1))))))))))))))
theorem d_l_join (G : Env P w K mg base a) (T_l_take : DefC P w K mg base "_law_take" ["_law_box_here", "_law_size"] l_l_take [] (p_l_take K a)) {f : Addr} {cdv : Value} {A : Around} {outer : List PySem.Env} {s : Shared} {H : Hp} {E : XK} (hr : Room (l_l_join - 1) (A.deeper (envOfC "_law_join" (defScope s_l_join) s.heap.objs.size f cdv))) :
    PSs (cxOf (L2.CX P w) P w K mg base N_l_join "_law_join" (defScope s_l_join) f cdv A outer s H E) (defBody s_l_join) (dS (fun c d _ H => E c d H) (r_l_join K a)) := by
  have tk : Takes (cxOf (L2.CX P w) P w K mg base N_l_join "_law_join" (defScope s_l_join) f cdv A outer s H E) (fun c d _ H => E c d H) := takes_of rfl rfl rfl rfl
  have hp : PassesOwn (model P w) (cxOf (L2.CX P w) P w K mg base N_l_join "_law_join" (defScope s_l_join) f cdv A outer s H E).A (cxOf (L2.CX P w) P w K mg base N_l_join "_law_join" (defScope s_l_join) f cdv A outer s H E).env (cxOf (L2.CX P w) P w K mg base N_l_join "_law_join" (defScope s_l_join) f cdv A outer s H E).xe := passes_of rfl
  exact (hCons (hIf (gTEq hr.units (gv 1) gInt) (hOne (hRet (gSub (gv 2) gInt))) hNil) (hCons (hIf (gTEq hr.units (gv 1) gInt) (hOne (hRet gInt)) hNil) (hCons (hIf (gTEq hr.units (gv 1) gInt) (hCons (hSet (i := 3) sc_l_join.nd rfl (.inl rfl) gInt) (hCons (hFor hp rfl (iR1 (by rfl) G.n_range (gCons gInt gNil)) (ggName (i := 4) sc_l_join.nd rfl (.inl rfl)) (hOne (hIf (gTLt (gv 3) (gAdd (gv 2) gInt)) (hOne (hSet (i := 3) sc_l_join.nd rfl (.inl rfl) (gMul (gv 3) gInt))) hNil))) (hOne (hRet (gSub (gSub (gv 3) (gv 2)) gInt))))) hNil) (hOne (hRet (gCall1 c_l_take T_l_take hr (by decide) (by rfl) tk (gCons (gv 0) (gCons (gv 2) gNil))))))))
theorem d_l_tree (G : Env P w K mg base a) (T_l_join : DefC P w K mg base "_law_join" ["_law_box_here", "_law_lean", "_law_room"] l_l_join [] (p_l_join K a)) (T_l_take : DefC P w K mg base "_law_take" ["_law_box_here", "_law_size"] l_l_take [] (p_l_take K a)) {f : Addr} {cdv : Value} {A : Around} {outer : List PySem.Env} {s : Shared} {H : Hp} {E : XK} (hr : Room (l_l_tree - 1) (A.deeper (envOfC "_law_tree" (defScope s_l_tree) s.heap.objs.size f cdv))) :
    PSs (cxOf (L2.CX P w) P w K mg base N_l_tree "_law_tree" (defScope s_l_tree) f cdv A outer s H E) (defBody s_l_tree) (dS (fun c d _ H => E c d H) (r_l_tree K a)) := by
  have tk : Takes (cxOf (L2.CX P w) P w K mg base N_l_tree "_law_tree" (defScope s_l_tree) f cdv A outer s H E) (fun c d _ H => E c d H) := takes_of rfl rfl rfl rfl
  have hp : PassesOwn (model P w) (cxOf (L2.CX P w) P w K mg base N_l_tree "_law_tree" (defScope s_l_tree) f cdv A outer s H E).A (cxOf (L2.CX P w) P w K mg base N_l_tree "_law_tree" (defScope s_l_tree) f cdv A outer s H E).env (cxOf (L2.CX P w) P w K mg base N_l_tree "_law_tree" (defScope s_l_tree) f cdv A outer s H E).xe := passes_of rfl
  exact (hCons (hSet (i := 2) sc_l_tree.nd rfl (.inl rfl) (gCall1 c_l_take T_l_take hr (by decide) (by rfl) tk (gCons (gv 0) (gCons gInt gNil)))) (hCons (hSetLc (i := 3) (own := [("_law_k", 9)]) rfl sc_l_tree.nd rfl rfl (sw_true rfl rfl rfl (by decide +kernel)) (iR1 (by rfl) G.n_range (gCons (gv 1) gNil)) (blkOk_by (own := [("_law_k", 9)]) (N := N_l_tree) (sc := defScope s_l_tree) (by decide +kernel)) (fun _ _ _ _ _ => (ggName (i := 9) sc_l_tree.nd rfl (.inl rfl))) (fun _ _ _ _ _ => gNoIf) (fun _ _ _ _ _ => (gLst (gCons gStr (gCons (gv 9) (gCons (gv 9) gNil)))))) (hCons (hSetLc (i := 4) (own := [("_law_k", 9)]) rfl sc_l_tree.nd rfl rfl (sw_true rfl rfl rfl (by decide +kernel)) (iR1 (by rfl) G.n_range (gCons (gv 1) gNil)) (blkOk_by (own := [("_law_k", 9)]) (N := N_l_tree) (sc := defScope s_l_tree) (by decide +kernel)) (fun _ _ _ _ _ => (ggName (i := 9) sc_l_tree.nd rfl (.inl rfl))) (fun _ _ _ _ _ => gNoIf) (fun _ _ _ _ _ => (gLst gNil))) (hCons (hFor hp rfl (iR1 (by rfl) G.n_range (gCons (gSub (gv 1) gInt) gNil)) (ggName (i := 5) sc_l_tree.nd rfl (.inl rfl)) (hCons (hSet (i := 6) sc_l_tree.nd rfl (.inl rfl) (gCall1 c_l_join T_l_join hr (by decide) (by rfl) tk (gCons (gv 0) (gCons (gv 2) (gCons (gSub (gB call_len lLen (by rfl) G.n_len (by decide +kernel) (gCons (gv 3) gNil)) gInt) gNil))))) (hCons (hSet (i := 7) sc_l_tree.nd rfl (.inl rfl) (gIx (gv 3) (gv 6) (by intro _ _; rfl))) (hCons (hSet (i := 8) sc_l_tree.nd rfl (.inl rfl) (gIx (gv 3) (gAdd (gv 6) gInt) (by intro _ _; rfl))) (hCons (hFor hp rfl (iR2 (by rfl) G.n_range (gCons (gIx (gv 7) gInt (by intro _ _; rfl)) (gCons (gAdd (gIx (gv 8) gInt (by intro _ _; rfl)) gInt) gNil))) (ggName (i := 9) sc_l_tree.nd rfl (.inl rfl)) (hOne (hAsg (gAdd (gLst (gCons (gTup (gCons (gIx (gv 7) gInt (by intro _ _; rfl)) (gCons (gIx gStr (gTy call_int1 lInt (by rfl) G.n_int (by decide +kernel) (gCons (gGt (gv 9) (gIx (gv 7) gInt (by intro _ _; rfl))) gNil)) (by intro _ _; rfl)) gNil))) gNil)) (gIx (gv 4) (gv 9) (by intro _ _; rfl))) (ggSub (gv 4) (gv 9))))) (hOne (hSet (i := 3) sc_l_tree.nd rfl (.inl rfl) (gAdd (gAdd (gSl (gv 3) gNoP (gPart (gv 6))) (gLst (gCons (gLst (gCons (gAdd (gAdd (gAdd gStr (gIx (gv 7) gInt (by intro _ _; rfl))) (gIx (gv 8) gInt (by intro _ _; rfl))) gStr) (gCons (gIx (gv 7) gInt (by intro _ _; rfl)) (gCons (gIx (gv 8) gInt (by intro _ _; rfl)) gNil)))) gNil))) (gSl (gv 3) (gPart (gAdd (gv 6) gInt)) gNoP))))))))) (hOne (hRet (gTup (gCons (gIx (gIx (gv 3) gInt (by intro _ _; rfl)) gInt (by intro _ _; rfl)) (gCons (gv 4) gNil)))))))))
theorem d_l_flags (G : Env P w K mg base a) (T_l_take : DefC P w K mg base "_law_take" ["_law_box_here", "_law_size"] l_l_take [] (p_l_take K a)) {f : Addr} {cdv : Value} {A : Around} {outer : List PySem.Env} {s : Shared} {H : Hp} {E : XK} (hr : Room (l_l_flags - 1) (A.deeper (envOfC "_law_flags" (defScope s_l_flags) s.heap.objs.size f cdv))) :
    PSs (cxOf (L2.CX P w) P w K mg base N_l_flags "_law_flags" (defScope s_l_flags) f cdv A outer s H E) (defBody s_l_flags) (dS (fun c d _ H => E c d H) (r_l_flags K a)) := by
  have tk : Takes (cxOf (L2.CX P w) P w K mg base N_l_flags "_law_flags" (defScope s_l_flags) f cdv A outer s H E) (fun c d _ H => E c d H) := takes_of rfl rfl rfl rfl
  have hp : PassesOwn (model P w) (cxOf (L2.CX P w) P w K mg base N_l_flags "_law_flags" (defScope s_l_flags) f cdv A outer s H E).A (cxOf (L2.CX P w) P w K mg base N_l_flags "_law_flags" (defScope s_l_flags) f cdv A outer s H E).env (cxOf (L2.CX P w) P w K mg base N_l_flags "_law_flags" (defScope s_l_flags) f cdv A outer s H E).xe := passes_of rfl
  exact (hCons (hSet (i := 2) sc_l_flags.nd rfl (.inl rfl) (gCall1 c_l_take T_l_take hr (by decide) (by rfl) tk (gCons (gv 0) (gCons gInt gNil)))) (hCons (hIf (gTLt (gv 2) gInt) (hOne (hRet (gMulS (gIx gStr (gv 2) (by intro _ _; rfl)) (gv 1)))) hNil) (hOne (hRet (gM PySem.F.plainAttrs_str PySem.F.slot_str_join PySem.F.type_str_join mt_join lJoin gStr (gCons (gLc (own := [("_law_k", 3)]) rfl sc_l_flags.nd (iR1 (by rfl) G.n_range (gCons (gv 1) gNil)) (blkOk_by (own := [("_law_k", 3)]) (N := N_l_flags) (sc := defScope s_l_flags) (by decide +kernel)) (fun _ _ _ _ _ => (ggName (i := 3) sc_l_flags.nd rfl (.inl rfl))) (fun _ _ _ _ _ => gNoIf) (fun _ _ _ _ _ => (gIx gStr (gCall1 c_l_take T_l_take hr (by decide) (by rfl) takes0 (gCons (gv 0) (gCons gInt gNil))) (by intro _ _; rfl)))) gNil))))))
theorem d_l_slots (G : Env P w K mg base a) (T_l_take : DefC P w K mg base "_law_take" ["_law_box_here", "_law_size"] l_l_take [] (p_l_take K a)) {f : Addr} {cdv : Value} {A : Around} {outer : List PySem.Env} {s : Shared} {H : Hp} {E : XK} (hr : Room (l_l_slots - 1) (A.deeper (envOfC "_law_slots" (defScope s_l_slots) s.heap.objs.size f cdv))) :
    PSs (cxOf (L2.CX P w) P w K mg base N_l_slots "_law_slots" (defScope s_l_slots) f cdv A outer s H E) (defBody s_l_slots) (dS (fun c d _ H => E c d H) (r_l_slots K a)) := by
  have tk : Takes (cxOf (L2.CX P w) P w K mg base N_l_slots "_law_slots" (defScope s_l_slots) f cdv A outer s H E) (fun c d _ H => E c d H) := takes_of rfl rfl rfl rfl
  have hp : PassesOwn (model P w) (cxOf (L2.CX P w) P w K mg base N_l_slots "_law_slots" (defScope s_l_slots) f cdv A outer s H E).A (cxOf (L2.CX P w) P w K mg base N_l_slots "_law_slots" (defScope s_l_slots) f cdv A outer s H E).env (cxOf (L2.CX P w) P w K mg base N_l_slots "_law_slots" (defScope s_l_slots) f cdv A outer s H E).xe := passes_of rfl
  exact (hCons (hSet (i := 1) sc_l_slots.nd rfl (.inl rfl) (gCall1 c_l_take T_l_take hr (by decide) (by rfl) tk (gCons (gv 0) (gCons gInt gNil)))) (hCons (hIf (gTEq hr.units (gv 1) gInt) (hOne (hRet gInt)) hNil) (hCons (hIf (gTEq hr.units (gv 1) gInt) (hOne (hRet gInt)) hNil) (hCons (hIf (gTLt (gv 1) gInt) (hOne (hRet (gAdd gInt (gCall1 c_l_take T_l_take hr (by decide) (by rfl) tk (gCons (gv 0) (gCons gInt gNil)))))) hNil) (hOne (hRet (gSub gInt (gCall1 c_l_take T_l_take hr (by decide) (by rfl) tk (gCons (gv 0) (gCons gInt gNil))))))))))
theorem d_l_start (G : Env P w K mg base a) (T_l_take : DefC P w K mg base "_law_take" ["_law_box_here", "_law_size"] l_l_take [] (p_l_take K a)) {f : Addr} {cdv : Value} {A : Around} {outer : List PySem.Env} {s : Shared} {H : Hp} {E : XK} (hr : Room (l_l_start - 1) (A.deeper (envOfC "_law_start" (defScope s_l_start) s.heap.objs.size f cdv))) :
    PSs (cxOf (L2.CX P w) P w K mg base N_l_start "_law_start" (defScope s_l_start) f cdv A outer s H E) (defBody s_l_start) (dS (fun c d _ H => E c d H) (r_l_start K a)) := by
  have tk : Takes (cxOf (L2.CX P w) P w K mg base N_l_start "_law_start" (defScope s_l_start) f cdv A outer s H E) (fun c d _ H => E c d H) := takes_of rfl rfl rfl rfl
  have hp : PassesOwn (model P w) (cxOf (L2.CX P w) P w K mg base N_l_start "_law_start" (defScope s_l_start) f cdv A outer s H E).A (cxOf (L2.CX P w) P w K mg base N_l_start "_law_start" (defScope s_l_start) f cdv A outer s H E).env (cxOf (L2.CX P w) P w K mg base N_l_start "_law_start" (defScope s_l_start) f cdv A outer s H E).xe := passes_of rfl
  exact (hCons (hSet (i := 3) sc_l_start.nd rfl (.inl rfl) (gCall1 c_l_take T_l_take hr (by decide) (by rfl) tk (gCons (gv 0) (gCons gInt gNil)))) (hCons (hSet (i := 4) sc_l_start.nd rfl (.inl rfl) (gCall1 c_l_take T_l_take hr (by decide) (by rfl) tk (gCons (gv 0) (gCons (gB call_len lLen (by rfl) G.n_len (by decide +kernel) (gCons (gv 1) gNil)) gNil)))) (hCons (hSet (i := 5) sc_l_start.nd rfl (.inl rfl) gStr) (hCons (hFor hp rfl (iR1 (by rfl) G.n_range (gCons (gB call_len lLen (by rfl) G.n_len (by decide +kernel) (gCons (gv 1) gNil)) gNil)) (ggName (i := 6) sc_l_start.nd rfl (.inl rfl)) (hCons (hSet (i := 7) sc_l_start.nd rfl (.inl rfl) (gIx gStr (gTy call_int1 lInt (by rfl) G.n_int (by decide +kernel) (gCons (gEq hr.units (gIx (gv 1) (gv 6) (by intro _ _; rfl)) gStr) gNil)) (by intro _ _; rfl))) (hCons (hSet (i := 8) sc_l_start.nd rfl (.inl rfl) gInt) (hCut (hIf (gTEq hr.units (gv 3) gInt) (hOne (hSet (i := 8) sc_l_start.nd rfl (.inl rfl) gInt)) hNil) (hCut (hIf (gTGt (gv 3) gInt) (hOne (hSet (i := 8) sc_l_start.nd rfl (.inl rfl) (gMod (gTy call_int1 lInt (by rfl) G.n_int (by decide +kernel) (gCons (gCall1 c_l_take T_l_take hr (by decide) (by rfl) tk (gCons (gv 0) (gCons gInt gNil))) gNil)) gInt))) hNil) (hCut (hIf (PW.pt (gAnd (PW.pt (gOr (gTEq hr.units (gv 3) gInt) (gOr1 (gTEq hr.units (gv 3) gInt)))) (gAnd1 (gTEq hr.units (gv 6) (gv 4))))) (hOne (hSet (i := 8) sc_l_start.nd rfl (.inl rfl) (gv 3))) hNil) (hOne (hSet (i := 5) sc_l_start.nd rfl (.inl rfl) (gAdd (gv 5) (gIx (gLst (gCons (gIx (gv 1) (gv 6) (by intro _ _; rfl)) (gCons (gv 7) (gCons (gIfE (gTru (gv 2)) (gv 2) (gv 7)) gNil)))) (gv 8) (by intro _ _; rfl))))))))))) (hOne (hRet (gv 5)))))))
theorem d_l_bent (G : Env P w K mg base a) (T_l_take : DefC P w K mg base "_law_take" ["_law_box_here", "_law_size"] l_l_take [] (p_l_take K a)) {f : Addr} {cdv : Value} {A : Around} {outer : List PySem.Env} {s : Shared} {H : Hp} {E : XK} (hr : Room (l_l_bent - 1) (A.deeper (envOfC "_law_bent" (defScope s_l_bent) s.heap.objs.size f cdv))) :
    PSs (cxOf (L2.CX P w) P w K mg base N_l_bent "_law_bent" (defScope s_l_bent) f cdv A outer s H E) (defBody s_l_bent) (dS (fun c d _ H => E c d H) (r_l_bent K a)) := by
  have tk : Takes (cxOf (L2.CX P w) P w K mg base N_l_bent "_law_bent" (defScope s_l_bent) f cdv A outer s H E) (fun c d _ H => E c d H) := takes_of rfl rfl rfl rfl
  have hp : PassesOwn (model P w) (cxOf (L2.CX P w) P w K mg base N_l_bent "_law_bent" (defScope s_l_bent) f cdv A outer s H E).A (cxOf (L2.CX P w) P w K mg base N_l_bent "_law_bent" (defScope s_l_bent) f cdv A outer s H E).env (cxOf (L2.CX P w) P w K mg base N_l_bent "_law_bent" (defScope s_l_bent) f cdv A outer s H E).xe := passes_of rfl
  exact (hCons (hSet (i := 3) sc_l_bent.nd rfl (.inl rfl) (gCall1 c_l_take T_l_take hr (by decide) (by rfl) tk (gCons (gv 0) (gCons gInt gNil)))) (hCons (hSet (i := 4) sc_l_bent.nd rfl (.inl rfl) (gCall1 c_l_take T_l_take hr (by decide) (by rfl) tk (gCons (gv 0) (gCons (gB call_len lLen (by rfl) G.n_len (by decide +kernel) (gCons (gv 1) gNil)) gNil)))) (hCons (hIf (gTLt (gv 3) gInt) (hOne (hRet (gAdd (gAdd (gSl (gv 1) gNoP (gPart (gv 4))) (gIx (gv 2) (gv 3) (by intro _ _; rfl))) (gSl (gv 1) (gPart (gAdd (gv 4) gInt)) gNoP)))) hNil) (hCons (hIf (gTEq hr.units (gv 3) gInt) (hOne (hRet (gAdd (gv 1) (gIx gStr (gCall1 c_l_take T_l_take hr (by decide) (by rfl) tk (gCons (gv 0) (gCons gInt gNil))) (by intro _ _; rfl))))) hNil) (hCons (hIf (gTEq hr.units (gv 3) gInt) (hOne (hRet (gIfE (gTru (gv 1)) (gSl (gv 1) (gPart gInt) gNoP) gStr))) hNil) (hCons (hIf (gTEq hr.units (gv 3) gInt) (hOne (hRet (gLc (own := [("_law_sign", 5)]) rfl sc_l_bent.nd (iStrS (gv 1)) (blkOk_by (own := [("_law_sign", 5)]) (N := N_l_bent) (sc := defScope s_l_bent) (by decide +kernel)) (fun _ _ _ _ _ => (ggName (i := 5) sc_l_bent.nd rfl (.inl rfl))) (fun _ _ _ _ _ => gNoIf) (fun _ _ _ _ _ => (gv 5))))) hNil) (hOne (hRet gNon))))))))
theorem d_l_hit (G : Env P w K mg base a)  {f : Addr} {cdv : Value} {A : Around} {outer : List PySem.Env} {s : Shared} {H : Hp} {E : XK} (hr : Room (l_l_hit - 1) (A.deeper (envOfC "_law_hit" (defScope s_l_hit) s.heap.objs.size f cdv))) :
    PSs (cxOf (L2.CX P w) P w K mg base N_l_hit "_law_hit" (defScope s_l_hit) f cdv A outer s H E) (defBody s_l_hit) (dS (fun c d _ H => E c d H) (r_l_hit K a)) := by
  have tk : Takes (cxOf (L2.CX P w) P w K mg base N_l_hit "_law_hit" (defScope s_l_hit) f cdv A outer s H E) (fun c d _ H => E c d H) := takes_of rfl rfl rfl rfl
  have hp : PassesOwn (model P w) (cxOf (L2.CX P w) P w K mg base N_l_hit "_law_hit" (defScope s_l_hit) f cdv A outer s H E).A (cxOf (L2.CX P w) P w K mg base N_l_hit "_law_hit" (defScope s_l_hit) f cdv A outer s H E).env (cxOf (L2.CX P w) P w K mg base N_l_hit "_law_hit" (defScope s_l_hit) f cdv A outer s H E).xe := passes_of rfl
  exact (hCons (hFor hp rfl (iSeq (gv 1)) (ggTup rfl (ggCons (ggName (i := 2) sc_l_hit.nd rfl (.inl rfl)) (ggCons (ggName (i := 3) sc_l_hit.nd rfl (.inl rfl)) ggNil))) (hOne (hSet (i := 0) sc_l_hit.nd rfl (.inl rfl) (gAdd (gAdd (gSl (gv 0) gNoP (gPart (gv 2))) (gv 3)) (gSl (gv 0) (gPart (gAdd (gv 2) gInt)) gNoP))))) (hOne (hRet (gv 0))))
theorem d_l_holders (G : Env P w K mg base a)  {f : Addr} {cdv : Value} {A : Around} {outer : List PySem.Env} {s : Shared} {H : Hp} {E : XK} (hr : Room (l_l_holders - 1) (A.deeper (envOfC "_law_holders" (defScope s_l_holders) s.heap.objs.size f cdv))) :
    PSs (cxOf (L2.CX P w) P w K mg base N_l_holders "_law_holders" (defScope s_l_holders) f cdv A outer s H E) (defBody s_l_holders) (dS (fun c d _ H => E c d H) (r_l_holders K a)) := by
  have tk : Takes (cxOf (L2.CX P w) P w K mg base N_l_holders "_law_holders" (defScope s_l_holders) f cdv A outer s H E) (fun c d _ H => E c d H) := takes_of rfl rfl rfl rfl
  have hp : PassesOwn (model P w) (cxOf (L2.CX P w) P w K mg base N_l_holders "_law_holders" (defScope s_l_holders) f cdv A outer s H E).A (cxOf (L2.CX P w) P w K mg base N_l_holders "_law_holders" (defScope s_l_holders) f cdv A outer s H E).env (cxOf (L2.CX P w) P w K mg base N_l_holders "_law_holders" (defScope s_l_holders) f cdv A outer s H E).xe := passes_of rfl
  exact (hCons (hSetLc (i := 2) (own := [("_law_way", 6)]) rfl sc_l_holders.nd rfl rfl (sw_true rfl rfl rfl (by decide +kernel)) (iSeq (gv 1)) (blkOk_by (own := [("_law_way", 6)]) (N := N_l_holders) (sc := defScope s_l_holders) (by decide +kernel)) (fun _ _ _ _ _ => (ggName (i := 6) sc_l_holders.nd rfl (.inl rfl))) (fun _ _ _ _ _ => gNoIf) (fun _ _ _ _ _ => gInt)) (hCut (hFor hp rfl (iR1 (by rfl) G.n_range (gCons (gB call_len lLen (by rfl) G.n_len (by decide +kernel) (gCons (gv 1) gNil)) gNil)) (ggName (i := 3) sc_l_holders.nd rfl (.inl rfl)) (hOne (hFor hp rfl (iRev (by rfl) G.n_reversed (gIx (gv 1) (gv 3) (by intro _ _; rfl))) (ggTup rfl (ggCons (ggName (i := 4) sc_l_holders.nd rfl (.inl rfl)) (ggCons (ggName (i := 5) sc_l_holders.nd rfl (.inl rfl)) ggNil))) (hCons (hIf (gTNe hr.units (gIx (gv 0) (gv 4) (by intro _ _; rfl)) (gv 5)) (hOne hBreak) hNil) (hOne (hAsg (gv 3) (ggSub (gv 2) (gv 4)))))))) (hOne (hRet (gv 2)))))
theorem d_l_above (G : Env P w K mg base a) (T_l_holders : DefC P w K mg base "_law_holders" ["_law_flags_here", "_law_ways"] l_l_holders [] (p_l_holders K a)) {f : Addr} {cdv : Value} {A : Around} {outer : List PySem.Env} {s : Shared} {H : Hp} {E : XK} (hr : Room (l_l_above - 1) (A.deeper (envOfC "_law_above" (defScope s_l_above) s.heap.objs.size f cdv))) :
    PSs (cxOf (L2.CX P w) P w K mg base N_l_above "_law_above" (defScope s_l_above) f cdv A outer s H E) (defBody s_l_above) (dS (fun c d _ H => E c d H) (r_l_above K a)) := by
  have tk : Takes (cxOf (L2.CX P w) P w K mg base N_l_above "_law_above" (defScope s_l_above) f cdv A outer s H E) (fun c d _ H => E c d H) := takes_of rfl rfl rfl rfl
  have hp : PassesOwn (model P w) (cxOf (L2.CX P w) P w K mg base N_l_above "_law_above" (defScope s_l_above) f cdv A outer s H E).A (cxOf (L2.CX P w) P w K mg base N_l_above "_law_above" (defScope s_l_above) f cdv A outer s H E).env (cxOf (L2.CX P w) P w K mg base N_l_above "_law_above" (defScope s_l_above) f cdv A outer s H E).xe := passes_of rfl
  exact (hCons (hSet (i := 2) sc_l_above.nd rfl (.inl rfl) (gCall1 c_l_holders T_l_holders hr (by decide) (by rfl) tk (gCons (gv 0) (gCons (gv 1) gNil)))) (hCons (hSet (i := 3) sc_l_above.nd rfl (.inl rfl) (gLst gNil)) (hCons (hFor hp rfl (iSeq (gv 1)) (ggName (i := 4) sc_l_above.nd rfl (.inl rfl)) (hCons (hSet (i := 5) sc_l_above.nd rfl (.inl rfl) gNon) (hCons (hFor hp rfl (iSeq (gv 4)) (ggTup rfl (ggCons (ggName (i := 6) sc_l_above.nd rfl (.inl rfl)) (ggCons (ggName (i := 7) sc_l_above.nd rfl (.inl rfl)) ggNil))) (hOne (hIf (gTNe hr.units (gIx (gv 0) (gv 6) (by intro _ _; rfl)) (gv 7)) (hOne (hSet (i := 5) sc_l_above.nd rfl (.inl rfl) (gIx (gv 2) (gv 6) (by intro _ _; rfl)))) hNil))) (hOne (hExpr (gM PySem.F.plainAttrs_list PySem.F.slot_list_append PySem.F.type_list_append mt_append lAppend (gv 3) (gCons (gv 5) gNil))))))) (hOne (hRet (gv 3))))))
theorem d_l_due (G : Env P w K mg base a) (T_l_above : DefC P w K mg base "_law_above" ["_law_flags_here", "_law_ways"] l_l_above [] (p_l_above K a)) (T_l_holders : DefC P w K mg base "_law_holders" ["_law_flags_here", "_law_ways"] l_l_holders [] (p_l_holders K a)) {f : Addr} {cdv : Value} {A : Around} {outer : List PySem.Env} {s : Shared} {H : Hp} {E : XK} (hr : Room (l_l_due - 1) (A.deeper (envOfC "_law_due" (defScope s_l_due) s.heap.objs.size f cdv))) :
    PSs (cxOf (L2.CX P w) P w K mg base N_l_due "_law_due" (defScope s_l_due) f cdv A outer s H E) (defBody s_l_due) (dS (fun c d _ H => E c d H) (r_l_due K a)) := by
  have tk : Takes (cxOf (L2.CX P w) P w K mg base N_l_due "_law_due" (defScope s_l_due) f cdv A outer s H E) (fun c d _ H => E c d H) := takes_of rfl rfl rfl rfl
  have hp : PassesOwn (model P w) (cxOf (L2.CX P w) P w K mg base N_l_due "_law_due" (defScope s_l_due) f cdv A outer s H E).A (cxOf (L2.CX P w) P w K mg base N_l_due "_law_due" (defScope s_l_due) f cdv A outer s H E).env (cxOf (L2.CX P w) P w K mg base N_l_due "_law_due" (defScope s_l_due) f cdv A outer s H E).xe := passes_of rfl
  exact (hCons (hSet (i := 3) sc_l_due.nd rfl (.inl rfl) (gCall1 c_l_holders T_l_holders hr (by decide) (by rfl) tk (gCons (gv 1) (gCons (gv 2) gNil)))) (hCons (hSet (i := 4) sc_l_due.nd rfl (.inl rfl) (gCall1 c_l_above T_l_above hr (by decide) (by rfl) tk (gCons (gv 1) (gCons (gv 2) gNil)))) (hCons (hSet (i := 5) sc_l_due.nd rfl (.inr rfl) (gLc (own := [("_law_way", 9)]) rfl sc_l_due.nd (iSeq (gv 2)) (blkOk_by (own := [("_law_way", 9)]) (N := N_l_due) (sc := defScope s_l_due) (by decide +kernel)) (fun _ _ _ _ _ => (ggName (i := 9) sc_l_due.nd rfl (.inl rfl))) (fun _ _ _ _ _ => gNoIf) (fun _ _ _ _ _ => gBl))) (hCut (hFor hp rfl (iR1 (by rfl) G.n_range (gCons (gB call_len lLen (by rfl) G.n_len (by decide +kernel) (gCons (gv 1) gNil)) gNil)) (ggName (i := 6) sc_l_due.nd rfl (.inl rfl)) (hCons (hSet (i := 7) sc_l_due.nd rfl (.inl rfl) (gIfE (gTNe hr.units (gIx (gv 0) (gv 6) (by intro _ _; rfl)) (gIx (gv 1) (gv 6) (by intro _ _; rfl))) (gIx (gv 3) (gv 6) (by intro _ _; rfl)) gNon)) (hOne (hFor hp rfl (iR1 (by rfl) G.n_range (gCons (gB call_len lLen (by rfl) G.n_len (by decide +kernel) (gCons (gv 2) gNil)) gNil)) (ggName (i := 8) sc_l_due.nd rfl (.inl rfl)) (hCons (hIf (gTIsN (gv 7) gNon) (hOne hBreak) hNil) (hCons (hAsg gBl (ggSub (gv 5) (gv 7))) (hOne (hSet (i := 7) sc_l_due.nd rfl (.inl rfl) (gIx (gv 4) (gv 7) (by intro _ _; rfl)))))))))) (hOne (hRet (gLc (own := [("_law_k", 8)]) rfl sc_l_due.nd (iR1 (by rfl) G.n_range (gCons (gB call_len lLen (by rfl) G.n_len (by decide +kernel) (gCons (gv 2) gNil)) gNil)) (blkOk_by (own := [("_law_k", 8)]) (N := N_l_due) (sc := defScope s_l_due) (by decide +kernel)) (fun _ _ _ _ _ => (ggName (i := 8) sc_l_due.nd rfl (.inl rfl))) (fun _ _ _ _ _ => (gOneIf (gTru (gIx (gv 5) (gv 8) (by intro _ _; rfl))))) (fun _ _ _ _ _ => (gv 8)))))))))
theorem d_l_order (G : Env P w K mg base a) (T_l_take : DefC P w K mg base "_law_take" ["_law_box_here", "_law_size"] l_l_take [] (p_l_take K a)) {f : Addr} {cdv : Value} {A : Around} {outer : List PySem.Env} {s : Shared} {H : Hp} {E : XK} (hr : Room (l_l_order - 1) (A.deeper (envOfC "_law_order" (defScope s_l_order) s.heap.objs.size f cdv))) :
    PSs (cxOf (L2.CX P w) P w K mg base N_l_order "_law_order" (defScope s_l_order) f cdv A outer s H E) (defBody s_l_order) (dS (fun c d _ H => E c d H) (r_l_order K a)) := by
  have tk : Takes (cxOf (L2.CX P w) P w K mg base N_l_order "_law_order" (defScope s_l_order) f cdv A outer s H E) (fun c d _ H => E c d H) := takes_of rfl rfl rfl rfl
  have hp : PassesOwn (model P w) (cxOf (L2.CX P w) P w K mg base N_l_order "_law_order" (defScope s_l_order) f cdv A outer s H E).A (cxOf (L2.CX P w) P w K mg base N_l_order "_law_order" (defScope s_l_order) f cdv A outer s H E).env (cxOf (L2.CX P w) P w K mg base N_l_order "_law_order" (defScope s_l_order) f cdv A outer s H E).xe := passes_of rfl
  exact (hCons (hSet (i := 3) sc_l_order.nd rfl (.inl rfl) (gTy call_list_of lList (by rfl) G.n_list (by decide +kernel) (gCons (gv 1) gNil))) (hCons (hSet (i := 4) sc_l_order.nd rfl (.inl rfl) (gLst gNil)) (hCons (hFor hp rfl (iR1 (by rfl) G.n_range (gCons (gB call_len lLen (by rfl) G.n_len (by decide +kernel) (gCons (gv 1) gNil)) gNil)) (ggName (i := 5) sc_l_order.nd rfl (.inl rfl)) (hCons (hSet (i := 6) sc_l_order.nd rfl (.inr rfl) (gLc (own := [("_law_slot", 9)]) rfl sc_l_order.nd (iSeq (gv 3)) (blkOk_by (own := [("_law_slot", 9)]) (N := N_l_order) (sc := defScope s_l_order) (by decide +kernel)) (fun _ _ _ _ _ => (ggName (i := 9) sc_l_order.nd rfl (.inl rfl))) (fun _ _ _ _ _ => gNoIf) (fun _ _ _ _ _ => (gIx (gv 2) (gv 9) (by intro _ _; rfl))))) (hCons (hSetLc (i := 7) (own := [("_law_slot", 9)]) rfl sc_l_order.nd rfl rfl (sw_true rfl rfl rfl (by decide +kernel)) (iSeq (gv 3)) (blkOk_by (own := [("_law_slot", 9)]) (N := N_l_order) (sc := defScope s_l_order) (by decide +kernel)) (fun _ _ _ _ _ => (ggName (i := 9) sc_l_order.nd rfl (.inl rfl))) (fun _ _ _ _ _ => (gOneIf (gTNotIn (gv 9) (gv 6) (by rfl)))) (fun _ _ _ _ _ => (gv 9))) (hCons (hSet (i := 8) sc_l_order.nd rfl (.inr rfl) (gIx (gv 7) (gCall1 c_l_take T_l_take hr (by decide) (by rfl) tk (gCons (gv 0) (gCons (gB call_len lLen (by rfl) G.n_len (by decide +kernel) (gCons (gv 7) gNil)) gNil))) (by intro _ _; rfl))) (hCons (hExpr (gM PySem.F.plainAttrs_list PySem.F.slot_list_append PySem.F.type_list_append mt_append lAppend (gv 4) (gCons (gv 8) gNil))) (hOne (hSetLc (i := 3) (own := [("_law_slot", 9)]) rfl sc_l_order.nd rfl rfl (sw_true rfl rfl rfl (by decide +kernel)) (iSeq (gv 3)) (blkOk_by (own := [("_law_slot", 9)]) (N := N_l_order) (sc := defScope s_l_order) (by decide +kernel)) (fun _ _ _ _ _ => (ggName (i := 9) sc_l_order.nd rfl (.inl rfl))) (fun _ _ _ _ _ => (gOneIf (gTNe hr.units (gv 9) (gv 8)))) (fun _ _ _ _ _ => (gv 9))))))))) (hOne (hRet (gv 4))))))
theorem d_l_search (G : Env P w K mg base a) (T_l_hit : DefC P w K mg base "_law_hit" ["_law_flags_here", "_law_way"] l_l_hit [] (p_l_hit K a)) {f : Addr} {cdv : Value} {A : Around} {outer : List PySem.Env} {s : Shared} {H : Hp} {E : XK} (hr : Room (l_l_search - 1) (A.deeper (envOfC "_law_search" (defScope s_l_search) s.heap.objs.size f cdv))) :
    PSs (cxOf (L2.CX P w) P w K mg base N_l_search "_law_search" (defScope s_l_search) f cdv A outer s H E) (defBody s_l_search) (dS (fun c d _ H => E c d H) (r_l_search K a)) := by
  have tk : Takes (cxOf (L2.CX P w) P w K mg base N_l_search "_law_search" (defScope s_l_search) f cdv A outer s H E) (fun c d _ H => E c d H) := takes_of rfl rfl rfl rfl
  have hp : PassesOwn (model P w) (cxOf (L2.CX P w) P w K mg base N_l_search "_law_search" (defScope s_l_search) f cdv A outer s H E).A (cxOf (L2.CX P w) P w K mg base N_l_search "_law_search" (defScope s_l_search) f cdv A outer s H E).env (cxOf (L2.CX P w) P w K mg base N_l_search "_law_search" (defScope s_l_search) f cdv A outer s H E).xe := passes_of rfl
  exact (hCons (hSet (i := 3) sc_l_search.nd rfl (.inl rfl) (gDis1 (gv 0) gBl)) (hCons (hSet (i := 4) sc_l_search.nd rfl (.inl rfl) (gLst (gCons (gv 0) gNil))) (hCons (hFor hp rfl (iR1 (by rfl) G.n_range (gCons (gAdd (gB call_len lLen (by rfl) G.n_len (by decide +kernel) (gCons (gv 2) gNil)) gInt) gNil)) (ggName (i := 5) sc_l_search.nd rfl (.inl rfl)) (hCons (hIf (gTDIn (hu_of hr) (gv 1) (gv 3)) (hOne (hRet (gv 5))) hNil) (hCons (hSet (i := 6) sc_l_search.nd rfl (.inl rfl) (gLst gNil)) (hCons (hFor hp rfl (iSeq (gv 4)) (ggName (i := 7) sc_l_search.nd rfl (.inl rfl)) (hOne (hFor hp rfl (iSeq (gv 2)) (ggName (i := 8) sc_l_search.nd rfl (.inl rfl)) (hCons (hSet (i := 9) sc_l_search.nd rfl (.inl rfl) (gCall1 c_l_hit T_l_hit hr (by decide) (by rfl) tk (gCons (gv 7) (gCons (gv 8) gNil)))) (hOne (hIf (gTDNotIn (hu_of hr) (gv 9) (gv 3)) (hCons (hDPutK (hu_of hr) (gv 3) (gv 9) gBl) (hOne (hExpr (gM PySem.F.plainAttrs_list PySem.F.slot_list_append PySem.F.type_list_append mt_append lAppend (gv 6) (gCons (gv 9) gNil))))) hNil)))))) (hOne (hSet (i := 4) sc_l_search.nd rfl (.inl rfl) (gv 6))))))) (hOne (hRet (gNeg gInt))))))
theorem d_l_answers (G : Env P w K mg base a) (T_l_due : DefC P w K mg base "_law_due" ["_law_start_here", "_law_end", "_law_ways"] l_l_due [] (p_l_due K a)) (T_l_is_integer : DefC P w K mg base "_law_is_integer" ["_law_told"] l_l_is_integer [] (p_l_is_integer K a)) (T_l_same : DefC P w K mg base "_law_same" ["_law_told", "_law_due_here"] l_l_same [] (p_l_same K a)) (T_l_search : DefC P w K mg base "_law_search" ["_law_start_here", "_law_end", "_law_ways"] l_l_search [] (p_l_search K a)) (T_least_hits : DefC P w K mg base "least_hits" ["tree", "start", "end"] l_least_hits [] (p_least_hits K a)) (T_needed : DefC P w K mg base "needed" ["tree", "start", "end"] l_needed [] (p_needed K a)) {f : Addr} {cdv : Value} {A : Around} {outer : List PySem.Env} {s : Shared} {H : Hp} {E : XK} (hr : Room (l_l_answers - 1) (A.deeper (envOfC "_law_answers" (defScope s_l_answers) s.heap.objs.size f cdv))) :
    PSs (cxOf (L2.CX P w) P w K mg base N_l_answers "_law_answers" (defScope s_l_answers) f cdv A outer s H E) (defBody s_l_answers) (dS (fun c d _ H => E c d H) (r_l_answers K a)) := by
  have tk : Takes (cxOf (L2.CX P w) P w K mg base N_l_answers "_law_answers" (defScope s_l_answers) f cdv A outer s H E) (fun c d _ H => E c d H) := takes_of rfl rfl rfl rfl
  have hp : PassesOwn (model P w) (cxOf (L2.CX P w) P w K mg base N_l_answers "_law_answers" (defScope s_l_answers) f cdv A outer s H E).A (cxOf (L2.CX P w) P w K mg base N_l_answers "_law_answers" (defScope s_l_answers) f cdv A outer s H E).env (cxOf (L2.CX P w) P w K mg base N_l_answers "_law_answers" (defScope s_l_answers) f cdv A outer s H E).xe := passes_of rfl
  exact (hCons (hSet (i := 4) sc_l_answers.nd rfl (.inl rfl) (gCall1 c_l_due T_l_due hr (by decide) (by rfl) tk (gCons (gv 1) (gCons (gv 2) (gCons (gv 3) gNil))))) (hCons (hSet (i := 5) sc_l_answers.nd rfl (.inl rfl) (gCall1 c_needed T_needed hr (by decide) (by rfl) tk (gCons (gv 0) (gCons (gv 1) (gCons (gv 2) gNil))))) (hCons (hIf (gTNot (gTru (gCall1 c_l_same T_l_same hr (by decide) (by rfl) tk (gCons (gv 5) (gCons (gv 4) gNil))))) (hOne (hRet gBl)) hNil) (hCons (hExpr (gM0 PySem.F.plainAttrs_list PySem.F.slot_list_reverse PySem.F.type_list_reverse mt_reverse lReverse (gv 5))) (hCons (hExpr (gM PySem.F.plainAttrs_list PySem.F.slot_list_append PySem.F.type_list_append mt_append lAppend (gv 5) (gCons (gNeg gInt) gNil))) (hCons (hIf (gTNot (gTru (gCall1 c_l_same T_l_same hr (by decide) (by rfl) tk (gCons (gCall1 c_needed T_needed hr (by decide) (by rfl) tk (gCons (gv 0) (gCons (gv 1) (gCons (gv 2) gNil)))) (gCons (gv 4) gNil))))) (hOne (hRet gBl)) hNil) (hCons (hSet (i := 6) sc_l_answers.nd rfl (.inl rfl) (gCall1 c_least_hits T_least_hits hr (by decide) (by rfl) tk (gCons (gv 0) (gCons (gv 1) (gCons (gv 2) gNil))))) (hCons (hIf (PW.pt (gOr (gTNot (gTru (gCall1 c_l_is_integer T_l_is_integer hr (by decide) (by rfl) tk (gCons (gv 6) gNil)))) (gOr1 (gTNe hr.units (gv 6) (gB call_len lLen (by rfl) G.n_len (by decide +kernel) (gCons (gv 4) gNil)))))) (hOne (hRet gBl)) hNil) (hOne (hRet (gOrV (gGt (gB call_len lLen (by rfl) G.n_len (by decide +kernel) (gCons (gv 3) gNil)) gInt) (gOneV (gEq hr.units (gv 6) (gCall1 c_l_search T_l_search hr (by decide) (by rfl) tk (gCons (gv 1) (gCons (gv 2) (gCons (gv 3) gNil)))))))))))))))))
theorem d_l_plays (G : Env P w K mg base a) (T_l_above : DefC P w K mg base "_law_above" ["_law_flags_here", "_law_ways"] l_l_above [] (p_l_above K a)) (T_l_due : DefC P w K mg base "_law_due" ["_law_start_here", "_law_end", "_law_ways"] l_l_due [] (p_l_due K a)) (T_l_hit : DefC P w K mg base "_law_hit" ["_law_flags_here", "_law_way"] l_l_hit [] (p_l_hit K a)) (T_l_order : DefC P w K mg base "_law_order" ["_law_box_here", "_law_due_here", "_law_above_here"] l_l_order [] (p_l_order K a)) (T_flags_after : DefC P w K mg base "flags_after" ["tree", "flags", "slot"] l_flags_after [] (p_flags_after K a)) {f : Addr} {cdv : Value} {A : Around} {outer : List PySem.Env} {s : Shared} {H : Hp} {E : XK} (hr : Room (l_l_plays - 1) (A.deeper (envOfC "_law_plays" (defScope s_l_plays) s.heap.objs.size f cdv))) :
    PSs (cxOf (L2.CX P w) P w K mg base N_l_plays "_law_plays" (defScope s_l_plays) f cdv A outer s H E) (defBody s_l_plays) (dS (fun c d _ H => E c d H) (r_l_plays K a)) := by
  have tk : Takes (cxOf (L2.CX P w) P w K mg base N_l_plays "_law_plays" (defScope s_l_plays) f cdv A outer s H E) (fun c d _ H => E c d H) := takes_of rfl rfl rfl rfl
  have hp : PassesOwn (model P w) (cxOf (L2.CX P w) P w K mg base N_l_plays "_law_plays" (defScope s_l_plays) f cdv A outer s H E).A (cxOf (L2.CX P w) P w K mg base N_l_plays "_law_plays" (defScope s_l_plays) f cdv A outer s H E).env (cxOf (L2.CX P w) P w K mg base N_l_plays "_law_plays" (defScope s_l_plays) f cdv A outer s H E).xe := passes_of rfl
  exact (hCons (hSet (i := 5) sc_l_plays.nd rfl (.inl rfl) (gv 2)) (hCons (hFor hp rfl (iSeq (gCall1 c_l_order T_l_order hr (by decide) (by rfl) tk (gCons (gv 0) (gCons (gCall1 c_l_due T_l_due hr (by decide) (by rfl) tk (gCons (gv 2) (gCons (gv 3) (gCons (gv 4) gNil)))) (gCons (gCall1 c_l_above T_l_above hr (by decide) (by rfl) tk (gCons (gv 3) (gCons (gv 4) gNil))) gNil))))) (ggName (i := 6) sc_l_plays.nd rfl (.inl rfl)) (hCons (hSet (i := 7) sc_l_plays.nd rfl (.inl rfl) (gCall1 c_l_hit T_l_hit hr (by decide) (by rfl) tk (gCons (gv 5) (gCons (gIx (gv 4) (gv 6) (by intro _ _; rfl)) gNil)))) (hCons (hIf (gTNe hr.units (gCall1 c_flags_after T_flags_after hr (by decide) (by rfl) tk (gCons (gv 1) (gCons (gv 5) (gCons (gv 6) gNil)))) (gv 7)) (hOne (hRet gBl)) hNil) (hOne (hSet (i := 5) sc_l_plays.nd rfl (.inl rfl) (gv 7)))))) (hOne (hRet (gEq hr.units (gv 5) (gv 3))))))
theorem d_l_comes (G : Env P w K mg base a) (T_l_answers : DefC P w K mg base "_law_answers" ["_law_tree_here", "_law_start_here", "_law_end", "_law_ways"] l_l_answers [] (p_l_answers K a)) (T_l_flags : DefC P w K mg base "_law_flags" ["_law_box_here", "_law_many"] l_l_flags [] (p_l_flags K a)) (T_l_hit : DefC P w K mg base "_law_hit" ["_law_flags_here", "_law_way"] l_l_hit [] (p_l_hit K a)) (T_l_take : DefC P w K mg base "_law_take" ["_law_box_here", "_law_size"] l_l_take [] (p_l_take K a)) (T_all_after : DefC P w K mg base "all_after" ["tree", "flags", "slots"] l_all_after [] (p_all_after K a)) (T_least_hits : DefC P w K mg base "least_hits" ["tree", "start", "end"] l_least_hits [] (p_least_hits K a)) (T_needed : DefC P w K mg base "needed" ["tree", "start", "end"] l_needed [] (p_needed K a)) {f : Addr} {cdv : Value} {A : Around} {outer : List PySem.Env} {s : Shared} {H : Hp} {E : XK} (hr : Room (l_l_comes - 1) (A.deeper (envOfC "_law_comes" (defScope s_l_comes) s.heap.objs.size f cdv))) :
    PSs (cxOf (L2.CX P w) P w K mg base N_l_comes "_law_comes" (defScope s_l_comes) f cdv A outer s H E) (defBody s_l_comes) (dS (fun c d _ H => E c d H) (r_l_comes K a)) := by
  have tk : Takes (cxOf (L2.CX P w) P w K mg base N_l_comes "_law_comes" (defScope s_l_comes) f cdv A outer s H E) (fun c d _ H => E c d H) := takes_of rfl rfl rfl rfl
  have hp : PassesOwn (model P w) (cxOf (L2.CX P w) P w K mg base N_l_comes "_law_comes" (defScope s_l_comes) f cdv A outer s H E).A (cxOf (L2.CX P w) P w K mg base N_l_comes "_law_comes" (defScope s_l_comes) f cdv A outer s H E).env (cxOf (L2.CX P w) P w K mg base N_l_comes "_law_comes" (defScope s_l_comes) f cdv A outer s H E).xe := passes_of rfl
  exact (hCons (hSet (i := 3) sc_l_comes.nd rfl (.inl rfl) (gCall1 c_l_flags T_l_flags hr (by decide) (by rfl) tk (gCons (gv 0) (gCons (gSub (gB call_len lLen (by rfl) G.n_len (by decide +kernel) (gCons (gv 2) gNil)) gInt) gNil)))) (hCons (hSetLc (i := 4) (own := [("_law_k", 7)]) rfl sc_l_comes.nd rfl rfl (sw_true rfl rfl rfl (by decide +kernel)) (iR1 (by rfl) G.n_range (gCons (gAdd gInt (gCall1 c_l_take T_l_take hr (by decide) (by rfl) tk (gCons (gv 0) (gCons gInt gNil)))) gNil)) (blkOk_by (own := [("_law_k", 7)]) (N := N_l_comes) (sc := defScope s_l_comes) (by decide +kernel)) (fun _ _ _ _ _ => (ggName (i := 7) sc_l_comes.nd rfl (.inl rfl))) (fun _ _ _ _ _ => gNoIf) (fun _ _ _ _ _ => (gCall1 c_l_take T_l_take hr (by decide) (by rfl) takes0 (gCons (gv 0) (gCons (gB call_len lLen (by rfl) G.n_len (by decide +kernel) (gCons (gv 2) gNil)) gNil))))) (hCons (hSet (i := 5) sc_l_comes.nd rfl (.inl rfl) (gv 3)) (hCons (hFor hp rfl (iSeq (gv 4)) (ggName (i := 6) sc_l_comes.nd rfl (.inl rfl)) (hOne (hSet (i := 5) sc_l_comes.nd rfl (.inl rfl) (gCall1 c_l_hit T_l_hit hr (by decide) (by rfl) tk (gCons (gv 5) (gCons (gIx (gv 2) (gv 6) (by intro _ _; rfl)) gNil)))))) (hCons (hIf (gTNe hr.units (gCall1 c_all_after T_all_after hr (by decide) (by rfl) tk (gCons (gv 1) (gCons (gv 3) (gCons (gTy call_list_of lList (by rfl) G.n_list (by decide +kernel) (gCons (gv 4) gNil)) gNil)))) (gv 5)) (hOne (hRet gBl)) hNil) (hCons (hIf (gTNot (gTru (gCall1 c_l_answers T_l_answers hr (by decide) (by rfl) tk (gCons (gv 1) (gCons (gv 3) (gCons (gv 5) (gCons (gv 2) gNil))))))) (hOne (hRet gBl)) hNil) (hCons (hFor hp rfl (iSeq (gCall1 c_needed T_needed hr (by decide) (by rfl) tk (gCons (gv 1) (gCons (gv 3) (gCons (gv 5) gNil))))) (ggName (i := 6) sc_l_comes.nd rfl (.inl rfl)) (hOne (hIf (gTNotIn (gv 6) (gv 4) (by rfl)) (hOne (hRet gBl)) hNil))) (hOne (hRet (gLe (gCall1 c_least_hits T_least_hits hr (by decide) (by rfl) tk (gCons (gv 1) (gCons (gv 3) (gCons (gv 5) gNil)))) (gB call_len lLen (by rfl) G.n_len (by decide +kernel) (gCons (gv 4) gNil))))))))))))
theorem d_l_fault (G : Env P w K mg base a) (T_least_hits : DefC P w K mg base "least_hits" ["tree", "start", "end"] l_least_hits [] (p_least_hits K a)) (T_needed : DefC P w K mg base "needed" ["tree", "start", "end"] l_needed [] (p_needed K a)) {f : Addr} {cdv : Value} {A : Around} {outer : List PySem.Env} {s : Shared} {H : Hp} {E : XK} (hgd : A.guards = some []) (hr : Room (l_l_fault - 1) (A.deeper (envOfC "_law_fault" (defScope s_l_fault) s.heap.objs.size f cdv))) :
    PSs (cxOf (L2.CX P w) P w K mg base N_l_fault "_law_fault" (defScope s_l_fault) f cdv A outer s H E) (defBody s_l_fault) (dS (fun c d _ H => E c d H) (r_l_fault K a)) := by
  have tk : Takes (cxOf (L2.CX P w) P w K mg base N_l_fault "_law_fault" (defScope s_l_fault) f cdv A outer s H E) (fun c d _ H => E c d H) := takes_of rfl rfl rfl rfl
  have hp : PassesOwn (model P w) (cxOf (L2.CX P w) P w K mg base N_l_fault "_law_fault" (defScope s_l_fault) f cdv A outer s H E).A (cxOf (L2.CX P w) P w K mg base N_l_fault "_law_fault" (defScope s_l_fault) f cdv A outer s H E).env (cxOf (L2.CX P w) P w K mg base N_l_fault "_law_fault" (defScope s_l_fault) f cdv A outer s H E).xe := passes_of rfl
  exact (hCut (hTryAs (i := 4) rfl rfl sc_l_fault.nd rfl rfl ⟨by rfl, by decide, .inl G.g_InvalidFlags⟩ tk (fun W1 pn xe tk1 hp1 => (hOne (hIf (gTEq hr.units (gv 0) gInt) (hOne (hExpr (gCall1 c_needed T_needed hr (by decide) (by rfl) tk1 (gCons (gv 1) (gCons (gv 2) (gCons (gv 3) gNil)))))) (hOne (hExpr (gCall1 c_least_hits T_least_hits hr (by decide) (by rfl) tk1 (gCons (gv 1) (gCons (gv 2) (gCons (gv 3) gNil))))))))) (fun ea oe cls ed pn hz hf => (hCons (hIf (PW.pt (gOr (gTru (gIsY hz hf (by rfl) G.n_isinstance (gCons (gv 4) (gCons (gClV (by rfl) G.g_InvalidSlot) gNil)))) (gOr (gTNot (gTru (gIsY hz hf (by rfl) G.n_isinstance (gCons (gv 4) (gCons (gClV (by rfl) G.g_CacheError) gNil))))) (gOr1 (gTNot (gTru (gIsY hz hf (by rfl) G.n_isinstance (gCons (gv 4) (gCons (gTyV (by rfl) G.n_ValueError (by decide +kernel)) gNil))))))))) (hOne (hRet (gTup (gCons gStr (gCons gStr gNil))))) hNil) (hOne (hRet (gTup (gCons gStr (gCons (gB (cr_repr hgd hr.units) lRepr (by rfl) G.n_repr (by decide +kernel) (gCons (gXf G.e_InvalidFlags.xf G.e_InvalidFlags.no hz hf (gv 4)) gNil)) gNil)))))))) (hOne (hRet (gTup (gCons gStr (gCons gStr gNil))))))
theorem d_law (G : Env P w K mg base a) (T_l_answers : DefC P w K mg base "_law_answers" ["_law_tree_here", "_law_start_here", "_law_end", "_law_ways"] l_l_answers [] (p_l_answers K a)) (T_l_bent : DefC P w K mg base "_law_bent" ["_law_box_here", "_law_flags_here", "_law_odd"] l_l_bent [] (p_l_bent K a)) (T_l_box : DefC P w K mg base "_law_box" ["_law_script"] l_l_box [] (p_l_box K a)) (T_l_comes : DefC P w K mg base "_law_comes" ["_law_box_here", "_law_tree_here", "_law_ways"] l_l_comes [] (p_l_comes K a)) (T_l_flags : DefC P w K mg base "_law_flags" ["_law_box_here", "_law_many"] l_l_flags [] (p_l_flags K a)) (T_l_plays : DefC P w K mg base "_law_plays" ["_law_box_here", "_law_tree_here", "_law_start_here", "_law_end", "_law_ways"] l_l_plays [] (p_l_plays K a)) (T_l_slots : DefC P w K mg base "_law_slots" ["_law_box_here"] l_l_slots [] (p_l_slots K a)) (T_l_start : DefC P w K mg base "_law_start" ["_law_box_here", "_law_end", "_law_odd"] l_l_start [] (p_l_start K a)) (T_l_tree : DefC P w K mg base "_law_tree" ["_law_box_here", "_law_slots_here"] l_l_tree [] (p_l_tree K a)) (T_l_fault : DefG P w K mg base "_law_fault" ["_law_door", "_law_tree_here", "_law_start_here", "_law_end"] l_l_fault (p_l_fault K a)) (T_Tree_init : MakC P w K mg base "Tree" a.Tree ["self", "text"] l_Tree_init (p_Tree_init K a)) {f : Addr} {cdv : Value} {A : Around} {outer : List PySem.Env} {s : Shared} {H : Hp} {E : XK} (hgd : A.guards = some []) (hr : Room (l_law - 1) (A.deeper (envOfC "law" (defScope s_law) s.heap.objs.size f cdv))) :
    PSs (cxOf (L2.CX P w) P w K mg base N_law "law" (defScope s_law) f cdv A outer s H E) (defBody s_law) (dS (fun c d _ H => E c d H) (r_law K a)) := by
  have tk : Takes (cxOf (L2.CX P w) P w K mg base N_law "law" (defScope s_law) f cdv A outer s H E) (fun c d _ H => E c d H) := takes_of rfl rfl rfl rfl
  have hp : PassesOwn (model P w) (cxOf (L2.CX P w) P w K mg base N_law "law" (defScope s_law) f cdv A outer s H E).A (cxOf (L2.CX P w) P w K mg base N_law "law" (defScope s_law) f cdv A outer s H E).env (cxOf (L2.CX P w) P w K mg base N_law "law" (defScope s_law) f cdv A outer s H E).xe := passes_of rfl
  exact (hCons (hSet (i := 1) sc_law.nd rfl (.inl rfl) (gCall1 c_l_box T_l_box hr (by decide) (by rfl) tk (gCons (gv 0) gNil))) (hCons (hSet (i := 2) sc_law.nd rfl (.inl rfl) (gCall1 c_l_slots T_l_slots hr (by decide) (by rfl) tk (gCons (gv 1) gNil))) (hCons (hAsg (gCall1 c_l_tree T_l_tree hr (by decide) (by rfl) tk (gCons (gv 1) (gCons (gv 2) gNil))) (ggTup rfl (ggCons (ggName (i := 3) sc_law.nd rfl (.inl rfl)) (ggCons (ggName (i := 4) sc_law.nd rfl (.inl rfl)) ggNil)))) (hCons (hSet (i := 5) sc_law.nd rfl (.inl rfl) (gCall1 c_l_flags T_l_flags hr (by decide) (by rfl) tk (gCons (gv 1) (gCons (gSub (gv 2) gInt) gNil)))) (hCons (hSet (i := 6) sc_law.nd rfl (.inl rfl) (gCall1 c_l_start T_l_start hr (by decide) (by rfl) tk (gCons (gv 1) (gCons (gv 5) (gCons gStr gNil))))) (hCons (hSet (i := 7) sc_law.nd rfl (.inl rfl) (gMakO c_Tree_init T_Tree_init hr (by decide) (by rfl) (gCons (gv 3) gNil))) (hCons (hFor hp rfl (iSeq (gLst (gCons (gv 6) (gCons (gMulS gStr (gSub (gv 2) gInt)) gNil)))) (ggName (i := 8) sc_law.nd rfl (.inl rfl)) (hOne (hIf (gTNot (gTru (gCall1 c_l_answers T_l_answers hr (by decide) (by rfl) tk (gCons (gv 7) (gCons (gv 8) (gCons (gv 5) (gCons (gv 4) gNil))))))) (hOne (hRet gBl)) hNil))) (hCons (hIf (PW.pt (gOr (gTNot (gTru (gCall1 c_l_plays T_l_plays hr (by decide) (by rfl) tk (gCons (gv 1) (gCons (gv 7) (gCons (gv 6) (gCons (gv 5) (gCons (gv 4) gNil)))))))) (gOr1 (gTNot (gTru (gCall1 c_l_comes T_l_comes hr (by decide) (by rfl) tk (gCons (gv 1) (gCons (gv 7) (gCons (gv 4) gNil))))))))) (hOne (hRet gBl)) hNil) (hCons (hSet (i := 9) sc_law.nd rfl (.inl rfl) (gCall1 c_l_bent T_l_bent hr (by decide) (by rfl) tk (gCons (gv 1) (gCons (gv 6) (gCons gStr gNil))))) (hCons (hSet (i := 10) sc_law.nd rfl (.inl rfl) (gCall1 c_l_bent T_l_bent hr (by decide) (by rfl) tk (gCons (gv 1) (gCons (gv 5) (gCons gStr gNil))))) (hCons (hFor hp rfl (iR1 (by rfl) G.n_range (gCons gInt gNil)) (ggName (i := 11) sc_law.nd rfl (.inl rfl)) (hCons (hIf (gTNe hr.units (gCallG c_l_fault T_l_fault hgd hr (by decide) (by rfl) tk (gCons (gv 11) (gCons (gv 7) (gCons (gv 9) (gCons (gv 5) gNil))))) (gTup (gCons gStr (gCons (gB (cr_repr hgd hr.units) lRepr (by rfl) G.n_repr (by decide +kernel) (gCons (gv 9) gNil)) gNil)))) (hOne (hRet gBl)) hNil) (hCons (hIf (gTNe hr.units (gCallG c_l_fault T_l_fault hgd hr (by decide) (by rfl) tk (gCons (gv 11) (gCons (gv 7) (gCons (gv 6) (gCons (gv 10) gNil))))) (gTup (gCons gStr (gCons (gB (cr_repr hgd hr.units) lRepr (by rfl) G.n_repr (by decide +kernel) (gCons (gv 10) gNil)) gNil)))) (hOne (hRet gBl)) hNil) (hOne (hIf (gTNe hr.units (gCallG c_l_fault T_l_fault hgd hr (by decide) (by rfl) tk (gCons (gv 11) (gCons (gv 7) (gCons (gv 9) (gCons (gv 10) gNil))))) (gTup (gCons gStr (gCons (gB (cr_repr hgd hr.units) lRepr (by rfl) G.n_repr (by decide +kernel) (gCons (gv 9) gNil)) gNil)))) (hOne (hRet gBl)) hNil))))) (hOne (hRet (gEq hr.units (gFldO G.o_Tree G.na_Tree_text (gv 7)) (gv 3)))))))))))))))
end
local macro_rules | `(tactic| walk_at "w") => `(tactic| conv => whnf)
local macro_rules | `(tactic| walk_at "b") => `(tactic| ((conv => whnf); split <;> (rename_i hb; simp only [decide_eq_true_eq, decide_eq_false_iff_not, Bool.not_eq_true', Bool.not_eq_false', Int.not_lt, Int.not_le, bne_iff_ne, ne_eq, Bool.not_eq_true, V.int.injEq, beq_iff_eq, reduceCtorEq] at hb)))
local macro_rules | `(tactic| walk_at "p") => `(tactic| (show (0 : Int) < _; decide))
local macro_rules | `(tactic| walk_at "z") => `(tactic| (show _ ≤ sizeLine; simp only [List.length_cons, List.length_nil]; decide))
section
variable {K : PySem.W.Frag} {a : Ads}
open TR
theorem vc_is_integer {vs : List V} {H : Hp} (g : V × TY) (h : (ct_is_integer K).pre g vs H) : ∃ S, Own S H ∧ r_is_integer K a (endsC (ct_is_integer K) g H) (start N_is_integer vs) S := by
  obtain ⟨x, t⟩ := g
  obtain ⟨rfl, ht⟩ := h
  refine ⟨⟨H, []⟩, Own.base H, ?_⟩
  have fin : ∀ H', Own ⟨H, []⟩ H' → Ext H H' := fun H' o => ext0 o
  cases x with
  | non => exact fun H' o => ⟨rfl, fin H' o⟩
  | bl b => exact fun H' o => ⟨rfl, fin H' o⟩
  | int b => exact fun H' o => ⟨rfl, fin H' o⟩
  | str b => exact fun H' o => ⟨rfl, fin H' o⟩
  | ref p =>
    have ht' : isiTy K (.ref p) ⟨H, []⟩ t := ht
    refine ⟨t, ht', ?_⟩
    rcases ht' with ⟨rfl, _⟩ | ⟨rfl, _⟩ | ⟨rfl, _⟩
    · exact fun H' o => ⟨rfl, fin H' o⟩
    · exact fun H' o => ⟨rfl, fin H' o⟩
    · exact fun H' o => ⟨rfl, fin H' o⟩
  | byt b => exact ht.elim
  | flt b => exact ht.elim
  | ty b => exact ht.elim
theorem vc_l_is_integer {vs : List V} {H : Hp} (g : V × TY) (h : (ct_is_integer K).pre g vs H) : ∃ S, Own S H ∧ r_l_is_integer K a (endsC (ct_is_integer K) g H) (start N_l_is_integer vs) S := vc_is_integer (a := a) g h
/-- the call of a def that changes nothing -/
theorem use_isI {W : sWX} {σ : L2.St} {S : SH} {Q : V → SH → Prop} {vs : List V} (x : V) (t : TY) (e : vs = [x]) (ht : ∀ H, Own S H → Ty0 K H x t) (h : Q (.bl (isInt x)) S) : rC (ct_is_integer K) W vs σ S Q :=
  ⟨(x, t), fun H o => ⟨e, ht H o⟩, fun H v H' o q => ⟨S, o.ex q.2, by rw [q.1]; exact h⟩, fun _ _ _ _ _ q => q.elim⟩
theorem vc_is_place {vs : List V} {H : Hp} (g : Nat × V × TY) (h : (ct_is_place K).pre g vs H) : ∃ S, Own S H ∧ r_is_place K a (endsC (ct_is_place K) g H) (start N_is_place vs) S := by
  obtain ⟨n, x, t⟩ := g
  obtain ⟨rfl, ht⟩ := h
  have ht : Ty0 K H x t := ht
  refine ⟨⟨H, []⟩, Own.base H, ?_⟩
  refine use_isI x t rfl (fun H' o => ht.ex (ext0 o)) ?_
  cases x with
  | int i =>
    show sChain oLe oLt (sC (.int 0)) (sVar 1) (sVar 0) _ _ _ _
    have e : plcB n (.int i) = (decide (0 ≤ i) && decide (i < n)) := rfl
    by_cases h0 : 0 ≤ i
    · have : decide ((0 : Int) ≤ i) = true := decide_eq_true h0
      show match V.bl (decide ((0 : Int) ≤ i)) with | .bl true => _ | .bl false => _ | _ => False
      rw [this]
      exact fun H' o => ⟨by show V.bl (decide (i < (n : Int))) = .bl (plcB n (.int i)); rw [e, this, Bool.true_and], ext0 o⟩
    · have : decide ((0 : Int) ≤ i) = false := decide_eq_false h0
      show match V.bl (decide ((0 : Int) ≤ i)) with | .bl true => _ | .bl false => _ | _ => False
      rw [this]
      exact fun H' o => ⟨by show V.bl false = .bl (plcB n (.int i)); rw [e, this, Bool.false_and], ext0 o⟩
  | _ => exact fun H' o => ⟨rfl, ext0 o⟩
theorem use_place {W : sWX} {σ : L2.St} {S : SH} {Q : V → SH → Prop} {vs : List V} (n : Nat) (x : V) (t : TY) (e : vs = [.int (n : Nat), x]) (ht : ∀ H, Own S H → Ty0 K H x t) (h : Q (.bl (plcB n x)) S) : rC (ct_is_place K) W vs σ S Q :=
  ⟨(n, x, t), fun H o => ⟨e, ht H o⟩, fun H v H' o q => ⟨S, o.ex q.2, by rw [q.1]; exact h⟩, fun _ _ _ _ _ q => q.elim⟩
theorem occ_sign : ∀ c ∈ [76, 82, 63, 46, 108, 120, 33], (!(Builtin.Str.occurrences ("LR" : Str) ⟨#[c]⟩ 0 2 1).isEmpty) = (c == 76 || c == 82 || (false && c == 63)) := by decide +kernel
theorem occ_sign3 : ∀ c ∈ [76, 82, 63, 46, 108, 120, 33], (!(Builtin.Str.occurrences ("LR?" : Str) ⟨#[c]⟩ 0 3 1).isEmpty) = (c == 76 || c == 82 || (true && c == 63)) := by decide +kernel
theorem vc_is_made_of {vs : List V} {H : Hp} (g : V × TY × Bool) (h : (ct_is_made_of K).pre g vs H) : ∃ S, Own S H ∧ r_is_made_of K a (endsC (ct_is_made_of K) g H) (start N_is_made_of vs) S := by
  obtain ⟨x, t, q⟩ := g
  obtain ⟨rfl, ht, hs⟩ := h
  have ht : Ty0 K H x t := ht
  refine ⟨⟨H, []⟩, Own.base H, ?_⟩
  cases x with
  | str u =>
    refine fun D => ?_
    have hs : sgnOk u := hs
    refine ⟨fun i S => S = ⟨H, [(D, .lst (((u.cps.toList.take i).map fun c => c == 76 || c == 82 || (q && c == 63)).map V.bl))]⟩, rfl, fun _ _ _ _ => trivial, ?_, ?_⟩
    · rintro i S hi rfl c hc
      have hc : u.cps.toList[i]? = some c := by
        rw [Array.getElem?_toList]
        exact hc
      refine ⟨rfl, ?_⟩
      refine ⟨0, _, rfl, ?_, ⟨_, SLe.refl _, ?_⟩⟩
      · rw [List.length_map, List.length_map, List.length_take]
        exact small_of (show min i _ ≤ 100 by have := hs.1; omega) (by decide)
      · show _ = SH.mk H [(D, .lst (((u.cps.toList.take (i + 1)).map fun c => c == 76 || c == 82 || (q && c == 63)).map V.bl))]
        rw [map_more hc, List.map_append]
        cases q with
        | false =>
          show SH.mk H [(D, .lst (_ ++ [V.bl (!(Builtin.Str.occurrences ("LR" : Str) ⟨#[c]⟩ 0 2 1).isEmpty)]))] = _
          rw [occ_sign c (hs.2 c (List.mem_of_getElem? hc))]
          rfl
        | true =>
          show SH.mk H [(D, .lst (_ ++ [V.bl (!(Builtin.Str.occurrences ("LR?" : Str) ⟨#[c]⟩ 0 3 1).isEmpty)]))] = _
          rw [occ_sign3 c (hs.2 c (List.mem_of_getElem? hc))]
          rfl
    · rintro S rfl
      refine ⟨_, .inl ⟨0, rfl⟩, ?_⟩
      intro H' o'
      refine ⟨?_, fun c o e => o'.fr c o e⟩
      show V.bl (List.all ((u.cps.toList.take u.cps.size).map fun c => c == 76 || c == 82 || (q && c == 63)) id) = .bl (madeL q u)
      rw [List.take_of_length_le (by rw [Array.length_toList]; exact Nat.le_refl _), List.all_map]
      rfl
  | ref p =>
    have ht' : isiTy K (.ref p) ⟨H, []⟩ t := ht
    refine ⟨t, ht', ?_⟩
    rcases ht' with ⟨rfl, _⟩ | ⟨rfl, _⟩ | ⟨rfl, _⟩
    · exact fun H' o => ⟨rfl, ext0 o⟩
    · exact fun H' o => ⟨rfl, ext0 o⟩
    · exact fun H' o => ⟨rfl, ext0 o⟩
  | byt b => exact ht.elim
  | flt b => exact ht.elim
  | ty b => exact ht.elim
  | _ => exact fun H' o => ⟨rfl, ext0 o⟩
theorem use_made {W : sWX} {σ : L2.St} {S : SH} {Q : V → SH → Prop} {vs : List V} (x : V) (t : TY) (q : Bool) (e : vs = [x, .str (if q then "LR?" else "LR")]) (ht : ∀ H, Own S H → Ty0 K H x t) (hs : strOk x) (h : Q (.bl (madeB q x)) S) : rC (ct_is_made_of K) W vs σ S Q :=
  ⟨(x, t, q), fun H o => ⟨e, ht H o, hs⟩, fun H v H' o r => ⟨S, o.ex r.2, by rw [r.1]; exact h⟩, fun _ _ _ _ _ r => r.elim⟩
/-! the tree -/
theorem TreeAt.ext {H H' : Hp} {v : V} {b : TR} (h : TreeAt K a H v b) (e : Ext H H') : TreeAt K a H' v b := by
  obtain ⟨⟨p, dx, fs, w, sp, h1, h2, h3, h4, h5, h6, h7⟩, h9⟩ := h
  exact ⟨⟨p, dx, fs, w, sp, h1, e _ _ h2, h3, h4, h5.ext e, h6, h7.ext e⟩, h9⟩
theorem TreeAt.low {F H : Hp} {v : V} {b : TR} (h : TreeAt K a H v b) (k : KeepT F H) : TreeAt K a F v b := by
  obtain ⟨⟨p, dx, fs, w, sp, h1, h2, h3, h4, h5, h6, h7⟩, h9⟩ := h
  exact ⟨⟨p, dx, fs, w, sp, h1, k _ _ h2 (fun _ e => nomatch e), h3, h4, h5.low k, h6, h7.low k⟩, h9⟩
theorem vc_Tree_len {vs : List V} {H : Hp} (g : V × TR) (h : (ct_tree_n K a nS).pre g vs H) : ∃ S, Own S H ∧ r_Tree_len K a (endsC (ct_tree_n K a nS) g H) (start N_Tree_len vs) S := by
  obtain ⟨v, b⟩ := g
  obtain ⟨rfl, h⟩ := h
  obtain ⟨⟨p, dx, fs, w, sp, rfl, h2, h3, h4, h5, h6, h7⟩, h9⟩ := h
  refine ⟨⟨H, []⟩, Own.base H, ?_⟩
  obtain ⟨q, xs, rfl, hq, hx⟩ := h5.tupI
  refine ⟨dx, fs, _, .inr h2, h4, ⟨xs, .inr (hq.s (List.Subset.refl _)), fun H' o => ⟨?_, ext0 o⟩⟩⟩
  rw [hx.len, List.length_map, wayB_len]
theorem vc_Tree_forks {vs : List V} {H : Hp} (g : V × TR) (h : (ct_tree_n K a fun b => nS b - 1).pre g vs H) : ∃ S, Own S H ∧ r_Tree_forks K a (endsC (ct_tree_n K a fun b => nS b - 1) g H) (start N_Tree_forks vs) S := by
  obtain ⟨v, b⟩ := g
  obtain ⟨rfl, h⟩ := h
  obtain ⟨⟨p, dx, fs, w, sp, rfl, h2, h3, h4, h5, h6, h7⟩, h9⟩ := h
  refine ⟨⟨H, []⟩, Own.base H, ?_⟩
  obtain ⟨q, xs, rfl, hq, hx⟩ := h7.tupI
  refine ⟨dx, fs, _, .inr h2, h6, ⟨xs, .inr (hq.s (List.Subset.refl _)), fun H' o => ⟨?_, ext0 o⟩⟩⟩
  rw [hx.len, List.length_map, List.length_range]
theorem use_len {S : SH} {σ : L2.St} {Q : V → SH → Prop} {v : V} {b : TR} (hv : ∀ H, Own S H → TreeAt K a H v b) (hS : TreeAt K a S.F v b) (k : Q (.int (nS b : Nat)) S) {i : Nat} {W : sWX} (hi : σ[i]? = some (some v)) : sLenO a.Tree (q_Tree_len K a) (sVar i) W σ S Q := by
  refine var_go hi ?_
  obtain ⟨⟨p, dx, fs, w, sp, e, h2, _⟩, h9⟩ := hS
  rw [e]
  refine ⟨dx, fs, .inr h2, (v, b), fun H o => ⟨by rw [e], hv H o⟩, fun H v' H' o q => ⟨S, o.ex q.2, ⟨nS b, q.1, by omega⟩, ?_⟩, fun _ _ _ _ _ q => q.elim⟩
  rw [q.1]
  exact k
theorem use_forks {S : SH} {σ : L2.St} {Q : V → SH → Prop} {v : V} {b : TR} (hv : ∀ H, Own S H → TreeAt K a H v b) (hS : TreeAt K a S.F v b) (k : Q (.int (nS b - 1 : Nat)) S) {i : Nat} {W : sWX} (hi : σ[i]? = some (some v)) : sProO a.Tree (q_Tree_forks K a) (sVar i) W σ S Q := by
  refine var_go hi ?_
  obtain ⟨⟨p, dx, fs, w, sp, e, h2, _⟩, h9⟩ := hS
  rw [e]
  refine ⟨dx, fs, .inr h2, (v, b), fun H o => ⟨by rw [e], hv H o⟩, fun H v' H' o q => ⟨S, o.ex q.2, trivial, ?_⟩, fun _ _ _ _ _ q => q.elim⟩
  rw [q.1]
  exact k
theorem own_F {F : Hp} {G : List (Addr × HO)} {H : Hp} (o : Own ⟨F, G⟩ H) : Ext F H := fun c u e => o.fr c u e
theorem vc_checked_flags {vs : List V} {H : Hp} (g : V × TR × V × TY) (h : (ct_checked K a false).pre g vs H) : ∃ S, Own S H ∧ r_checked_flags K a (endsC (ct_checked K a false) g H) (start N_checked_flags vs) S := by
  obtain ⟨tv, b, x, t⟩ := g
  obtain ⟨rfl, hT, ht, hs⟩ := h
  have hT : TreeAt K a H tv b := hT
  have ht : Ty0 K H x t := ht
  have hs : strOk x := hs
  have p0 := nS_pos b
  refine ⟨⟨H, []⟩, Own.base H, ?_⟩
  have bad : flOk false b x = false → ∀ d H', Own (SH.new ⟨H, []⟩ d (.xd [("flags", x)])) H' → (ct_checked K a false).exn (tv, b, x, t) H (.ref a.InvalidFlags) (some d) H' := fun e d H' o =>
    ⟨e, rfl, d, rfl, (o.gs (d, .xd [("flags", x)]) List.mem_cons_self).2, fun a u e => o.fr a u e, (o.gs (d, .xd [("flags", x)]) List.mem_cons_self).1⟩
  refine use_made x t false rfl (fun H' o => ht.ex (ext0 o)) hs ?_
  cases hm : madeB false x with
  | false =>
    refine bad ?_
    cases x with
    | str u =>
      have hm : madeL false u = false := hm
      show (madeL false u && _) = false
      rw [hm]
      rfl
    | _ => rfl
  | true =>
    cases x with
    | str u =>
      have hm : madeL false u = true := hm
      refine ⟨?_, ?_⟩
      · show u.cps.size ≤ sizeLine
        have : u.cps.toList.length ≤ 100 := hs.1
        rw [Array.length_toList] at this
        exact Nat.le_trans this (by decide)
      · refine use_forks (i := 0) (v := tv) (b := b) (fun H' o => hT.ext (ext0 o)) hT ?_ (by rfl)
        have hf : flOk false b (.str u) = decide (u.cps.size = nS b - 1) := by
          show (madeL false u && decide (u.cps.toList.length + 1 = nS b)) = _
          rw [hm, Bool.true_and, Array.length_toList]
          exact decide_eq_decide.mpr (by omega)
        walk_at "b"
        · rename_i hb
          exact bad (by rw [hf]; exact decide_eq_false fun z => hb (by rw [← z]; rfl))
        · rename_i hb
          exact fun H' o => ⟨by rw [hf]; exact decide_eq_true (Int.ofNat.inj hb), rfl, ext0 o⟩
    | _ => cases hm
theorem vc_checked_pattern {vs : List V} {H : Hp} (g : V × TR × V × TY) (h : (ct_checked K a true).pre g vs H) : ∃ S, Own S H ∧ r_checked_pattern K a (endsC (ct_checked K a true) g H) (start N_checked_pattern vs) S := by
  obtain ⟨tv, b, x, t⟩ := g
  obtain ⟨rfl, hT, ht, hs⟩ := h
  have hT : TreeAt K a H tv b := hT
  have ht : Ty0 K H x t := ht
  have hs : strOk x := hs
  have p0 := nS_pos b
  refine ⟨⟨H, []⟩, Own.base H, ?_⟩
  have bad : flOk true b x = false → ∀ d H', Own (SH.new ⟨H, []⟩ d (.xd [("flags", x)])) H' → (ct_checked K a true).exn (tv, b, x, t) H (.ref a.InvalidFlags) (some d) H' := fun e d H' o =>
    ⟨e, rfl, d, rfl, (o.gs (d, .xd [("flags", x)]) List.mem_cons_self).2, fun a u e => o.fr a u e, (o.gs (d, .xd [("flags", x)]) List.mem_cons_self).1⟩
  refine use_made x t true rfl (fun H' o => ht.ex (ext0 o)) hs ?_
  cases hm : madeB true x with
  | false =>
    refine bad ?_
    cases x with
    | str u =>
      have hm : madeL true u = false := hm
      show (madeL true u && _) = false
      rw [hm]
      rfl
    | _ => rfl
  | true =>
    cases x with
    | str u =>
      have hm : madeL true u = true := hm
      refine ⟨?_, ?_⟩
      · show u.cps.size ≤ sizeLine
        have : u.cps.toList.length ≤ 100 := hs.1
        rw [Array.length_toList] at this
        exact Nat.le_trans this (by decide)
      · refine use_forks (i := 0) (v := tv) (b := b) (fun H' o => hT.ext (ext0 o)) hT ?_ (by rfl)
        have hf : flOk true b (.str u) = decide (u.cps.size = nS b - 1) := by
          show (madeL true u && decide (u.cps.toList.length + 1 = nS b)) = _
          rw [hm, Bool.true_and, Array.length_toList]
          exact decide_eq_decide.mpr (by omega)
        walk_at "b"
        · rename_i hb
          exact bad (by rw [hf]; exact decide_eq_false fun z => hb (by rw [← z]; rfl))
        · rename_i hb
          exact fun H' o => ⟨by rw [hf]; exact decide_eq_true (Int.ofNat.inj hb), rfl, ext0 o⟩
    | _ => cases hm
theorem vc_checked_slot {vs : List V} {H : Hp} (g : V × TR × V × TY) (h : (ct_checked_slot K a).pre g vs H) : ∃ S, Own S H ∧ r_checked_slot K a (endsC (ct_checked_slot K a) g H) (start N_checked_slot vs) S := by
  obtain ⟨tv, b, x, t⟩ := g
  obtain ⟨rfl, hT, ht⟩ := h
  have hT : TreeAt K a H tv b := hT
  have ht : Ty0 K H x t := ht
  refine ⟨⟨H, []⟩, Own.base H, ?_⟩
  unfold r_checked_slot sSeq sIfS sNot sTru sCallD sCons
  dsimp only
  refine use_len (i := 0) (v := tv) (b := b) (fun H' o => hT.ext (ext0 o)) hT ?_ (by rfl)
  refine var_go (i := 1) (v := x) (by rfl) ?_
  refine nil_go ?_
  refine use_place (nS b) x t rfl (fun H' o => ht.ex (ext0 o)) ?_
  cases hp : plcB (nS b) x with
  | true => exact fun H' o => ⟨hp, rfl, ext0 o⟩
  | false => exact fun d H' o => ⟨hp, rfl, d, rfl, (o.gs (d, .xd [("slot", x)]) List.mem_cons_self).2, fun a u e => o.fr a u e, (o.gs (d, .xd [("slot", x)]) List.mem_cons_self).1⟩
theorem use_flags {W : sWX} {σ : L2.St} {S : SH} {Q : V → SH → Prop} {vs : List V} (p : Bool) (tv : V) (b : TR) (x : V) (t : TY) (e : vs = [tv, x]) (hT : ∀ H, Own S H → TreeAt K a H tv b) (ht : ∀ H, Own S H → Ty0 K H x t) (hs : strOk x)
    (h1 : flOk p b x = true → Q x S) (h2 : flOk p b x = false → ∀ d, W (.ref a.InvalidFlags) (some d) σ (S.new d (.xd [("flags", x)]))) : rC (ct_checked K a p) W vs σ S Q :=
  ⟨(tv, b, x, t), fun H o => ⟨e, hT H o, ht H o, hs⟩, fun H v H' o q => ⟨S, o.ex q.2.2, by rw [q.2.1]; exact h1 q.1⟩, fun H c d H' o q => by
    obtain ⟨q0, rfl, dd, rfl, q1, q2, q3⟩ := q
    exact ⟨_, o.new q1 q2 q3, h2 q0 dd⟩⟩
theorem use_slot {W : sWX} {σ : L2.St} {S : SH} {Q : V → SH → Prop} {vs : List V} (tv : V) (b : TR) (x : V) (t : TY) (e : vs = [tv, x]) (hT : ∀ H, Own S H → TreeAt K a H tv b) (ht : ∀ H, Own S H → Ty0 K H x t)
    (h1 : plcB (nS b) x = true → Q x S) (h2 : plcB (nS b) x = false → ∀ d, W (.ref a.InvalidSlot) (some d) σ (S.new d (.xd [("slot", x)]))) : rC (ct_checked_slot K a) W vs σ S Q :=
  ⟨(tv, b, x, t), fun H o => ⟨e, hT H o, ht H o⟩, fun H v H' o q => ⟨S, o.ex q.2.2, by rw [q.2.1]; exact h1 q.1⟩, fun H c d H' o q => by
    obtain ⟨q0, rfl, dd, rfl, q1, q2, q3⟩ := q
    exact ⟨_, o.new q1 q2 q3, h2 q0 dd⟩⟩
end
section
variable {K : PySem.W.Frag} {a : Ads}
open TR
theorem sm_mod {x m : Int} (h : 0 < m) (h2 : m < 2 ^ 40) : sm64 (x % m) := by
  have h1 := Int.emod_nonneg x (show m ≠ 0 by omega)
  have h3 := Int.emod_lt_of_pos x h
  unfold sm64
  omega
theorem vc_l_take {vs : List V} {H : Hp} (g : Addr × Addr × Bx × Int) (h : ct_l_take.pre g vs H) : ∃ S, Own S H ∧ r_l_take K a (endsC ct_l_take g H) (start N_l_take vs) S := by
  refine body_box g h fun b m x size F eg eF hms hok e => ?_
  subst eg
  subst e
  have hs : size < 1073741824 := hok
  obtain ⟨g0, gs, ms, st⟩ := x
  have hms : ms ≠ [] := hms
  walk_at "b"
  · rename_i hb
    intro H' o'
    subst eF
    exact end_box (E := []) o' hms fun H2 o2 => ⟨0, rfl, by show (0 : Int) < size ∨ _; omega⟩
  · rename_i hb
    have h0 : (0 : Int) < size := by omega
    refine ⟨[.ref g0, .ref m, .int st], .ref g0, .inl (.inl ⟨0, rfl⟩), rfl, ?_⟩
    refine .inl ⟨gs.map V.int, .inl ⟨1, rfl⟩, ?_⟩
    cases gs with
    | cons d gs =>
      refine ⟨V.int d :: gs.map V.int, .int d, .inl (.inl ⟨1, rfl⟩), atI_at (i := 0) rfl, ?_⟩
      refine ⟨fun σ S => ∃ (y : Bx) (E : List (Addr × HO)) (x0 x2 x4 x5 x6 x7 x8 x9 : Option V), σ = [x0, some (.int size), x2, some (.int d), x4, x5, x6, x7, x8, x9] ∧ S = ⟨F, E ++ boxG b m y⟩ ∧ y.ms ≠ [], ?_, ?_⟩
      · refine ⟨⟨h0, hs⟩, ?_⟩
        walk_at "b"
        · refine .inl ⟨V.int d :: gs.map V.int, .inl ⟨1, rfl⟩, fun r => ?_⟩
          refine ⟨1, [.ref g0, .ref m, .int st], 0, rfl, rfl, ?_⟩
          have ec : cutV (V.int d :: gs.map V.int) (some 1) none = gs.map V.int := by
            unfold cutV
            rw [HT.sIx_none]
            show ((V.int d :: gs.map V.int).drop (HT.sIx (gs.map V.int).length.succ 0 (some ((1 : Nat) : Int)))).take _ = _
            rw [HT.sIx_nat, show min 1 (gs.map V.int).length.succ = 1 by omega]
            show (gs.map V.int).take _ = _
            exact List.take_of_length_le (by show _ ≤ (V.int d :: gs.map V.int).length - 1; exact Nat.le_refl _)
          rw [ec]
          refine ⟨⟨F, [(g0, .lst (V.int d :: gs.map V.int))] ++ boxG b m ⟨r, gs, ms, st⟩⟩, sle_perm ?_, ⟨r, gs, ms, st⟩, _, _, _, _, _, _, _, _, _, rfl, rfl, hms⟩
          show List.Perm [(r, HO.lst (gs.map V.int)), (b, .lst [.ref r, .ref m, .int st]), (g0, .lst (V.int d :: gs.map V.int)), (m, .lst (ms.map V.int))] [(g0, HO.lst (V.int d :: gs.map V.int)), (b, .lst [.ref r, .ref m, .int st]), (r, .lst (gs.map V.int)), (m, .lst (ms.map V.int))]
          exact (List.Perm.swap _ _ _).trans (((List.Perm.swap _ _ _).cons _).trans (List.Perm.swap _ _ _))
        · refine ⟨⟨h0, hs⟩, ?_⟩
          refine ⟨1, V.int d :: gs.map V.int, 0, rfl, ixN_nat (i := 0) (Nat.succ_pos _), ?_⟩
          exact ⟨_, SLe.refl _, ⟨g0, (d / size) :: gs, ms, st⟩, [], _, _, _, _, _, _, _, _, rfl, rfl, hms⟩
      · rintro σ S ⟨y, E, x0, x2, x4, x5, x6, x7, x8, x9, rfl, rfl, hy⟩
        refine ⟨h0, ?_⟩
        intro H' o'
        subst eF
        obtain ⟨r, e, hr⟩ := modNat (x := d) h0
        exact end_box o' hy fun H2 o2 => ⟨r, congrArg V.int e, .inl hr⟩
    | nil =>
      refine ⟨[.ref g0, .ref m, .int st], .int st, .inl (.inl ⟨0, rfl⟩), rfl, ?_⟩
      refine ⟨0, [.ref g0, .ref m, .int st], 2, rfl, rfl, ?_⟩
      refine ⟨[.ref g0, .ref m, .int (st + 1)], .ref m, .inl (.inl ⟨0, rfl⟩), rfl, ?_⟩
      refine ⟨ms.map V.int, .inl (.inl ⟨2, rfl⟩), ?_⟩
      have hl : (0 : Int) < ((ms.map V.int).length : Nat) := by
        rw [List.length_map]
        have := List.length_pos_iff.mpr (show ms ≠ [] from hms)
        omega
      refine ⟨hl, ?_⟩
      obtain ⟨j, ej, hj⟩ := modNat (x := st) hl
      rw [List.length_map] at hj
      have hj : j < ms.length := by omega
      show oIx K (.ref m) (.int (st % ((ms.map V.int).length : Nat))) _ _
      rw [ej]
      refine ⟨ms.map V.int, .int ms[j], .inl (.inl ⟨2, rfl⟩), atI_at (by rw [List.getElem?_map, List.getElem?_eq_getElem hj]; rfl), ?_⟩
      generalize ms[j] = cell
      refine ⟨.inr (by unfold sm64; omega), ?_⟩
      refine ⟨.inr (by unfold sm64; omega), ?_⟩
      refine ⟨by walk_at "p", ?_⟩
      generalize hf : (cell * 48271 + st * 69621 + 7919) % 2147483647 = first
      have s1 : sm64 first := by rw [← hf]; exact sm_mod (by decide) (by decide)
      refine ⟨.inl ?_, ?_⟩
      · show sm64 ((cell * 48271 + st * 69621 + 7919) % 2147483647)
        rw [hf]
        exact s1
      refine ⟨.inr (by unfold sm64; omega), ?_⟩
      refine ⟨.inr (by unfold sm64; omega), ?_⟩
      refine ⟨by walk_at "p", ?_⟩
      refine ⟨.inl (sm_mod (by decide) (by decide)), ?_⟩
      refine ⟨.inr (by unfold sm64; omega), ?_⟩
      refine ⟨by walk_at "p", ?_⟩
      refine ⟨⟨by decide, by decide⟩, ?_⟩
      refine ⟨h0, ?_⟩
      intro H' o'
      subst eF
      obtain ⟨r, e, hr⟩ := modNat (x := _ / 11) h0
      exact end_box (y := ⟨g0, [], ms, st + 1⟩) (E := []) o' hms fun H2 o2 => ⟨r, congrArg V.int e, .inl hr⟩
/-- a draw: the rest stands -/
theorem use_takeB {W : sWX} {vs : List V} {σ : L2.St} {F : Hp} {E : List (Addr × HO)} {b m : Addr} {x : Bx} {Q : V → SH → Prop} (size : Int) (e : vs = [.ref b, .int size]) (hx : x.ms ≠ []) (hs : size < 1073741824)
    (k : ∀ (y : Bx) (r : Nat), y.ms ≠ [] → ((r : Int) < size ∨ r = 0 ∧ size < 1) → Q (.int (r : Nat)) ⟨F, E ++ boxG b m y⟩) : rC ct_l_take W vs σ ⟨F, E ++ boxG b m x⟩ Q :=
  use_box size e hx (fun _ _ => hs) fun y H1 v H2 hy o1 o2 ex ⟨r, e, hr⟩ => ⟨F, E, o2, by rw [e]; exact k y r hy hr⟩
theorem vc_l_slots {vs : List V} {H : Hp} (g : Addr × Addr × Bx × Unit) (h : ct_l_slots.pre g vs H) : ∃ S, Own S H ∧ r_l_slots K a (endsC ct_l_slots g H) (start N_l_slots vs) S := by
  refine body_box g h fun b m x u F eg eF hms hok e => ?_
  subst eg
  subst e
  have fin : ∀ {y : Bx} {n : Nat} {v : V}, y.ms ≠ [] → v = .int (n : Nat) → 1 ≤ n → n ≤ 64 → ∀ H', Own ⟨F, [] ++ boxG b m y⟩ H' → ct_l_slots.post (b, m, x, u) H v H' := fun {y n v} hy ev h1 h2 H' o' => by
    subst eF
    exact end_box (E := []) o' hy fun H2 o2 => ⟨n, ev, h1, h2⟩
  refine use_takeB (E := []) 16 (by rfl) hms (by decide) fun y r hy hr => ?_
  walk_at "b"
  · exact fin (n := 1) hy rfl (by decide) (by decide)
  · walk_at "b"
    · exact fin (n := 64) hy rfl (by decide) (by decide)
    · walk_at "b"
      · refine use_takeB (E := []) 20 (by rfl) hy (by decide) fun y r2 hy hr2 => ?_
        exact fin (n := 10 + r2) hy (by congr 1) (by omega) (by omega)
      · refine use_takeB (E := []) 7 (by rfl) hy (by decide) fun y r2 hy hr2 => ?_
        exact fin (n := 8 - r2) hy (by congr 1; omega) (by omega) (by omega)
theorem vc_l_join {vs : List V} {H : Hp} (g : Addr × Addr × Bx × Nat × Nat) (h : ct_l_join.pre g vs H) : ∃ S, Own S H ∧ r_l_join K a (endsC ct_l_join g H) (start N_l_join vs) S := by
  refine body_box g h fun b m x g F eg eF hms hok e => ?_
  subst eg
  subst e
  obtain ⟨lean, room⟩ := g
  obtain ⟨h1, h2⟩ := hok
  have h1 : 1 ≤ room := h1
  have h2 : room ≤ 63 := h2
  have fin : ∀ {y : Bx} {n : Nat} {v : V}, y.ms ≠ [] → v = .int (n : Nat) → n < room → ∀ H', Own ⟨F, [] ++ boxG b m y⟩ H' → ct_l_join.post (b, m, x, lean, room) H v H' := fun {y n v} hy ev h1 H' o' => by
    subst eF
    exact end_box (E := []) o' hy fun H2 o2 => ⟨n, ev, h1⟩
  walk_at "b"
  · exact fin (n := room - 1) hms (by congr 1; show (room : Int) - 1 = _; omega) (by omega)
  · walk_at "b"
    · exact fin (n := 0) hms rfl (by omega)
    · walk_at "b"
      · refine ⟨by unfold rngOk; omega, ?_⟩
        refine ⟨fun i σ S => ∃ (p : Nat) (x4 : Option V), p ≤ 2 * room ∧ (room + 1 ≤ p ∨ p = 2 ^ i) ∧ σ = [some (.ref b), some (.int (lean : Nat)), some (.int (room : Nat)), some (.int (p : Nat)), x4] ∧ S = ⟨F, boxG b m x⟩, ⟨1, none, by omega, .inr rfl, rfl, rfl⟩, fun _ _ _ _ _ => trivial, ?_, ?_⟩
        · rintro i σ S hi ⟨p, x4, hp, hq, rfl, rfl⟩
          walk_at "b"
          · rename_i hb
            refine ⟨.inr (by unfold sm64; omega), ?_⟩
            refine ⟨_, SLe.refl _, 2 * p, _, by omega, ?_, by rw [Int.mul_comm]; rfl, rfl⟩
            rcases hq with hq | hq
            · omega
            · rw [hq, Nat.pow_succ, Nat.mul_comm]
              exact .inr rfl
          · rename_i hb
            exact ⟨_, SLe.refl _, p, _, hp, .inl (by omega), rfl, rfl⟩
        · rintro σ S ⟨p, x4, hp, hq, rfl, rfl⟩
          have hq : room + 1 ≤ p := hq.elim id fun e => by
            rw [e]
            show room + 1 ≤ 128
            omega
          exact fin (y := x) (n := p - room - 1) hms (by congr 1; show (p : Int) - room - 1 = _; omega) (by omega)
      · refine use_takeB (E := []) room (by rfl) hms (by omega) fun y r hy hr => ?_
        exact fin (n := r) hy rfl (by omega)
theorem use_join {W : sWX} {vs : List V} {σ : L2.St} {F : Hp} {E : List (Addr × HO)} {b m : Addr} {x : Bx} {Q : V → SH → Prop} (lean room : Nat) (e : vs = [.ref b, .int (lean : Nat), .int (room : Nat)]) (hx : x.ms ≠ []) (h1 : 1 ≤ room) (h2 : room ≤ 63)
    (k : ∀ (y : Bx) (r : Nat), y.ms ≠ [] → r < room → Q (.int (r : Nat)) ⟨F, E ++ boxG b m y⟩) : rC ct_l_join W vs σ ⟨F, E ++ boxG b m x⟩ Q :=
  use_box (lean, room) e hx (fun _ _ => ⟨h1, h2⟩) fun y H1 v H2 hy o1 o2 ex ⟨r, e, hr⟩ => ⟨F, E, o2, by rw [e]; exact k y r hy hr⟩
end
section
variable {K : PySem.W.Frag} {a : Ads}
open TR
/-! ### texts of flags -/
theorem pS_tl (l : List Nat) : TL.tl (pS l) = l := rfl
theorem pS_len (l : List Nat) : (pS l).length = l.length := by rw [TL.len_tl, pS_tl]
theorem pS_line {l : List Nat} (h : l.length ≤ 100) : (pS l).length ≤ sizeLine := by
  rw [pS_len]
  exact Nat.le_trans h (by decide)
theorem fS_tl (fl : List Bool) : TL.tl (fS fl) = fl.map cdB := rfl
theorem fS_len (fl : List Bool) : (fS fl).length = fl.length := by
  rw [TL.len_tl, fS_tl, List.length_map]
theorem fS_line {fl : List Bool} (h : fl.length ≤ 100) : (fS fl).length ≤ sizeLine := by
  rw [fS_len]
  exact Nat.le_trans h (by decide)
theorem cd_in (b : Bool) : cdB b = 76 ∨ cdB b = 82 := by cases b <;> decide
theorem fS_made (q : Bool) (fl : List Bool) : madeL q (fS fl) = true := by
  unfold madeL
  show ((fl.map cdB).all fun c => c == 76 || c == 82 || (q && c == 63)) = true
  rw [List.all_map]
  exact List.all_eq_true.mpr fun b _ => by cases b <;> rfl
theorem pat_fl (fl : List Bool) : patOk (fl.map cdB) := fun c hc => by
  obtain ⟨b, _, rfl⟩ := List.mem_map.mp hc
  cases b <;> decide
theorem pS_sgn {l : List Nat} (h : l.length ≤ 100) (p : patOk l) : sgnOk (pS l) := ⟨h, fun c hc => by
  have := p c hc
  have all : ∀ c ∈ [76, 82, 63], c ∈ [76, 82, 63, 46, 108, 120, 33] := by decide
  exact all c this⟩
theorem fS_sgn {fl : List Bool} (h : fl.length ≤ 100) : sgnOk (fS fl) := pS_sgn (by rw [List.length_map]; exact h) (pat_fl fl)
theorem pS_made {l : List Nat} (p : patOk l) : madeL true (pS l) = true := by
  unfold madeL
  refine List.all_eq_true.mpr fun c hc => ?_
  have all : ∀ c ∈ [76, 82, 63], (c == 76 || c == 82 || (true && c == 63)) = true := by decide
  exact all c (p c hc)
theorem pS_inj {l l' : List Nat} (h : pS l = pS l') : l = l' := congrArg TL.tl h
theorem fS_inj {fl gl : List Bool} (h : fS fl = fS gl) : fl = gl := by
  have e : fl.map cdB = gl.map cdB := congrArg TL.tl h
  have inj : ∀ x y : Bool, cdB x = cdB y → x = y := fun x y => by cases x <;> cases y <;> decide
  exact (List.map_inj_right fun x y h => inj x y h).mp e
theorem cds_inj {fl gl : List Bool} (h : fl.map cdB = gl.map cdB) : fl = gl := by
  have inj : ∀ x y : Bool, cdB x = cdB y → x = y := fun x y => by cases x <;> cases y <;> decide
  exact (List.map_inj_right fun x y h => inj x y h).mp h
theorem fS_of {u : Str} (h : madeL false u = true) : ∃ fl : List Bool, u = fS fl := by
  refine ⟨(TL.tl u).map fun c => c == 76, TL.ext_tl ?_⟩
  rw [fS_tl, List.map_map]
  have : ∀ c ∈ TL.tl u, (cdB ∘ fun c => c == 76) c = c := fun c hc => by
    have := List.all_eq_true.mp h c hc
    rw [Bool.false_and, Bool.or_false] at this
    rcases (Bool.or_eq_true _ _).mp this with e | e
    · rw [eq_of_beq e]
      rfl
    · rw [eq_of_beq e]
      rfl
  exact (List.map_id _).symm.trans (List.map_congr_left fun c hc => (this c hc).symm)
theorem flOk_fl {b : TR} {u : Str} (h : flOk false b (.str u) = true) : ∃ fl : List Bool, u = fS fl ∧ fl.length + 1 = nS b := by
  have h : (madeL false u && decide (u.cps.toList.length + 1 = nS b)) = true := h
  obtain ⟨h1, h2⟩ := (Bool.and_eq_true _ _).mp h
  obtain ⟨fl, rfl⟩ := fS_of h1
  have := of_decide_eq_true h2
  refine ⟨fl, rfl, ?_⟩
  rw [show (fS fl).cps.toList = fl.map cdB from rfl, List.length_map] at this
  exact this
theorem flOk_pt {b : TR} {u : Str} (h : flOk true b (.str u) = true) : ∃ st : List Nat, u = pS st ∧ st.length + 1 = nS b ∧ patOk st := by
  have h : (madeL true u && decide (u.cps.toList.length + 1 = nS b)) = true := h
  obtain ⟨h1, h2⟩ := (Bool.and_eq_true _ _).mp h
  refine ⟨TL.tl u, TL.ext_tl rfl, of_decide_eq_true h2, fun c hc => ?_⟩
  have := List.all_eq_true.mp h1 c hc
  rw [Bool.true_and] at this
  rcases (Bool.or_eq_true _ _).mp this with e | e
  · rcases (Bool.or_eq_true _ _).mp e with e | e
    · rw [eq_of_beq e]; decide
    · rw [eq_of_beq e]; decide
  · rw [eq_of_beq e]; decide
theorem flOk_yes {b : TR} {fl : List Bool} (h : fl.length + 1 = nS b) : flOk false b (.str (fS fl)) = true := by
  show (madeL false (fS fl) && decide ((fl.map cdB).length + 1 = nS b)) = true
  rw [fS_made, List.length_map, decide_eq_true h]
  rfl
theorem flOk_pat {b : TR} {st : List Nat} (h : st.length + 1 = nS b) (p : patOk st) : flOk true b (.str (pS st)) = true := by
  show (madeL true (pS st) && decide (st.length + 1 = nS b)) = true
  rw [pS_made p, decide_eq_true h]
  rfl
theorem LR_at {r : Nat} (h : r < 2) : atI ("LR" : Str).cps.toList (r : Int) = some (cdB (r == 0)) := by
  have : r = 0 ∨ r = 1 := by omega
  rcases this with rfl | rfl <;> rfl
theorem ix_LR {r : Nat} {S : SH} {Q : V → SH → Prop} (h : r < 2) (q : Q (.str (sdS (r == 0))) S) : oIx K (.str "LR") (.int (r : Nat)) S Q := ⟨by decide, _, LR_at h, q⟩
theorem mul_LR : ∀ n ∈ List.range 64, ∀ b : Bool, MulOk (sdS b) (n : Nat) ∧ Txt.mul (sdS b) (n : Nat) = fS (List.replicate n b) := by
  unfold MulOk
  decide +kernel
theorem join_fS (fl : List Bool) : Txt.join "" (fl.map sdS) = fS fl := by
  refine TL.ext_tl ((congrArg TL.tl (TL.join_eq _ _)).trans ((TL.tl_join _ _).trans ?_))
  rw [fS_tl]
  show TL.joinL [] ((fl.map sdS).map TL.tl) = _
  rw [List.map_map]
  show TL.joinL [] (fl.map fun b => [cdB b]) = _
  induction fl with
  | nil => rfl
  | cons b fl ih =>
    cases fl with
    | nil => rfl
    | cons c fl =>
      show [cdB b] ++ ([] ++ TL.joinL [] ((c :: fl).map fun b => [cdB b])) = _
      rw [ih]
      rfl
theorem sum_sd : ∀ fl : List Bool, ((fl.map sdS).map (·.length)).sum = fl.length
  | [] => rfl
  | b :: fl => by
    show 1 + ((fl.map sdS).map (·.length)).sum = fl.length + 1
    rw [sum_sd fl, Nat.add_comm]
theorem rgS_nV (n : Nat) : rgS (n : Int) = nV (List.range n) := by
  unfold rgS nV
  rw [Int.toNat_natCast]
theorem vc_l_flags {vs : List V} {H : Hp} (g : Addr × Addr × Bx × Nat) (h : ct_l_flags.pre g vs H) : ∃ S, Own S H ∧ r_l_flags K a (endsC ct_l_flags g H) (start N_l_flags vs) S := by
  refine body_box g h fun b m x n F eg eF hms hok e => ?_
  subst eg
  subst e
  have hok : n ≤ 63 := hok
  refine use_takeB (E := []) 5 (by rfl) hms (by decide) fun y r hy hr => ?_
  walk_at "b"
  · rename_i hb
    have hr : r < 2 := by omega
    refine ⟨by decide, _, LR_at hr, ?_⟩
    obtain ⟨h1, h2⟩ := mul_LR n (List.mem_range.mpr (by omega)) (r == 0)
    refine ⟨h1, ?_⟩
    intro H' o'
    subst eF
    exact end_box (E := []) o' hy fun H2 o2 => ⟨_, List.length_replicate, congrArg V.str h2⟩
  · refine ⟨rfl, ?_⟩
    refine ⟨by unfold rngOk; omega, fun D => ?_⟩
    refine ⟨fun i S => ∃ (y : Bx) (fl : List Bool), y.ms ≠ [] ∧ fl.length = i ∧ S = ⟨F, [(D, .lst ((fl.map sdS).map V.str))] ++ boxG b m y⟩, ⟨y, [], hy, rfl, rfl⟩, fun _ _ _ _ => trivial, ?_, ?_⟩
    · rintro i S hi ⟨y, fl, hy, hl, rfl⟩
      have hi : i < ((n : Nat) : Int).toNat := hi
      rw [Int.toNat_natCast] at hi
      refine yldR_go (nm_go ⟨rfl, ?_⟩)
      refine use_takeB (E := [(D, .lst ((fl.map sdS).map V.str))]) 2 (by rfl) hy (by decide) fun y r hy hr => ?_
      refine ix_LR (by omega) ?_
      refine ⟨0, _, rfl, ?_, ⟨_, SLe.refl _, y, fl ++ [r == 0], hy, by rw [List.length_append, hl]; rfl, ?_⟩⟩
      · rw [List.length_map, List.length_map, hl]
        exact small_of (show i ≤ 63 by omega) (by decide)
      · rw [List.map_append, List.map_append]
        rfl
    · rintro S ⟨y, fl, hy, hl, rfl⟩
      have hl : fl.length = ((n : Nat) : Int).toNat := hl
      rw [Int.toNat_natCast] at hl
      refine ⟨fl.map sdS, .inl (.inl ⟨0, rfl⟩), ?_, ?_⟩
      · rw [sum_sd]
        show fl.length + (fl.map sdS).length * 0 ≤ 16777216
        omega
      · rw [join_fS]
        intro H' o'
        subst eF
        exact end_box (E := [(D, .lst ((fl.map sdS).map V.str))]) o' hy fun H2 o2 => ⟨fl, hl, rfl⟩
end
section
variable {K : PySem.W.Frag} {a : Ads}
open TR
theorem iV_at {cs : List Int} {i : Nat} {v : V} (h : (cs.map V.int)[i]? = some v) : ∃ c, cs[i]? = some c ∧ v = .int c := by
  rw [List.getElem?_map] at h
  cases e : cs[i]? with
  | none =>
    rw [e] at h
    cases h
  | some c =>
    rw [e] at h
    cases h
    exact ⟨c, rfl, rfl⟩
theorem cut_ints (ns : List Int) : ∃ cs : List Int, cutV (ns.map V.int) none (some 63) = cs.map V.int ∧ cs.length ≤ 63 := by
  refine ⟨ns.take (min 63 ns.length), ?_, by rw [List.length_take]; omega⟩
  unfold cutV
  rw [HT.sIx_none, List.length_map, Nat.sub_zero, List.drop_zero]
  show List.take (HT.sIx ns.length ns.length (some ((63 : Nat) : Int))) _ = _
  rw [HT.sIx_nat, List.map_take]
theorem vc_l_box {vs : List V} {H : Hp} (g : Addr × List Int) (h : (ct_l_box K).pre g vs H) : ∃ S, Own S H ∧ r_l_box K a (endsC (ct_l_box K) g H) (start N_l_box vs) S := by
  obtain ⟨p, ns⟩ := g
  obtain ⟨rfl, hs⟩ := h
  have hs : SqL K H p (ns.map V.int) := hs
  refine ⟨⟨H, []⟩, Own.base H, ?_⟩
  obtain ⟨cs, ec, hc⟩ := cut_ints ns
  refine .inl ⟨ns.map V.int, .inr hs, fun r => ?_⟩
  rw [ec]
  refine .inl ⟨cs.map V.int, .inl ⟨0, rfl⟩, fun D => ?_⟩
  refine ⟨fun i S => S = ⟨H, [(D, .lst ((cs.take i).map V.int)), (r, .lst (cs.map V.int))]⟩, rfl, ?_, ?_, ?_⟩
  · rintro i S _ rfl
    exact .inl ⟨1, rfl⟩
  · rintro i S hi rfl v hv
    obtain ⟨c, hcc, rfl⟩ := iV_at hv
    refine ⟨rfl, ?_⟩
    refine ⟨0, _, rfl, ?_, ⟨_, SLe.refl _, ?_⟩⟩
    · rw [List.length_map, List.length_take]
      exact small_of (show min i cs.length ≤ 100 by omega) (by decide)
    · show _ = SH.mk H [(D, .lst ((cs.take (i + 1)).map V.int)), (r, .lst (cs.map V.int))]
      rw [map_more hcc]
      rfl
  rintro S rfl
  have el : (itL K r (cs.map V.int)).n = cs.length := List.length_map _
  rw [el, List.take_length]
  refine .inl ⟨cs.map V.int, .inl ⟨0, rfl⟩, fun D2 => ?_⟩
  refine ⟨fun i S => S = ⟨H, [(D2, .lst (((cs.take i).map fun c => c % 2147483647).map V.int)), (D, .lst (cs.map V.int)), (r, .lst (cs.map V.int))]⟩, rfl, ?_, ?_, ?_⟩
  · rintro i S _ rfl
    exact .inl ⟨1, rfl⟩
  · rintro i S hi rfl v hv
    obtain ⟨c, hcc, rfl⟩ := iV_at hv
    refine ⟨rfl, ?_⟩
    refine ⟨by walk_at "p", ?_⟩
    refine ⟨0, _, rfl, ?_, ⟨_, SLe.refl _, ?_⟩⟩
    · rw [List.length_map, List.length_map, List.length_take]
      exact small_of (show min i cs.length ≤ 100 by omega) (by decide)
    · show _ = SH.mk H [(D2, .lst (((cs.take (i + 1)).map fun c => c % 2147483647).map V.int)), (D, .lst (cs.map V.int)), (r, .lst (cs.map V.int))]
      rw [map_more hcc, List.map_append]
      rfl
  rintro S rfl
  have el : (itL K D (cs.map V.int)).n = cs.length := List.length_map _
  rw [el, List.take_length]
  refine ⟨fun σ S => ∃ (m : Addr) (ms : List Int) (E : List (Addr × HO)) (x0 x3 : Option V), ms ≠ [] ∧ (D, HO.lst (cs.map V.int)) ∈ E ∧ σ = [x0, some (.ref D), some (.ref m), x3] ∧ S = ⟨H, (m, .lst (ms.map V.int)) :: E⟩, ?_, ?_⟩
  · refine .inl ⟨(cs.map fun c => c % 2147483647).map V.int, .inl ⟨0, rfl⟩, ?_⟩
    cases cs with
    | nil =>
      refine ⟨show 1 ≤ sizeLine by decide, fun q => ?_⟩
      exact ⟨_, SLe.refl _, q, [0], [(D2, .lst []), (D, .lst []), (r, .lst [])], _, _, (fun z => nomatch z), .tail _ (.head _), rfl, rfl⟩
    | cons c cs =>
      exact ⟨_, SLe.refl _, D2, (c :: cs).map fun c => c % 2147483647, [(D, .lst ((c :: cs).map V.int)), (r, .lst ((c :: cs).map V.int))], _, _, (fun z => nomatch z), .head _, rfl, rfl⟩
  · rintro σ S ⟨m, ms, E, x0, x3, hms, hD, rfl, rfl⟩
    have hD' : mL K H ((m, .lst (ms.map V.int)) :: E) D (cs.map V.int) := .inl (.tail _ hD)
    refine .inl ⟨cs.map V.int, hD'.s (List.Subset.refl _), fun G0 => ?_⟩
    refine ⟨fun i S => ∃ gs : List Int, gs.length ≤ i ∧ S = ⟨H, (G0, .lst (gs.map V.int)) :: (m, .lst (ms.map V.int)) :: E⟩, ⟨[], Nat.le_refl _, rfl⟩, ?_, ?_, ?_⟩
    · rintro i S _ ⟨gs, _, rfl⟩
      exact hD'.s fun z hz => .tail _ hz
    · rintro i S hi ⟨gs, hg, rfl⟩ v hv
      obtain ⟨c, hcc, rfl⟩ := iV_at hv
      have hi : i < (cs.map V.int).length := hi
      rw [List.length_map] at hi
      refine ⟨rfl, ?_⟩
      refine ⟨⟨by decide, by decide, by decide⟩, ?_⟩
      walk_at "b"
      · refine ⟨0, _, rfl, ?_, ⟨_, SLe.refl _, gs ++ [c], by rw [List.length_append, List.length_singleton]; omega, ?_⟩⟩
        · rw [List.length_map]
          exact small_of (show gs.length ≤ 100 by omega) (by decide)
        · rw [List.map_append]
          rfl
      · exact ⟨_, SLe.refl _, gs, by omega, rfl⟩
    · rintro S ⟨gs, _, rfl⟩
      refine ⟨show 3 ≤ sizeLine by decide, fun b => ?_⟩
      intro H' o'
      have nd : (b :: G0 :: m :: E.map (·.1)).Nodup := o'.nd
      have g1 := o'.gs (b, .lst [.ref G0, .ref m, .int 0]) (.head _)
      have g2 := o'.gs (G0, .lst (gs.map V.int)) (.tail _ (.head _))
      have g3 := o'.gs (m, .lst (ms.map V.int)) (.tail _ (.tail _ (.head _)))
      simp only [List.nodup_cons, List.mem_cons, not_or] at nd
      exact ⟨b, m, ⟨G0, gs, ms, 0⟩, rfl, g1.2, g2.2, g3.2, ⟨g1.1, g2.1, g3.1, nd.1.1, nd.1.2.1, nd.2.1.1⟩, hms, fun c u e => o'.fr c u e⟩
/-! ### bent flags -/
theorem cutS_tl (z : Str) (lo hi : Option Int) : TL.tl (cutS z lo hi) = ((TL.tl z).drop (HT.sIx z.length 0 lo)).take (HT.sIx z.length z.length hi - HT.sIx z.length 0 lo) := rfl
theorem cut_to (l : List Nat) (i : Nat) : cutS (pS l) none (some (i : Int)) = pS (l.take i) := by
  refine TL.ext_tl ?_
  rw [cutS_tl, HT.sIx_none, HT.sIx_nat, Nat.sub_zero, List.drop_zero, pS_tl, pS_tl, pS_len]
  by_cases h : i ≤ l.length
  · rw [Nat.min_eq_left h]
  · rw [List.take_of_length_le (by omega), List.take_of_length_le (by omega)]
theorem cut_from (l : List Nat) (i : Nat) : cutS (pS l) (some (i : Int)) none = pS (l.drop i) := by
  refine TL.ext_tl ?_
  rw [cutS_tl, HT.sIx_none, HT.sIx_nat, pS_tl, pS_tl, pS_len]
  rw [List.take_of_length_le (by rw [List.length_drop]; exact Nat.le_refl _)]
  by_cases h : i ≤ l.length
  · rw [Nat.min_eq_left h]
  · rw [List.drop_of_length_le (by omega), List.drop_of_length_le (by omega)]
theorem cut_mid (l : List Nat) (i j : Nat) : cutS (pS l) (some (i : Int)) (some (j : Int)) = pS ((l.take j).drop i) := by
  refine TL.ext_tl ?_
  rw [cutS_tl, HT.sIx_nat, HT.sIx_nat, pS_tl, pS_tl, pS_len, List.drop_take]
  by_cases h : j ≤ l.length
  · by_cases h2 : i ≤ l.length
    · rw [Nat.min_eq_left h, Nat.min_eq_left h2]
    · rw [List.drop_of_length_le (by omega), List.drop_of_length_le (by omega), List.take_nil, List.take_nil]
  · by_cases h2 : i ≤ l.length
    · rw [Nat.min_eq_left h2, List.take_of_length_le (by rw [List.length_drop]; omega), List.take_of_length_le (by rw [List.length_drop]; omega)]
    · rw [List.drop_of_length_le (by omega), List.drop_of_length_le (by omega), List.take_nil, List.take_nil]
theorem pS_app (l l' : List Nat) : pS l ++ pS l' = pS (l ++ l') := TL.ext_tl (by rw [TL.tl_append, pS_tl, pS_tl, pS_tl])
theorem sd_pS (b : Bool) : sdS b = pS [cdB b] := rfl
def oddS (q : Bool) : Str := if q then "!.lx" else "?.lx"
theorem odd_at {r : Nat} (q : Bool) (h : r < 4) : ∃ c, atI (oddS q).cps.toList (r : Int) = some c ∧ c ∈ [76, 82, 63, 46, 108, 120, 33] ∧ (c == 76 || c == 82 || (q && c == 63)) = false := by
  have : r = 0 ∨ r = 1 ∨ r = 2 ∨ r = 3 := by omega
  cases q
  · rcases this with rfl | rfl | rfl | rfl
    · exact ⟨63, rfl, by decide, by decide⟩
    · exact ⟨46, rfl, by decide, by decide⟩
    · exact ⟨108, rfl, by decide, by decide⟩
    · exact ⟨120, rfl, by decide, by decide⟩
  · rcases this with rfl | rfl | rfl | rfl
    · exact ⟨33, rfl, by decide, by decide⟩
    · exact ⟨46, rfl, by decide, by decide⟩
    · exact ⟨108, rfl, by decide, by decide⟩
    · exact ⟨120, rfl, by decide, by decide⟩
theorem ix_odd {r : Nat} {q : Bool} {S : SH} {Q : V → SH → Prop} (h : r < 4) (k : ∀ c, c ∈ [76, 82, 63, 46, 108, 120, 33] → (c == 76 || c == 82 || (q && c == 63)) = false → Q (.str ⟨#[c]⟩) S) : oIx K (.str (if q then "!.lx" else "?.lx")) (.int (r : Nat)) S Q := by
  obtain ⟨c, e1, e2, e3⟩ := odd_at q h
  refine ⟨?_, c, e1, k c e2 e3⟩
  cases q <;> decide
theorem pat_in {st : List Nat} (p : patOk st) : ∀ c ∈ st, c ∈ [76, 82, 63, 46, 108, 120, 33] := fun c hc => by
  have all : ∀ c ∈ [76, 82, 63], c ∈ [76, 82, 63, 46, 108, 120, 33] := by decide
  exact all c (p c hc)
theorem bad_odd {q : Bool} {n c : Nat} {l l' : List Nat} (hc : c ∈ [76, 82, 63, 46, 108, 120, 33]) (hq : (c == 76 || c == 82 || (q && c == 63)) = false) (p : patOk l) (p' : patOk l') (h2 : l.length + l'.length ≤ 70) {H H' : Hp} : BadF q n H (.str (pS l ++ ⟨#[c]⟩ ++ pS l')) H' := by
  have e : (pS l ++ ⟨#[c]⟩ ++ pS l').cps.toList = l ++ [c] ++ l' := by
    show TL.tl _ = _
    rw [TL.tl_append, TL.tl_append, pS_tl, pS_tl]
  refine .inl ⟨_, rfl, ⟨?_, ?_⟩, ?_⟩
  · rw [e, List.length_append, List.length_append, List.length_singleton]
    omega
  · rw [e]
    intro x hx
    rcases List.mem_append.mp hx with hx | hx
    · rcases List.mem_append.mp hx with hx | hx
      · exact pat_in p _ hx
      · rw [List.mem_singleton.mp hx]
        exact hc
    · exact pat_in p' _ hx
  · have : madeL q (pS l ++ ⟨#[c]⟩ ++ pS l') = false := by
      unfold madeL
      rw [e]
      refine List.all_eq_false.mpr ⟨c, List.mem_append_left _ (List.mem_append_right _ (.head _)), ?_⟩
      rw [hq]
      exact Bool.false_ne_true
    rw [this]
    rfl
theorem bad_len {q : Bool} {n : Nat} {l : List Nat} (h : l.length ≠ n) (h2 : l.length ≤ 100) (p : patOk l) {H H' : Hp} : BadF q n H (.str (pS l)) H' := by
  refine .inl ⟨_, rfl, pS_sgn h2 p, ?_⟩
  show (_ && decide (l.length = n)) = false
  rw [decide_eq_false h, Bool.and_false]
theorem pat_sub {l l' : List Nat} (p : patOk l) (h : ∀ c ∈ l', c ∈ l) : patOk l' := fun c hc => p c (h c hc)
theorem vc_l_bent {vs : List V} {H : Hp} (g : Addr × Addr × Bx × List Nat × Bool) (h : ct_l_bent.pre g vs H) : ∃ S, Own S H ∧ r_l_bent K a (endsC ct_l_bent g H) (start N_l_bent vs) S := by
  refine body_box g h fun b m x g F eg eF hms hok e => ?_
  subst eg
  obtain ⟨fl, q⟩ := g
  subst e
  obtain ⟨hl, hp⟩ := hok
  have hl : fl.length ≤ 63 := hl
  have hp : patOk fl := hp
  have hline : (pS fl).length ≤ sizeLine := pS_line (by omega)
  have fin : ∀ {y : Bx} {v : V} {E : List (Addr × HO)}, y.ms ≠ [] → (∀ H1 H2, Own ⟨H1, E⟩ H2 → BadF q fl.length H1 v H2) → ∀ H', Own ⟨F, E ++ boxG b m y⟩ H' → ct_l_bent.post (b, m, x, fl, q) H v H' := fun {y v E} hy hv H' o' => by
    subst eF
    exact end_box (E := E) o' hy fun H2 o2 => hv _ _ o2
  refine use_takeB (E := []) 8 (by rfl) hms (by decide) fun y r hy hr => ?_
  refine ⟨hline, ?_⟩
  rw [pS_len]
  refine use_takeB (E := []) (fl.length : Nat) (by rfl) hy (by omega) fun y at_ hy hat => ?_
  walk_at "b"
  · rename_i hb
    refine ⟨hline, ?_⟩
    rw [cut_to]
    refine op_go (var_go (v := .str (if q then "!.lx" else "?.lx")) (by rfl) (var_go (v := .int (r : Nat)) (by rfl) ?_))
    refine ix_odd (by omega) fun c e1 e2 => ?_
    refine ⟨?_, ?_⟩
    · rw [pS_len, List.length_take]
      show min at_ fl.length + 1 ≤ sizeLine
      exact Nat.le_trans (show _ ≤ 100 by omega) (by decide)
    refine ⟨hline, ?_⟩
    have ec : cutS (pS fl) (some ((at_ : Int) + 1)) none = pS (fl.drop (at_ + 1)) := cut_from fl (at_ + 1)
    rw [ec]
    refine ⟨?_, ?_⟩
    · rw [TL.len_tl, TL.tl_append, List.length_append, pS_tl, pS_len, List.length_take, List.length_drop]
      show min at_ fl.length + 1 + _ ≤ sizeLine
      exact Nat.le_trans (show _ ≤ 200 by omega) (by decide)
    exact fin (E := []) hy fun H1 H2 _ => bad_odd e1 e2 (pat_sub hp fun c h => List.mem_of_mem_take h) (pat_sub hp fun c h => List.mem_of_mem_drop h) (by rw [List.length_take, List.length_drop]; omega)
  · walk_at "b"
    · refine use_takeB (E := []) 2 (by rfl) hy (by decide) fun y r2 hy hr2 => ?_
      refine ix_LR (by omega) ?_
      refine ⟨?_, ?_⟩
      · rw [pS_len]
        show fl.length + 1 ≤ sizeLine
        exact Nat.le_trans (show _ ≤ 200 by omega) (by decide)
      rw [sd_pS, pS_app]
      refine fin (E := []) hy fun H1 H2 _ => bad_len (l := fl ++ [cdB (r2 == 0)]) (by rw [List.length_append, List.length_singleton]; show fl.length + 1 ≠ fl.length; omega) (by rw [List.length_append, List.length_singleton]; omega) fun c hc => ?_
      rcases List.mem_append.mp hc with hc | hc
      · exact hp c hc
      · rw [List.mem_singleton.mp hc]
        cases (r2 == 0) <;> decide
    · walk_at "b"
      · refine ⟨hline, ?_⟩
        rw [pS_len]
        cases fl with
        | nil => exact fin (E := []) hy fun H1 H2 _ => bad_len (n := 0) (l := [82]) (by decide) (by decide) (fun c hc => by rw [List.mem_singleton.mp hc]; decide)
        | cons f fl =>
          have : (((f :: fl).length : Nat) : Int) != 0 := by
            rw [bne_iff_ne]
            show ((fl.length + 1 : Nat) : Int) ≠ 0
            omega
          rw [this]
          refine ⟨hline, ?_⟩
          have ec : cutS (pS (f :: fl)) (some 1) none = pS fl := cut_from (f :: fl) 1
          rw [ec]
          exact fin (E := []) hy fun H1 H2 _ => bad_len (by show fl.length ≠ fl.length + 1; omega) (by have : fl.length + 1 ≤ 63 := hl; omega) (pat_sub hp fun c h => .tail _ h)
      · walk_at "b"
        · refine fun D => ?_
          refine ⟨fun i S => S = ⟨F, [(D, .lst (((fl.take i).map fun c => pS [c]).map V.str))] ++ boxG b m y⟩, rfl, fun _ _ _ _ => trivial, ?_, ?_⟩
          · rintro i S hi rfl c hc
            have ef : fl[i]? = some c := by
              rw [← pS_tl fl, Array.getElem?_toList]
              exact hc
            refine ⟨rfl, ?_⟩
            refine ⟨0, _, rfl, ?_, ⟨_, SLe.refl _, ?_⟩⟩
            · rw [List.length_map, List.length_map, List.length_take]
              exact small_of (show min i fl.length ≤ 100 by omega) (by decide)
            · show _ = SH.mk F ([(D, .lst (((fl.take (i + 1)).map fun c => pS [c]).map V.str))] ++ boxG b m y)
              rw [map_more ef, List.map_append]
              rfl
          · rintro S rfl
            refine fin (E := [(D, .lst (((fl.take (itS (pS fl)).n).map fun c => pS [c]).map V.str))]) hy fun H1 H2 o2 => .inr (.inr ⟨D, _, rfl, (o2.gs _ (.head _)).2, (o2.gs (D, .lst (((fl.take (itS (pS fl)).n).map fun c => pS [c]).map V.str)) (.head _)).1, ?_, fun u hu => ?_⟩)
            · rw [List.length_map, List.length_take]
              omega
            · obtain ⟨f, hf, rfl⟩ := List.mem_map.mp hu
              exact ⟨f, hp f (List.mem_of_mem_take hf), rfl⟩
        · exact fin (E := []) hy fun H1 H2 _ => .inr (.inl rfl)
end
section
variable {K : PySem.W.Frag} {a : Ads}
open TR
/-! ### the data of a trail -/
theorem nm_lay : ∀ ns : List Nat, PyData.canLayAll0 (ns.map fun n => PyData.int (n : Nat)) = true
  | [] => rfl
  | n :: ns => by
    show (PyData.canLay0 (.int _) && PyData.canLayAll0 (ns.map fun n => PyData.int (n : Nat))) = true
    rw [nm_lay ns]
    rfl
theorem nm_deep : ∀ ns : List Nat, PyData.depthAll (ns.map fun n => PyData.int (n : Nat)) = 0
  | [] => rfl
  | n :: ns => by
    show max (PyData.depth (.int _)) (PyData.depthAll (ns.map fun n => PyData.int (n : Nat))) = 0
    rw [nm_deep ns]
    rfl
theorem tr_lay (i : Nat) (t : Tr) : (trD i t).canLay0 = true := by
  have hh : (hgD t.2).canLay0 = true := by cases t.2 <;> rfl
  have e : (trD i t).canLay0 = (true && (PyData.canLayAll0 (t.1.map fun n => PyData.int (n : Nat)) && ((hgD t.2).canLay0 && true))) := rfl
  rw [e, nm_lay, hh]
  rfl
theorem tr_shaped (i : Nat) (t : Tr) : SeqAt.shaped (trD i t) = true := by
  unfold SeqAt.shaped
  rw [tr_lay, Bool.true_and]
  refine decide_eq_true ?_
  have hh : (hgD t.2).depth = 0 := by cases t.2 <;> rfl
  have e : (trD i t).depth = max 0 (max (PyData.depthAll (t.1.map fun n => PyData.int (n : Nat)) + 1) (max (hgD t.2).depth 0)) + 1 := rfl
  rw [e, nm_deep, hh]
  decide
theorem tr_eqv (i : Nat) (t : Tr) : PyData.eqv (trD i t) (trD i t) = true := SeqAt.eqv_refl _ (tr_lay i t)
theorem hg_V {F : Hp} {G : List (Addr × HO)} {v : V} {o : Option Nat} (h : MD K F G v (hgD o)) : v = hgV o := by
  cases o with
  | none => exact h.nonI
  | some f => exact h.intI
theorem V_hg {F : Hp} {G : List (Addr × HO)} (o : Option Nat) : MD K F G (hgV o) (hgD o) := by
  cases o with
  | none => exact .non
  | some f => exact .int _
/-- a trail's value, opened -/
theorem tr_open {F : Hp} {G : List (Addr × HO)} {v : V} {i : Nat} {t : Tr} (h : MD K F G v (trD i t)) : ∃ p q, v = .ref p ∧ mT K F G p [.int (i : Nat), .ref q, hgV t.2] ∧ mT K F G q (nV t.1) := by
  obtain ⟨p, xs, rfl, hp, hx⟩ := h.tupI
  cases hx with
  | cons h1 hx =>
    cases hx with
    | cons h2 hx =>
      cases hx with
      | cons h3 hx =>
        cases hx
        obtain ⟨q, ys, rfl, hq, hy⟩ := MD.tupI (show MD K F G _ (.tuple _) from h2)
        rw [h1.intI, hg_V h3] at hp
        rw [hy.ints] at hq
        exact ⟨p, q, rfl, hp, hq⟩
theorem tr_make {F : Hp} {G : List (Addr × HO)} {p q : Addr} {i : Nat} {t : Tr} (hp : mT K F G p [.int (i : Nat), .ref q, hgV t.2]) (hq : mT K F G q (nV t.1)) : MD K F G (.ref p) (trD i t) :=
  .tup hp (.cons (.int _) (.cons (.tup hq (MDs.of_ints _)) (.cons (V_hg _) .nil)))
theorem sd_inj {c d : Bool} (h : V.str (sdS c) = V.str (sdS d)) : c = d := by
  have := fS_inj (fl := [c]) (gl := [d]) (V.str.inj h)
  exact List.head_eq_of_cons_eq this
theorem st_open {F : Hp} {G : List (Addr × HO)} {v : V} {s : Nat × Bool} (h : MD K F G v (stD s)) : ∃ p, v = .ref p ∧ mT K F G p [.int (s.1 : Nat), .str (sdS s.2)] := by
  obtain ⟨p, xs, rfl, hp, hx⟩ := h.tupI
  cases hx with
  | cons h1 hx =>
    cases hx with
    | cons h2 hx =>
      cases hx
      rw [h1.intI, h2.strI] at hp
      exact ⟨p, rfl, hp⟩
theorem fS_at {fl : List Bool} {i : Nat} {c : Bool} (h : fl[i]? = some c) : atI (fS fl).cps.toList (i : Int) = some (cdB c) := atI_at (by
  show (fl.map cdB)[i]? = _
  rw [List.getElem?_map, h]
  rfl)
theorem okF_at {fl : List Bool} {s : Nat × Bool} {c : Bool} (h : fl[s.1]? = some c) : okF fl s = (c == s.2) := by
  unfold okF
  rw [h]
  rfl
theorem flat_nV : ∀ ns : List Nat, (nV ns).all flatV = true
  | [] => rfl
  | _ :: ns => flat_nV ns
theorem in_nV (f : Nat) : ∀ ns : List Nat, inV (.int (f : Nat)) (nV ns) = ns.contains f
  | [] => rfl
  | n :: ns => by
    show (((n : Int) == (f : Int)) || inV (.int (f : Nat)) (nV ns)) = ((f == n) || ns.contains f)
    rw [in_nV f ns]
    congr 1
    rw [Bool.eq_iff_iff, beq_iff_eq, beq_iff_eq]
    omega
theorem in_non : ∀ ns : List Nat, inV .non (nV ns) = false
  | [] => rfl
  | n :: ns => in_non ns
theorem use_lisI {W : sWX} {σ : L2.St} {S : SH} {Q : V → SH → Prop} {vs : List V} (i : Int) (e : vs = [.int i]) (h : Q (.bl true) S) : rC (ct_is_integer K) W vs σ S Q :=
  use_isI (.int i) .int e (fun _ _ => rfl) h
/-! ### the last three of the stack -/
theorem open_at : ∀ k ∈ List.range 3, decide (V.str (kdS k) = V.str "open") = (k == 0) := by decide +kernel
theorem three_eq (bs : List Bool) (h : bs.length ≤ 3) : PyData.eqv (.list (bs.map PyData.bool)) (.list [.bool true, .bool false, .bool false]) = (bs == [true, false, false]) ∧ SeqAt.shaped (.list (bs.map PyData.bool)) = true := by
  match bs, h with
  | [], _ => decide +kernel
  | [a], _ => cases a <;> decide +kernel
  | [a, b], _ => cases a <;> cases b <;> decide +kernel
  | [a, b, c], _ => cases a <;> cases b <;> cases c <;> decide +kernel
theorem dp_bools (H : Hp) : ∀ bs : List Bool, DpAll K H (bs.map V.bl) (bs.map PyData.bool)
  | [] => .nil
  | b :: bs => .cons (.bl b) (dp_bools H bs)
theorem cut_three (xs : List V) : cutV xs (some (-3)) none = xs.drop (xs.length - 3) := by
  unfold cutV
  rw [HT.sIx_none]
  have e : HT.sIx xs.length 0 (some (-3)) = xs.length - 3 := by
    show (if (-3 : Int) < 0 then ((-3 : Int) + (xs.length : Int)).toNat else min (-3 : Int).toNat xs.length) = _
    rw [if_pos (by decide)]
    omega
  rw [e]
  exact List.take_of_length_le (by rw [List.length_drop]; omega)
theorem vc_ends_fork {vs : List V} {H : Hp} (g : V × List PN) (h : (ct_ends_fork K).pre g vs H) : ∃ S, Own S H ∧ r_ends_fork K a (endsC (ct_ends_fork K) g H) (start N_ends_fork vs) S := by
  obtain ⟨u, st⟩ := g
  obtain ⟨rfl, ⟨p, xs, e1, hp, hx⟩, hl, hk⟩ := h
  have e1 : u = .ref p := e1
  subst e1
  have hx : MDs K H [] xs (st.map pnD) := hx
  have hk : ∀ n ∈ st, n.1 ≤ 2 := hk
  have lx : xs.length = st.length := by rw [hx.len, List.length_map]
  refine ⟨⟨H, []⟩, Own.base H, ?_⟩
  refine .inl ⟨xs, .inr hp, fun r => ?_⟩
  rw [cut_three]
  have hy := hx.drop (xs.length - 3)
  rw [← List.map_drop, lx] at hy
  generalize hY : xs.drop (xs.length - 3) = ys
  rw [lx] at hY
  rw [hY] at hy
  generalize hZ : st.drop (st.length - 3) = zs at hy
  have lz : zs.length ≤ 3 := by
    rw [← hZ, List.length_drop]
    omega
  have ly : ys.length = zs.length := by rw [hy.len, List.length_map]
  refine .inl ⟨ys, .inl ⟨0, rfl⟩, fun D => ?_⟩
  refine ⟨fun i S => S = ⟨H, [(D, .lst (((zs.take i).map fun n => n.1 == 0).map V.bl)), (r, .lst ys)]⟩, rfl, ?_, ?_, ?_⟩
  · rintro i S _ rfl
    exact .inl ⟨1, rfl⟩
  · rintro i S hi rfl v hv
    obtain ⟨d, hd, hv2⟩ := hy.at hv
    have hi : i < ys.length := hi
    rw [ly] at hi
    obtain ⟨n, hn⟩ : ∃ n, zs[i]? = some n := ⟨_, List.getElem?_eq_getElem hi⟩
    rw [List.getElem?_map, hn] at hd
    cases hd
    obtain ⟨q, ws, rfl, hq, hw⟩ := hv2.tupI
    cases hw with
    | cons h1 hw =>
      rw [h1.strI] at hq
      refine ⟨rfl, ?_⟩
      refine ⟨_, _, .inr (hq.s fun _ z => nomatch z), atI_at (i := 0) rfl, ?_⟩
      refine ⟨0, _, rfl, ?_, ⟨_, SLe.refl _, ?_⟩⟩
      · rw [List.length_map, List.length_map, List.length_take]
        exact small_of (show min i zs.length ≤ 100 by omega) (by decide)
      · show _ = SH.mk H [(D, .lst (((zs.take (i + 1)).map fun n => n.1 == 0).map V.bl)), (r, .lst ys)]
        rw [map_more hn, List.map_append]
        show SH.mk H [(D, .lst (_ ++ [V.bl (decide (V.str (kdS n.1) = V.str "open"))])), _] = _
        have hm : n ∈ st := by
          rw [← hZ] at hn
          exact List.mem_of_mem_drop (List.mem_of_getElem? hn)
        rw [open_at n.1 (List.mem_range.mpr (Nat.lt_succ_of_le (hk n hm)))]
        rfl
  · rintro S rfl
    have en : (itL K r ys).n = zs.length := ly
    rw [en, List.take_length]
    refine ⟨show 3 ≤ sizeLine by decide, fun D2 => ?_⟩
    obtain ⟨h1, h2⟩ := three_eq (zs.map fun n => n.1 == 0) (by rw [List.length_map]; exact lz)
    refine ⟨_, _, fun H' o => .lst (o.l (.inl ⟨1, rfl⟩)) (dp_bools _ _), fun H' o => .lst (o.l (.inl ⟨0, rfl⟩)) (dp_bools _ [true, false, false]), h2, by decide +kernel, ?_⟩
    show (endsC (ct_ends_fork K) (V.ref p, st) H).rt (V.bl (PyData.eqv (.list ((zs.map fun n => n.1 == 0).map PyData.bool)) (.list [.bool true, .bool false, .bool false]))) _
    rw [h1]
    intro H' o'
    refine ⟨?_, fun c u e => o'.fr c u e⟩
    show _ = V.bl (endsF st)
    unfold endsF
    rw [hZ]
end
section
variable {K : PySem.W.Frag} {a : Ads}
open TR
theorem run_step {t : List Nat} {i c : Nat} {s0 s fin : PS} (hc : t[i]? = some c) (h : runP (t.take i) 0 s0 = some s) (hf : runP t 0 s0 = some fin) : ∃ s3, stepP s i c = some s3 ∧ runP (t.take (i + 1)) 0 s0 = some s3 := by
  obtain ⟨hi, hc2⟩ := List.getElem?_eq_some_iff.mp hc
  have hl : (t.take i).length = i := by
    rw [List.length_take]
    omega
  have e : t.take i ++ c :: t.drop (i + 1) = t := by rw [← hc2, List.getElem_cons_drop, List.take_append_drop]
  have hf2 : runP (t.take i ++ c :: t.drop (i + 1)) 0 s0 = some fin := by rw [e]; exact hf
  rw [runP_app, h, hl, Nat.zero_add] at hf2
  have hf3 : (stepP s i c).bind (fun s2 => runP (t.drop (i + 1)) (i + 1) s2) = some fin := hf2
  cases hs : stepP s i c with
  | none =>
    rw [hs] at hf3
    cases hf3
  | some s3 =>
    refine ⟨s3, rfl, ?_⟩
    rw [take_more hc, runP_app, h, hl, Nat.zero_add]
    show (stepP s i c).bind (fun s2 => some s2) = _
    rw [hs]
    rfl
theorem joinP_is {st : List PN} {rows : List TR.Row} {n p : Nat} {s3 : PS} (h : joinP st rows n p = some s3) : ∃ rest o l r, st = rest ++ [o, l, r] ∧ s3 = (rest ++ [(2, l.2.2.2.1, l.2.2.1, r.2.2.2.1, o.2.2.2.2)], rows ++ [(l.2.2.2.1, (l.1, l.2.1), (r.1, r.2.1), (l.2.2.1, r.2.2.2.1), (o.2.2.2.2, p + 1))], n) := by
  unfold joinP at h
  split at h
  · rename_i r l o rest er
    refine ⟨rest.reverse, o, l, r, ?_, (Option.some.inj h).symm⟩
    have := congrArg List.reverse er
    rw [List.reverse_reverse] at this
    rw [this, List.reverse_cons, List.reverse_cons, List.reverse_cons, List.append_assoc, List.append_assoc]
    rfl
  · cases h
theorem mds_split {F : Hp} {G : List (Addr × HO)} : ∀ {ds es : List PyData} {vs : List V}, MDs K F G vs (ds ++ es) → ∃ v1 v2, vs = v1 ++ v2 ∧ MDs K F G v1 ds ∧ MDs K F G v2 es
  | [], es, vs, h => ⟨[], vs, rfl, .nil, h⟩
  | d :: ds, es, vs, h => by
    cases h with
    | cons h1 h2 =>
      obtain ⟨v1, v2, e, a1, a2⟩ := mds_split (ds := ds) h2
      exact ⟨_ :: v1, v2, by rw [e]; rfl, .cons h1 a1, a2⟩
theorem at2_2 {E : List (Addr × HO)} {x y : Addr × HO} : (E ++ [x, y])[E.length + 1]? = some y := by
  rw [List.getElem?_append_right (by omega), show E.length + 1 - E.length = 1 by omega]
  rfl
theorem set2_2 {E : List (Addr × HO)} {x y z : Addr × HO} : (E ++ [x, y]).set (E.length + 1) z = E ++ [x, z] := by
  rw [List.set_append_right _ _ (by omega), show E.length + 1 - E.length = 1 by omega]
  rfl
theorem pushS {H : Hp} {E : List (Addr × HO)} {x : Addr × HO} {ps : Addr} {sv : List V} {y : V} {Q : V → SH → Prop} (hl : sv.length < sizeLine) (h : Q .non ⟨H, E ++ [x, (ps, .lst (sv ++ [y]))]⟩) : mAppend (.ref ps) [y] ⟨H, E ++ [x, (ps, .lst sv)]⟩ Q := by
  refine ⟨E.length + 1, sv, at2_2, hl, ?_⟩
  show Q .non ⟨H, (E ++ [x, (ps, .lst sv)]).set (E.length + 1) (ps, .lst (sv ++ [y]))⟩
  rw [set2_2]
  exact h
theorem popS {H : Hp} {E : List (Addr × HO)} {x : Addr × HO} {ps : Addr} {sv : List V} {y : V} {Q : V → SH → Prop} (h : Q y ⟨H, E ++ [x, (ps, .lst sv)]⟩) : mPop (.ref ps) [] ⟨H, E ++ [x, (ps, .lst (sv ++ [y]))]⟩ Q := by
  refine ⟨E.length + 1, sv ++ [y], y, at2_2, ?_, ?_⟩
  · rw [List.length_append, List.length_singleton, Nat.add_sub_cancel, List.getElem?_append_right (Nat.le_refl _), Nat.sub_self]
    rfl
  · show Q y ⟨H, (E ++ [x, (ps, .lst (sv ++ [y]))]).set (E.length + 1) (ps, .lst (sv ++ [y]).dropLast)⟩
    rw [set2_2, List.dropLast_concat]
    exact h
theorem tyS {H : Hp} {E : List (Addr × HO)} {x : Addr × HO} {ps : Addr} {sv : List V} : sTy K "list" (.ref ps) ⟨H, E ++ [x, (ps, .lst sv)]⟩ := .inl ⟨rfl, sv, .inl ⟨_, at2_2⟩⟩
theorem tyR {H : Hp} {E G : List (Addr × HO)} {pr : Addr} {rv : List V} : sTy K "list" (.ref pr) ⟨H, E ++ (pr, .lst rv) :: G⟩ := .inl ⟨rfl, rv, .inl ⟨_, at_mid⟩⟩
theorem pn_open {F : Hp} {G : List (Addr × HO)} {v : V} {n : PN} (h : MD K F G v (pnD n)) : ∃ p, v = .ref p ∧ mT K F G p [.str (kdS n.1), .int (n.2.1 : Nat), .int (n.2.2.1 : Nat), .int (n.2.2.2.1 : Nat), .int (n.2.2.2.2 : Nat)] := by
  obtain ⟨p, xs, rfl, hp, hx⟩ := h.tupI
  cases hx with
  | cons h1 hx =>
    cases hx with
    | cons h2 hx =>
      cases hx with
      | cons h3 hx =>
        cases hx with
        | cons h4 hx =>
          cases hx with
          | cons h5 hx =>
            cases hx
            rw [h1.strI, h2.intI, h3.intI, h4.intI, h5.intI] at hp
            exact ⟨p, rfl, hp⟩
theorem pn_make {F : Hp} {G : List (Addr × HO)} {p : Addr} (n : PN) (h : mT K F G p [.str (kdS n.1), .int (n.2.1 : Nat), .int (n.2.2.1 : Nat), .int (n.2.2.2.1 : Nat), .int (n.2.2.2.2 : Nat)]) : MD K F G (.ref p) (pnD n) :=
  .tup h (.cons (.str _) (.cons (.int _) (.cons (.int _) (.cons (.int _) (.cons (.int _) .nil)))))
theorem nd_make {F : Hp} {G : List (Addr × HO)} {p : Addr} (n : Nat × Nat) (h : mT K F G p [.str (kdS n.1), .int (n.2 : Nat)]) : MD K F G (.ref p) (ndD n) := .tup h (.cons (.str _) (.cons (.int _) .nil))
theorem rowR.sub {H : Hp} {G G' : List (Addr × HO)} {v : V} {r : TR.Row} (h : rowR K G H v r) (s : G ⊆ G') : rowR K G' H v r := by
  obtain ⟨t, r1, r2, r3, r4, e, h1, h2, h3, h4⟩ := h
  refine ⟨t, r1, r2, r3, r4, e, ?_, h2.sub s, h3.sub s, h4.sub s⟩
  rcases h1 with ⟨i, hi⟩ | h1
  · exact .inl (List.mem_iff_getElem?.mp (s (List.mem_of_getElem? hi)))
  · exact .inr h1
theorem rowR.own {H H' : Hp} {G : List (Addr × HO)} {v : V} {r : TR.Row} (h : rowR K G H v r) (o : Own ⟨H, G⟩ H') : rowR K [] H' v r := by
  obtain ⟨t, r1, r2, r3, r4, e, h1, h2, h3, h4⟩ := h
  exact ⟨t, r1, r2, r3, r4, e, .inr (o.at h1), h2.own o, h3.own o, h4.own o⟩
theorem pr_make {F : Hp} {G : List (Addr × HO)} {p : Addr} (n : Nat × Nat) (h : mT K F G p [.int (n.1 : Nat), .int (n.2 : Nat)]) : MD K F G (.ref p) (prD n) := .tup h (.cons (.int _) (.cons (.int _) .nil))
theorem use_ends {W : sWX} {σ : L2.St} {S : SH} {Q : V → SH → Prop} {vs : List V} (v : V) (st : List PN) (e : vs = [v]) (hv : ∀ H, Own S H → ∃ p xs, v = .ref p ∧ SqL K H p xs ∧ MDs K H [] xs (st.map pnD)) (hl : st.length ≤ 1000) (hk : ∀ n ∈ st, n.1 ≤ 2) (h : Q (.bl (endsF st)) S) : rC (ct_ends_fork K) W vs σ S Q :=
  ⟨(v, st), fun H o => ⟨e, hv H o, hl, hk⟩, fun H v H' o q => ⟨S, o.ex q.2, by rw [q.1]; exact h⟩, fun _ _ _ _ _ q => q.elim⟩
theorem ch_eq {c d : Nat} (h : V.str ⟨#[c]⟩ = V.str ⟨#[d]⟩) : c = d := by
  have := congrArg Str.cps (V.str.inj h)
  exact List.head_eq_of_cons_eq (congrArg Array.toList this)
theorem ch_open : V.str "(" = V.str ⟨#[40]⟩ := by rfl
theorem ch_dot : V.str "." = V.str ⟨#[46]⟩ := by rfl
theorem ch_close : V.str ")" = V.str ⟨#[41]⟩ := by rfl
theorem not_whole {x0 x1 x2 x3 x4 : V} : ¬ (HT.sIx ([x0, x1, x2, x3, x4] : List V).length 0 none = 0 ∧ HT.sIx ([x0, x1, x2, x3, x4] : List V).length ([x0, x1, x2, x3, x4] : List V).length (some 2) = ([x0, x1, x2, x3, x4] : List V).length) := by
  show ¬ (0 = 0 ∧ min 2 5 = 5)
  decide
theorem vc_read_forks {vs : List V} {H : Hp} (b : TR) (h : (ct_read_forks K).pre b vs H) : ∃ S, Own S H ∧ r_read_forks K a (endsC (ct_read_forks K) b H) (start N_read_forks vs) S := by
  obtain ⟨rfl, hb64⟩ := h
  have tl := txt_len b
  have hf : runP (txt b) 0 ([], [], 0) = some ([pnB b 0 0], rowsB b 0 0, nS b) := by
    rw [parse_ok, Nat.zero_add]
    rfl
  refine ⟨⟨H, []⟩, Own.base H, ?_⟩
  refine ⟨Nat.zero_le _, fun ps => ?_⟩
  refine ⟨Nat.zero_le _, fun pr => ?_⟩
  refine ⟨fun i σ S => ∃ (st : List PN) (rows : List TR.Row) (n : Nat) (E : List (Addr × HO)) (sv rv : List V) (x4 x5 x6 x7 x8 x9 x10 x11 : Option V), i ≤ (txt b).length ∧ runP ((txt b).take i) 0 ([], [], 0) = some (st, rows, n) ∧ st.length ≤ i ∧ rows.length ≤ i ∧ (∀ k ∈ st, k.1 ≤ 2) ∧ MDs K H E sv (st.map pnD) ∧ allV (rowR K E H) rv rows ∧
    σ = [some (.str (tS b)), some (.ref ps), some (.ref pr), some (.int (n : Nat)), x4, x5, x6, x7, x8, x9, x10, x11] ∧ S = ⟨H, E ++ [(pr, .lst rv), (ps, .lst sv)]⟩, ?_, fun _ _ _ _ _ => trivial, ?_, ?_⟩
  · exact ⟨[], [], 0, [], [], [], none, none, none, none, none, none, none, none, Nat.zero_le _, rfl, Nat.le_refl _, Nat.le_refl _, (fun _ z => nomatch z), .nil, trivial, rfl, rfl⟩
  · rintro i σ S hi ⟨st, rows, n, E, sv, rv, x4, x5, x6, x7, x8, x9, x10, x11, _, hrun, hsl, hrl, hk, hsv, hrv, rfl, rfl⟩ c hc pp
    have hc : (txt b)[i]? = some c := by
      have : (tS b).cps.toList[i]? = some c := by
        rw [Array.getElem?_toList]
        exact hc
      exact this
    have hi : i < (txt b).length := (List.getElem?_eq_some_iff.mp hc).1
    obtain ⟨s3, hs3, hrun3⟩ := run_step hc hrun hf
    have lsv : sv.length = st.length := by rw [hsv.len, List.length_map]
    have lrv : rv.length = rows.length := allV_len hrv
    refine ⟨_, .inl ⟨0, rfl⟩, rfl, ?_⟩
    unfold stepP at hs3
    walk_at "b"
    · rename_i hb
      have e40 : c = 40 := ch_eq (hb.trans ch_open)
      rw [if_pos e40] at hs3
      cases hs3
      refine ⟨tyS (E := (pp, .tup [.int (i : Nat), .str ⟨#[c]⟩]) :: E), ?_⟩
      refine ⟨show 5 ≤ sizeLine by decide, fun p => ?_⟩
      refine nil_go ?_
      refine pushS (E := (p, .tup [.str "open", .int 0, .int 0, .int 0, .int (i : Nat)]) :: (pp, .tup [.int (i : Nat), .str ⟨#[c]⟩]) :: E) (small_of (show sv.length ≤ 200 by omega) (by decide)) ?_
      refine ⟨_, SLe.refl _, _, _, n, _, _, rv, _, _, _, _, _, _, _, _, hi, hrun3, ?_, by show rows.length ≤ _; omega, ?_, ?_, ?_, rfl, rfl⟩
      · show (st ++ [_]).length ≤ _
        rw [List.length_append, List.length_singleton]
        omega
      · intro k hkm
        rcases List.mem_append.mp hkm with hkm | hkm
        · exact hk k hkm
        · rw [List.mem_singleton.mp hkm]
          exact Nat.zero_le _
      · show MDs K H _ _ ((st ++ [_]).map pnD)
        rw [List.map_append]
        exact (hsv.sub fun z hz => .tail _ (.tail _ hz)).snoc (pn_make (0, 0, 0, 0, i) (.inl (.head _)))
      · exact allV_ex (fun _ _ y => y.sub fun z hz => .tail _ (.tail _ hz)) hrv
    · rename_i hb
      have e40 : ¬ c = 40 := fun e => hb (by rw [e]; rfl)
      rw [if_neg e40] at hs3
      walk_at "b"
      · rename_i hb2
        have e46 : c = 46 := ch_eq (hb2.trans ch_dot)
        rw [if_pos e46] at hs3
        cases hs3
        refine ⟨tyS (E := (pp, .tup [.int (i : Nat), .str ⟨#[c]⟩]) :: E), ?_⟩
        refine ⟨show 5 ≤ sizeLine by decide, fun p => ?_⟩
        refine nil_go ?_
        refine pushS (E := (p, .tup [.str "slot", .int (n : Nat), .int (n : Nat), .int (n : Nat), .int (i : Nat)]) :: (pp, .tup [.int (i : Nat), .str ⟨#[c]⟩]) :: E) (small_of (show sv.length ≤ 200 by omega) (by decide)) ?_
        refine ⟨_, SLe.refl _, _, _, n + 1, _, _, rv, _, _, _, _, _, _, _, _, hi, hrun3, ?_, by show rows.length ≤ _; omega, ?_, ?_, ?_, rfl, rfl⟩
        · show (st ++ [_]).length ≤ _
          rw [List.length_append, List.length_singleton]
          omega
        · intro k hkm
          rcases List.mem_append.mp hkm with hkm | hkm
          · exact hk k hkm
          · rw [List.mem_singleton.mp hkm]
            show 1 ≤ 2
            decide
        · show MDs K H _ _ ((st ++ [_]).map pnD)
          rw [List.map_append]
          exact (hsv.sub fun z hz => .tail _ (.tail _ hz)).snoc (pn_make (1, n, n, n, i) (.inl (.head _)))
        · exact allV_ex (fun _ _ y => y.sub fun z hz => .tail _ (.tail _ hz)) hrv
      · rename_i hb2
        have e46 : ¬ c = 46 := fun e => hb2 (by rw [e]; rfl)
        rw [if_neg e46] at hs3
        by_cases hcl : c = 41 ∧ endsF st = true
        · rw [if_pos hcl] at hs3
          obtain ⟨e41, hen⟩ := hcl
          obtain ⟨rest, o, l, r, est, es3⟩ := joinP_is hs3
          have est : st = rest ++ [o, l, r] := est
          have es3 : s3 = (rest ++ [(2, l.2.2.2.1, l.2.2.1, r.2.2.2.1, o.2.2.2.2)], rows ++ [(l.2.2.2.1, (l.1, l.2.1), (r.1, r.2.1), (l.2.2.1, r.2.2.2.1), (o.2.2.2.2, i + 1))], n) := es3
          walk_at "b"
          · refine use_ends (.ref ps) st (by rfl) ?_ (by omega) hk ?_
            · refine fun H' o' => ⟨ps, sv, rfl, o'.l (.inl ⟨_, at2_2 (E := (pp, .tup [.int (i : Nat), .str ⟨#[c]⟩]) :: E)⟩), ?_⟩
              exact (hsv.sub fun z hz => .tail _ (List.mem_append_left _ hz)).own o'
            · rw [hen]
              have hsv2 := hsv
              rw [est, List.map_append] at hsv2
              obtain ⟨s0, s3v, esv, m0, m3⟩ := mds_split hsv2
              subst esv
              cases m3 with
              | cons mo m3 =>
                cases m3 with
                | cons ml m3 =>
                  cases m3 with
                  | cons mr m3 =>
                    cases m3
                    rename_i vo vl vr
                    obtain ⟨ao, rfl, ho⟩ := pn_open mo
                    obtain ⟨al, rfl, hl⟩ := pn_open ml
                    obtain ⟨ar, rfl, hr⟩ := pn_open mr
                    have ls0 : s0.length + 3 ≤ i := by
                      have : (s0 ++ [V.ref ao, .ref al, .ref ar]).length = s0.length + 3 := by rw [List.length_append]; rfl
                      omega
                    have es1 : s0 ++ [V.ref ao, .ref al, .ref ar] = ((s0 ++ [V.ref ao]) ++ [.ref al]) ++ [.ref ar] := by
                      rw [List.append_assoc, List.append_assoc]
                      rfl
                    rw [es1]
                    refine ⟨tyS (E := (pp, .tup [.int (i : Nat), .str ⟨#[c]⟩]) :: E), ?_⟩
                    refine nil_go ?_
                    refine popS (E := (pp, .tup [.int (i : Nat), .str ⟨#[c]⟩]) :: E) ?_
                    refine ⟨tyS (E := (pp, .tup [.int (i : Nat), .str ⟨#[c]⟩]) :: E), ?_⟩
                    refine nil_go ?_
                    refine popS (E := (pp, .tup [.int (i : Nat), .str ⟨#[c]⟩]) :: E) ?_
                    refine ⟨_, _, .inr (hl.s fun z hz => .tail _ (List.mem_append_left _ hz)), atI_at (i := 2) rfl, ?_⟩
                    refine ⟨_, _, .inr (hl.s fun z hz => .tail _ (List.mem_append_left _ hz)), atI_at (i := 3) rfl, ?_⟩
                    refine ⟨_, _, .inr (hr.s fun z hz => .tail _ (List.mem_append_left _ hz)), atI_at (i := 3) rfl, ?_⟩
                    refine ⟨tyS (E := (pp, .tup [.int (i : Nat), .str ⟨#[c]⟩]) :: E), ?_⟩
                    refine nil_go ?_
                    refine popS (E := (pp, .tup [.int (i : Nat), .str ⟨#[c]⟩]) :: E) ?_
                    refine ⟨_, _, .inr (ho.s fun z hz => .tail _ (List.mem_append_left _ hz)), atI_at (i := 4) rfl, ?_⟩
                    refine ⟨show 4 ≤ sizeLine by decide, fun pt => ?_⟩
                    refine ⟨_, .inl ⟨0, rfl⟩, rfl, ?_⟩
                    refine ⟨tyR (E := (pt, .tup [.int (l.2.2.1 : Nat), .int (l.2.2.2.1 : Nat), .int (r.2.2.2.1 : Nat), .int (o.2.2.2.2 : Nat)]) :: (pp, .tup [.int (i : Nat), .str ⟨#[c]⟩]) :: E), ?_⟩
                    refine .inr ⟨_, hl.s fun z hz => .tail _ (.tail _ (List.mem_append_left _ hz)), not_whole, fun q1 => ?_⟩
                    refine .inr ⟨_, hr.s fun z hz => .tail _ (.tail _ (.tail _ (List.mem_append_left _ hz))), not_whole, fun q2 => ?_⟩
                    refine ⟨show 2 ≤ sizeLine by decide, fun q3 => ?_⟩
                    refine ⟨show 2 ≤ sizeLine by decide, fun q4 => ?_⟩
                    refine ⟨show 5 ≤ sizeLine by decide, fun q5 => ?_⟩
                    refine nil_go ?_
                    generalize hE : ([(q5, HO.tup [.int (l.2.2.2.1 : Nat), .ref q1, .ref q2, .ref q3, .ref q4]), (q4, .tup [.int (o.2.2.2.2 : Nat), .int (i + 1)]), (q3, .tup [.int (l.2.2.1 : Nat), .int (r.2.2.2.1 : Nat)]), (q2, .tup [.str (kdS r.1), .int (r.2.1 : Nat)]), (q1, .tup [.str (kdS l.1), .int (l.2.1 : Nat)]), (pt, .tup [.int (l.2.2.1 : Nat), .int (l.2.2.2.1 : Nat), .int (r.2.2.2.1 : Nat), .int (o.2.2.2.2 : Nat)]), (pp, .tup [.int (i : Nat), .str ⟨#[c]⟩])] ++ E : List (Addr × HO)) = E2
                    have sE : E ⊆ E2 := fun z hz => by
                      rw [← hE]
                      exact List.mem_append_right _ hz
                    have m5 : (q5, HO.tup [.int (l.2.2.2.1 : Nat), .ref q1, .ref q2, .ref q3, .ref q4]) ∈ E2 := by
                      rw [← hE]
                      exact .head _
                    have m2 : (q2, HO.tup [.str (kdS r.1), .int (r.2.1 : Nat)]) ∈ E2 := by
                      rw [← hE]
                      exact .tail _ (.tail _ (.tail _ (.head _)))
                    have m3 : (q3, HO.tup [.int (l.2.2.1 : Nat), .int (r.2.2.2.1 : Nat)]) ∈ E2 := by
                      rw [← hE]
                      exact .tail _ (.tail _ (.head _))
                    have m1 : (q1, HO.tup [.str (kdS l.1), .int (l.2.1 : Nat)]) ∈ E2 := by
                      rw [← hE]
                      exact .tail _ (.tail _ (.tail _ (.tail _ (.head _))))
                    show mAppend (.ref pr) [.ref q5] ⟨H, ([(q5, HO.tup [.int (l.2.2.2.1 : Nat), .ref q1, .ref q2, .ref q3, .ref q4]), (q4, .tup [.int (o.2.2.2.2 : Nat), .int (i + 1)]), (q3, .tup [.int (l.2.2.1 : Nat), .int (r.2.2.2.1 : Nat)]), (q2, .tup [.str (kdS r.1), .int (r.2.1 : Nat)]), (q1, .tup [.str (kdS l.1), .int (l.2.1 : Nat)]), (pt, .tup [.int (l.2.2.1 : Nat), .int (l.2.2.2.1 : Nat), .int (r.2.2.2.1 : Nat), .int (o.2.2.2.2 : Nat)]), (pp, .tup [.int (i : Nat), .str ⟨#[c]⟩])] ++ E) ++ [(pr, .lst rv), (ps, .lst s0)]⟩ _
                    rw [hE]
                    refine app_go (small_of (show rv.length ≤ 200 by omega) (by decide)) ?_
                    refine ⟨tyS, ?_⟩
                    refine ⟨show 5 ≤ sizeLine by decide, fun q6 => ?_⟩
                    refine nil_go ?_
                    refine pushS (E := (q6, .tup [.str "fork", .int (l.2.2.2.1 : Nat), .int (l.2.2.1 : Nat), .int (r.2.2.2.1 : Nat), .int (o.2.2.2.2 : Nat)]) :: E2) (small_of (show s0.length ≤ 200 by omega) (by decide)) ?_
                    refine ⟨_, SLe.refl _, _, _, n, _, _, _, _, _, _, _, _, _, _, _, hi, hrun3.trans (congrArg some es3), ?_, ?_, ?_, ?_, ?_, rfl, rfl⟩
                    · rw [List.length_append, List.length_singleton]
                      have : st.length = rest.length + 3 := by rw [est, List.length_append]; rfl
                      omega
                    · rw [List.length_append, List.length_singleton]
                      omega
                    · intro k hkm
                      rcases List.mem_append.mp hkm with hkm | hkm
                      · exact hk k (by rw [est]; exact List.mem_append_left _ hkm)
                      · rw [List.mem_singleton.mp hkm]
                        exact Nat.le_refl _
                    · rw [List.map_append]
                      exact (m0.sub fun z hz => .tail _ (sE hz)).snoc (pn_make (2, l.2.2.2.1, l.2.2.1, r.2.2.2.1, o.2.2.2.2) (.inl (.head _)))
                    · refine allV_snoc ⟨q5, .ref q1, .ref q2, .ref q3, .ref q4, rfl, ?_, nd_make (l.1, l.2.1) (.inl (.tail _ m1)), nd_make (r.1, r.2.1) (.inl (.tail _ m2)), pr_make (l.2.2.1, r.2.2.2.1) (.inl (.tail _ m3))⟩ (allV_ex (fun _ _ y => y.sub fun z hz => .tail _ (sE hz)) hrv)
                      exact .inl (List.mem_iff_getElem?.mp (List.mem_cons_of_mem _ m5))
          · rename_i hb3
            exact absurd (show V.str ⟨#[c]⟩ = V.str ")" by rw [e41]; rfl) hb3
        · rw [if_neg hcl] at hs3
          cases hs3
  · rintro σ S ⟨st, rows, n, E, sv, rv, x4, x5, x6, x7, x8, x9, x10, x11, _, hrun, hsl, hrl, hk, hsv, hrv, rfl, rfl⟩
    have en : (itES (tS b)).n = (txt b).length := rfl
    rw [en, List.take_length, hf] at hrun
    cases hrun
    obtain ⟨sv0, rfl⟩ : ∃ v0, sv = [v0] := by
      have : sv.length = 1 := hsv.len
      exact List.length_eq_one_iff.mp this
    cases hsv with
    | cons h0 _ =>
      obtain ⟨p0, rfl, hp0⟩ := pn_open h0
      refine ⟨_, .inl (.inl ⟨_, at2_2⟩), ?_⟩
      refine ⟨_, _, .inl (.inl ⟨_, at2_2⟩), atI_at (i := 0) rfl, ?_⟩
      refine ⟨_, _, .inr (hp0.s fun z hz => List.mem_append_left _ hz), atI_at (i := 0) rfl, ?_⟩
      have ek : decide (V.str (kdS (pnB b 0 0).1) = V.str "open") = false := by
        rw [open_at (pnB b 0 0).1 (List.mem_range.mpr (by
          cases b with
          | leaf => decide
          | node l r =>
            show 2 < 3
            decide))]
        exact pn_kind b 0 0
      conv => whnf
      rw [ek]
      intro H' o'
      have m := o'.gs (pr, .lst rv) (List.mem_append_right _ (.head _))
      exact ⟨⟨pr, rv, rfl, m.2, m.1, allV_ex (fun v r y => (y.sub fun z hz => List.mem_append_left _ hz).own o') hrv⟩, fun c u e => o'.fr c u e⟩
end
section
variable {K : PySem.W.Frag} {a : Ads}
open TR
def jobD (j : Job) : PyData := .tuple [ndD (ndB j.1 j.2.1), wyD j.2.2]
theorem nd_open {F : Hp} {G : List (Addr × HO)} {v : V} {n : Nat × Nat} (h : MD K F G v (ndD n)) : ∃ p, v = .ref p ∧ mT K F G p [.str (kdS n.1), .int (n.2 : Nat)] := by
  obtain ⟨p, xs, rfl, hp, hx⟩ := h.tupI
  cases hx with
  | cons h1 hx =>
    cases hx with
    | cons h2 hx =>
      cases hx
      rw [h1.strI, h2.intI] at hp
      exact ⟨p, rfl, hp⟩
theorem con_go {v : V} {W : sWX} {σ : L2.St} {S : SH} {Q : V → SH → Prop} (h : Q v S) : sC v W σ S Q := h
theorem push_job {W : sWX} {σ : L2.St} {F : Hp} {N E1 B : List (Addr × HO)} {st : Addr} {sv : List V} {Q : SH → Prop} {i f : Nat} {x : Str} {q : Addr} {vw : V} {w : Way} {c : Bool} {nd : Nat × Nat} {LL : List (Nat × Nat)} (hi : σ[i]? = some (some (.ref q))) (h5 : σ[5]? = some (some (.ref st))) (h7 : σ[7]? = some (some (.int (f : Nat)))) (h8 : σ[8]? = some (some vw))
    (hx : x = sdS c) (hL : MD K F N (.ref q) (.tuple (LL.map ndD))) (hf : LL[f]? = some nd) (hw : MD K F N vw (wyD w)) (hl : w.length ≤ 100) (hs : N ⊆ E1 ++ (st, .lst sv) :: B) (hsv : sv.length ≤ 200)
    (k : ∀ v E', MD K F (E' ++ N) v (.tuple [ndD nd, wyD (w ++ [(f, c)])]) → Q ⟨F, (E' ++ E1) ++ (st, .lst (sv ++ [v])) :: B⟩) :
    sMt K "list" mAppend (sVar 5) (sCons (sTup (sCons (sOp (oIx K) (sVar i) (sVar 7)) (sCons (sOp (oAddT K) (sVar 8) (sTup (sCons (sTup (sCons (sVar 7) (sCons (sC (.str x)) sNil))) sNil))) sNil))) sNil) W σ ⟨F, E1 ++ (st, .lst sv) :: B⟩ fun _ S => Q S := by
  subst hx
  obtain ⟨q2, xs, e2, hq, hxs⟩ := hL.tupI
  cases e2
  obtain ⟨u, hu, mu⟩ := hxs.get (i := f) (d := ndD nd) (by rw [List.getElem?_map, hf]; rfl)
  obtain ⟨pw, ws, rfl, hpw, hws⟩ := MD.tupI (show MD K F N vw (.tuple _) from hw)
  have lws : ws.length = w.length := by rw [hws.len, List.length_map]
  refine mt_go (var_go h5 ⟨tyR, ?_⟩)
  refine cons_go (tup_go (cons_go (op_go (var_go hi (var_go h7 ?_)))))
  refine ⟨_, u, .inr (hq.s hs), atI_at hu, ?_⟩
  refine cons_go (op_go (var_go h8 ?_))
  refine tup_go (cons_go (tup_go (cons_go (var_go h7 (cons_go (con_go (nil_go ?_)))))))
  refine ⟨show 2 ≤ sizeLine by decide, fun t2 => ?_⟩
  refine nil_go ⟨show 1 ≤ sizeLine by decide, fun t3 => ?_⟩
  have fin : ∀ (uw : V) (E' : List (Addr × HO)), MD K F (E' ++ N) uw (wyD (w ++ [(f, c)])) → ∀ p5, Q ⟨F, ((p5, .tup [u, uw]) :: E' ++ E1) ++ (st, .lst (sv ++ [.ref p5])) :: B⟩ := fun uw E' hm p5 => by
    refine k (.ref p5) ((p5, .tup [u, uw]) :: E') ?_
    refine .tup (.inl (.head _)) (.cons (mu.sub fun z hz => .tail _ (List.mem_append_right _ hz)) (.cons (hm.sub fun z hz => .tail _ hz) .nil))
  have m2 : ∀ R : List (Addr × HO), MD K F ((t3, .tup [.ref t2]) :: (t2, .tup [.int (f : Nat), .str (sdS c)]) :: R) (.ref t2) (stD (f, c)) := fun R => .tup (.inl (.tail _ (.head _))) (.cons (.int _) (.cons (.str _) .nil))
  refine ⟨ws, [.ref t2], (hpw.s fun z hz => .tail _ (.tail _ (hs hz))), .inl ⟨0, rfl⟩, ?_, fun e => ?_, (fun _ e => nomatch e), fun ne _ r => ?_⟩
  · rw [lws]
    exact Nat.le_trans (show w.length + 1 ≤ 200 by omega) (by decide)
  · refine nil_go ⟨show 2 ≤ sizeLine by decide, fun p5 => ?_⟩
    refine nil_go (app_go (E := (p5, .tup [u, .ref t3]) :: (t3, .tup [.ref t2]) :: (t2, .tup [.int (f : Nat), .str (sdS c)]) :: E1) (small_of hsv (by decide)) ?_)
    have : w = [] := by
      subst e
      exact List.length_eq_zero_iff.mp lws.symm
    subst this
    exact fin (.ref t3) [(t3, .tup [.ref t2]), (t2, .tup [.int (f : Nat), .str (sdS c)])] (.tup (.inl (.head _)) (.cons (m2 N) .nil)) p5
  · refine nil_go ⟨show 2 ≤ sizeLine by decide, fun p5 => ?_⟩
    refine nil_go (app_go (E := (p5, .tup [u, .ref r]) :: (r, .tup (ws ++ [.ref t2])) :: (t3, .tup [.ref t2]) :: (t2, .tup [.int (f : Nat), .str (sdS c)]) :: E1) (small_of hsv (by decide)) ?_)
    refine fin (.ref r) [(r, .tup (ws ++ [.ref t2])), (t3, .tup [.ref t2]), (t2, .tup [.int (f : Nat), .str (sdS c)])] (.tup (.inl (.head _)) ?_) p5
    rw [List.map_append]
    exact (hws.sub fun z hz => .tail _ (.tail _ (.tail _ hz))).snoc ((m2 N).sub fun z hz => .tail _ hz)
theorem app_at {F : Hp} {E A B : List (Addr × HO)} {D : Addr} {acc : List V} {y : V} {Q : V → SH → Prop} (ha : acc.length < sizeLine) (h : Q .non ⟨F, E ++ (A ++ (D, .lst (acc ++ [y])) :: B)⟩) : mAppend (.ref D) [y] ⟨F, E ++ (A ++ (D, .lst acc) :: B)⟩ Q := by
  rw [← List.append_assoc] at h ⊢
  exact app_go ha h
theorem pop_at {F : Hp} {E B : List (Addr × HO)} {D : Addr} {acc : List V} {y : V} {Q : V → SH → Prop} (h : Q y ⟨F, E ++ (D, .lst acc) :: B⟩) : mPop (.ref D) [] ⟨F, E ++ (D, .lst (acc ++ [y])) :: B⟩ Q := by
  refine ⟨E.length, acc ++ [y], y, at_mid, ?_, ?_⟩
  · rw [List.length_append, List.length_singleton, Nat.add_sub_cancel, List.getElem?_append_right (Nat.le_refl _), Nat.sub_self]
    rfl
  · show Q y ⟨F, (E ++ (D, .lst (acc ++ [y])) :: B).set E.length (D, .lst (acc ++ [y]).dropLast)⟩
    rw [set_mid, List.dropLast_concat]
    exact h
theorem slot_at : ∀ k ∈ List.range 3, decide (V.str (kdS k) = V.str "slot") = (k == 1) := by decide +kernel
theorem jobS_app (js : List Job) (j : Job) : jobS (js ++ [j]) = jobS js + (2 * nS j.1 - 1) := by
  unfold jobS
  rw [List.map_append, List.sum_append]
  rfl
theorem jobS_len : ∀ js : List Job, js.length ≤ jobS js
  | [] => Nat.le_refl 0
  | j :: js => by
    have := jobS_len js
    have := nS_pos j.1
    show js.length + 1 ≤ (2 * nS j.1 - 1) + jobS js
    omega
theorem flat_snoc (js : List Job) (j : Job) : (js ++ [j]).reverse.flatMap jobW = jobW j ++ js.reverse.flatMap jobW := by
  rw [List.reverse_append]
  rfl
theorem sub_st {E A : List (Addr × HO)} {x : Addr × HO} {R : List (Addr × HO)} : E ++ A ⊆ E ++ x :: (A ++ R) := fun z hz => (List.mem_append.mp hz).elim (fun h => List.mem_append_left _ h) fun h => List.mem_append_right _ (.tail _ (List.mem_append_left _ h))
theorem vc_lay_ways {vs : List V} {H : Hp} (g : TR × V × V × V × List (Nat × Nat) × List (Nat × Nat)) (h : (ct_lay_ways K).pre g vs H) : ∃ S, Own S H ∧ r_lay_ways K a (endsC (ct_lay_ways K) g H) (start N_lay_ways vs) S := by
  obtain ⟨b, rv, lv, iv, L, R⟩ := g
  obtain ⟨rfl, hb, hr, hL, hR, hfit⟩ := h
  have hb : nS b ≤ 64 := hb
  have hr : MD K H [] rv (ndD (ndB b 0)) := hr
  have hL : MD K H [] lv (.tuple (L.map ndD)) := hL
  have hR : MD K H [] iv (.tuple (R.map ndD)) := hR
  have hfit : Fits b 0 L R := hfit
  have hp := nS_pos b
  obtain ⟨ql, _, rfl, _, _⟩ := hL.tupI
  obtain ⟨qr, _, rfl, _, _⟩ := hR.tupI
  refine ⟨⟨H, []⟩, Own.base H, ?_⟩
  refine ⟨Nat.zero_le _, fun p3 => ?_⟩
  refine ⟨Nat.zero_le _, fun p4 => ?_⟩
  refine ⟨Nat.zero_le _, fun t0 => ?_⟩
  refine ⟨show 2 ≤ sizeLine by decide, fun t1 => ?_⟩
  refine ⟨show 1 ≤ sizeLine by decide, fun st => ?_⟩
  refine ⟨fun m σ S => ∃ (js : List Job) (outs : List Way) (E : List (Addr × HO)) (sv pv wv : List V) (x6 x7 x8 : Option V), m = jobS js ∧ outs ++ js.reverse.flatMap jobW = wayB b 0 ∧ pv.length + outs.length + m ≤ 127 ∧ (∀ j ∈ js, Fits j.1 j.2.1 L R ∧ j.2.2.length + nS j.1 ≤ 65) ∧
    MDs K H (E ++ [(t1, .tup [rv, .ref t0]), (t0, .tup [])]) sv (js.map jobD) ∧ MDs K H (E ++ [(t1, .tup [rv, .ref t0]), (t0, .tup [])]) wv (outs.map wyD) ∧
    σ = [some rv, some (.ref ql), some (.ref qr), some (.ref p3), some (.ref p4), some (.ref st), x6, x7, x8] ∧ S = ⟨H, E ++ (st, .lst sv) :: ([(t1, .tup [rv, .ref t0]), (t0, .tup [])] ++ [(p4, .lst wv), (p3, .lst pv)])⟩, ?_, ?_⟩
  · refine ⟨_, [(b, 0, [])], [], [], _, _, _, none, none, none, rfl, ?_, ?_, ?_, ?_, .nil, rfl, rfl⟩
    · show ((wayB b 0).map ([] ++ ·)) ++ [] = wayB b 0
      rw [List.append_nil]
      exact List.map_id _
    · show 0 + 0 + (2 * nS b - 1 + 0) ≤ 127
      omega
    · intro j hj
      rw [List.mem_singleton.mp hj]
      exact ⟨hfit, by show 0 + nS b ≤ 65; omega⟩
    · exact .cons (.tup (.inl (.head _)) (.cons hr.up (.cons (.tup (.inl (.tail _ (.head _))) .nil) .nil))) .nil
  · rintro m σ S ⟨js, outs, E, sv, pv, wv, x6, x7, x8, hm, hout, hlen, hj, hsv, hwv, rfl, rfl⟩
    have lsv : sv.length = js.length := by rw [hsv.len, List.length_map]
    have ljs := jobS_len js
    refine .inl ⟨sv, .inl ⟨E.length, at_mid⟩, ?_⟩
    rcases List.eq_nil_or_concat js with ejs | ⟨js0, j, ejs⟩
    · subst ejs
      have : sv = [] := List.length_eq_zero_iff.mp lsv
      subst this
      have hout : outs ++ [] = wayB b 0 := hout
      rw [List.append_nil] at hout
      subst hout
      refine .inl ⟨pv, .inl ⟨E.length + 4, ?_⟩, fun u => ?_⟩
      · rw [List.getElem?_append_right (by omega), show E.length + 4 - E.length = 4 by omega]
        rfl
      refine .inl ⟨wv, .inl ⟨E.length + 4, ?_⟩, fun w => ?_⟩
      · show ((u, HO.tup pv) :: (E ++ _))[E.length + 3 + 1]? = _
        rw [List.getElem?_cons_succ, List.getElem?_append_right (by omega), show E.length + 3 - E.length = 3 by omega]
        rfl
      refine ⟨show 2 ≤ sizeLine by decide, fun p => ?_⟩
      intro H' o'
      refine ⟨⟨p, .ref u, .ref w, rfl, o'.u (.inl ⟨0, rfl⟩), ?_⟩, fun c u e => o'.fr c u e⟩
      have := MD.tup (K := K) (F := H) (G := (p, .tup [.ref u, .ref w]) :: (w, .tup wv) :: (u, .tup pv) :: (E ++ (st, .lst []) :: ([(t1, .tup [rv, .ref t0]), (t0, .tup [])] ++ [(p4, .lst wv), (p3, .lst pv)]))) (p := w) (.inl (.tail _ (.head _))) (hwv.sub fun z hz => .tail _ (.tail _ (.tail _ (sub_st hz))))
      exact this.own o'
    · rw [List.concat_eq_append] at ejs
      subst ejs
      rw [List.map_append] at hsv
      obtain ⟨sv0, s1, rfl, h0, h1⟩ := mds_split hsv
      cases h1 with
      | cons h1 hn =>
        cases hn
        rename_i v
        obtain ⟨pj, xs, rfl, hpj, hxs⟩ := MD.tupI (show MD K H _ v (.tuple _) from h1)
        cases hxs with
        | cons hnd hxs =>
          cases hxs with
          | cons hw hxs =>
            cases hxs
            rename_i vn vw
            obtain ⟨pn, rfl, hpn⟩ := nd_open hnd
            rw [flat_snoc] at hout
            rw [jobS_app] at hm
            have ne : (!(sv0 ++ [V.ref pj]).isEmpty) = true := by
              cases sv0 <;> rfl
            rw [ne]
            refine ⟨.inl ⟨rfl, _, .inl ⟨E.length, at_mid⟩⟩, ?_⟩
            refine nil_go ?_
            refine pop_at ?_
            refine ⟨_, hpj.s sub_st, rfl, ?_⟩
            refine ⟨_, hpn.s sub_st, rfl, ?_⟩
            obtain ⟨hfj, hlj⟩ := hj j (List.mem_append_right _ (.head _))
            have hj0 : ∀ j ∈ js0, Fits j.1 j.2.1 L R ∧ j.2.2.length + nS j.1 ≤ 65 := fun j hm => hj j (List.mem_append_left _ hm)
            have lsv0 : sv0.length = js0.length := by rw [h0.len, List.length_map]
            have ljs0 := jobS_len js0
            obtain ⟨t, o, w⟩ := j
            have kd : (ndB t o).1 < 3 := by
              cases t with
              | leaf =>
                show 1 < 3
                decide
              | node l r =>
                show 2 < 3
                decide
            have ks := slot_at (ndB t o).1 (List.mem_range.mpr kd)
            have lo : outs.length ≤ 127 := by omega
            cases t with
            | leaf =>
              refine ⟨.inl ⟨rfl, wv, .inl ⟨E.length + 3, ?_⟩⟩, ?_⟩
              · rw [List.getElem?_append_right (by omega), show E.length + 3 - E.length = 3 by omega]
                rfl
              refine cons_go (var_go (by rfl) (nil_go ?_))
              refine app_at (E := E) (A := [(st, .lst sv0), (t1, .tup [rv, .ref t0]), (t0, .tup [])]) (small_of (show wv.length ≤ 127 by rw [hwv.len, List.length_map]; exact lo) (by decide)) ?_
              refine ⟨_, SLe.refl _, jobS js0, by rw [hm]; show jobS js0 < jobS js0 + (2 * 1 - 1); omega, js0, outs ++ [w], E, sv0, pv, wv ++ [vw], _, _, _, rfl, ?_, ?_, hj0, h0, ?_, rfl, rfl⟩
              · rw [jobW_leaf] at hout
                rw [List.append_assoc]
                exact hout
              · rw [List.length_append, List.length_singleton]
                have : m = jobS js0 + (2 * 1 - 1) := hm
                omega
              · rw [List.map_append]
                exact hwv.snoc hw
            | node l r =>
              obtain ⟨f1, f2, f3, f4⟩ := hfj
              have pl := nS_pos l
              have pr := nS_pos r
              have hlj : w.length + (nS l + nS r) ≤ 65 := hlj
              have hm : m = jobS js0 + (2 * (nS l + nS r) - 1) := hm
              refine ⟨.inl ⟨rfl, pv, .inl ⟨E.length + 4, ?_⟩⟩, ?_⟩
              · rw [List.getElem?_append_right (by omega), show E.length + 4 - E.length = 4 by omega]
                rfl
              refine cons_go (var_go (by rfl) (nil_go ?_))
              refine app_at (E := E) (A := [(st, .lst sv0), (t1, .tup [rv, .ref t0]), (t0, .tup []), (p4, .lst wv)]) (small_of (show pv.length ≤ 127 by omega) (by decide)) ?_
              have hl100 : w.length ≤ 100 := by omega
              dsimp only
              refine seq_go ?_
              refine drop_go ?_
              show sMt K "list" mAppend (sVar 5) _ _ _ ⟨H, E ++ (st, .lst sv0) :: [(t1, .tup [rv, .ref t0]), (t0, .tup []), (p4, .lst wv), (p3, .lst (pv ++ [.int ((o + nS l - 1 : Nat) : Int)]))]⟩ _
              refine push_job (i := 2) (f := o + nS l - 1) (q := qr) (vw := vw) (w := w) (c := false) (nd := ndB r (o + nS l)) (LL := R) (N := E ++ [(t1, .tup [rv, .ref t0]), (t0, .tup [])]) (E1 := E) (st := st) (sv := sv0) (B := [(t1, .tup [rv, .ref t0]), (t0, .tup []), (p4, .lst wv), (p3, .lst (pv ++ [.int ((o + nS l - 1 : Nat) : Int)]))])
                ?_ ?_ ?_ ?_ ?_ hR.up f2 hw hl100 sub_st (by omega) ?_
              · rfl
              · rfl
              · rfl
              · rfl
              · rfl
              intro v1 E1 h1
              dsimp only
              refine drop_go ?_
              show sMt K "list" mAppend (sVar 5) _ _ _ ⟨H, (E1 ++ E) ++ (st, .lst (sv0 ++ [v1])) :: [(t1, .tup [rv, .ref t0]), (t0, .tup []), (p4, .lst wv), (p3, .lst (pv ++ [.int ((o + nS l - 1 : Nat) : Int)]))]⟩ _
              refine push_job (i := 1) (f := o + nS l - 1) (q := ql) (vw := vw) (w := w) (c := true) (nd := ndB l o) (LL := L) (N := E1 ++ (E ++ [(t1, .tup [rv, .ref t0]), (t0, .tup [])])) (E1 := E1 ++ E) (st := st) (sv := sv0 ++ [v1]) (B := [(t1, .tup [rv, .ref t0]), (t0, .tup []), (p4, .lst wv), (p3, .lst (pv ++ [.int ((o + nS l - 1 : Nat) : Int)]))])
                ?_ ?_ ?_ ?_ ?_ hL.up f1 (hw.sub sub_right) hl100 ?_ (by rw [List.length_append, List.length_singleton]; omega) ?_
              · rfl
              · rfl
              · rfl
              · rfl
              · rfl
              · rw [← List.append_assoc]
                exact sub_st
              intro v2 E2 h2
              have up0 : E ++ [(t1, HO.tup [rv, .ref t0]), (t0, .tup [])] ⊆ (E2 ++ (E1 ++ E)) ++ [(t1, HO.tup [rv, .ref t0]), (t0, .tup [])] := fun z hz => by
                rw [List.append_assoc, List.append_assoc]
                exact List.mem_append_right _ (List.mem_append_right _ hz)
              have up1 : E1 ++ (E ++ [(t1, HO.tup [rv, .ref t0]), (t0, .tup [])]) ⊆ (E2 ++ (E1 ++ E)) ++ [(t1, HO.tup [rv, .ref t0]), (t0, .tup [])] := fun z hz => by
                rw [List.append_assoc, List.append_assoc]
                exact List.mem_append_right _ hz
              have up2 : E2 ++ (E1 ++ (E ++ [(t1, HO.tup [rv, .ref t0]), (t0, .tup [])])) ⊆ (E2 ++ (E1 ++ E)) ++ [(t1, HO.tup [rv, .ref t0]), (t0, .tup [])] := fun z hz => by
                rw [List.append_assoc, List.append_assoc]
                exact hz
              have e1 := jobS_app (js0 ++ [(r, o + nS l, w ++ [(o + nS l - 1, false)])]) (l, o, w ++ [(o + nS l - 1, true)])
              have e0 := jobS_app js0 (r, o + nS l, w ++ [(o + nS l - 1, false)])
              have e1 : jobS (js0 ++ [(r, o + nS l, w ++ [(o + nS l - 1, false)])] ++ [(l, o, w ++ [(o + nS l - 1, true)])]) = jobS (js0 ++ [(r, o + nS l, w ++ [(o + nS l - 1, false)])]) + (2 * nS l - 1) := e1
              have e0 : jobS (js0 ++ [(r, o + nS l, w ++ [(o + nS l - 1, false)])]) = jobS js0 + (2 * nS r - 1) := e0
              refine ⟨_, SLe.refl _, jobS (js0 ++ [(r, o + nS l, w ++ [(o + nS l - 1, false)])] ++ [(l, o, w ++ [(o + nS l - 1, true)])]), by omega, js0 ++ [(r, o + nS l, w ++ [(o + nS l - 1, false)])] ++ [(l, o, w ++ [(o + nS l - 1, true)])], outs, E2 ++ (E1 ++ E), sv0 ++ [v1] ++ [v2], pv ++ [.int ((o + nS l - 1 : Nat) : Int)], wv, _, _, _, rfl, ?_, ?_, ?_, ?_, hwv.sub up0, rfl, rfl⟩
              · rw [flat_snoc, flat_snoc, ← List.append_assoc (jobW (l, _, _)), ← jobW_node]
                exact hout
              · rw [List.length_append, List.length_singleton]
                omega
              · intro j hjm
                rcases List.mem_append.mp hjm with hjm | hjm
                · rcases List.mem_append.mp hjm with hjm | hjm
                  · exact hj0 j hjm
                  · rw [List.mem_singleton.mp hjm]
                    refine ⟨f4, ?_⟩
                    show (w ++ [_]).length + nS r ≤ 65
                    rw [List.length_append, List.length_singleton]
                    omega
                · rw [List.mem_singleton.mp hjm]
                  refine ⟨f3, ?_⟩
                  show (w ++ [_]).length + nS l ≤ 65
                  rw [List.length_append, List.length_singleton]
                  omega
              · rw [List.map_append, List.map_append]
                exact ((h0.sub up0).snoc (h1.sub up1)).snoc (h2.sub up2)
end
section
variable {K : PySem.W.Frag} {a : Ads}
open TR
theorem nV_snoc (ns : List Nat) (n : Nat) : nV (ns ++ [n]) = nV ns ++ [.int (n : Nat)] := nV_append ns [n]
theorem lc_fst {W : sWX} {F : Hp} {N G : List (Addr × HO)} {Q : V → SH → Prop} {q0 : Addr} {ys : List V} {w : Way} {x0 x1 x2 x3 x4 x5 x6 x7 x8 : Option V} (hs : N ⊆ G) (hp : mT K F N q0 ys) (hx : MDs K F N ys (w.map stD)) (hw : w.length ≤ 64)
    (k : ∀ D, Q (.ref D) ⟨F, (D, .lst (nV (w.map Prod.fst))) :: G⟩) :
    sLc (fun _ _ S R => R (itU K q0 ys) S) (sgName 8) sYes (sOp (oIx K) (sVar 8) (sC (.int 0))) [8] W [x0, x1, x2, x3, x4, x5, x6, x7, x8] ⟨F, G⟩ Q := by
  have ly : ys.length = w.length := by rw [hx.len, List.length_map]
  refine fun D => ⟨fun i S => S = ⟨F, (D, .lst (nV ((w.take i).map Prod.fst))) :: G⟩, rfl, ?_, ?_, ?_⟩
  · rintro i S _ rfl
    exact hp.s fun z hz => .tail _ (hs hz)
  · rintro i S hi rfl v hv
    have hi : i < ys.length := hi
    rw [ly] at hi
    obtain ⟨d, hd, hv2⟩ := hx.at hv
    obtain ⟨s, hs2⟩ : ∃ s, w[i]? = some s := ⟨_, List.getElem?_eq_getElem hi⟩
    rw [List.getElem?_map, hs2] at hd
    cases hd
    obtain ⟨p, rfl, hq⟩ := st_open hv2
    refine ⟨rfl, ?_⟩
    refine ⟨_, _, .inr (hq.s fun z hz => .tail _ (hs hz)), atI_at (i := 0) rfl, ?_⟩
    refine ⟨0, _, rfl, ?_, ⟨_, SLe.refl _, ?_⟩⟩
    · rw [nV_len, List.length_map, List.length_take]
      exact small_of (show min i w.length ≤ 100 by omega) (by decide)
    · show _ = SH.mk F ((D, .lst (nV ((w.take (i + 1)).map Prod.fst))) :: G)
      rw [map_more hs2, nV_snoc]
      rfl
  · rintro S rfl
    have en : (itU K q0 ys).n = w.length := ly
    rw [en, List.take_length]
    exact k D
theorem cut_drop {xs : List V} {m : Nat} (h : m ≤ xs.length) : cutV xs (some (m : Int)) none = xs.drop m := by
  unfold cutV
  rw [HT.sIx_none, HT.sIx_nat, Nat.min_eq_left h]
  exact List.take_of_length_le (by rw [List.length_drop]; omega)
theorem walk_fk {W : sWX} {F : Hp} {N G : List (Addr × HO)} {Q : V → SH → Prop} {pw : Addr} {xs : List V} {w : Way} {m : Nat} {x0 x1 x2 x3 x6 x7 x8 : Option V} (hs : N ⊆ G) (hp : mT K F N pw xs) (hx : MDs K F N xs (w.map stD)) (hw : w.length ≤ 64) (hm : m ≤ w.length)
    (k : ∀ q E, (q, HO.tup (nV ((w.drop m).map Prod.fst))) ∈ E → Q (.ref q) ⟨F, E ++ G⟩) :
    sTuple K (sLc (siSeq K (sSlT K (sVar 4) (sPart (sVar 5)) sNoP)) (sgName 8) sYes (sOp (oIx K) (sVar 8) (sC (.int 0))) [8]) W [x0, x1, x2, x3, some (.ref pw), some (.int (m : Nat)), x6, x7, x8] ⟨F, G⟩ Q := by
  have lx : xs.length = w.length := by rw [hx.len, List.length_map]
  have hd : MDs K F N (xs.drop m) ((w.drop m).map stD) := by
    rw [List.map_drop]
    exact hx.drop m
  have lw : (w.drop m).length ≤ 64 := by
    rw [List.length_drop]
    omega
  refine ⟨xs, hp.s hs, fun c => ?_, fun c r => ?_⟩
  · have m0 : m = 0 := by
      have := c.1
      rw [HT.sIx_nat] at this
      omega
    subst m0
    refine .inr ⟨xs, hp.s hs, ?_⟩
    refine lc_fst (W := W) (Q := fun v S => nTuple K v S Q) (x0 := x0) (x1 := x1) (x2 := x2) (x3 := x3) (x4 := some (.ref pw)) (x5 := some (.int (0 : Nat))) (x6 := x6) (x7 := x7) (x8 := x8) hs hp hx hw fun D => ?_
    refine .inl ⟨_, .inl ⟨0, rfl⟩, fun q => ?_⟩
    exact k q [(q, .tup (nV (w.map Prod.fst))), (D, .lst (nV (w.map Prod.fst)))] (.head _)
  · rw [cut_drop (by omega)]
    refine .inr ⟨xs.drop m, .inl ⟨0, rfl⟩, ?_⟩
    refine lc_fst (W := W) (Q := fun v S => nTuple K v S Q) (x0 := x0) (x1 := x1) (x2 := x2) (x3 := x3) (x4 := some (.ref pw)) (x5 := some (.int (m : Nat))) (x6 := x6) (x7 := x7) (x8 := x8) (N := (r, .tup (xs.drop m)) :: N) (G := (r, .tup (xs.drop m)) :: G) (w := w.drop m) (fun z hz => ?_) (.inl (.head _)) (hd.sub fun z hz => .tail _ hz) lw fun D => ?_
    · cases hz with
      | head => exact .head _
      | tail _ hz => exact .tail _ (hs hz)
    refine .inl ⟨_, .inl ⟨0, rfl⟩, fun q => ?_⟩
    exact k q [(q, .tup (nV ((w.drop m).map Prod.fst))), (D, .lst (nV ((w.drop m).map Prod.fst))), (r, .tup (xs.drop m))] (.head _)
theorem atI_pred {α : Type} {xs : List α} {k : Nat} {x : α} (h : xs[k]? = some x) : atI xs (((k + 1 : Nat) : Int) - 1) = some x := by
  rw [show (((k + 1 : Nat) : Int) - 1) = ((k : Nat) : Int) by omega]
  exact atI_at h
theorem trs_at {b : TR} {fl : List Bool} {i : Nat} {w : Way} (h : (wayB b 0)[i]? = some w) : (trsD b fl)[i]? = some (trD i (trF (okF fl) w)) := by
  unfold trsD trB
  rw [List.getElem?_mapIdx, List.getElem?_map, h]
  rfl
theorem trs_len (b : TR) (fl : List Bool) : (trsD b fl).length = nS b := by
  unfold trsD
  rw [List.length_mapIdx, trB_len]
theorem vc_trail_rows {vs : List V} {H : Hp} (g : V × TR × List Bool) (h : (ct_trail_rows K a).pre g vs H) : ∃ S, Own S H ∧ r_trail_rows K a (endsC (ct_trail_rows K a) g H) (start N_trail_rows vs) S := by
  obtain ⟨tv, b, fl⟩ := g
  obtain ⟨rfl, hT, hl⟩ := h
  have hT : TreeAt K a H tv b := hT
  have hl : fl.length + 1 = nS b := hl
  have hT0 := hT
  obtain ⟨⟨p, dx, fs, wv, sp, e1, h2, h3, h4, h5, h6, h7⟩, h9⟩ := hT
  have e1 : tv = .ref p := e1
  subst e1
  obtain ⟨pws, ws, rfl, hpws, hws⟩ := MD.tupI (show MD K H [] wv (.tuple _) from h5)
  refine ⟨⟨H, []⟩, Own.base H, ?_⟩
  refine ⟨Nat.zero_le _, fun pr => ?_⟩
  dsimp only
  refine seq_go ?_
  show siR1 _ _ _ _ _
  show sCons _ _ _ _ _ _
  refine cons_go ?_
  refine use_len (i := 0) (v := .ref p) (b := b) (fun H' o => hT0.ext (own_F o)) hT0 ?_ rfl
  refine nil_go ⟨by unfold rngOk; omega, ?_⟩
  refine ⟨fun i σ S => ∃ (E : List (Addr × HO)) (rv : List V) (x3 x4 x5 x6 x7 x8 : Option V), i ≤ nS b ∧ MDs K H E rv ((trsD b fl).take i) ∧ σ = [some (.ref p), some (.str (fS fl)), some (.ref pr), x3, x4, x5, x6, x7, x8] ∧ S = ⟨H, E ++ [(pr, .lst rv)]⟩, ?_, fun _ _ _ _ _ => trivial, ?_, ?_⟩
  · exact ⟨[], [], none, none, none, none, none, none, Nat.zero_le _, .nil, rfl, rfl⟩
  · rintro i σ S hi ⟨E, rv, x3, x4, x5, x6, x7, x8, _, hrv, rfl, rfl⟩
    have hi : i < ((nS b : Nat) : Int).toNat := hi
    rw [Int.toNat_natCast] at hi
    refine yldR_go ?_
    rw [Int.zero_add]
    refine nm_go ?_
    obtain ⟨w, hw⟩ : ∃ w, (wayB b 0)[i]? = some w := ⟨_, List.getElem?_eq_getElem (by rw [wayB_len]; exact hi)⟩
    have hwm := List.mem_of_getElem? hw
    have lw := way_len b 0 w hwm
    obtain ⟨u, hu, mu⟩ := hws.get (i := i) (d := wyD w) (by rw [List.getElem?_map, hw]; rfl)
    obtain ⟨pw, xs, rfl, hpw, hxs⟩ := MD.tupI (show MD K H [] u (.tuple _) from mu)
    have lx : xs.length = w.length := by rw [hxs.len, List.length_map]
    refine ⟨dx, fs, _, .inr h2, h4, ?_⟩
    refine ⟨ws, _, .inr (hpws.s fun _ z => nomatch z), atI_at hu, ?_⟩
    refine ⟨xs, .inr (hpw.s fun _ z => nomatch z), ?_⟩
    rw [lx]
    have lrv : rv.length = i := by
      rw [hrv.len, List.length_take, trs_len]
      omega
    -- what stands behind the inner loop
    refine ⟨fun m σ S => ∃ x6 x7 x8, m ≤ w.length ∧ (∀ s ∈ w.drop m, okF fl s = true) ∧ σ = [some (.ref p), some (.str (fS fl)), some (.ref pr), some (.int (i : Nat)), some (.ref pw), some (.int (m : Nat)), x6, x7, x8] ∧ S = ⟨H, E ++ [(pr, .lst rv)]⟩, ⟨w.length, _, _, _, Nat.le_refl _, ?_, rfl, rfl⟩, ?_⟩
    · rw [List.drop_length]
      exact fun _ z => nomatch z
    rintro m σ S ⟨x6, x7, x8, hm, hok, rfl, rfl⟩
    have hpw0 : mT K H E pw xs := hpw.sub fun _ z => nomatch z
    have hxs0 : MDs K H E xs (w.map stD) := hxs.sub fun _ z => nomatch z
    cases m with
    | zero =>
      have et : trF (okF fl) w = (w.map Prod.fst, none) := trF_all _ w hok
      show sTuple K (sLc (siSeq K (sSlT K (sVar 4) (sPart (sVar 5)) sNoP)) (sgName 8) sYes (sOp (oIx K) (sVar 8) (sC (.int 0))) [8]) noW [some (.ref p), some (.str (fS fl)), some (.ref pr), some (.int (i : Nat)), some (.ref pw), some (.int ((0 : Nat) : Int)), x6, x7, x8] ⟨H, E ++ [(pr, .lst rv)]⟩ _
      refine walk_fk (m := 0) (N := E) (List.subset_append_left _ _) hpw0 hxs0 (by omega) hm fun q E2 hq => ?_
      refine ⟨.inl ⟨rfl, rv, .inl ⟨E2.length + E.length, ?_⟩⟩, ?_⟩
      · rw [← List.append_assoc, ← List.length_append]
        exact at_mid
      refine ⟨show 3 ≤ sizeLine by decide, fun p3 => ?_⟩
      refine nil_go ?_
      rw [← List.append_assoc]
      refine app_go (E := (p3, .tup [.int (i : Nat), .ref q, .non]) :: (E2 ++ E)) (small_of (show rv.length ≤ 64 by omega) (by decide)) ?_
      refine ⟨_, SLe.refl _, (p3, .tup [.int (i : Nat), .ref q, .non]) :: (E2 ++ E), _, _, _, _, _, _, _, hi, ?_, rfl, rfl⟩
      rw [take_more (trs_at hw), et]
      exact (hrv.sub fun z hz => .tail _ (List.mem_append_right _ hz)).snoc (tr_make (t := (w.map Prod.fst, none)) (.inl (.head _)) (.inl (.tail _ (List.mem_append_left _ hq))))
    | succ k =>
      obtain ⟨s, hs⟩ : ∃ s, w[k]? = some s := ⟨_, List.getElem?_eq_getElem (by omega)⟩
      obtain ⟨us, hus, mus⟩ := hxs.get (i := k) (d := stD s) (by rw [List.getElem?_map, hs]; rfl)
      obtain ⟨pst, rfl, hpst⟩ := st_open mus
      have hsm := way_small b 0 w hwm s (List.mem_of_getElem? hs)
      obtain ⟨c, hc⟩ : ∃ c, fl[s.1]? = some c := ⟨_, List.getElem?_eq_getElem (by omega)⟩
      have g0 : decide ((0 : Int) < ((k + 1 : Nat) : Int)) = true := decide_eq_true (by omega)
      have suE : ∀ {G : List (Addr × HO)}, sU K ⟨H, G⟩ pw xs := hpw.s fun _ z => nomatch z
      have stE : ∀ {G : List (Addr × HO)}, sU K ⟨H, G⟩ pst [.int (s.1 : Nat), .str (sdS s.2)] := hpst.s fun _ z => nomatch z
      walk_at "b"
      rotate_left
      · rename_i hb
        exact absurd (show (0 : Int) < ((k + 1 : Nat) : Int) by omega) (by omega)
      refine ⟨xs, _, .inr suE, atI_pred hus, ?_⟩
      refine ⟨_, _, .inr stE, atI_at (i := 0) rfl, ?_⟩
      refine ⟨fS_line (by omega), cdB c, fS_at hc, ?_⟩
      refine ⟨xs, _, .inr suE, atI_pred hus, ?_⟩
      refine ⟨_, _, .inr stE, atI_at (i := 1) rfl, ?_⟩
      walk_at "b"
      · rename_i hb
        refine ⟨_, SLe.refl _, k, Nat.lt_succ_self _, x6, x7, x8, by omega, ?_, ?_, rfl⟩
        · obtain ⟨hk1, hk2⟩ := List.getElem?_eq_some_iff.mp hs
          rw [← List.getElem_cons_drop (h := hk1), hk2]
          intro x hx
          cases hx with
          | head =>
            rw [okF_at hc]
            exact beq_iff_eq.mpr (sd_inj hb)
          | tail _ hx => exact hok x hx
        · show [_, _, _, _, _, some (V.int (((k + 1 : Nat) : Int) - 1)), _, _, _] = _
          rw [show (((k + 1 : Nat) : Int) - 1) = ((k : Nat) : Int) by omega]
      · rename_i hb
        have hne : okF fl s = false := by
          rw [okF_at hc]
          refine beq_eq_false_iff_ne.mpr fun e => hb ?_
          rw [← e]
          rfl
        have et : trF (okF fl) w = ((w.drop (k + 1)).map Prod.fst, some s.1) := trF_at _ hs hne hok
        show sTuple K (sLc (siSeq K (sSlT K (sVar 4) (sPart (sVar 5)) sNoP)) (sgName 8) sYes (sOp (oIx K) (sVar 8) (sC (.int 0))) [8]) noW [some (.ref p), some (.str (fS fl)), some (.ref pr), some (.int (i : Nat)), some (.ref pw), some (.int ((k + 1 : Nat) : Int)), x6, x7, x8] ⟨H, E ++ [(pr, .lst rv)]⟩ _
        refine walk_fk (m := k + 1) (N := E) (List.subset_append_left _ _) hpw0 hxs0 (by omega) hm fun q E2 hq => ?_
        walk_at "b"
        rotate_left
        · rename_i hb
          exact absurd (show (0 : Int) < ((k + 1 : Nat) : Int) by omega) (by omega)
        refine ⟨xs, _, .inr suE, atI_pred hus, ?_⟩
        refine ⟨_, _, .inr stE, atI_at (i := 0) rfl, ?_⟩
        refine ⟨.inl ⟨rfl, rv, .inl ⟨E2.length + E.length, ?_⟩⟩, ?_⟩
        · rw [← List.append_assoc, ← List.length_append]
          exact at_mid
        refine ⟨show 3 ≤ sizeLine by decide, fun p3 => ?_⟩
        refine nil_go ?_
        rw [← List.append_assoc]
        refine app_go (E := (p3, .tup [.int (i : Nat), .ref q, .int (s.1 : Nat)]) :: (E2 ++ E)) (small_of (show rv.length ≤ 64 by omega) (by decide)) ?_
        refine ⟨_, SLe.refl _, (p3, .tup [.int (i : Nat), .ref q, .int (s.1 : Nat)]) :: (E2 ++ E), _, _, _, _, _, _, _, hi, ?_, rfl, rfl⟩
        rw [take_more (trs_at hw), et]
        exact (hrv.sub fun z hz => .tail _ (List.mem_append_right _ hz)).snoc (tr_make (t := ((w.drop (k + 1)).map Prod.fst, some s.1)) (.inl (.head _)) (.inl (.tail _ (List.mem_append_left _ hq))))
  · rintro σ S ⟨E, rv, x3, x4, x5, x6, x7, x8, _, hrv, rfl, rfl⟩
    have en : (itR 0 ((nS b : Nat) : Int).toNat).n = (trsD b fl).length := by
      rw [trs_len]
      exact Int.toNat_natCast _
    rw [en, List.take_length] at hrv
    intro H' o'
    have m := o'.gs (pr, .lst rv) (List.mem_append_right _ (.head _))
    exact ⟨⟨pr, rv, rfl, m.2, m.1, (hrv.sub (List.subset_append_left _ _)).own o'⟩, fun c u e => o'.fr c u e⟩
end
section
variable {K : PySem.W.Frag} {a : Ads}
open TR
theorem trF_len (m : Nat × Bool → Bool) : ∀ w : Way, (trF m w).1.length ≤ w.length
  | [] => Nat.le_refl 0
  | s :: w => by
    have h := trF_len m w
    rw [trF_cons]
    generalize trF m w = t at h
    obtain ⟨p, _ | x⟩ := t
    · show (if m s then (s.1 :: p, none) else (p, some s.1) : Tr).1.length ≤ w.length + 1
      split
      · show p.length + 1 ≤ w.length + 1
        have h : p.length ≤ w.length := h
        omega
      · show p.length ≤ w.length + 1
        have h : p.length ≤ w.length := h
        omega
    · show p.length ≤ w.length + 1
      have h : p.length ≤ w.length := h
      omega
theorem trB_way {b : TR} {fl : List Bool} {i : Nat} {t : Tr} (h : (trB b fl)[i]? = some t) : ∃ w, (wayB b 0)[i]? = some w ∧ t = trF (okF fl) w := by
  unfold trB at h
  rw [List.getElem?_map] at h
  cases e : (wayB b 0)[i]? with
  | none =>
    rw [e] at h
    cases h
  | some w =>
    rw [e] at h
    exact ⟨w, rfl, (Option.some.inj h).symm⟩
theorem trB_small {b : TR} {fl : List Bool} {i : Nat} {t : Tr} (h : (trB b fl)[i]? = some t) (hb : nS b ≤ 64) : t.1.length ≤ 64 := by
  obtain ⟨w, hw, rfl⟩ := trB_way h
  have := trF_len (okF fl) w
  have := way_len b 0 w (List.mem_of_getElem? hw)
  omega
theorem trs_get {b : TR} {fl : List Bool} {i : Nat} {t : Tr} (h : (trB b fl)[i]? = some t) : (trsD b fl)[i]? = some (trD i t) := by
  unfold trsD
  rw [List.getElem?_mapIdx, h]
  rfl
theorem use_rows {W : sWX} {σ : L2.St} {F : Hp} {Q : V → SH → Prop} {vs : List V} (tv : V) (b : TR) (fl : List Bool) (e : vs = [tv, .str (fS fl)]) (hT : TreeAt K a F tv b) (hl : fl.length + 1 = nS b)
    (k : ∀ H p xs, Ext F H → SqL K H p xs → MDs K H [] xs (trsD b fl) → Q (.ref p) ⟨H, []⟩) : rC (ct_trail_rows K a) W vs σ ⟨F, []⟩ Q := by
  refine ⟨(tv, b, fl), fun H o => ⟨e, hT.ext (own_F o), hl⟩, fun H v H' o q => ?_, fun _ _ _ _ _ q => q.elim⟩
  obtain ⟨⟨p, xs, rfl, q1, q2, q3⟩, q4⟩ := q
  exact ⟨_, Own.base H', k H' p xs ((own_F o).trans q4) (.inl (.inl q2)) q3⟩
end
section
variable {K : PySem.W.Frag} {a : Ads}
open TR
theorem without_tI {H : Hp} {q c C d : Addr} {fs : List (Str × V)} {xs : List V} (hc : H c = some (.ins C d fs)) (h : SqT K H q xs) : SqT K (without H c) q xs := by
  rcases h with (h | ⟨o, h⟩) | h
  · have ne : q ≠ c := fun e => by rw [e, hc] at h; cases h
    exact .inl (.inl (by rw [without_ne ne]; exact h))
  · have ne : q ≠ c := fun e => by rw [e, hc] at h; cases h
    exact .inl (.inr ⟨o, by rw [without_ne ne]; exact h⟩)
  · exact .inr h
theorem md_without {H : Hp} {c C d : Addr} {fs : List (Str × V)} {v : V} {x : PyData} (hc : H c = some (.ins C d fs)) (h : MD K H [] v x) : MD K (without H c) [] v x := h.mono fun _ _ z => .inr (without_tI hc (Or.elim z (fun y => absurd y List.not_mem_nil) id))
theorem allV_perm {α : Type} {R : V → α → Prop} {ys xs : List V} (h : ys.Perm xs) : ∀ {rs : List α}, allV R xs rs → ∃ qs, allV R ys qs ∧ qs.Perm rs := by
  induction h with
  | nil => exact fun {rs} z => ⟨rs, z, .refl _⟩
  | cons x _ ih =>
    intro rs z
    cases rs with
    | nil => exact z.elim
    | cons r rs =>
      obtain ⟨qs, h1, h2⟩ := ih z.2
      exact ⟨r :: qs, ⟨z.1, h1⟩, h2.cons r⟩
  | swap x y l =>
    intro rs z
    cases rs with
    | nil => exact z.elim
    | cons r rs =>
      cases rs with
      | nil => exact z.2.elim
      | cons s rs => exact ⟨s :: r :: rs, ⟨z.2.1, z.1, z.2.2⟩, .swap _ _ _⟩
  | trans _ _ ih1 ih2 =>
    intro rs z
    obtain ⟨qs, h1, h2⟩ := ih2 z
    obtain ⟨ps, h3, h4⟩ := ih1 h1
    exact ⟨ps, h3, h4.trans h2⟩
theorem allV_mem {α : Type} {R : V → α → Prop} : ∀ {vs : List V} {xs : List α}, allV R vs xs → ∀ v ∈ vs, ∃ x ∈ xs, R v x
  | v :: vs, x :: xs, h, u, hu => by
    cases hu with
    | head => exact ⟨x, .head _, h.1⟩
    | tail _ hu =>
      obtain ⟨y, hy, r⟩ := allV_mem h.2 u hu
      exact ⟨y, .tail _ hy, r⟩
  | [], _, _, u, hu => nomatch hu
  | v :: vs, [], h, _, _ => h.elim
theorem allV_back {α : Type} {R : V → α → Prop} : ∀ {vs : List V} {xs : List α}, allV R vs xs → ∀ x ∈ xs, ∃ v ∈ vs, R v x
  | v :: vs, x :: xs, h, u, hu => by
    cases hu with
    | head => exact ⟨v, .head _, h.1⟩
    | tail _ hu =>
      obtain ⟨y, hy, r⟩ := allV_back h.2 u hu
      exact ⟨y, .tail _ hy, r⟩
  | _, [], _, u, hu => nomatch hu
  | [], _ :: _, h, _, _ => h.elim
theorem allV_pair {α : Type} {R : V → α → Prop} {k : V → Int} {f : α → Nat} (hk : ∀ v x, R v x → k v = (f x : Nat)) : ∀ {vs : List V} {xs : List α}, allV R vs xs → (vs.Pairwise fun x y => k x ≤ k y) → xs.Pairwise fun x y => f x ≤ f y
  | [], [], _, _ => .nil
  | v :: vs, x :: xs, h, p => by
    cases p with
    | cons p1 p2 =>
      refine .cons (fun y hy => ?_) (allV_pair hk h.2 p2)
      have := allV_back h.2 y hy
      obtain ⟨u, hu, ru⟩ := this
      have := p1 u hu
      rw [hk v x h.1, hk u y ru] at this
      omega
  | [], _ :: _, h, _ => h.elim
  | _ :: _, [], h, _ => h.elim
theorem allV_MDs {α : Type} {F : Hp} {G : List (Addr × HO)} {f : α → PyData} : ∀ {vs : List V} {xs : List α}, allV (fun v x => MD K F G v (f x)) vs xs → MDs K F G vs (xs.map f)
  | [], [], _ => .nil
  | _ :: _, _ :: _, h => .cons h.1 (allV_MDs h.2)
  | [], _ :: _, h => h.elim
  | _ :: _, [], h => h.elim
theorem walk_colT {α : Type} {Rv R' : V → α → Prop} {W : sWX} {F : Hp} {G : List (Addr × HO)} {Q : V → SH → Prop} {i j : Nat} {c : Int} {q : Addr} {vs : List V} {qs : List α} {x0 x1 x2 x3 x4 : Option V} (hi : [x0, x1, x2, x3, x4][i]? = some (some (.ref q))) (hc : c = (j : Nat))
    (hL : ∀ E, sL K ⟨F, E ++ G⟩ q vs) (hal : allV Rv vs qs) (hR : ∀ v r, Rv v r → ∃ t xs u, v = .ref t ∧ SqT K F t xs ∧ xs[j]? = some u ∧ R' u r) (hl : qs.length ≤ 100)
    (k : ∀ ws D t, allV R' ws qs → Q (.ref t) ⟨F, (t, .tup ws) :: (D, .lst ws) :: G⟩) :
    sTuple K (sLc (siSeq K (sVar i)) (sgName 4) sYes (sOp (oIx K) (sVar 4) (sC (.int c))) [4]) W [x0, x1, x2, x3, x4] ⟨F, G⟩ Q := by
  subst hc
  have lv : vs.length = qs.length := allV_len hal
  unfold sTuple sLc
  dsimp only
  refine seqI_go (var_go hi ?_)
  refine .inl ⟨vs, hL [], fun D => ?_⟩
  refine ⟨fun n S => ∃ ws, allV R' ws (qs.take n) ∧ S = ⟨F, (D, .lst ws) :: G⟩, ⟨[], trivial, rfl⟩, ?_, ?_, ?_⟩
  · rintro n S _ ⟨ws, _, rfl⟩
    exact hL [_]
  · rintro n S hn ⟨ws, hws, rfl⟩ v hv
    obtain ⟨r, hr, hvr⟩ := allV_at hal hv
    obtain ⟨t, xs, u, rfl, ht, hu, hru⟩ := hR v r hvr
    refine ⟨rfl, ?_⟩
    refine ⟨xs, u, .inr (.inr ht), atI_at hu, ?_⟩
    refine ⟨0, ws, rfl, ?_, ⟨_, SLe.refl _, ws ++ [u], ?_, rfl⟩⟩
    · rw [allV_len hws, List.length_take]
      exact small_of (show min n qs.length ≤ 100 by omega) (by decide)
    · rw [take_more hr]
      exact allV_snoc hru hws
  · rintro S ⟨ws, hws, rfl⟩
    have en : (itL K q vs).n = qs.length := lv
    rw [en, List.take_length] at hws
    exact .inl ⟨ws, .inl ⟨0, rfl⟩, fun t => k ws D t hws⟩
theorem set_col {α : Type} {Rv R' : V → α → Prop} {D : sEnds} {F : Hp} {E : List (Addr × HO)} {C dx p0 : Addr} {f : Str} {fs : List (Str × V)} {i j : Nat} {c : Int} {q : Addr} {vs : List V} {qs : List α} {x1 x2 x3 x4 : Option V} (hi : [some (.ref p0), x1, x2, x3, x4][i]? = some (some (.ref q))) (hc : c = (j : Nat))
    (hL : ∀ A, sL K ⟨F, A ++ E ++ [(p0, .ins C dx fs)]⟩ q vs) (hal : allV Rv vs qs) (hR : ∀ v r, Rv v r → ∃ t xs u, v = .ref t ∧ SqT K F t xs ∧ xs[j]? = some u ∧ R' u r) (hl : qs.length ≤ 100) (hf : fs.length < 1000)
    (k : ∀ ws D2 t, allV R' ws qs → D.nx [some (.ref p0), x1, x2, x3, x4] ⟨F, ((t, .tup ws) :: (D2, .lst ws) :: E) ++ [(p0, .ins C dx (putF f (.ref t) fs))]⟩) :
    sSetO C f (sVar 0) (sTuple K (sLc (siSeq K (sVar i)) (sgName 4) sYes (sOp (oIx K) (sVar 4) (sC (.int c))) [4])) D [some (.ref p0), x1, x2, x3, x4] ⟨F, E ++ [(p0, .ins C dx fs)]⟩ := by
  unfold sSetO
  refine walk_colT (Rv := Rv) (R' := R') hi hc (fun A => ?_) hal hR hl fun ws D2 t hws => ?_
  · rw [← List.append_assoc]
    exact hL A
  · refine ⟨((t, HO.tup ws) :: (D2, HO.lst ws) :: E).length, dx, fs, at_mid (E := (t, HO.tup ws) :: (D2, HO.lst ws) :: E), hf, ?_⟩
    show D.nx _ ⟨F, (((t, HO.tup ws) :: (D2, HO.lst ws) :: E) ++ [(p0, HO.ins C dx fs)]).set ((t, HO.tup ws) :: (D2, HO.lst ws) :: E).length (p0, HO.ins C dx (putF f (.ref t) fs))⟩
    rw [set_mid]
    exact k ws D2 t hws
theorem lk_eq {f : Str} {v : V} {fs : List (Str × V)} : (putF f v fs).lookup f = some v := by rw [lookup_putF, if_pos rfl]
theorem lk_ne {f g : Str} {v : V} {fs : List (Str × V)} {r : Option V} (h : fs.lookup g = r) (n : g ≠ f := by decide) : (putF f v fs).lookup g = r := by rw [lookup_putF, if_neg n, h]
theorem len_put {f : Str} {v : V} {fs : List (Str × V)} {n : Nat} (h : fs.length ≤ n) : (putF f v fs).length ≤ n + 1 := Nat.le_trans (length_putF f v fs) (Nat.succ_le_succ h)
theorem atI_last {α : Type} {xs : List α} {x : α} (h : xs[xs.length - 1]? = some x) : atI xs (-1) = some x := by
  have hl : xs.length - 1 < xs.length := (List.getElem?_eq_some_iff.mp h).1
  have : ixN xs.length (-1) = some (xs.length - 1) := by
    unfold ixN
    rw [if_neg (by omega), if_pos (by omega)]
    congr 1
    omega
  unfold atI
  rw [this]
  exact h
/-- the key of a row -/
def kfR (F : Hp) : V → Int
  | .ref t => match F t with
    | some (.tup (.int i :: _)) => i
    | _ => 0
  | _ => 0
theorem row_open {F : Hp} {v : V} {r : TR.Row} (h : rowR K [] F v r) : ∃ t r1 r2 r3 r4, v = .ref t ∧ F t = some (.tup [.int (r.1 : Nat), r1, r2, r3, r4]) ∧ MD K F [] r1 (ndD r.2.1) ∧ MD K F [] r2 (ndD r.2.2.1) ∧ MD K F [] r3 (prD r.2.2.2.1) := by
  obtain ⟨t, r1, r2, r3, r4, e, h1, h2, h3, h4⟩ := h
  refine ⟨t, r1, r2, r3, r4, e, h1.elim (fun ⟨i, hi⟩ => by cases hi) id, h2, h3, h4⟩
theorem row_key {F : Hp} {v : V} {r : TR.Row} (h : rowR K [] F v r) : kfR F v = (r.1 : Nat) := by
  obtain ⟨t, r1, r2, r3, r4, rfl, h1, _⟩ := row_open h
  show (match F t with | some (.tup (.int i :: _)) => i | _ => 0) = _
  rw [h1]
theorem row_without {H : Hp} {c C d : Addr} {fs : List (Str × V)} (hc : H c = some (.ins C d fs)) {v : V} {r : TR.Row} (h : rowR K [] H v r) : rowR K [] (without H c) v r := by
  obtain ⟨t, r1, r2, r3, r4, rfl, h1, h2, h3, h4⟩ := row_open h
  have ne : t ≠ c := fun e => by rw [e, hc] at h1; cases h1
  exact ⟨t, r1, r2, r3, r4, rfl, .inr (by show without H c t = _; rw [without_ne ne]; exact h1), md_without hc h2, md_without hc h3, md_without hc h4⟩
theorem txt_small {b : TR} (h : nS b ≤ 64) : (tS b).length ≤ 190 := by
  have := txt_len b
  show (txt b).toArray.size ≤ 190
  rw [List.size_toArray]
  omega
theorem spans_sorted {b : TR} {qs : List TR.Row} (h : qs.Perm (rowsB b 0 0)) (hat : ∀ row ∈ rowsB b 0 0, qs[row.1]? = some row) : qs.map (·.2.2.2.1) = (List.range (nS b - 1)).map (spnF b 0) := by
  have lr := rowsB_len b 0 0
  have lq := h.length_eq
  refine List.ext_getElem? fun i => ?_
  rw [List.getElem?_map, List.getElem?_map]
  by_cases hi : i < nS b - 1
  · have : i ∈ (rowsB b 0 0).map Prod.fst := (rows_keys b 0 0).mem_iff.mpr (List.mem_range'_1.mpr ⟨Nat.zero_le _, by omega⟩)
    obtain ⟨row, hr, e⟩ := List.mem_map.mp this
    have e : row.1 = i := e
    have := hat row hr
    rw [e] at this
    rw [this, List.getElem?_range hi]
    show some row.2.2.2.1 = some (spnF b 0 i)
    rw [rows_spans b 0 0 row hr, e]
  · rw [List.getElem?_eq_none (by omega), List.getElem?_eq_none (by rw [List.length_range]; omega)]
    rfl
theorem vc_Tree_init {vs : List V} {H : Hp} (g : Addr × Addr × TR) (h : (ct_Tree_init K a).pre g vs H) : ∃ S, Own S H ∧ r_Tree_init K a (endsC (ct_Tree_init K a) g H) (start N_Tree_init vs) S := by
  obtain ⟨p0, dx, b⟩ := g
  obtain ⟨rfl, h0, hb⟩ := h
  have h0 : H p0 = some (.ins a.Tree dx []) := h0
  have hb : nS b ≤ 64 := hb
  have hp := nS_pos b
  refine ⟨_, Own.only h0, ?_⟩
  refine ⟨fun σ S => ∃ (F : Hp) (p : Addr) (xs : List V), Ext (without H p0) F ∧ SqL K F p xs ∧ allV (rowR K [] F) xs (rowsB b 0 0) ∧ σ = [some (.ref p0), some (.str (tS b)), some (.ref p), none, none] ∧ S = ⟨F, [(p0, .ins a.Tree dx [])]⟩, ?_, ?_⟩
  · refine ⟨Nat.le_trans (txt_small hb) (by decide), ?_⟩
    refine ⟨dx, [], .inl ⟨0, rfl⟩, rfl, ?_⟩
    refine ⟨.inl (by unfold sm64; decide), ?_⟩
    walk_at "b"
    rotate_left
    · rename_i hb2
      have := txt_small hb
      exact absurd (show ((tS b).length : Int) ≤ 3 * 64 - 2 by omega) (by omega)
    refine ⟨b, fun H1 o => ⟨rfl, hb⟩, fun H1 v H' o q => ?_, fun _ _ _ _ _ q => q.elim⟩
    obtain ⟨⟨p, xs, rfl, q1, q2, q3⟩, q4⟩ := q
    have hp1 : H1 p0 = some (.ins a.Tree dx []) := (o.gs (p0, .ins a.Tree dx []) (.head _)).1
    have hp2 := q4 _ _ hp1
    have ne : p ≠ p0 := fun e => by rw [e, hp2] at q2; cases q2
    refine ⟨_, Own.only hp2, ⟨_, SLe.refl _, without H' p0, p, xs, fun c u e => ?_, .inl (.inl (by rw [without_ne ne]; exact q2)), allV_ex (fun v r z => row_without hp2 z) q3, rfl, rfl⟩⟩
    have nc : c ≠ p0 := fun z => by
      rw [z, without_same] at e
      cases e
    rw [without_ne nc]
    exact q4 _ _ (o.fr c u e)
  rintro σ S ⟨F, p, xs, ex, hpx, hrow, rfl, rfl⟩
  have lrb := rowsB_len b 0 0
  have lxs : xs.length = (rowsB b 0 0).length := allV_len hrow
  refine ⟨xs, kfR F, .inr hpx, fun x hx => ?_, fun x hx y hy e => ?_, fun ys q hys hpw => ?_⟩
  · obtain ⟨r, _, hr⟩ := allV_mem hrow x hx
    rw [row_key hr]
    obtain ⟨t, r1, r2, r3, r4, rfl, h1, _⟩ := row_open hr
    exact ⟨t, _, rfl, .inr h1⟩
  · obtain ⟨i, hi⟩ := List.mem_iff_getElem?.mp hx
    obtain ⟨j, hj⟩ := List.mem_iff_getElem?.mp hy
    obtain ⟨r, hr1, hr2⟩ := allV_at hrow hi
    obtain ⟨s, hs1, hs2⟩ := allV_at hrow hj
    rw [row_key hr2, row_key hs2] at e
    have e : r.1 = s.1 := by omega
    have hn : ((rowsB b 0 0).map Prod.fst).Nodup := (rows_keys b 0 0).nodup_iff.mpr (by rw [← List.range_eq_range']; exact List.nodup_range)
    have := nodup_at hn (i := i) (j := j) (x := r.1) (by rw [List.getElem?_map, hr1]; rfl) (by rw [List.getElem?_map, hs1, e]; rfl)
    subst this
    rw [hi] at hj
    exact Option.some.inj hj
  obtain ⟨qs, hq1, hq2⟩ := allV_perm hys hrow
  have hq3 : qs.Pairwise fun x y => x.1 ≤ y.1 := allV_pair (fun v r z => row_key z) hq1 hpw
  have hat := rows_sorted hq2 hq3
  have lqs : qs.length ≤ 100 := by
    rw [hq2.length_eq]
    omega
  refine ⟨1, dx, [], rfl, Nat.zero_lt_succ _, ?_⟩
  have colR : ∀ (G : List (Addr × HO)) (j : Nat) (hj : j < 5), ∀ v r, rowR K [] F v r → ∃ t xs u, v = .ref t ∧ SqT K F t xs ∧ xs[j]? = some u ∧ (j = 1 → MD K F [] u (ndD r.2.1)) ∧ (j = 2 → MD K F [] u (ndD r.2.2.1)) ∧ (j = 3 → MD K F [] u (prD r.2.2.2.1)) := fun G j hj v r hr => by
    obtain ⟨t, r1, r2, r3, r4, rfl, h1, h2, h3, h4⟩ := row_open hr
    have : j = 0 ∨ j = 1 ∨ j = 2 ∨ j = 3 ∨ j = 4 := by omega
    rcases this with rfl | rfl | rfl | rfl | rfl
    · exact ⟨t, _, _, rfl, .inl (.inl h1), rfl, (fun e => absurd e (by decide)), (fun e => absurd e (by decide)), (fun e => absurd e (by decide))⟩
    · exact ⟨t, _, _, rfl, .inl (.inl h1), rfl, (fun _ => h2), (fun e => absurd e (by decide)), (fun e => absurd e (by decide))⟩
    · exact ⟨t, _, _, rfl, .inl (.inl h1), rfl, (fun e => absurd e (by decide)), (fun _ => h3), (fun e => absurd e (by decide))⟩
    · exact ⟨t, _, _, rfl, .inl (.inl h1), rfl, (fun e => absurd e (by decide)), (fun e => absurd e (by decide)), fun _ => h4⟩
    · exact ⟨t, _, _, rfl, .inl (.inl h1), rfl, (fun e => absurd e (by decide)), (fun e => absurd e (by decide)), (fun e => absurd e (by decide))⟩
  have colA : ∀ (j : Nat) (hj : j < 5), ∀ v r, rowR K [] F v r → ∃ t xs u, v = .ref t ∧ SqT K F t xs ∧ xs[j]? = some u ∧ True := fun j hj v r hr => by
    obtain ⟨t, xs, u, h1, h2, h3, _⟩ := colR [] j hj v r hr
    exact ⟨t, xs, u, h1, h2, h3, trivial⟩
  dsimp only
  refine seq_go ?_
  refine set_col (K := K) (Rv := rowR K [] F) (R' := fun u r => MD K F [] u (ndD r.2.1)) (i := 3) (j := 1) (c := 1) (q := q) (vs := ys) (qs := qs) (E := [(q, .lst ys)]) (p0 := p0) ?_ rfl (fun A => .inl ⟨A.length, ?_⟩) hq1 (fun v r hr => ?_) lqs (Nat.lt_of_le_of_lt (len_put (Nat.le_refl 0)) (by decide)) fun w1 D1 t1 hw1 => ?_
  · rfl
  · rw [List.append_assoc]
    exact at_mid
  · obtain ⟨t, ts, u, h1, h2, h3, h4, h5, h6⟩ := colR [] 1 (by decide) v r hr
    exact ⟨t, ts, u, h1, h2, h3, h4 rfl⟩
  dsimp only
  refine seq_go ?_
  refine set_col (K := K) (Rv := rowR K [] F) (R' := fun u r => MD K F [] u (ndD r.2.2.1)) (i := 3) (j := 2) (c := 2) (q := q) (vs := ys) (qs := qs) (E := [(t1, .tup w1), (D1, .lst w1), (q, .lst ys)]) (p0 := p0) ?_ rfl (fun A => .inl ⟨A.length + 2, ?_⟩) hq1 (fun v r hr => ?_) lqs (Nat.lt_of_le_of_lt (len_put (len_put (Nat.le_refl 0))) (by decide)) fun w2 D2 t2 hw2 => ?_
  · rfl
  · rw [List.append_assoc, List.getElem?_append_right (by omega), show A.length + 2 - A.length = 2 by omega]
    rfl
  · obtain ⟨t, ts, u, h1, h2, h3, h4, h5, h6⟩ := colR [] 2 (by decide) v r hr
    exact ⟨t, ts, u, h1, h2, h3, h5 rfl⟩
  dsimp only
  refine seq_go ?_
  refine set_col (K := K) (Rv := rowR K [] F) (R' := fun u r => MD K F [] u (prD r.2.2.2.1)) (i := 3) (j := 3) (c := 3) (q := q) (vs := ys) (qs := qs) (E := [(t2, .tup w2), (D2, .lst w2), (t1, .tup w1), (D1, .lst w1), (q, .lst ys)]) (p0 := p0) ?_ rfl (fun A => .inl ⟨A.length + 4, ?_⟩) hq1 (fun v r hr => ?_) lqs (Nat.lt_of_le_of_lt (len_put (len_put (len_put (Nat.le_refl 0)))) (by decide)) fun w3 D3 t3 hw3 => ?_
  · rfl
  · rw [List.append_assoc, List.getElem?_append_right (by omega), show A.length + 4 - A.length = 4 by omega]
    rfl
  · obtain ⟨t, ts, u, h1, h2, h3, h4, h5, h6⟩ := colR [] 3 (by decide) v r hr
    exact ⟨t, ts, u, h1, h2, h3, h6 rfl⟩
  dsimp only
  refine seq_go ?_
  refine set_col (K := K) (Rv := rowR K [] F) (R' := fun _ _ => True) (i := 3) (j := 4) (c := 4) (q := q) (vs := ys) (qs := qs) (E := [(t3, .tup w3), (D3, .lst w3), (t2, .tup w2), (D2, .lst w2), (t1, .tup w1), (D1, .lst w1), (q, .lst ys)]) (p0 := p0) ?_ rfl (fun A => .inl ⟨A.length + 6, ?_⟩) hq1 (colA 4 (by decide)) lqs (Nat.lt_of_le_of_lt (len_put (len_put (len_put (len_put (Nat.le_refl 0))))) (by decide)) fun w4 D4 t4 hw4 => ?_
  · rfl
  · rw [List.append_assoc, List.getElem?_append_right (by omega), show A.length + 6 - A.length = 6 by omega]
    rfl
  dsimp only
  refine seq_go ?_
  refine set_col (K := K) (Rv := rowR K [] F) (R' := fun _ _ => True) (i := 2) (j := 0) (c := 0) (q := p) (vs := xs) (qs := rowsB b 0 0) (E := [(t4, .tup w4), (D4, .lst w4), (t3, .tup w3), (D3, .lst w3), (t2, .tup w2), (D2, .lst w2), (t1, .tup w1), (D1, .lst w1), (q, .lst ys)]) (p0 := p0) ?_ rfl (fun A => .inr hpx) hrow (colA 0 (by decide)) (by omega) (Nat.lt_of_le_of_lt (len_put (len_put (len_put (len_put (len_put (Nat.le_refl 0)))))) (by decide)) fun w5 D5 t5 hw5 => ?_
  · rfl
  dsimp only
  refine seq_go ?_
  generalize hfs : putF "postorder" (V.ref t5) (putF "bounds" (.ref t4) (putF "spans" (.ref t3) (putF "rights" (.ref t2) (putF "lefts" (.ref t1) (putF "text" (.str (tS b)) []))))) = fs6
  have l6 : fs6.length ≤ 6 := by
    rw [← hfs]
    exact len_put (len_put (len_put (len_put (len_put (len_put (Nat.le_refl 0))))))
  have ft : fs6.lookup ("text" : Str) = some (.str (tS b)) := by
    rw [← hfs]
    exact lk_ne (lk_ne (lk_ne (lk_ne (lk_ne lk_eq))))
  have fsp : fs6.lookup ("spans" : Str) = some (.ref t3) := by
    rw [← hfs]
    exact lk_ne (lk_ne lk_eq)
  have fle : fs6.lookup ("lefts" : Str) = some (.ref t1) := by
    rw [← hfs]
    exact lk_ne (lk_ne (lk_ne (lk_ne lk_eq)))
  have fri : fs6.lookup ("rights" : Str) = some (.ref t2) := by
    rw [← hfs]
    exact lk_ne (lk_ne (lk_ne lk_eq))
  clear hfs
  show (sSetO a.Tree ("root" : Str) (sVar 0) _) _ [some (.ref p0), some (.str (tS b)), some (.ref p), some (.ref q), none] ⟨F, [(t5, .tup w5), (D5, .lst w5), (t4, .tup w4), (D4, .lst w4), (t3, .tup w3), (D3, .lst w3), (t2, .tup w2), (D2, .lst w2), (t1, .tup w1), (D1, .lst w1), (q, .lst ys), (p0, .ins a.Tree dx fs6)]⟩
  generalize hE : ([(t5, .tup w5), (D5, .lst w5), (t4, .tup w4), (D4, .lst w4), (t3, .tup w3), (D3, .lst w3), (t2, .tup w2), (D2, .lst w2), (t1, .tup w1), (D1, .lst w1), (q, .lst ys)] : List (Addr × HO)) = E6
  have m1 : (t1, HO.tup w1) ∈ E6 := by
    rw [← hE]
    exact .tail _ (.tail _ (.tail _ (.tail _ (.tail _ (.tail _ (.tail _ (.tail _ (.head _))))))))
  have m2 : (t2, HO.tup w2) ∈ E6 := by
    rw [← hE]
    exact .tail _ (.tail _ (.tail _ (.tail _ (.tail _ (.tail _ (.head _))))))
  have m3 : (t3, HO.tup w3) ∈ E6 := by
    rw [← hE]
    exact .tail _ (.tail _ (.tail _ (.tail _ (.head _))))
  show (sSetO a.Tree ("root" : Str) (sVar 0) _) _ [some (.ref p0), some (.str (tS b)), some (.ref p), some (.ref q), none] ⟨F, [(t5, .tup w5), (D5, .lst w5), (t4, .tup w4), (D4, .lst w4), (t3, .tup w3), (D3, .lst w3), (t2, .tup w2), (D2, .lst w2), (t1, .tup w1), (D1, .lst w1), (q, .lst ys)] ++ [(p0, .ins a.Tree dx fs6)]⟩
  rw [hE]
  have rest : ∀ r0 : Addr, (sAsg (sCallD (q_lay_ways K a) [] (sCons (sFldO a.Tree ("root" : Str) (sVar 0)) (sCons (sFldO a.Tree ("lefts" : Str) (sVar 0)) (sCons (sFldO a.Tree ("rights" : Str) (sVar 0)) sNil)))) (sgTup K 2 (sgCons (sgFld a.Tree ("preorder" : Str) (sVar 0)) (sgCons (sgFld a.Tree ("ways" : Str) (sVar 0)) sgNil))))
      (endsC (ct_Tree_init K a) (p0, dx, b) H) [some (.ref p0), some (.str (tS b)), some (.ref p), some (.ref q), none] ⟨F, ((r0, .tup [.str (kdS (ndB b 0).1), .int ((ndB b 0).2 : Nat)]) :: E6) ++ [(p0, .ins a.Tree dx (putF "root" (.ref r0) fs6))]⟩ := fun r0 => by
    have sE : ∀ {X : List (Addr × HO)}, ((r0, HO.tup [.str (kdS (ndB b 0).1), .int ((ndB b 0).2 : Nat)]) :: E6) ⊆ ((r0, HO.tup [.str (kdS (ndB b 0).1), .int ((ndB b 0).2 : Nat)]) :: E6) ++ X := fun {X} => List.subset_append_left _ _
    refine ⟨dx, _, _, .inl ⟨_, at_mid⟩, lk_eq, ?_⟩
    refine ⟨dx, _, _, .inl ⟨_, at_mid⟩, lk_ne fle, ?_⟩
    refine ⟨dx, _, _, .inl ⟨_, at_mid⟩, lk_ne fri, ?_⟩
    refine ⟨(b, .ref r0, .ref t1, .ref t2, qs.map (·.2.1), qs.map (·.2.2.1)), fun H1 o => ⟨rfl, hb, ?_, ?_, ?_, ?_⟩, fun H1 v H' o qq => ?_, fun _ _ _ _ _ q => q.elim⟩
    · have : MD K F ((r0, .tup [.str (kdS (ndB b 0).1), .int ((ndB b 0).2 : Nat)]) :: E6) (.ref r0) (ndD (ndB b 0)) := nd_make (ndB b 0) (.inl (.head _))
      exact (this.sub sE).own o
    · have : MD K F ((r0, .tup [.str (kdS (ndB b 0).1), .int ((ndB b 0).2 : Nat)]) :: E6) (.ref t1) (.tuple ((qs.map (·.2.1)).map ndD)) := by
        refine .tup (.inl (.tail _ m1)) ?_
        rw [List.map_map]
        exact (allV_MDs (f := fun r : TR.Row => ndD r.2.1) hw1).up
      exact (this.sub sE).own o
    · have : MD K F ((r0, .tup [.str (kdS (ndB b 0).1), .int ((ndB b 0).2 : Nat)]) :: E6) (.ref t2) (.tuple ((qs.map (·.2.2.1)).map ndD)) := by
        refine .tup (.inl (.tail _ m2)) ?_
        rw [List.map_map]
        exact (allV_MDs (f := fun r : TR.Row => ndD r.2.2.1) hw2).up
      exact (this.sub sE).own o
    · refine fits_of b 0 0 _ _ fun row hr => ?_
      rw [List.getElem?_map, List.getElem?_map, hat row hr]
      exact ⟨rfl, rfl⟩
    obtain ⟨⟨p7, u, w, rfl, q1, q2⟩, q3⟩ := qq
    have hp1 : H1 p0 = some (.ins a.Tree dx (putF "root" (.ref r0) fs6)) := (o.gs (p0, .ins a.Tree dx (putF "root" (.ref r0) fs6)) (List.mem_append_right _ (.head _))).1
    have hp2 := q3 _ _ hp1
    have h3 : MD K H1 [] (.ref t3) (spsD b) := by
      have e : (qs.map (·.2.2.2.1)) = (List.range (nS b - 1)).map (spnF b 0) := spans_sorted hq2 hat
      have : MD K F ((r0, .tup [.str (kdS (ndB b 0).1), .int ((ndB b 0).2 : Nat)]) :: E6) (.ref t3) (.tuple ((qs.map (·.2.2.2.1)).map prD)) := by
        refine .tup (.inl (.tail _ m3)) ?_
        rw [List.map_map]
        exact (allV_MDs (f := fun r : TR.Row => prD r.2.2.2.1) hw3).up
      rw [e, List.map_map] at this
      exact (this.sub sE).own o
    refine ⟨_, Own.only hp2, ?_⟩
    refine ⟨[u, w], .inr (without_tI hp2 q1), rfl, ?_⟩
    refine ⟨0, dx, _, rfl, Nat.lt_of_le_of_lt (len_put l6) (by decide), ?_⟩
    refine ⟨0, dx, _, rfl, Nat.lt_of_le_of_lt (len_put (len_put l6)) (by decide), ?_⟩
    intro H2 o2
    refine ⟨rfl, ⟨⟨p0, dx, _, w, .ref t3, rfl, (o2.gs _ (.head _)).1, lk_ne (lk_ne (lk_ne ft)), lk_eq, (md_without hp2 q2).ext (own_F o2), lk_ne (lk_ne (lk_ne fsp)), (md_without hp2 (h3.ext q3)).ext (own_F o2)⟩, hb⟩, fun c u nc e => ?_⟩
    · refine own_F o2 _ _ ?_
      show without H' p0 c = _
      rw [without_ne nc]
      exact q3 _ _ (own_F o _ _ (ex _ _ (by rw [without_ne nc]; exact e)))
  refine .inl ⟨xs, .inr hpx, ?_⟩
  cases b with
  | leaf =>
    have : xs = [] := List.length_eq_zero_iff.mp lxs
    subst this
    refine ⟨show 2 ≤ sizeLine by decide, fun r0 => ?_⟩
    refine ⟨((r0, HO.tup [.str (kdS (ndB leaf 0).1), .int ((ndB leaf 0).2 : Nat)]) :: E6).length, dx, fs6, at_mid (E := (r0, HO.tup [.str (kdS (ndB leaf 0).1), .int ((ndB leaf 0).2 : Nat)]) :: E6), by omega, ?_⟩
    have := rest r0
    rw [← set_mid (E := (r0, HO.tup [.str (kdS (ndB leaf 0).1), .int ((ndB leaf 0).2 : Nat)]) :: E6) (x := (p0, .ins a.Tree dx fs6))] at this
    exact this
  | node l r =>
    obtain ⟨x, hx, hr⟩ : ∃ x, xs[xs.length - 1]? = some x ∧ rowR K [] F x (0 + nS l - 1, ndB l 0, ndB r (0 + nS l), (0, 0 + nS l + nS r - 1), (0, 0 + (txt (node l r)).length)) := by
      have hl : 0 < xs.length := by
        rw [lxs]
        show 0 < (rowsB l 0 1 ++ (rowsB r (0 + nS l) (0 + 1 + (txt l).length) ++ [_])).length
        rw [List.length_append, List.length_append, List.length_singleton]
        omega
      obtain ⟨y, hy1, hy2⟩ := allV_at hrow (List.getElem?_eq_getElem (show xs.length - 1 < xs.length by omega))
      refine ⟨_, List.getElem?_eq_getElem (by omega), ?_⟩
      have ey : y = (0 + nS l - 1, ndB l 0, ndB r (0 + nS l), (0, 0 + nS l + nS r - 1), (0, 0 + (txt (node l r)).length)) := by
        have e2 : (rowsB (node l r) 0 0)[xs.length - 1]? = some (0 + nS l - 1, ndB l 0, ndB r (0 + nS l), (0, 0 + nS l + nS r - 1), (0, 0 + (txt (node l r)).length)) := by
          rw [lxs]
          show (rowsB l 0 (0 + 1) ++ (rowsB r (0 + nS l) (0 + 1 + (txt l).length) ++ [_]))[(rowsB l 0 (0 + 1) ++ (rowsB r (0 + nS l) (0 + 1 + (txt l).length) ++ [_])).length - 1]? = _
          rw [← List.append_assoc, List.length_append, List.length_singleton, Nat.add_sub_cancel, List.getElem?_append_right (Nat.le_refl _), Nat.sub_self]
          rfl
        rw [e2] at hy1
        exact (Option.some.inj hy1).symm
      rw [← ey]
      exact hy2
    have ne : (!xs.isEmpty) = true := by
      cases xs with
      | nil => cases hx
      | cons => rfl
    rw [ne]
    refine ⟨xs, x, .inl (.inr hpx), atI_last hx, ?_⟩
    obtain ⟨t, r1, r2, r3, r4, rfl, h1, _⟩ := row_open hr
    refine ⟨_, _, .inr (.inr (.inl (.inl h1))), atI_at (i := 0) rfl, ?_⟩
    refine ⟨show 2 ≤ sizeLine by decide, fun r0 => ?_⟩
    refine ⟨((r0, HO.tup [.str (kdS (ndB (node l r) 0).1), .int ((ndB (node l r) 0).2 : Nat)]) :: E6).length, dx, fs6, at_mid (E := (r0, HO.tup [.str (kdS (ndB (node l r) 0).1), .int ((ndB (node l r) 0).2 : Nat)]) :: E6), by omega, ?_⟩
    have := rest r0
    rw [← set_mid (E := (r0, HO.tup [.str (kdS (ndB (node l r) 0).1), .int ((ndB (node l r) 0).2 : Nat)]) :: E6) (x := (p0, .ins a.Tree dx fs6))] at this
    exact this
end
section
variable {K : PySem.W.Frag} {a : Ads}
open TR
theorem at_midB {E M B : List (Addr × HO)} {x : Addr × HO} : ((E ++ x :: M) ++ B)[E.length]? = some x := by
  rw [List.append_assoc, List.cons_append]
  exact at_mid
theorem set_midB {E M B : List (Addr × HO)} {x y : Addr × HO} : ((E ++ x :: M) ++ B).set E.length y = (E ++ y :: M) ++ B := by
  rw [List.append_assoc, List.cons_append, set_mid, List.append_assoc, List.cons_append]
theorem lc_putB {P : SH → Prop} {F : Hp} {E M B : List (Addr × HO)} {D : Addr} {acc : List V} {y : V} (ha : acc.length < sizeLine) (h : P ⟨F, (E ++ (D, .lst (acc ++ [y])) :: M) ++ B⟩) :
    ∃ k acc', (SH.mk F ((E ++ (D, .lst acc) :: M) ++ B)).G[k]? = some (D, .lst acc') ∧ acc'.length < sizeLine ∧ Wk P ((SH.mk F ((E ++ (D, .lst acc) :: M) ++ B)).put k D (.lst (acc' ++ [y]))) := by
  refine ⟨E.length, acc, at_midB, ha, _, SLe.refl _, ?_⟩
  show P ⟨F, ((E ++ (D, .lst acc) :: M) ++ B).set E.length (D, .lst (acc ++ [y]))⟩
  rw [set_midB]
  exact h
theorem allV_split {α : Type} {R : V → α → Prop} : ∀ {xs ys : List α} {vs : List V}, allV R vs (xs ++ ys) → ∃ v1 v2, vs = v1 ++ v2 ∧ allV R v1 xs ∧ allV R v2 ys
  | [], ys, vs, h => ⟨[], vs, rfl, trivial, h⟩
  | x :: xs, ys, [], h => h.elim
  | x :: xs, ys, v :: vs, h => by
    obtain ⟨v1, v2, e, a1, a2⟩ := allV_split (xs := xs) h.2
    exact ⟨v :: v1, v2, by rw [e]; rfl, ⟨h.1, a1⟩, a2⟩
theorem allV_set {α : Type} {R : V → α → Prop} {v : V} {x : α} (r : R v x) : ∀ {vs : List V} {xs : List α} (_ : allV R vs xs) (i : Nat), allV R (vs.set i v) (xs.set i x)
  | [], [], _, _ => trivial
  | _ :: _, _ :: _, h, 0 => ⟨r, h.2⟩
  | _ :: _, _ :: _, h, i + 1 => ⟨h.1, allV_set r h.2 i⟩
  | [], _ :: _, h, _ => h.elim
  | _ :: _, [], h, _ => h.elim
theorem set_take {α : Type} {X Y : List α} {j : Nat} {x : α} (h : X[j]? = some x) (hl : X.length = Y.length) : (X.take j ++ Y.drop j).set j x = X.take (j + 1) ++ Y.drop (j + 1) := by
  obtain ⟨hj, e⟩ := List.getElem?_eq_some_iff.mp h
  have lt : (X.take j).length = j := by
    rw [List.length_take]
    omega
  rw [List.set_append_right _ _ (by omega), lt, Nat.sub_self, take_more h, List.append_assoc]
  congr 1
  rw [← List.getElem_cons_drop (h := show j < Y.length by omega)]
  rfl
theorem mid_len {l r : TR} {o j : Nat} : (midW l r o j).length = nS l + nS r := by
  unfold midW
  rw [List.length_append, List.length_take, List.length_drop, List.length_append, wayB_len, wayB_len, wayB_len]
  show min j (nS l + nS r) + _ = _
  omega
theorem mid_set {l r : TR} {o j : Nat} {w : Way} (h : (wayB (node l r) o)[j]? = some w) : (midW l r o j).set j w = midW l r o (j + 1) := by
  unfold midW
  exact set_take h (by rw [List.length_append, wayB_len, wayB_len, wayB_len]; rfl)
theorem mid_zero {l r : TR} {o : Nat} : midW l r o 0 = wayB l o ++ wayB r (o + nS l) := rfl
theorem mid_all {l r : TR} {o : Nat} : midW l r o (nS l + nS r) = wayB (node l r) o := by
  unfold midW
  rw [List.take_of_length_le (by rw [wayB_len]; exact Nat.le_refl _), List.drop_of_length_le (by rw [List.length_append, wayB_len, wayB_len]; exact Nat.le_refl _), List.append_nil]
theorem mid_at {l r : TR} {o j : Nat} (hj : j < nS l + nS r) : ∃ w, (midW l r o j)[j]? = some w ∧ (wayB (node l r) o)[j]? = some ((o + nS l - 1, decide (j < nS l)) :: w) := by
  have hl : (wayB l o ++ wayB r (o + nS l)).length = nS l + nS r := by rw [List.length_append, wayB_len, wayB_len]
  obtain ⟨w, hw⟩ : ∃ w, (wayB l o ++ wayB r (o + nS l))[j]? = some w := ⟨_, List.getElem?_eq_getElem (by omega)⟩
  refine ⟨w, ?_, mid_get hw⟩
  have lt : ((wayB (node l r) o).take j).length = j := by
    rw [List.length_take, wayB_len]
    show min j (nS l + nS r) = j
    omega
  unfold midW
  rw [List.getElem?_append_right (by omega), lt, Nat.sub_self, List.getElem?_drop, Nat.add_zero]
  exact hw
theorem tS_node (l r : TR) : (("(" : Str) ++ tS l ++ tS r ++ ")") = tS (node l r) := by
  refine TL.ext_tl ?_
  rw [TL.tl_append, TL.tl_append, TL.tl_append]
  show [40] ++ txt l ++ txt r ++ [41] = 40 :: (txt l ++ (txt r ++ [41]))
  rw [List.append_assoc, List.append_assoc]
  rfl
/-- a piece: a list of a text and two numbers -/
def pcM (E : List (Addr × HO)) (v : V) (q : TR × Nat) : Prop := ∃ p, v = .ref p ∧ (p, HO.lst [.str (tS q.1), .int (q.2 : Nat), .int ((q.2 + nS q.1 - 1 : Nat) : Int)]) ∈ E
def wyM (K : PySem.W.Frag) (F : Hp) (E : List (Addr × HO)) (v : V) (w : Way) : Prop := ∃ p xs, v = .ref p ∧ (p, HO.lst xs) ∈ E ∧ MDs K F E xs (w.map stD)
theorem pcM.sub {E E' : List (Addr × HO)} {v : V} {q : TR × Nat} (h : pcM E v q) (s : E ⊆ E') : pcM E' v q := let ⟨p, e, h⟩ := h; ⟨p, e, s h⟩
theorem wyM.sub {F : Hp} {E E' : List (Addr × HO)} {v : V} {w : Way} (h : wyM K F E v w) (s : E ⊆ E') : wyM K F E' v w := let ⟨p, xs, e, h, m⟩ := h; ⟨p, xs, e, s h, m.sub s⟩
theorem pcs_leaf : ∀ (n o : Nat), pcs (List.replicate n leaf) o = (List.range' o n).map fun k => (leaf, k)
  | 0, _ => rfl
  | n + 1, o => by
    show (leaf, o) :: pcs (List.replicate n leaf) (o + 1) = _
    rw [pcs_leaf n (o + 1)]
    rfl
theorem fw_leaf : ∀ (n o : Nat), fw (List.replicate n leaf) o = List.replicate n []
  | 0, _ => rfl
  | n + 1, o => by
    show [] :: fw (List.replicate n leaf) (o + 1) = _
    rw [fw_leaf n (o + 1)]
    rfl
theorem szs_leaf : ∀ n : Nat, szs (List.replicate n leaf) = n
  | 0 => rfl
  | n + 1 => by
    show 1 + szs (List.replicate n leaf) = n + 1
    rw [szs_leaf n, Nat.add_comm]
theorem LR_int (c : Bool) : atI ("LR" : Str).cps.toList (if c = true then 1 else 0) = some (cdB (!c)) := by cases c <;> rfl
/-- the ways of a joined pair -/
theorem walk_ways {D : sEnds} {F : Hp} {E M B : List (Addr × HO)} {pw pl : Addr} {wv : List V} {l r : TR} {o : Nat} {X Z : List Way} {x0 x1 x2 x3 x5 x6 x8 x9 : Option V}
    (hpl : (pl, HO.lst [.str (tS l), .int (o : Nat), .int ((o + nS l - 1 : Nat) : Int)]) ∈ E ++ M) (hX : X.length = o) (hw : allV (wyM K F (E ++ M)) wv (X ++ (wayB l o ++ wayB r (o + nS l)) ++ Z)) (hn : o + nS l + nS r ≤ 64) (hwl : ∀ w ∈ wayB l o ++ wayB r (o + nS l), w.length ≤ 64) {hi : Int} (ehi : hi = ((o + nS l + nS r : Nat) : Int))
    (k : ∀ E2 wv2 x9', E ++ M ⊆ E2 ++ M → allV (wyM K F (E2 ++ M)) wv2 (X ++ wayB (node l r) o ++ Z) → D.nx [x0, x1, x2, x3, some (.ref pw), x5, x6, some (.ref pl), x8, x9'] ⟨F, (E2 ++ (pw, .lst wv2) :: M) ++ B⟩)
    {ta : sA} (hta : ∀ Q, Q [.int (o : Nat), .int hi] ⟨F, (E ++ (pw, .lst wv) :: M) ++ B⟩ → ta D.ex [x0, x1, x2, x3, some (.ref pw), x5, x6, some (.ref pl), x8, x9] ⟨F, (E ++ (pw, .lst wv) :: M) ++ B⟩ Q) :
    sFor (siR2 ta) (sgName 9) (sAsg (sOp oAdd (sLst (sCons (sTup (sCons (sOp (oIx K) (sVar 7) (sC (.int 2))) (sCons (sOp (oIx K) (sC (.str ("LR" : Str))) (sCall1 nInt (sCons (sOp oGt (sVar 9) (sOp (oIx K) (sVar 7) (sC (.int 2)))) (sNil)))) (sNil)))) (sNil))) (sOp (oIx K) (sVar 4) (sVar 9))) (sgSub (sVar 4) (sVar 9))) D [x0, x1, x2, x3, some (.ref pw), x5, x6, some (.ref pl), x8, x9] ⟨F, (E ++ (pw, .lst wv) :: M) ++ B⟩ := by
  subst ehi
  have pl0 := nS_pos l
  refine hta _ ?_
  refine ⟨by unfold rngOk; omega, by unfold rngOk; omega, ?_⟩
  have en : (((o + nS l + nS r : Nat) : Int) - ((o : Nat) : Int)).toNat = nS l + nS r := by omega
  rw [en]
  refine ⟨fun j σ S => ∃ (E2 : List (Addr × HO)) (wv2 : List V) (x9 : Option V), j ≤ nS l + nS r ∧ E ++ M ⊆ E2 ++ M ∧ allV (wyM K F (E2 ++ M)) wv2 (X ++ midW l r o j ++ Z) ∧ σ = [x0, x1, x2, x3, some (.ref pw), x5, x6, some (.ref pl), x8, x9] ∧ S = ⟨F, (E2 ++ (pw, .lst wv2) :: M) ++ B⟩, ?_, fun _ _ _ _ _ => trivial, ?_, ?_⟩
  · exact ⟨E, wv, x9, Nat.zero_le _, List.Subset.refl _, hw, rfl, rfl⟩
  · rintro j σ S hj ⟨E2, wv2, x9, _, hs, hw2, rfl, rfl⟩
    have hj : j < nS l + nS r := hj
    refine yldR_go ?_
    rw [show ((o : Nat) : Int) + (j : Nat) = ((o + j : Nat) : Int) by omega]
    refine nm_go ?_
    have up : ∀ {A : List (Addr × HO)}, E2 ++ M ⊆ (A ++ ((E2 ++ (pw, HO.lst wv2) :: M) ++ B)) := fun {A} z hz => List.mem_append_right _ (List.mem_append_left _ (sub_mid hz))
    have hplm : mL K F (E2 ++ M) pl [.str (tS l), .int (o : Nat), .int ((o + nS l - 1 : Nat) : Int)] := .inl (hs hpl)
    obtain ⟨w, hw1, hw3⟩ := mid_at (o := o) hj
    have hidx : (X ++ midW l r o j ++ Z)[o + j]? = some w := by
      rw [List.append_assoc, List.getElem?_append_right (by omega), hX, show o + j - o = j by omega, List.getElem?_append_left (by rw [mid_len]; exact hj)]
      exact hw1
    have hlw : wv2.length = (X ++ midW l r o j ++ Z).length := allV_len hw2
    obtain ⟨v, hv⟩ : ∃ v, wv2[o + j]? = some v := ⟨_, List.getElem?_eq_getElem (by rw [hlw]; exact (List.getElem?_eq_some_iff.mp hidx).1)⟩
    obtain ⟨w', hw', pv, xs, rfl, hpv, hxs⟩ := allV_at hw2 hv
    rw [hidx] at hw'
    cases hw'
    have lw : w.length ≤ 64 := by
      have hb := mid_get (l := l) (r := r) (o := o) (k := j) (w := w)
      refine hwl w ?_
      have : (wayB l o ++ wayB r (o + nS l))[j]? = some w := by
        have hl : (wayB l o ++ wayB r (o + nS l)).length = nS l + nS r := by rw [List.length_append, wayB_len, wayB_len]
        obtain ⟨w2, hw2⟩ : ∃ w2, (wayB l o ++ wayB r (o + nS l))[j]? = some w2 := ⟨_, List.getElem?_eq_getElem (by omega)⟩
        have h5 := mid_get hw2
        rw [hw3] at h5
        have h6 := Option.some.inj h5
        rw [hw2]
        exact congrArg some (List.cons.inj h6).2.symm
      exact List.mem_of_getElem? this
    have lxs : xs.length = w.length := by rw [hxs.len, List.length_map]
    have eside : (!decide (((o + nS l - 1 : Nat) : Int) < ((o + j : Nat) : Int))) = decide (j < nS l) := by
      by_cases h : j < nS l
      · rw [decide_eq_true h, decide_eq_false (by omega)]
        rfl
      · rw [decide_eq_false h, decide_eq_true (by omega)]
        rfl
    refine ⟨_, _, .inl (hplm.s (up (A := []))), atI_at (i := 2) rfl, ?_⟩
    refine ⟨_, _, .inl (hplm.s (up (A := []))), atI_at (i := 2) rfl, ?_⟩
    refine ⟨by decide, _, LR_int _, ?_⟩
    rw [eside]
    refine ⟨show 2 ≤ sizeLine by decide, fun t1 => ?_⟩
    refine ⟨show 1 ≤ sizeLine by decide, fun l1 => ?_⟩
    refine ⟨wv2, _, .inl (.inl ⟨E2.length + 2, at_midB⟩), atI_at hv, ?_⟩
    obtain ⟨ipv, hipv⟩ := List.mem_iff_getElem?.mp (up (A := [(l1, HO.lst [.ref t1]), (t1, .tup [.int ((o + nS l - 1 : Nat) : Int), .str ⟨#[cdB (decide (j < nS l))]⟩])]) hpv)
    refine ⟨_, _, .inl ⟨0, rfl⟩, .inl ⟨ipv, hipv⟩, ?_, fun l2 => ?_⟩
    · show 1 + xs.length ≤ sizeLine
      exact Nat.le_trans (show _ ≤ 100 by omega) (by decide)
    refine ⟨E2.length + 3, wv2, o + j, at_midB, ixN_nat (by rw [hlw]; exact (List.getElem?_eq_some_iff.mp hidx).1), ?_⟩
    refine ⟨_, SLe.refl _, (l2, .lst ([.ref t1] ++ xs)) :: (l1, .lst [.ref t1]) :: (t1, .tup [.int ((o + nS l - 1 : Nat) : Int), .str ⟨#[cdB (decide (j < nS l))]⟩]) :: E2, wv2.set (o + j) (.ref l2), _, hj, fun z hz => .tail _ (.tail _ (.tail _ (hs hz))), ?_, rfl, ?_⟩
    · have e2 : (X ++ midW l r o j ++ Z).set (o + j) ((o + nS l - 1, decide (j < nS l)) :: w) = X ++ midW l r o (j + 1) ++ Z := by
        rw [List.append_assoc, List.set_append_right _ _ (by omega), hX, show o + j - o = j by omega, List.set_append_left _ _ (by rw [mid_len]; exact hj), mid_set hw3, List.append_assoc]
      rw [← e2]
      refine allV_set ?_ (allV_ex (fun _ _ z => z.sub fun z hz => .tail _ (.tail _ (.tail _ hz))) hw2) _
      refine ⟨l2, _, rfl, .head _, ?_⟩
      exact .cons (.tup (.inl (.tail _ (.tail _ (.head _)))) (.cons (.int _) (.cons (.str _) .nil))) (hxs.sub fun z hz => .tail _ (.tail _ (.tail _ hz)))
    · exact congrArg (SH.mk F) (set_midB (E := (l2, HO.lst ([.ref t1] ++ xs)) :: (l1, .lst [.ref t1]) :: (t1, .tup [.int ((o + nS l - 1 : Nat) : Int), .str ⟨#[cdB (decide (j < nS l))]⟩]) :: E2))
  · rintro σ S ⟨E2, wv2, x9, _, hs, hw2, rfl, rfl⟩
    have hw2 : allV (wyM K F (E2 ++ M)) wv2 (X ++ midW l r o (nS l + nS r) ++ Z) := hw2
    rw [mid_all] at hw2
    exact k E2 wv2 x9 hs hw2
end
section
variable {K : PySem.W.Frag} {a : Ads}
open TR
theorem cut_take {xs : List V} {m : Nat} (h : m ≤ xs.length) : cutV xs none (some (m : Int)) = xs.take m := by
  unfold cutV
  rw [HT.sIx_none, HT.sIx_nat, Nat.min_eq_left h, Nat.sub_zero, List.drop_zero]
theorem tS_len (t : TR) : (tS t).length + 2 = 3 * nS t := by
  have := txt_len t
  show (txt t).toArray.size + 2 = _
  rw [List.size_toArray]
  exact this
theorem szs_mem {ts : List TR} {t : TR} (h : t ∈ ts) : nS t ≤ szs ts := by
  induction ts with
  | nil => nomatch h
  | cons s ts ih =>
    show _ ≤ nS s + szs ts
    cases h with
    | head => omega
    | tail _ h =>
      have := ih h
      omega
theorem fw_short {ts : List TR} {o : Nat} : ∀ w ∈ fw ts o, w.length < szs ts := by
  induction ts generalizing o with
  | nil => exact fun w h => nomatch h
  | cons t ts ih =>
    intro w h
    show _ < nS t + szs ts
    rcases List.mem_append.mp h with h | h
    · have := way_len t o w h
      omega
    · have := ih w h
      have := nS_pos t
      omega
theorem vc_l_tree {vs : List V} {H : Hp} (g : Addr × Addr × Bx × Nat) (h : (ct_l_tree K).pre g vs H) : ∃ S, Own S H ∧ r_l_tree K a (endsC (ct_l_tree K) g H) (start N_l_tree vs) S := by
  refine body_box g h fun b m x n F eg eF hms hok e => ?_
  subst eg
  subst e
  obtain ⟨h1, h2⟩ := hok
  have h1 : 1 ≤ n := h1
  have h2 : n ≤ 64 := h2
  refine use_takeB (E := []) 6 (by rfl) hms (by decide) fun y lean hy hlean => ?_
  refine ⟨by unfold rngOk; omega, fun pp => ?_⟩
  refine ⟨fun i S => ∃ (E : List (Addr × HO)) (pv : List V), allV (pcM E) pv ((List.range' 0 i).map fun k => (leaf, k)) ∧ S = ⟨F, (E ++ [(pp, .lst pv)]) ++ boxG b m y⟩, ⟨[], [], trivial, rfl⟩, fun _ _ _ _ => trivial, ?_, ?_⟩
  · rintro i S hi ⟨E, pv, hpv, rfl⟩
    have hi : i < ((n : Nat) : Int).toNat := hi
    rw [Int.toNat_natCast] at hi
    have lpv : pv.length = i := by rw [allV_len hpv, List.length_map, List.length_range']
    refine yldR_go ?_
    rw [Int.zero_add]
    refine nm_go ⟨rfl, ?_⟩
    refine ⟨show 3 ≤ sizeLine by decide, fun q => ?_⟩
    refine lc_putB (E := (q, .lst [.str ".", .int (i : Nat), .int (i : Nat)]) :: E) (M := []) (small_of (show pv.length ≤ 64 by omega) (by decide)) ⟨_, _, ?_, rfl⟩
    rw [List.range'_concat, List.map_append, Nat.zero_add, Nat.one_mul]
    exact allV_snoc ⟨q, rfl, .head _⟩ (allV_ex (fun _ _ z => z.sub fun z hz => .tail _ hz) hpv)
  rintro S ⟨E1, pv1, hpv1, rfl⟩
  have hpv1 : allV (pcM E1) pv1 ((List.range' 0 ((n : Nat) : Int).toNat).map fun k => (leaf, k)) := hpv1
  rw [Int.toNat_natCast, ← pcs_leaf] at hpv1
  generalize hM : E1 ++ [(pp, HO.lst pv1)] = M
  have sM : E1 ⊆ M := by
    rw [← hM]
    exact List.subset_append_left _ _
  have mpp : (pp, HO.lst pv1) ∈ M := by
    rw [← hM]
    exact List.mem_append_right _ (.head _)
  clear hM
  refine ⟨by unfold rngOk; omega, fun pw => ?_⟩
  refine ⟨fun i S => ∃ (E : List (Addr × HO)) (wv : List V), allV (wyM K F (E ++ M)) wv (List.replicate i []) ∧ S = ⟨F, (E ++ (pw, .lst wv) :: M) ++ boxG b m y⟩, ⟨[], [], trivial, rfl⟩, fun _ _ _ _ => trivial, ?_, ?_⟩
  · rintro i S hi ⟨E, wv, hwv, rfl⟩
    have hi : i < ((n : Nat) : Int).toNat := hi
    rw [Int.toNat_natCast] at hi
    have lwv : wv.length = i := by rw [allV_len hwv, List.length_replicate]
    refine yldR_go (nm_go ⟨rfl, ?_⟩)
    refine ⟨show 0 ≤ sizeLine by decide, fun q => ?_⟩
    refine lc_putB (E := (q, .lst []) :: E) (M := M) (small_of (show wv.length ≤ 64 by omega) (by decide)) ⟨_, _, ?_, rfl⟩
    rw [List.replicate_succ']
    exact allV_snoc ⟨q, [], rfl, .head _, .nil⟩ (allV_ex (fun _ _ z => z.sub fun z hz => .tail _ hz) hwv)
  rintro S ⟨E2, wv2, hwv2, rfl⟩
  have hwv2 : allV (wyM K F (E2 ++ M)) wv2 (List.replicate ((n : Nat) : Int).toNat []) := hwv2
  rw [Int.toNat_natCast, ← fw_leaf n 0] at hwv2
  refine ⟨by unfold rngOk; omega, ?_⟩
  have en : (((n : Nat) : Int) - 1).toNat = n - 1 := by omega
  rw [en]
  refine ⟨fun i σ S => ∃ (y : Bx) (E : List (Addr × HO)) (ts : List TR) (pp : Addr) (pv wv : List V) (x5 x6 x7 x8 x9 : Option V), ts.length + i = n ∧ szs ts = n ∧ y.ms ≠ [] ∧ (pp, HO.lst pv) ∈ E ++ M ∧ allV (pcM (E ++ M)) pv (pcs ts 0) ∧ allV (wyM K F (E ++ M)) wv (fw ts 0) ∧ σ = [some (.ref b), some (.int (n : Nat)), some (.int (lean : Nat)), some (.ref pp), some (.ref pw), x5, x6, x7, x8, x9] ∧ S = ⟨F, (E ++ (pw, .lst wv) :: M) ++ boxG b m y⟩, ?_, fun _ _ _ _ _ => trivial, ?_, ?_⟩
  · exact ⟨y, E2, List.replicate n leaf, pp, pv1, wv2, _, _, _, _, _, by rw [List.length_replicate]; rfl, szs_leaf n, hy, List.mem_append_right _ mpp, allV_ex (fun _ _ z => z.sub fun z hz => List.mem_append_right _ (sM hz)) hpv1, hwv2, rfl, rfl⟩
  · rintro i σ S hi ⟨y, E, ts, pp, pv, wv, x5, x6, x7, x8, x9, hts, hsz, hy, hpp, hpv, hwv, rfl, rfl⟩
    have hi : i < n - 1 := hi
    have lpv : pv.length = ts.length := by rw [allV_len hpv, pcs_len]
    have up : ∀ {A B : List (Addr × HO)} {w : List V}, E ++ M ⊆ (A ++ ((E ++ (pw, HO.lst w) :: M) ++ B)) := fun {A B w} z hz => List.mem_append_right _ (List.mem_append_left _ (sub_mid hz))
    have mpv : mL K F (E ++ M) pp pv := .inl hpp
    refine yldR_go (nm_go ?_)
    refine ⟨pv, .inl (mpv.s (up (A := []))), ?_⟩
    refine use_join (E := E ++ (pw, .lst wv) :: M) lean (ts.length - 1) ?_ hy (by omega) (by omega) fun y r hy hr => ?_
    · show [V.ref b, .int (lean : Nat), .int ((pv.length : Nat) - 1)] = _
      rw [lpv, show ((ts.length : Nat) : Int) - 1 = ((ts.length - 1 : Nat) : Int) by omega]
    obtain ⟨A, l, r', B, rfl, hA⟩ := at_two (ts := ts) (i := r) (by omega)
    have hA : A.length = r := hA
    have hpv' := hpv
    rw [pcs_app] at hpv'
    obtain ⟨pA, pR, rfl, hpA, hpR⟩ := allV_split hpv'
    have lpA : pA.length = r := by rw [allV_len hpA, pcs_len, hA]
    obtain ⟨vl, pR, rfl⟩ : ∃ v t, pR = v :: t := by
      cases pR with
      | nil => exact hpR.elim
      | cons v t => exact ⟨v, t, rfl⟩
    obtain ⟨vr, pB, rfl⟩ : ∃ v t, pR = v :: t := by
      cases pR with
      | nil => exact hpR.2.elim
      | cons v t => exact ⟨v, t, rfl⟩
    obtain ⟨⟨pl, rfl, mpl⟩, ⟨pr, rfl, mpr⟩, hpB⟩ := hpR
    have hsz' : szs A + (nS l + (nS r' + szs B)) = n := by rw [← hsz, szs_app]; rfl
    generalize ho : szs A = o at hsz' mpl mpr hpB
    have mpl : (pl, HO.lst [.str (tS l), .int (o : Nat), .int ((o + nS l - 1 : Nat) : Int)]) ∈ E ++ M := by
      have : (0 + o) = o := Nat.zero_add o
      rw [this] at mpl
      exact mpl
    have mpr : (pr, HO.lst [.str (tS r'), .int ((o + nS l : Nat) : Int), .int ((o + nS l + nS r' - 1 : Nat) : Int)]) ∈ E ++ M := by
      have : (0 + o) = o := Nat.zero_add o
      rw [this] at mpr
      exact mpr
    have pl0 := nS_pos l
    have pr0 := nS_pos r'
    have gl : (pA ++ V.ref pl :: V.ref pr :: pB)[r]? = some (.ref pl) := by
      rw [List.getElem?_append_right (by omega), lpA, Nat.sub_self]
      rfl
    have gr : (pA ++ V.ref pl :: V.ref pr :: pB)[r + 1]? = some (.ref pr) := by
      rw [List.getElem?_append_right (by omega), lpA, show r + 1 - r = 1 by omega]
      rfl
    refine ⟨_, _, .inl (mpv.s (up (A := []))), atI_at gl, ?_⟩
    refine ⟨_, _, .inl (mpv.s (up (A := []))), atI_at (i := r + 1) gr, ?_⟩
    have llm : mL K F (E ++ M) pl [.str (tS l), .int (o : Nat), .int ((o + nS l - 1 : Nat) : Int)] := .inl mpl
    have rrm : mL K F (E ++ M) pr [.str (tS r'), .int ((o + nS l : Nat) : Int), .int ((o + nS l + nS r' - 1 : Nat) : Int)] := .inl mpr
    have efw : fw (A ++ l :: r' :: B) 0 = fw A 0 ++ (wayB l o ++ wayB r' (o + nS l)) ++ fw B (o + nS l + nS r') := by
      rw [fw_app, ho, Nat.zero_add]
      show fw A 0 ++ (wayB l o ++ (wayB r' (o + nS l) ++ fw B (o + nS l + nS r'))) = _
      rw [List.append_assoc, List.append_assoc]
    have hwv' := hwv
    rw [efw] at hwv'
    dsimp only
    refine seq_go ?_
    show sFor (siR2 _) _ _ _ [some (.ref b), some (.int (n : Nat)), some (.int (lean : Nat)), some (.ref pp), some (.ref pw), _, some (.int (r : Nat)), some (.ref pl), some (.ref pr), x9] ⟨F, (E ++ (pw, .lst wv) :: M) ++ boxG b m y⟩
    refine walk_ways (K := K) (l := l) (r := r') (o := o) (X := fw A 0) (Z := fw B (o + nS l + nS r')) (pl := pl) (E := E) (M := M) (wv := wv) mpl (by rw [fw_len, ho]) hwv' (by omega) (fun w hw => ?_) (hi := ((o + nS l + nS r' - 1 : Nat) : Int) + 1) (by omega) (fun E3 wv3 x9' hs3 hw3 => ?_) (fun Q q => ?_)
    · have : w ∈ fw (A ++ l :: r' :: B) 0 := by
        rw [efw]
        exact List.mem_append_left _ (List.mem_append_right _ hw)
      have := fw_short w this
      omega
    · have up3 : ∀ {A' B' : List (Addr × HO)} {w : List V}, E ++ M ⊆ (A' ++ ((E3 ++ (pw, HO.lst w) :: M) ++ B')) := fun {A' B' w} z hz => List.mem_append_right _ (List.mem_append_left _ (sub_mid (hs3 hz)))
      have lts : (A ++ l :: r' :: B).length = r + 2 + B.length := by
        rw [List.length_append, hA]
        show r + (B.length + 1 + 1) = _
        omega
      have lpvv : (pA ++ V.ref pl :: V.ref pr :: pB).length = r + 2 + B.length := by rw [lpv, lts]
      refine .inl ⟨_, mpv.s (up3 (A' := [])), fun r1 => ?_⟩
      rw [cut_take (m := r) (by omega)]
      refine ⟨_, _, .inl (llm.s (up3 (A' := [_]))), atI_at (i := 0) rfl, ?_⟩
      have e1 := tS_len l
      have e2 := tS_len r'
      refine ⟨?_, ?_⟩
      · show 1 + (tS l).length ≤ sizeLine
        exact Nat.le_trans (show _ ≤ 500 by omega) (by decide)
      refine ⟨_, _, .inl (rrm.s (up3 (A' := [_]))), atI_at (i := 0) rfl, ?_⟩
      refine ⟨?_, ?_⟩
      · rw [TL.len_tl, TL.tl_append, List.length_append]
        show 1 + (txt l).length + (tS r').length ≤ sizeLine
        have : (txt l).length = (tS l).length := rfl
        exact Nat.le_trans (show _ ≤ 500 by omega) (by decide)
      refine ⟨?_, ?_⟩
      · rw [TL.len_tl, TL.tl_append, TL.tl_append, List.length_append, List.length_append]
        show 1 + (txt l).length + (txt r').length + 1 ≤ sizeLine
        have : (txt l).length = (tS l).length := rfl
        have : (txt r').length = (tS r').length := rfl
        exact Nat.le_trans (show _ ≤ 500 by omega) (by decide)
      rw [tS_node]
      refine ⟨_, _, .inl (llm.s (up3 (A' := [_]))), atI_at (i := 1) rfl, ?_⟩
      refine ⟨_, _, .inl (rrm.s (up3 (A' := [_]))), atI_at (i := 2) rfl, ?_⟩
      refine ⟨show 3 ≤ sizeLine by decide, fun q1 => ?_⟩
      refine ⟨show 1 ≤ sizeLine by decide, fun q2 => ?_⟩
      refine ⟨_, _, .inl ⟨2, rfl⟩, .inl ⟨0, rfl⟩, ?_, fun q3 => ?_⟩
      · rw [List.length_take]
        show min r _ + 1 ≤ sizeLine
        exact Nat.le_trans (show _ ≤ 500 by omega) (by decide)
      refine .inl ⟨_, mpv.s (up3 (A' := [_, _, _, _])), fun r4 => ?_⟩
      have ec : cutV (pA ++ V.ref pl :: V.ref pr :: pB) (some ((r : Int) + 2)) none = pB := by
        have := cut_drop (xs := pA ++ V.ref pl :: V.ref pr :: pB) (m := r + 2) (by omega)
        rw [show ((r : Int) + 2) = ((r + 2 : Nat) : Int) by omega, this, List.drop_append, lpA, show r + 2 - r = 2 by omega, List.drop_of_length_le (by omega)]
        rfl
      rw [ec]
      have et : (pA ++ V.ref pl :: V.ref pr :: pB).take r = pA := by
        rw [← lpA, List.take_left]
      rw [et]
      refine ⟨_, _, .inl ⟨1, rfl⟩, .inl ⟨0, rfl⟩, ?_, fun q5 => ?_⟩
      · rw [List.length_append]
        show pA.length + 1 + pB.length ≤ sizeLine
        have : pB.length ≤ 64 := by
          have : (pA ++ V.ref pl :: V.ref pr :: pB).length = pA.length + (pB.length + 1 + 1) := by rw [List.length_append]; rfl
          omega
        exact Nat.le_trans (show _ ≤ 500 by omega) (by decide)
      refine ⟨_, SLe.refl _, y, (q5, .lst ((pA ++ [.ref q1]) ++ pB)) :: (r4, .lst pB) :: (q3, .lst (pA ++ [.ref q1])) :: (q2, .lst [.ref q1]) :: (q1, .lst [.str (tS (node l r')), .int (o : Nat), .int ((o + nS l + nS r' - 1 : Nat) : Int)]) :: (r1, .lst pA) :: E3, A ++ node l r' :: B, q5, _, wv3, _, _, _, _, _, ?_, ?_, hy, .head _, ?_, ?_, rfl, rfl⟩
      · rw [List.length_append]
        rw [lts] at hts
        show A.length + (B.length + 1) + (i + 1) = n
        omega
      · rw [szs_app, ho]
        show o + (nS l + nS r' + szs B) = n
        omega
      · have s6 : E ++ M ⊆ ((q5, HO.lst ((pA ++ [.ref q1]) ++ pB)) :: (r4, .lst pB) :: (q3, .lst (pA ++ [.ref q1])) :: (q2, .lst [.ref q1]) :: (q1, .lst [.str (tS (node l r')), .int (o : Nat), .int ((o + nS l + nS r' - 1 : Nat) : Int)]) :: (r1, .lst pA) :: E3) ++ M := fun z hz => .tail _ (.tail _ (.tail _ (.tail _ (.tail _ (.tail _ (hs3 hz))))))
        have key : ∀ N, E ++ M ⊆ N → (q1, HO.lst [.str (tS (node l r')), .int (o : Nat), .int ((o + nS l + nS r' - 1 : Nat) : Int)]) ∈ N → allV (pcM N) ((pA ++ [.ref q1]) ++ pB) (pcs (A ++ node l r' :: B) 0) := fun N sN mN => by
          rw [pcs_app, List.append_assoc, ho, Nat.zero_add]
          refine allV_append (allV_ex (fun _ _ (z : pcM (E ++ M) _ _) => z.sub sN) hpA) (show allV _ (V.ref q1 :: pB) ((node l r', o) :: pcs B (o + (nS l + nS r'))) from ⟨⟨q1, rfl, ?_⟩, allV_ex (fun _ _ (z : pcM (E ++ M) _ _) => z.sub sN) ?_⟩)
          · show (q1, HO.lst [.str (tS (node l r')), .int (o : Nat), .int ((o + (nS l + nS r') - 1 : Nat) : Int)]) ∈ _
            rw [← Nat.add_assoc]
            exact mN
          · rw [← Nat.add_assoc]
            rw [Nat.zero_add] at hpB
            exact hpB
        exact key _ s6 (.tail _ (.tail _ (.tail _ (.tail _ (.head _)))))
      · have e5 : fw (A ++ node l r' :: B) 0 = fw A 0 ++ wayB (node l r') o ++ fw B (o + nS l + nS r') := by
          rw [fw_app, ho, Nat.zero_add, List.append_assoc]
          show fw A 0 ++ (wayB (node l r') o ++ fw B (o + (nS l + nS r'))) = _
          rw [← Nat.add_assoc]
        rw [e5]
        exact allV_ex (fun _ _ z => z.sub fun z hz => .tail _ (.tail _ (.tail _ (.tail _ (.tail _ (.tail _ hz)))))) hw3
    · refine ⟨_, _, .inl (llm.s (up (A := []))), atI_at (i := 1) rfl, ?_⟩
      refine ⟨_, _, .inl (rrm.s (up (A := []))), atI_at (i := 2) rfl, ?_⟩
      exact q
  · rintro σ S ⟨y, E, ts, pp, pv, wv, x5, x6, x7, x8, x9, hts, hsz, hy, hpp, hpv, hwv, rfl, rfl⟩
    have hts : ts.length + (n - 1) = n := hts
    obtain ⟨t, rfl⟩ := List.length_eq_one_iff.mp (show ts.length = 1 by omega)
    have lpv : pv.length = 1 := by rw [allV_len hpv, pcs_len]; rfl
    obtain ⟨v, rfl⟩ := List.length_eq_one_iff.mp lpv
    obtain ⟨⟨p1, rfl, mp1⟩, _⟩ := hpv
    have up : ∀ {A B : List (Addr × HO)} {w : List V}, E ++ M ⊆ (A ++ ((E ++ (pw, HO.lst w) :: M) ++ B)) := fun {A B w} z hz => List.mem_append_right _ (List.mem_append_left _ (sub_mid hz))
    have mpv : mL K F (E ++ M) pp [.ref p1] := .inl hpp
    have mp1' : mL K F (E ++ M) p1 [.str (tS t), .int ((0 : Nat) : Int), .int ((0 + nS t - 1 : Nat) : Int)] := .inl mp1
    refine ⟨_, _, .inl (mpv.s (up (A := []))), atI_at (i := 0) rfl, ?_⟩
    refine ⟨_, _, .inl (mp1'.s (up (A := []))), atI_at (i := 0) rfl, ?_⟩
    refine ⟨show 2 ≤ sizeLine by decide, fun p => ?_⟩
    have hn : nS t = n := by
      rw [← hsz]
      rfl
    have hwv : allV (wyM K F (E ++ M)) wv (wayB t 0 ++ []) := hwv
    rw [List.append_nil] at hwv
    intro H' o'
    subst eF
    refine end_box (E := (p, .tup [.str (tS t), .ref pw]) :: (E ++ (pw, .lst wv) :: M)) o' hy fun H3 o3 => ⟨t, p, .ref pw, hn, rfl, o3.u (.inl ⟨0, rfl⟩), pw, wv, rfl, o3.l (.inl ⟨E.length + 1, at_mid⟩), allV_ex (fun v w ⟨q, xs, eq, hq, hx⟩ => ?_) hwv⟩
    have sub : E ++ M ⊆ ((p, HO.tup [.str (tS t), .ref pw]) :: (E ++ (pw, .lst wv) :: M)) := fun z hz => .tail _ (sub_mid hz)
    exact ⟨q, xs, eq, .inr ((mL.sub (K := K) (.inl hq) sub).own o3), (hx.sub sub).own o3⟩
end
section
variable {K : PySem.W.Frag} {a : Ads}
open TR
/-- the heap without these objects -/
def hid (G : List (Addr × HO)) (H : Hp) : Hp := fun c => if c ∈ G.map (·.1) then none else H c
def Lists (G : List (Addr × HO)) : Prop := ∀ q ∈ G, ∃ xs, q.2 = .lst xs
theorem own_le {F F' : Hp} {G : List (Addr × HO)} {H : Hp} (e : Ext F F') (o : Own ⟨F', G⟩ H) : Own ⟨F, G⟩ H := by
  refine ⟨fun c u h => o.fr c u (e c u h), fun q hq => ⟨(o.gs q hq).1, ?_⟩, o.nd⟩
  have h2 : F' q.1 = none := (o.gs q hq).2
  show F q.1 = none
  cases h : F q.1 with
  | none => rfl
  | some u =>
    rw [e _ _ h] at h2
    cases h2
theorem own_hid {F : Hp} {G : List (Addr × HO)} {H H' : Hp} (o : Own ⟨F, G⟩ H) (e : Ext H H') (hl : Lists G) : Own ⟨hid G H', G⟩ H' ∧ Ext F (hid G H') ∧ KeepT (hid G H') H' := by
  refine ⟨⟨fun c u h => ?_, fun q hq => ⟨e _ _ (o.gs q hq).1, ?_⟩, o.nd⟩, fun c u h => ?_, fun c u h n => ?_⟩
  · have h : (if c ∈ G.map (·.1) then none else H' c) = some u := h
    split at h
    · cases h
    · exact h
  · show (if q.1 ∈ G.map (·.1) then none else H' q.1) = none
    rw [if_pos (List.mem_map.mpr ⟨q, hq, rfl⟩)]
  · have ne : c ∉ G.map (·.1) := fun z => by
      obtain ⟨q, hq, rfl⟩ := List.mem_map.mp z
      have : F q.1 = none := (o.gs q hq).2
      rw [this] at h
      cases h
    show (if c ∈ G.map (·.1) then none else H' c) = some u
    rw [if_neg ne]
    exact e _ _ (o.fr c u h)
  · have ne : c ∉ G.map (·.1) := fun z => by
      obtain ⟨q, hq, rfl⟩ := List.mem_map.mp z
      obtain ⟨xs, ex⟩ := hl q hq
      have h1 := e _ _ (o.gs q hq).1
      rw [h1] at h
      exact n xs (by rw [← Option.some.inj h]; exact ex)
    show (if c ∈ G.map (·.1) then none else H' c) = some u
    rw [if_neg ne]
    exact h
theorem own_hid2 {F : Hp} {G : List (Addr × HO)} {H H' : Hp} {p : Addr} {xs : List V} (o : Own ⟨F, G⟩ H) (e : Ext H H') (hl : Lists G) (hp : H p = none) (hp' : H' p = some (.lst xs)) : Own ⟨hid ((p, .lst xs) :: G) H', (p, .lst xs) :: G⟩ H' ∧ Ext F (hid ((p, .lst xs) :: G) H') ∧ KeepT (hid ((p, .lst xs) :: G) H') H' := by
  have o1 : Own ⟨F, (p, .lst xs) :: G⟩ H' := o.new hp e hp'
  exact own_hid o1 (Ext.refl _) fun q hq => by
    cases hq with
    | head => exact ⟨_, rfl⟩
    | tail _ hq => exact hl q hq
theorem box_lists (b m : Addr) (x : Bx) : Lists (boxG b m x) := fun q hq => by
  cases hq with
  | head => exact ⟨_, rfl⟩
  | tail _ hq =>
    cases hq with
    | head => exact ⟨_, rfl⟩
    | tail _ hq =>
      cases hq with
      | head => exact ⟨_, rfl⟩
      | tail _ hq => nomatch hq
theorem lists_cons {G : List (Addr × HO)} {p : Addr} {xs : List V} (h : Lists G) : Lists ((p, .lst xs) :: G) := fun q hq => by
  cases hq with
  | head => exact ⟨_, rfl⟩
  | tail _ hq => exact h q hq
theorem lwyR.ext {F F' : Hp} {v : V} {w : Way} (h : lwyR K [] F v w) (e : Ext F F') : lwyR K [] F' v w := by
  obtain ⟨p, xs, h1, h2, h3⟩ := h
  exact ⟨p, xs, h1, h2.ext e, h3.ext e⟩
theorem lwsR.ext {F F' : Hp} {v : V} {b : TR} (h : lwsR K F v b) (e : Ext F F') : lwsR K F' v b := by
  obtain ⟨p, xs, h1, h2, h3⟩ := h
  exact ⟨p, xs, h1, SqL.up e h2, allV_ex (fun _ _ z => lwyR.ext z e) h3⟩
theorem lists_one {p : Addr} {xs : List V} : Lists [(p, .lst xs)] := lists_cons fun _ z => nomatch z
theorem lists_nil : Lists [] := fun _ z => nomatch z
theorem c_go {v : V} {W : sWX} {σ : L2.St} {S : SH} {Q : V → SH → Prop} (h : Q v S) : sC v W σ S Q := h
theorem ne_s {x y : Str} {c : Bool} {S : SH} {Q : V → SH → Prop} (e : decide (V.str x = V.str y) = !c) (h : Q (.bl c) S) : oNe K (.str x) (.str y) S Q := by
  show Q (.bl (!decide (V.str x = V.str y))) S
  rw [e, Bool.not_not]
  exact h
theorem eq_s {x y : Str} {c : Bool} {S : SH} {Q : V → SH → Prop} (e : decide (V.str x = V.str y) = c) (h : Q (.bl c) S) : oEq K (.str x) (.str y) S Q := by
  show Q (.bl (decide (V.str x = V.str y))) S
  rw [e]
  exact h
theorem ne_i {x y : Int} {c : Bool} {S : SH} {Q : V → SH → Prop} (e : decide (x = y) = !c) (h : Q (.bl c) S) : oNe K (.int x) (.int y) S Q := by
  show Q (.bl (!decide (V.int x = V.int y))) S
  rw [show decide (V.int x = V.int y) = decide (x = y) from decide_eq_decide.mpr ⟨V.int.inj, congrArg V.int⟩, e, Bool.not_not]
  exact h
theorem eq_i {x y : Int} {c : Bool} {S : SH} {Q : V → SH → Prop} (e : decide (x = y) = c) (h : Q (.bl c) S) : oEq K (.int x) (.int y) S Q := by
  show Q (.bl (decide (V.int x = V.int y))) S
  rw [show decide (V.int x = V.int y) = decide (x = y) from decide_eq_decide.mpr ⟨V.int.inj, congrArg V.int⟩, e]
  exact h
theorem plc_nat {n i : Nat} (h : i < n) : plcB n (.int (i : Nat)) = true := by
  show (decide ((0 : Int) ≤ (i : Nat)) && decide (((i : Nat) : Int) < (n : Nat))) = true
  rw [decide_eq_true (by omega), decide_eq_true (by omega)]
  rfl
theorem vc_checked_visits {vs : List V} {H : Hp} (g : V × TR × Addr × List Nat) (h : (ct_checked_visits K a).pre g vs H) : ∃ S, Own S H ∧ r_checked_visits K a (endsC (ct_checked_visits K a) g H) (start N_checked_visits vs) S := by
  obtain ⟨tv, b, p, ns⟩ := g
  obtain ⟨rfl, hT, hp, hns⟩ := h
  have hT : TreeAt K a H tv b := hT
  have hp : SqL K H p (nV ns) := hp
  have hns : ∀ i ∈ ns, i < nS b := hns
  refine ⟨⟨H, []⟩, Own.base H, ?_⟩
  refine ⟨.list, .inl ⟨rfl, nV ns, .inr hp⟩, ?_⟩
  refine .inl ⟨nV ns, .inr hp, ?_⟩
  refine ⟨fun i σ S => ∃ x2, σ = [some tv, some (.ref p), x2] ∧ S = ⟨H, []⟩, ⟨none, rfl, rfl⟩, ?_, ?_, ?_⟩
  · rintro i σ S _ ⟨x2, rfl, rfl⟩
    exact .inr hp
  · rintro i σ S hi ⟨x2, rfl, rfl⟩ v hv
    obtain ⟨n, hn, rfl⟩ := nV_get hv
    have hlt := hns n (List.mem_of_getElem? hn)
    refine use_slot tv b (.int (n : Nat)) .int (by rfl) (fun H' o => hT.ext (own_F o)) (fun _ _ => rfl) (fun _ => ?_) (fun hb => ?_)
    · exact ⟨_, SLe.refl _, _, rfl, rfl⟩
    · rw [plc_nat hlt] at hb
      cases hb
  · rintro σ S ⟨x2, rfl, rfl⟩
    refine ⟨nV ns, .inl (.inr hp), fun q H' o' => ?_⟩
    have m := o'.gs (q, .lst (nV ns)) (.head _)
    exact ⟨⟨q, rfl, m.2, m.1⟩, fun c u e => o'.fr c u e⟩
theorem prH_make {H : Hp} {p : Addr} {q : Nat × Nat} (h : H p = some (.tup [.int (q.1 : Nat), .int (q.2 : Nat)])) : MD K H [] (.ref p) (prD q) :=
  .tup (.inr (.inl (.inl h))) (.cons (.int _) (.cons (.int _) .nil))
theorem pr_open {F : Hp} {G : List (Addr × HO)} {v : V} {q : Nat × Nat} (h : MD K F G v (prD q)) : ∃ p, v = .ref p ∧ mT K F G p [.int (q.1 : Nat), .int (q.2 : Nat)] := by
  obtain ⟨p, xs, rfl, hp, hx⟩ := h.tupI
  cases hx with
  | cons h1 hx =>
    cases hx with
    | cons h2 hx =>
      cases hx
      rw [h1.intI, h2.intI] at hp
      exact ⟨p, rfl, hp⟩
theorem L_is (c : Bool) : decide (V.str ⟨#[cdB c]⟩ = V.str "L") = c := by cases c <;> decide +kernel
theorem eF_at {en : List Bool} {f : Nat} {c : Bool} (h : en[f]? = some c) : eF en f = c := by
  unfold eF
  rw [h]
  rfl
theorem vc_forks_below {vs : List V} {H : Hp} (g : V × TR × List Bool × Option Nat) (h : (ct_forks_below K a).pre g vs H) : ∃ S, Own S H ∧ r_forks_below K a (endsC (ct_forks_below K a) g H) (start N_forks_below vs) S := by
  obtain ⟨tv, b, fl, hg⟩ := g
  obtain ⟨rfl, hT, hl, hh⟩ := h
  have hT : TreeAt K a H tv b := hT
  have hl : fl.length + 1 = nS b := hl
  have hh : ∀ h, hg = some h → h + 1 < nS b := hh
  have hsm : nS b ≤ 64 := hT.sm
  have hl2 : fl.length ≤ 100 := by omega
  have hT0 := hT
  obtain ⟨⟨p, dx, fs, wv, sp, e1, h2, h3, h4, h5, h6, h7⟩, h9⟩ := hT
  have e1 : tv = .ref p := e1
  subst e1
  refine ⟨⟨H, []⟩, Own.base H, ?_⟩
  have fin : ∀ {q : Nat × Nat} {xs : List V}, hrg fl b hg = q → xs = [.int (q.1 : Nat), .int (q.2 : Nat)] → ∀ t H', Own (SH.new ⟨H, []⟩ t (.tup xs)) H' → (ct_forks_below K a).post (.ref p, b, fl, hg) H (.ref t) H' := fun {q xs} e1 e2 t H' o' => by
    refine ⟨?_, fun c u e => o'.fr c u e⟩
    show MD K H' [] (.ref t) (prD (hrg fl b hg))
    rw [e1]
    refine prH_make ?_
    rw [← e2]
    exact (o'.gs (t, .tup xs) (.head _)).1
  cases hg with
  | none =>
    refine seq_go ?_
    unfold sIfS sTst
    refine op_go (var_go (v := .non) (by rfl) (c_go ?_))
    unfold oIsN
    dsimp only
    rw [show decide (V.non = V.non) = true from rfl]
    refine ret_go (tup_go (cons_go (c_go (cons_go ?_))))
    refine use_forks (i := 0) (v := .ref p) (b := b) (fun H' o => hT0.ext (own_F o)) hT0 ?_ (by rfl)
    exact nil_go ⟨show 2 ≤ sizeLine by decide, fin rfl rfl⟩
  | some f =>
    have hf : f + 1 < nS b := hh f rfl
    obtain ⟨psp, sps, rfl, hpsp, hsps⟩ := MD.tupI (show MD K H [] sp (.tuple _) from h7)
    obtain ⟨u, hu, mu⟩ := hsps.get (i := f) (d := prD (spnF b 0 f)) (by rw [List.getElem?_map, List.getElem?_range (show f < nS b - 1 by omega)]; rfl)
    obtain ⟨pu, rfl, hpu⟩ := pr_open mu
    obtain ⟨c, hc⟩ : ∃ c, fl[f]? = some c := ⟨_, List.getElem?_eq_getElem (by omega)⟩
    refine ⟨dx, fs, _, .inr h2, h6, ?_⟩
    refine ⟨sps, _, .inr (hpsp.s fun _ z => nomatch z), atI_at hu, ?_⟩
    refine ⟨_, hpu.s (fun _ z => nomatch z), rfl, ?_⟩
    refine ⟨fS_line hl2, cdB c, fS_at hc, ?_⟩
    refine c_go (eq_s (L_is c) ?_)
    have ec := eF_at hc
    cases c with
    | true =>
      refine ⟨show 2 ≤ sizeLine by decide, fin (q := (f + 1, (spnF b 0 f).2)) ?_ rfl⟩
      show belF fl b 0 f = _
      unfold belF
      rw [ec]
      rfl
    | false =>
      refine ⟨show 2 ≤ sizeLine by decide, fin (q := ((spnF b 0 f).1, f)) ?_ rfl⟩
      show belF fl b 0 f = _
      unfold belF
      rw [ec]
      rfl
/-! ### what stands between -/
theorem seg_eq {l m : List Nat} {i j : Nat} : (l.take j).drop i = (m.take j).drop i ↔ ∀ f, i ≤ f → f < j → l[f]? = m[f]? := by
  constructor
  · intro e f h1 h2
    have := congrArg (fun x => x[f - i]?) e
    simp only [List.getElem?_drop, List.getElem?_take] at this
    rw [show i + (f - i) = f by omega, if_pos h2, if_pos h2] at this
    exact this
  · intro e
    refine List.ext_getElem? fun k => ?_
    rw [List.getElem?_drop, List.getElem?_drop, List.getElem?_take, List.getElem?_take]
    split
    · exact e _ (by omega) ‹_›
    · rfl
theorem en_at {en : List Bool} {f : Nat} (h : f < en.length) : (en.map cdB)[f]? = some (cdB (eF en f)) := by
  rw [List.getElem?_map, List.getElem?_eq_getElem h]
  unfold eF
  rw [List.getElem?_eq_getElem h]
  rfl
theorem dif_seg {st : List Nat} {en : List Bool} {q : Nat × Nat} (hq : q.2 ≤ en.length) : decide (V.str (pS ((st.take q.2).drop q.1)) = V.str (pS (((en.map cdB).take q.2).drop q.1))) = !difR (difF st en) q := by
  unfold difR
  rw [Bool.eq_iff_iff, decide_eq_true_iff, Bool.not_eq_true', List.any_eq_false]
  constructor
  · intro e f hf
    have hf := List.mem_range'_1.mp hf
    have := (seg_eq.mp (pS_inj (V.str.inj e))) f hf.1 (by omega)
    unfold difF
    rw [this, en_at (by omega)]
    simp
  · intro e
    refine congrArg (fun l => V.str (pS l)) (seg_eq.mpr fun f h1 h2 => ?_)
    have := e f (List.mem_range'_1.mpr ⟨h1, by omega⟩)
    unfold difF at this
    rw [en_at (by omega)]
    simpa using this
theorem spn_in : ∀ (b : TR) (o h : Nat), (spnF b o h).2 + 1 ≤ o + nS b
  | leaf, o, h => Nat.le_refl _
  | node l r, o, h => by
    have h1 := nS_pos l
    have h2 := nS_pos r
    have e : nS (node l r) = nS l + nS r := rfl
    rw [spn_node]
    split
    · show o + nS l + nS r - 1 + 1 ≤ _
      omega
    · split
      · have := spn_in l o h
        omega
      · have := spn_in r (o + nS l) h
        omega
theorem hrg_in {en : List Bool} {b : TR} {hg : Option Nat} (hh : ∀ h, hg = some h → h + 1 < nS b) : (hrg en b hg).2 + 1 ≤ nS b := by
  have hp := nS_pos b
  cases hg with
  | none =>
    show nS b - 1 + 1 ≤ nS b
    omega
  | some f =>
    have := hh f rfl
    have := spn_in b 0 f
    show (belF en b 0 f).2 + 1 ≤ nS b
    unfold belF
    split
    · show (spnF b 0 f).2 + 1 ≤ nS b
      omega
    · show f + 1 ≤ nS b
      omega
theorem tr_hang {en : List Bool} {b : TR} {i : Nat} {t : Tr} (h : (trB b en)[i]? = some t) : ∀ x, t.2 = some x → x + 1 < nS b := fun x ex => by
  obtain ⟨w, hw, rfl⟩ := trB_way h
  obtain ⟨_, q1, q2, _⟩ := (con_all en b 0 i w hw).cl x ex
  omega
theorem use_below {W : sWX} {σ : L2.St} {F : Hp} {G : List (Addr × HO)} {Q : V → SH → Prop} {vs : List V} (tv : V) (b : TR) (en : List Bool) (hg : Option Nat) (e : vs = [tv, .str (fS en), hgV hg]) (hT : TreeAt K a F tv b) (hl : en.length + 1 = nS b) (hh : ∀ h, hg = some h → h + 1 < nS b) (hL : Lists G)
    (k : ∀ F2 p, Ext F F2 → mT K F2 [] p [.int ((hrg en b hg).1 : Nat), .int ((hrg en b hg).2 : Nat)] → Q (.ref p) ⟨F2, G⟩) : rC (ct_forks_below K a) W vs σ ⟨F, G⟩ Q := by
  refine ⟨(tv, b, en, hg), fun H1 o => ⟨e, hT.ext (own_F o), hl, hh⟩, fun H1 v H' o q => ?_, fun _ _ _ _ _ q => q.elim⟩
  obtain ⟨q1, q2⟩ := q
  obtain ⟨o2, e2, k2⟩ := own_hid o q2 hL
  obtain ⟨p, rfl, hp⟩ := pr_open (MD.low (G := []) q1 k2)
  exact ⟨_, o2, k _ p e2 hp⟩
theorem filter_more {p : Nat → Bool} {i : Nat} : (List.range (i + 1)).filter p = (List.range i).filter p ++ if p i then [i] else [] := by
  rw [List.range_succ, List.filter_append]
  congr 1
  rw [List.filter_cons]
  rfl
theorem filter_len {p : Nat → Bool} {i : Nat} : ((List.range i).filter p).length ≤ i := by
  have := List.length_filter_le p (List.range i)
  rw [List.length_range] at this
  exact this
theorem vc_needed_slots {vs : List V} {H : Hp} (g : V × TR × List Nat × List Bool) (h : (ct_between K a resL).pre g vs H) : ∃ S, Own S H ∧ r_needed_slots K a (endsC (ct_between K a resL) g H) (start N_needed_slots vs) S := by
  obtain ⟨tv, b, st, en⟩ := g
  obtain ⟨rfl, hT, hst, hen⟩ := h
  have hT : TreeAt K a H tv b := hT
  have hst : st.length + 1 = nS b := hst
  have hen : en.length + 1 = nS b := hen
  have hsm : nS b ≤ 64 := hT.sm
  refine ⟨⟨H, []⟩, Own.base H, ?_⟩
  refine ⟨Nat.zero_le _, fun pf => ?_⟩
  refine ⟨(tv, b, en), fun H1 o => ⟨rfl, hT.ext (own_F o), hen⟩, fun H1 v H' o q => ?_, fun _ _ _ _ _ q => q.elim⟩
  obtain ⟨⟨p, tx, rfl, q1, q2, q3⟩, q4⟩ := q
  obtain ⟨o2, e2, k2⟩ := own_hid2 o q4 lists_one q1 q2
  refine ⟨_, o2, ?_⟩
  generalize hid [(p, HO.lst tx), (pf, .lst [])] H' = F2 at o2 e2 k2
  have htx : MDs K F2 [] tx (trsD b en) := MDs.low q3 k2
  have ltx : tx.length = nS b := by rw [htx.len, trs_len]
  have hT2 := hT.ext e2
  clear o2 k2 q3 q4 q1 q2 o
  refine .inl ⟨tx, .inl ⟨0, rfl⟩, ?_⟩
  refine ⟨fun i σ S => ∃ (F' : Hp) (x4 x5 x6 x7 x8 : Option V), Ext F2 F' ∧ σ = [some tv, some (.str (pS st)), some (.str (fS en)), some (.ref pf), x4, x5, x6, x7, x8] ∧ S = ⟨F', [(p, .lst tx), (pf, .lst (nV ((List.range i).filter (ndQ en (difF st en) b))))]⟩, ⟨F2, none, none, none, none, none, Ext.refl _, rfl, rfl⟩, ?_, ?_, ?_⟩
  · rintro i σ S _ ⟨F', x4, x5, x6, x7, x8, _, rfl, rfl⟩
    exact .inl ⟨0, rfl⟩
  · rintro i σ S hi ⟨F', x4, x5, x6, x7, x8, ex, rfl, rfl⟩ v hv
    have hi : i < tx.length := hi
    obtain ⟨d, hd, mv⟩ := (htx.ext ex).at hv
    obtain ⟨t, ht⟩ : ∃ t, (trB b en)[i]? = some t := ⟨_, List.getElem?_eq_getElem (by rw [trB_len]; omega)⟩
    rw [trs_get ht] at hd
    cases hd
    obtain ⟨pt, qt, rfl, hpt, hqt⟩ := tr_open mv
    refine ⟨_, hpt.s (fun _ z => nomatch z), rfl, ?_⟩
    refine use_below tv b en t.2 (by rfl) (hT2.ext ex) hen (tr_hang ht) (lists_cons lists_one) fun F3 pp ex3 hpp => ?_
    refine ⟨_, hpp.s (fun _ z => nomatch z), rfl, ?_⟩
    have hq := hrg_in (en := en) (tr_hang ht)
    refine ⟨pS_line (by omega), ?_⟩
    rw [cut_mid]
    refine ⟨fS_line (by omega), ?_⟩
    rw [show cutS (fS en) (some ((hrg en b t.2).1 : Int)) (some ((hrg en b t.2).2 : Int)) = pS (((en.map cdB).take (hrg en b t.2).2).drop (hrg en b t.2).1) from cut_mid _ _ _]
    refine ne_s (dif_seg (by omega)) ?_
    have ei := nd_hang en (difF st en) b ht
    cases hd : difR (difF st en) (hrg en b t.2) with
    | true =>
      refine ⟨.inl ⟨rfl, _, .inl ⟨1, rfl⟩⟩, ?_⟩
      refine ⟨1, _, rfl, ?_, ⟨_, SLe.refl _, F3, _, _, _, _, _, ex.trans ex3, rfl, ?_⟩⟩
      · rw [nV_len]
        exact small_of (Nat.le_trans filter_len (show i ≤ 64 by omega)) (by decide)
      · rw [filter_more, ei, hd, if_pos rfl, nV_snoc]
        rfl
    | false =>
      refine ⟨_, SLe.refl _, F3, _, _, _, _, _, ex.trans ex3, rfl, ?_⟩
      rw [filter_more, ei, hd, if_neg Bool.false_ne_true, List.append_nil]
  · rintro σ S ⟨F', x4, x5, x6, x7, x8, ex, rfl, rfl⟩
    have en2 : (itL K p tx).n = nS b := ltx
    rw [en2]
    intro H' o'
    have m := (own_le (e2.trans ex) o').gs (pf, .lst (nV (dueL st en b))) (.tail _ (.head _))
    exact ⟨⟨pf, rfl, m.2, m.1⟩, fun c u e => o'.fr c u ((e2.trans ex) c u e)⟩
theorem hangs_map (n : Nat) : V.non :: rgS (n : Int) = (none :: (List.range n).map some).map hgV := by
  rw [List.map_cons, List.map_map, rgS_nV]
  rfl
theorem vc_hits_between {vs : List V} {H : Hp} (g : V × TR × List Nat × List Bool) (h : (ct_between K a resN).pre g vs H) : ∃ S, Own S H ∧ r_hits_between K a (endsC (ct_between K a resN) g H) (start N_hits_between vs) S := by
  obtain ⟨tv, b, st, en⟩ := g
  obtain ⟨rfl, hT, hst, hen⟩ := h
  have hT : TreeAt K a H tv b := hT
  have hst : st.length + 1 = nS b := hst
  have hen : en.length + 1 = nS b := hen
  have hsm : nS b ≤ 64 := hT.sm
  refine ⟨⟨H, []⟩, Own.base H, ?_⟩
  refine ⟨show 1 ≤ sizeLine by decide, fun p1 => ?_⟩
  refine use_forks (i := 0) (v := tv) (b := b) (fun H' o => hT.ext (own_F o)) hT ?_ (by rfl)
  refine ⟨⟨by omega, by omega⟩, fun p2 => ?_⟩
  refine ⟨_, _, .inl ⟨1, rfl⟩, .inl ⟨0, rfl⟩, ?_, fun p3 => ?_⟩
  · rw [rgS_nV, nV_len, List.length_range]
    show 1 + (nS b - 1) ≤ sizeLine
    exact Nat.le_trans (show _ ≤ 100 by omega) (by decide)
  rw [show [V.non] ++ rgS ((nS b - 1 : Nat) : Int) = (none :: (List.range (nS b - 1)).map some).map hgV from hangs_map (nS b - 1)]
  generalize hL : (none :: (List.range (nS b - 1)).map some) = L
  have lL : L.length = nS b := by
    rw [← hL, List.length_cons, List.length_map, List.length_range]
    have := nS_pos b
    omega
  have inL : ∀ h ∈ L, ∀ x, h = some x → x + 1 < nS b := by
    rw [← hL]
    intro h hh x ex
    subst ex
    rcases List.mem_cons.mp hh with e | e
    · cases e
    · obtain ⟨y, hy, e⟩ := List.mem_map.mp e
      cases e
      have := List.mem_range.mp hy
      omega
  refine .inl ⟨_, .inl ⟨0, rfl⟩, ?_⟩
  have lists : Lists [(p3, HO.lst (L.map hgV)), (p2, .lst (rgS ((nS b - 1 : Nat) : Int))), (p1, .lst [.non])] := lists_cons (lists_cons lists_one)
  refine ⟨fun i σ S => ∃ (F' : Hp) (x4 x5 x6 : Option V), Ext H F' ∧ σ = [some tv, some (.str (pS st)), some (.str (fS en)), some (.int (((L.take i).countP fun h => difR (difF st en) (hrg en b h) : Nat))), x4, x5, x6] ∧ S = ⟨F', [(p3, .lst (L.map hgV)), (p2, .lst (rgS ((nS b - 1 : Nat) : Int))), (p1, .lst [.non])]⟩, ⟨H, none, none, none, Ext.refl _, rfl, rfl⟩, ?_, ?_, ?_⟩
  · rintro i σ S _ ⟨F', x4, x5, x6, _, rfl, rfl⟩
    exact .inl ⟨0, rfl⟩
  · rintro i σ S hi ⟨F', x4, x5, x6, ex, rfl, rfl⟩ v hv
    obtain ⟨hg, hh, rfl⟩ : ∃ hg, L[i]? = some hg ∧ v = hgV hg := by
      rw [List.getElem?_map] at hv
      cases e : L[i]? with
      | none =>
        rw [e] at hv
        cases hv
      | some x =>
        rw [e] at hv
        exact ⟨x, rfl, (Option.some.inj hv).symm⟩
    have hin := inL hg (List.mem_of_getElem? hh)
    refine use_below tv b en hg (by rfl) (hT.ext ex) hen hin lists fun F3 pp ex3 hpp => ?_
    refine ⟨_, hpp.s (fun _ z => nomatch z), rfl, ?_⟩
    have hq := hrg_in (en := en) hin
    refine ⟨pS_line (by omega), ?_⟩
    rw [cut_mid]
    refine ⟨fS_line (by omega), ?_⟩
    rw [show cutS (fS en) (some ((hrg en b hg).1 : Int)) (some ((hrg en b hg).2 : Int)) = pS (((en.map cdB).take (hrg en b hg).2).drop (hrg en b hg).1) from cut_mid _ _ _]
    refine ne_s (dif_seg (by omega)) ?_
    cases hd : difR (difF st en) (hrg en b hg) with
    | true =>
      refine ⟨_, SLe.refl _, F3, some (hgV hg), some (.int ((hrg en b hg).1 : Nat)), some (.int ((hrg en b hg).2 : Nat)), ex.trans ex3, ?_, rfl⟩
      rw [take_more hh, List.countP_append, List.countP_singleton, hd]
      rfl
    | false =>
      refine ⟨_, SLe.refl _, F3, some (hgV hg), some (.int ((hrg en b hg).1 : Nat)), some (.int ((hrg en b hg).2 : Nat)), ex.trans ex3, ?_, rfl⟩
      rw [take_more hh, List.countP_append, List.countP_singleton, hd]
      rfl
  · rintro σ S ⟨F', x4, x5, x6, ex, rfl, rfl⟩
    have en2 : (itL K p3 (L.map hgV)).n = L.length := List.length_map _
    rw [en2, List.take_length]
    intro H' o'
    refine ⟨?_, fun c u e => o'.fr c u (ex c u e)⟩
    show V.int _ = V.int ((dueL st en b).length : Nat)
    rw [show (dueL st en b).length = _ from due_count en (difF st en) b, hL]
end
section
variable {K : PySem.W.Frag} {a : Ads}
open TR
theorem vc_needed {vs : List V} {H : Hp} (g : V × TR × V × TY × V × TY) (h : (ct_door K a resL).pre g vs H) : ∃ S, Own S H ∧ r_needed K a (endsC (ct_door K a resL) g H) (start N_needed vs) S := by
  obtain ⟨tv, b, sv, s1, ev, e1⟩ := g
  obtain ⟨rfl, hT, hst, hss, het, hes⟩ := h
  have hT : TreeAt K a H tv b := hT
  have hst : Ty0 K H sv s1 := hst
  have hss : strOk sv := hss
  have het : Ty0 K H ev e1 := het
  have hes : strOk ev := hes
  refine ⟨⟨H, []⟩, Own.base H, ?_⟩
  refine use_flags true tv b sv s1 (by rfl) (fun H' o => hT.ext (own_F o)) (fun H' o => hst.ex (own_F o)) hss (fun h1 => ?_) fun h1 d H' o => ?_
  rotate_left
  · have m := o.gs (d, .xd [("flags", sv)]) (.head _)
    exact ⟨rfl, d, rfl, m.2, fun c u e => o.fr c u e, .inl ⟨h1, m.1⟩⟩
  refine use_flags false tv b ev e1 (by rfl) (fun H' o => hT.ext (own_F o)) (fun H' o => het.ex (own_F o)) hes (fun h2 => ?_) fun h2 d H' o => ?_
  rotate_left
  · have m := o.gs (d, .xd [("flags", ev)]) (.head _)
    exact ⟨rfl, d, rfl, m.2, fun c u e => o.fr c u e, .inr ⟨h1, h2, m.1⟩⟩
  obtain ⟨u1, rfl⟩ : ∃ u, sv = .str u := by
    cases sv with
    | str u => exact ⟨u, rfl⟩
    | _ => cases h1
  obtain ⟨u2, rfl⟩ : ∃ u, ev = .str u := by
    cases ev with
    | str u => exact ⟨u, rfl⟩
    | _ => cases h2
  obtain ⟨st, rfl, hl1, hp1⟩ := flOk_pt h1
  obtain ⟨en, rfl, hl2⟩ := flOk_fl h2
  refine ⟨(tv, b, st, en), fun H1 o => ⟨rfl, hT.ext (own_F o), hl1, hl2⟩, fun H1 v H' o q => ?_, fun _ _ _ _ _ q => q.elim⟩
  obtain ⟨⟨p, rfl, q1, q2⟩, q3⟩ := q
  refine ⟨_, o.new q1 q3 q2, fun H2 o2 => ⟨h1, h2, fun st' en' es ee => ?_, fun c u e => o2.fr c u e⟩⟩
  have es := pS_inj (V.str.inj es)
  have ee := fS_inj (V.str.inj ee)
  subst es
  subst ee
  have m := o2.gs (p, .lst (nV (dueL st en b))) (.head _)
  exact ⟨p, rfl, m.2, m.1⟩
theorem vc_least_hits {vs : List V} {H : Hp} (g : V × TR × V × TY × V × TY) (h : (ct_door K a resN).pre g vs H) : ∃ S, Own S H ∧ r_least_hits K a (endsC (ct_door K a resN) g H) (start N_least_hits vs) S := by
  obtain ⟨tv, b, sv, s1, ev, e1⟩ := g
  obtain ⟨rfl, hT, hst, hss, het, hes⟩ := h
  have hT : TreeAt K a H tv b := hT
  have hst : Ty0 K H sv s1 := hst
  have hss : strOk sv := hss
  have het : Ty0 K H ev e1 := het
  have hes : strOk ev := hes
  refine ⟨⟨H, []⟩, Own.base H, ?_⟩
  refine use_flags true tv b sv s1 (by rfl) (fun H' o => hT.ext (own_F o)) (fun H' o => hst.ex (own_F o)) hss (fun h1 => ?_) fun h1 d H' o => ?_
  rotate_left
  · have m := o.gs (d, .xd [("flags", sv)]) (.head _)
    exact ⟨rfl, d, rfl, m.2, fun c u e => o.fr c u e, .inl ⟨h1, m.1⟩⟩
  refine use_flags false tv b ev e1 (by rfl) (fun H' o => hT.ext (own_F o)) (fun H' o => het.ex (own_F o)) hes (fun h2 => ?_) fun h2 d H' o => ?_
  rotate_left
  · have m := o.gs (d, .xd [("flags", ev)]) (.head _)
    exact ⟨rfl, d, rfl, m.2, fun c u e => o.fr c u e, .inr ⟨h1, h2, m.1⟩⟩
  obtain ⟨u1, rfl⟩ : ∃ u, sv = .str u := by
    cases sv with
    | str u => exact ⟨u, rfl⟩
    | _ => cases h1
  obtain ⟨u2, rfl⟩ : ∃ u, ev = .str u := by
    cases ev with
    | str u => exact ⟨u, rfl⟩
    | _ => cases h2
  obtain ⟨st, rfl, hl1, hp1⟩ := flOk_pt h1
  obtain ⟨en, rfl, hl2⟩ := flOk_fl h2
  refine ⟨(tv, b, st, en), fun H1 o => ⟨rfl, hT.ext (own_F o), hl1, hl2⟩, fun H1 v H' o q => ?_, fun _ _ _ _ _ q => q.elim⟩
  obtain ⟨q1, q3⟩ := q
  refine ⟨_, o.ex q3, fun H2 o2 => ⟨h1, h2, fun st' en' es ee => ?_, fun c u e => o2.fr c u e⟩⟩
  have es := pS_inj (V.str.inj es)
  have ee := fS_inj (V.str.inj ee)
  subst es
  subst ee
  exact q1
theorem use_needed {W : sWX} {σ : L2.St} {F : Hp} {G : List (Addr × HO)} {Q : V → SH → Prop} {vs : List V} (tv : V) (b : TR) (st : List Nat) (en : List Bool) (e : vs = [tv, .str (pS st), .str (fS en)]) (hT : TreeAt K a F tv b) (h1 : st.length + 1 = nS b) (h2 : en.length + 1 = nS b) (hp : patOk st)
    (k : ∀ p, Q (.ref p) ⟨F, (p, .lst (nV (dueL st en b))) :: G⟩) : rC (ct_door K a resL) W vs σ ⟨F, G⟩ Q := by
  have hsm : nS b ≤ 64 := hT.sm
  refine ⟨(tv, b, .str (pS st), .str, .str (fS en), .str), fun H1 o => ⟨e, hT.ext (own_F o), rfl, pS_sgn (by omega) hp, rfl, fS_sgn (by omega)⟩, fun H1 v H' o q => ?_, fun H1 c d H' o q => ?_⟩
  · obtain ⟨_, _, q1, q2⟩ := q
    obtain ⟨p, rfl, q3, q4⟩ := q1 st en rfl rfl
    exact ⟨_, o.new q3 q2 q4, k p⟩
  · obtain ⟨_, dd, _, _, _, ⟨z, _⟩ | ⟨_, z, _⟩⟩ := q
    · have z : flOk true b (.str (pS st)) = false := z
      rw [flOk_pat h1 hp] at z
      cases z
    · have z : flOk false b (.str (fS en)) = false := z
      rw [flOk_yes h2] at z
      cases z
theorem use_least {W : sWX} {σ : L2.St} {F : Hp} {G : List (Addr × HO)} {Q : V → SH → Prop} {vs : List V} (tv : V) (b : TR) (st : List Nat) (en : List Bool) (e : vs = [tv, .str (pS st), .str (fS en)]) (hT : TreeAt K a F tv b) (h1 : st.length + 1 = nS b) (h2 : en.length + 1 = nS b) (hp : patOk st)
    (k : Q (.int ((dueL st en b).length : Nat)) ⟨F, G⟩) : rC (ct_door K a resN) W vs σ ⟨F, G⟩ Q := by
  have hsm : nS b ≤ 64 := hT.sm
  refine ⟨(tv, b, .str (pS st), .str, .str (fS en), .str), fun H1 o => ⟨e, hT.ext (own_F o), rfl, pS_sgn (by omega) hp, rfl, fS_sgn (by omega)⟩, fun H1 v H' o q => ?_, fun H1 c d H' o q => ?_⟩
  · obtain ⟨_, _, q1, q2⟩ := q
    have q3 : v = _ := q1 st en rfl rfl
    exact ⟨_, o.ex q2, by rw [q3]; exact k⟩
  · obtain ⟨_, dd, _, _, _, ⟨z, _⟩ | ⟨_, z, _⟩⟩ := q
    · have z : flOk true b (.str (pS st)) = false := z
      rw [flOk_pat h1 hp] at z
      cases z
    · have z : flOk false b (.str (fS en)) = false := z
      rw [flOk_yes h2] at z
      cases z
theorem sg_pS (l : List Nat) : sgV (pS l) = (l.map fun c => pS [c]).map V.str := by
  unfold sgV
  rw [List.map_map]
  rfl
theorem join_pS (l : List Nat) : Txt.join "" (l.map fun c => pS [c]) = pS l := by
  refine TL.ext_tl ((congrArg TL.tl (TL.join_eq _ _)).trans ((TL.tl_join _ _).trans ?_))
  rw [pS_tl]
  show TL.joinL [] ((l.map fun c => pS [c]).map TL.tl) = _
  rw [List.map_map]
  show TL.joinL [] (l.map fun c => [c]) = _
  induction l with
  | nil => rfl
  | cons b fl ih =>
    cases fl with
    | nil => rfl
    | cons c fl =>
      show [b] ++ ([] ++ TL.joinL [] ((c :: fl).map fun c => [c])) = _
      rw [ih]
      rfl
theorem sum_pS : ∀ l : List Nat, ((l.map fun c => pS [c]).map (·.length)).sum = l.length
  | [] => rfl
  | b :: fl => by
    show 1 + ((fl.map fun c => pS [c]).map (·.length)).sum = fl.length + 1
    rw [sum_pS fl, Nat.add_comm]
theorem hit_more {st : List Nat} {w : Way} {i : Nat} {s : Nat × Bool} (h : w[i]? = some s) : hitL st (w.take (i + 1)) = (hitL st (w.take i)).set s.1 (cdB s.2) := by
  rw [take_more h]
  unfold hitL
  rw [List.foldl_append]
  rfl
theorem vc_turnedX {ok : List Nat → Prop} {vs : List V} {H : Hp} (g : V × TR × List Nat × Nat) (h : (ct_turned K a ok).pre g vs H) : ∃ S, Own S H ∧ r_turned K a (endsC (ct_turned K a ok) g H) (start N_turned vs) S := by
  obtain ⟨tv, b, st, n⟩ := g
  obtain ⟨rfl, hT, hst, hn, _⟩ := h
  have hT : TreeAt K a H tv b := hT
  have hst : st.length + 1 = nS b := hst
  have hn : n < nS b := hn
  have hsm : nS b ≤ 64 := hT.sm
  obtain ⟨⟨p, dx, fs, wv, sp, e1, h2, h3, h4, h5, h6, h7⟩, h9⟩ := hT
  have e1 : tv = .ref p := e1
  subst e1
  obtain ⟨pws, ws, rfl, hpws, hws⟩ := MD.tupI (show MD K H [] wv (.tuple _) from h5)
  have hwy := wy_at hn
  obtain ⟨u, hu, mu⟩ := hws.get (i := n) (d := wyD (wy b n)) (by rw [List.getElem?_map, hwy]; rfl)
  obtain ⟨pw, xs, rfl, hpw, hxs⟩ := MD.tupI (show MD K H [] u (.tuple _) from mu)
  have lx : xs.length = (wy b n).length := by rw [hxs.len, List.length_map]
  refine ⟨⟨H, []⟩, Own.base H, ?_⟩
  refine ⟨?_, fun q => ?_⟩
  · show st.length ≤ sizeLine
    exact Nat.le_trans (show st.length ≤ 100 by omega) (by decide)
  rw [sg_pS]
  refine ⟨dx, fs, _, .inr h2, h4, ?_⟩
  refine ⟨ws, _, .inr (hpws.s fun _ z => nomatch z), atI_at hu, ?_⟩
  refine .inr ⟨xs, hpw.s (fun _ z => nomatch z), ?_⟩
  refine ⟨fun i σ S => ∃ (x4 x5 : Option V), σ = [some (.ref p), some (.str (pS st)), some (.int (n : Nat)), some (.ref q), x4, x5] ∧ S = ⟨H, [(q, .lst (((hitL st ((wy b n).take i)).map fun c => pS [c]).map V.str))]⟩, ⟨none, none, rfl, rfl⟩, ?_, ?_, ?_⟩
  · rintro i σ S _ ⟨x4, x5, rfl, rfl⟩
    exact hpw.s fun _ z => nomatch z
  · rintro i σ S hi ⟨x4, x5, rfl, rfl⟩ v hv
    obtain ⟨d, hd, mv⟩ := hxs.at hv
    have hi : i < xs.length := hi
    obtain ⟨s, hs⟩ : ∃ s, (wy b n)[i]? = some s := ⟨_, List.getElem?_eq_getElem (by omega)⟩
    rw [List.getElem?_map, hs] at hd
    cases hd
    obtain ⟨pt, rfl, hpt⟩ := st_open mv
    have hsml := wy_small (b := b) (i := n) hn s (List.mem_of_getElem? hs)
    refine ⟨_, hpt.s (fun _ z => nomatch z), rfl, ?_⟩
    refine ⟨0, _, s.1, rfl, ixN_nat ?_, ⟨_, SLe.refl _, _, _, rfl, ?_⟩⟩
    · rw [List.length_map, List.length_map, hitL_len]
      have : st.length + 1 = nS b := hst
      omega
    · rw [hit_more hs, List.map_set, List.map_set]
      rfl
  · rintro σ S ⟨x4, x5, rfl, rfl⟩
    have en : (itU K pw xs).n = (wy b n).length := lx
    rw [en, List.take_length]
    refine ⟨rfl, ?_⟩
    refine ⟨(hitL st (wy b n)).map fun c => pS [c], .inl (.inl ⟨0, rfl⟩), ?_, ?_⟩
    · rw [sum_pS, hitL_len]
      show st.length + _ * 0 ≤ 16777216
      omega
    · rw [join_pS]
      exact fun H' o' => ⟨rfl, fun c u e => o'.fr c u e⟩
theorem vc_turned {vs : List V} {H : Hp} (g : V × TR × List Nat × Nat) (h : (ct_turned K a fun _ => True).pre g vs H) : ∃ S, Own S H ∧ r_turned K a (endsC (ct_turned K a fun _ => True) g H) (start N_turned vs) S := vc_turnedX g h
theorem use_turned {ok : List Nat → Prop} {W : sWX} {σ : L2.St} {F : Hp} {G : List (Addr × HO)} {Q : V → SH → Prop} {vs : List V} (tv : V) (b : TR) (st : List Nat) (n : Nat) (e : vs = [tv, .str (pS st), .int (n : Nat)]) (hT : TreeAt K a F tv b) (h1 : st.length + 1 = nS b) (h2 : n < nS b) (hp : ok st)
    (k : Q (.str (pS (hitL st (wy b n)))) ⟨F, G⟩) : rC (ct_turned K a ok) W vs σ ⟨F, G⟩ Q := by
  refine ⟨(tv, b, st, n), fun H1 o => ⟨e, hT.ext (own_F o), h1, h2, hp⟩, fun H1 v H' o q => ?_, fun _ _ _ _ _ q => q.elim⟩
  exact ⟨_, o.ex q.2, by rw [q.1]; exact k⟩
theorem vc_flags_after {vs : List V} {H : Hp} (g : V × TR × List Nat × Nat) (h : (ct_turned K a patOk).pre g vs H) : ∃ S, Own S H ∧ r_flags_after K a (endsC (ct_turned K a patOk) g H) (start N_flags_after vs) S := by
  obtain ⟨tv, b, st, n⟩ := g
  obtain ⟨rfl, hT, hst, hn, hp⟩ := h
  have hT : TreeAt K a H tv b := hT
  have hst : st.length + 1 = nS b := hst
  have hn : n < nS b := hn
  have hp : patOk st := hp
  have hsm : nS b ≤ 64 := hT.sm
  refine ⟨⟨H, []⟩, Own.base H, ?_⟩
  refine use_flags true tv b (.str (pS st)) .str (by rfl) (fun H' o => hT.ext (own_F o)) (fun _ _ => rfl) (pS_sgn (by omega) hp) (fun _ => ?_) fun h1 d => ?_
  rotate_left
  · rw [flOk_pat hst hp] at h1
    cases h1
  refine use_slot tv b (.int (n : Nat)) .int (by rfl) (fun H' o => hT.ext (own_F o)) (fun _ _ => rfl) (fun _ => ?_) fun h1 d => ?_
  rotate_left
  · rw [plc_nat hn] at h1
    cases h1
  exact use_turned tv b st n (by rfl) hT hst hn trivial fun H' o' => ⟨rfl, fun c u e => o'.fr c u e⟩
theorem hits_more {st : List Nat} {ns : List Nat} {b : TR} {i n : Nat} (h : ns[i]? = some n) : hitsL st ((ns.take (i + 1)).map (wy b)) = hitL (hitsL st ((ns.take i).map (wy b))) (wy b n) := by
  rw [map_more h, hitsL_snoc]
theorem vc_all_after {vs : List V} {H : Hp} (g : V × TR × List Bool × Addr × List Nat) (h : (ct_all_after K a).pre g vs H) : ∃ S, Own S H ∧ r_all_after K a (endsC (ct_all_after K a) g H) (start N_all_after vs) S := by
  obtain ⟨tv, b, fl, p, ns⟩ := g
  obtain ⟨rfl, hT, hl, hp, hns⟩ := h
  have hT : TreeAt K a H tv b := hT
  have hl : fl.length + 1 = nS b := hl
  have hp : SqL K H p (nV ns) := hp
  have hns : ∀ i ∈ ns, i < nS b := hns
  have hsm : nS b ≤ 64 := hT.sm
  refine ⟨⟨H, []⟩, Own.base H, ?_⟩
  refine use_flags false tv b (.str (fS fl)) .str (by rfl) (fun H' o => hT.ext (own_F o)) (fun _ _ => rfl) (fS_sgn (by omega)) (fun _ => ?_) fun h1 d => ?_
  rotate_left
  · rw [flOk_yes hl] at h1
    cases h1
  refine ⟨(tv, b, p, ns), fun H1 o => ⟨rfl, hT.ext (own_F o), SqL.up (own_F o) hp, hns⟩, fun H1 v H' o q => ?_, fun _ _ _ _ _ q => q.elim⟩
  obtain ⟨⟨q0, rfl, q1, q2⟩, q3⟩ := q
  refine ⟨_, o.new q1 q3 q2, ?_⟩
  refine .inl ⟨nV ns, .inl ⟨0, rfl⟩, ?_⟩
  refine ⟨fun i σ S => ∃ (x4 : Option V), σ = [some tv, some (.str (pS (hitsL (fl.map cdB) ((ns.take i).map (wy b))))), some (.ref p), some (.ref q0), x4] ∧ S = ⟨H, [(q0, .lst (nV ns))]⟩, ⟨none, rfl, rfl⟩, ?_, ?_, ?_⟩
  · rintro i σ S _ ⟨x4, rfl, rfl⟩
    exact .inl ⟨0, rfl⟩
  · rintro i σ S hi ⟨x4, rfl, rfl⟩ v hv
    obtain ⟨n, hn, rfl⟩ := nV_get hv
    refine use_turned (ok := fun _ => True) tv b (hitsL (fl.map cdB) ((ns.take i).map (wy b))) n (by rfl) hT ?_ (hns n (List.mem_of_getElem? hn)) trivial ?_
    · rw [hitsL_len, List.length_map]
      exact hl
    · refine ⟨_, SLe.refl _, some (.int (n : Nat)), ?_, rfl⟩
      rw [hits_more hn]
      rfl
  · rintro σ S ⟨x4, rfl, rfl⟩
    have en : (itL K q0 (nV ns)).n = ns.length := nV_len ns
    rw [en, List.take_length]
    exact fun H' o' => ⟨rfl, fun c u e => o'.fr c u e⟩
end
section
variable {K : PySem.W.Frag} {a : Ads}
open TR
theorem vc_l_same {vs : List V} {H : Hp} (g : V × V × List Nat) (h : (ct_l_same K).pre g vs H) : ∃ S, Own S H ∧ r_l_same K a (endsC (ct_l_same K) g H) (start N_l_same vs) S := by
  obtain ⟨u, v, ns⟩ := g
  obtain ⟨rfl, ⟨p, e1, hp⟩, ⟨q, e2, hq⟩, hl⟩ := h
  have e1 : u = .ref p := e1
  have e2 : v = .ref q := e2
  subst e1
  subst e2
  have hp : SqL K H p (nV ns) := hp
  have hq : SqL K H q (nV ns) := hq
  have hl : ns.length ≤ 64 := hl
  refine ⟨⟨H, []⟩, Own.base H, ?_⟩
  refine ⟨.list, .inl ⟨rfl, nV ns, .inr hp⟩, ?_⟩
  refine ⟨nV ns, .inl (.inr hp), ?_⟩
  refine ⟨nV ns, .inl (.inr hq), ?_⟩
  refine ne_i (c := false) (decide_eq_true rfl) ?_
  refine ⟨nV ns, .inl (.inr hq), ?_⟩
  rw [nV_len]
  refine ⟨by unfold rngOk; omega, ?_⟩
  refine ⟨fun i σ S => ∃ x2, σ = [some (.ref p), some (.ref q), x2] ∧ S = ⟨H, []⟩, ⟨none, rfl, rfl⟩, fun _ _ _ _ _ => trivial, ?_, ?_⟩
  · rintro i σ S hi ⟨x2, rfl, rfl⟩
    have hi : i < ((ns.length : Nat) : Int).toNat := hi
    rw [Int.toNat_natCast] at hi
    refine yldR_go ?_
    rw [Int.zero_add]
    refine nm_go ?_
    obtain ⟨n, hn⟩ : ∃ n, ns[i]? = some n := ⟨_, List.getElem?_eq_getElem hi⟩
    refine ⟨nV ns, _, .inl (.inr hp), atI_at (nV_at hn), ?_⟩
    refine use_lisI (n : Nat) (by rfl) ?_
    refine ⟨nV ns, _, .inl (.inr hp), atI_at (nV_at hn), ?_⟩
    refine ⟨nV ns, _, .inl (.inr hq), atI_at (nV_at hn), ?_⟩
    refine ne_i (c := false) (decide_eq_true rfl) ?_
    exact ⟨_, SLe.refl _, _, rfl, rfl⟩
  · rintro σ S ⟨x2, rfl, rfl⟩
    exact fun H' o' => ⟨rfl, fun c u e => o'.fr c u e⟩
theorem use_same {W : sWX} {σ : L2.St} {S : SH} {Q : V → SH → Prop} {vs : List V} (p q : Addr) (ns : List Nat) (e : vs = [.ref p, .ref q]) (hp : sL K S p (nV ns)) (hq : sL K S q (nV ns)) (hl : ns.length ≤ 64) (h : Q (.bl true) S) : rC (ct_l_same K) W vs σ S Q :=
  ⟨(.ref p, .ref q, ns), fun H o => ⟨e, ⟨p, rfl, o.l hp⟩, ⟨q, rfl, o.l hq⟩, hl⟩, fun H v H' o q => ⟨S, o.ex q.2, by rw [q.1]; exact h⟩, fun _ _ _ _ _ q => q.elim⟩
/-! ### the start -/
theorem add_s {x y : List Nat} {S : SH} {Q : V → SH → Prop} (h : x.length + y.length ≤ 200) (k : Q (.str (pS (x ++ y))) S) : oAdd (.str (pS x)) (.str (pS y)) S Q := by
  refine ⟨?_, ?_⟩
  · rw [pS_len, pS_len]
    exact Nat.le_trans h (by decide)
  · rw [pS_app]
    exact k
theorem pat_snoc {l : List Nat} {c : Nat} (h : patOk l) (hc : c ∈ [76, 82, 63]) : patOk (l ++ [c]) := fun d hd => by
  rcases List.mem_append.mp hd with hd | hd
  · exact h d hd
  · rw [List.mem_singleton.mp hd]
    exact hc
theorem cd_pat (c : Bool) : cdB c ∈ [76, 82, 63] := by cases c <;> decide
theorem vc_l_start {vs : List V} {H : Hp} (g : Addr × Addr × Bx × List Bool) (h : ct_l_start.pre g vs H) : ∃ S, Own S H ∧ r_l_start K a (endsC ct_l_start g H) (start N_l_start vs) S := by
  refine body_box g h fun b m x en F eg eF hms hok e => ?_
  subst eg
  subst e
  have hl : en.length ≤ 63 := hok
  refine use_takeB (E := []) 6 (by rfl) hms (by decide) fun y style hy hr => ?_
  refine ⟨fS_line (by omega), ?_⟩
  rw [fS_len]
  refine use_takeB (E := []) (en.length : Nat) (by rfl) hy (by omega) fun y at_ hy hat => ?_
  refine ⟨fS_line (by omega), ?_⟩
  rw [fS_len]
  refine ⟨by unfold rngOk; omega, ?_⟩
  refine ⟨fun i σ S => ∃ (y : Bx) (acc : List Nat) (x6 x7 x8 : Option V), y.ms ≠ [] ∧ acc.length = i ∧ patOk acc ∧ σ = [some (.ref b), some (.str (fS en)), some (.str "?"), some (.int (style : Nat)), some (.int (at_ : Nat)), some (.str (pS acc)), x6, x7, x8] ∧ S = ⟨F, boxG b m y⟩, ⟨y, [], none, none, none, hy, rfl, (fun _ z => nomatch z), rfl, rfl⟩, fun _ _ _ _ _ => trivial, ?_, ?_⟩
  · rintro i σ S hi ⟨y, acc, x6, x7, x8, hy, hacc, hpat, rfl, rfl⟩
    have hi : i < ((en.length : Nat) : Int).toNat := hi
    rw [Int.toNat_natCast] at hi
    refine yldR_go ?_
    rw [Int.zero_add]
    refine nm_go ?_
    obtain ⟨c, hc⟩ : ∃ c, en[i]? = some c := ⟨_, List.getElem?_eq_getElem hi⟩
    refine ⟨fS_line (by omega), cdB c, fS_at hc, ?_⟩
    refine ⟨by decide, _, LR_int _, ?_⟩
    generalize (!decide (V.str ⟨#[cdB c]⟩ = V.str "L")) = d
    refine ⟨fun σ S => ∃ (y : Bx) (pick : Nat), y.ms ≠ [] ∧ pick ≤ 2 ∧ σ = [some (.ref b), some (.str (fS en)), some (.str "?"), some (.int (style : Nat)), some (.int (at_ : Nat)), some (.str (pS acc)), some (.int (i : Nat)), some (.str ⟨#[cdB d]⟩), some (.int (pick : Nat))] ∧ S = ⟨F, boxG b m y⟩, ?_, ?_⟩
    · walk_at "b"
      · exact ⟨_, SLe.refl _, y, 2, hy, by omega, rfl, rfl⟩
      · exact ⟨_, SLe.refl _, y, 0, hy, by omega, rfl, rfl⟩
    rintro σ S ⟨y, pick, hy, hpick, rfl, rfl⟩
    refine ⟨fun σ S => ∃ (y : Bx) (pick : Nat), y.ms ≠ [] ∧ pick ≤ 2 ∧ σ = [some (.ref b), some (.str (fS en)), some (.str "?"), some (.int (style : Nat)), some (.int (at_ : Nat)), some (.str (pS acc)), some (.int (i : Nat)), some (.str ⟨#[cdB d]⟩), some (.int (pick : Nat))] ∧ S = ⟨F, boxG b m y⟩, ?_, ?_⟩
    · walk_at "b"
      · refine use_takeB (E := []) 4 (by rfl) hy (by decide) fun y r hy hr => ?_
        refine ⟨by walk_at "p", ?_⟩
        exact ⟨_, SLe.refl _, y, r % 3, hy, by omega, rfl, rfl⟩
      · exact ⟨_, SLe.refl _, y, pick, hy, hpick, rfl, rfl⟩
    rintro σ S ⟨y, pick, hy, hpick, rfl, rfl⟩
    refine ⟨fun σ S => ∃ (y : Bx) (pick : Nat), y.ms ≠ [] ∧ pick ≤ 2 ∧ σ = [some (.ref b), some (.str (fS en)), some (.str "?"), some (.int (style : Nat)), some (.int (at_ : Nat)), some (.str (pS acc)), some (.int (i : Nat)), some (.str ⟨#[cdB d]⟩), some (.int (pick : Nat))] ∧ S = ⟨F, boxG b m y⟩, ?_, ?_⟩
    · have stay : ∃ S0, SLe (SH.mk F (boxG b m y)) S0 ∧ ∃ (y : Bx) (pick' : Nat), y.ms ≠ [] ∧ pick' ≤ 2 ∧ [some (V.ref b), some (.str (fS en)), some (.str "?"), some (.int (style : Nat)), some (.int (at_ : Nat)), some (.str (pS acc)), some (.int (i : Nat)), some (.str ⟨#[cdB d]⟩), some (.int (pick : Nat))] = [some (V.ref b), some (.str (fS en)), some (.str "?"), some (.int (style : Nat)), some (.int (at_ : Nat)), some (.str (pS acc)), some (.int (i : Nat)), some (.str ⟨#[cdB d]⟩), some (.int (pick' : Nat))] ∧ S0 = ⟨F, boxG b m y⟩ := ⟨_, SLe.refl _, y, pick, hy, hpick, rfl, rfl⟩
      walk_at "b"
      · rename_i hb
        walk_at "b"
        · exact ⟨_, SLe.refl _, y, style, hy, by omega, rfl, rfl⟩
        · exact stay
      · walk_at "b"
        · rename_i hb
          walk_at "b"
          · exact ⟨_, SLe.refl _, y, style, hy, by omega, rfl, rfl⟩
          · exact stay
        · exact stay
    rintro σ S ⟨y, pick, hy, hpick, rfl, rfl⟩
    refine ⟨fS_line (by omega), cdB c, fS_at hc, ?_⟩
    refine ⟨by decide, ?_⟩
    refine ⟨show 3 ≤ sizeLine by decide, fun pl => ?_⟩
    obtain ⟨z, hz, hz2⟩ : ∃ z : Nat, ([V.str (pS [cdB c]), .str (pS [cdB d]), .str (pS [63])] : List V)[pick]? = some (.str (pS [z])) ∧ z ∈ [76, 82, 63] := by
      have : pick = 0 ∨ pick = 1 ∨ pick = 2 := by omega
      rcases this with rfl | rfl | rfl
      · exact ⟨_, rfl, cd_pat c⟩
      · exact ⟨_, rfl, cd_pat d⟩
      · exact ⟨_, rfl, by decide⟩
    refine ⟨_, _, .inl (.inl ⟨0, rfl⟩), atI_at hz, ?_⟩
    refine add_s (by rw [hacc]; show i + 1 ≤ 200; omega) ?_
    exact ⟨_, sle_sub (List.sublist_cons_self _ _), y, acc ++ [z], _, _, _, hy, by rw [List.length_append, hacc]; rfl, pat_snoc hpat hz2, rfl, rfl⟩
  · rintro σ S ⟨y, acc, x6, x7, x8, hy, hacc, hpat, rfl, rfl⟩
    have hacc : acc.length = ((en.length : Nat) : Int).toNat := hacc
    rw [Int.toNat_natCast] at hacc
    intro H' o'
    subst eF
    exact end_box (E := []) o' hy fun H2 o2 => ⟨acc, rfl, hacc, hpat⟩
/-! ### a hit -/
theorem set_cut {l : List Nat} {f c : Nat} (h : f < l.length) : l.take f ++ [c] ++ l.drop (f + 1) = l.set f c := by
  rw [List.set_eq_take_append_cons_drop, if_pos h, List.append_assoc]
  rfl
theorem vc_l_hit {vs : List V} {H : Hp} (g : List Nat × V × Way) (h : (ct_l_hit K).pre g vs H) : ∃ S, Own S H ∧ r_l_hit K a (endsC (ct_l_hit K) g H) (start N_l_hit vs) S := by
  obtain ⟨st, v, w⟩ := g
  obtain ⟨rfl, ⟨p, xs, e1, hp, hx⟩, hsm, hl⟩ := h
  have e1 : v = .ref p := e1
  subst e1
  have hx : MDs K H [] xs (w.map stD) := hx
  have hsm : ∀ s ∈ w, s.1 < st.length := hsm
  have hl : st.length ≤ 64 := hl
  have lx : xs.length = w.length := by rw [hx.len, List.length_map]
  refine ⟨⟨H, []⟩, Own.base H, ?_⟩
  refine .inl ⟨xs, hp.s (fun _ z => nomatch z), ?_⟩
  refine ⟨fun i σ S => ∃ x2 x3, σ = [some (.str (pS (hitL st (w.take i)))), some (.ref p), x2, x3] ∧ S = ⟨H, []⟩, ⟨none, none, rfl, rfl⟩, ?_, ?_, ?_⟩
  · rintro i σ S _ ⟨x2, x3, rfl, rfl⟩
    exact hp.s fun _ z => nomatch z
  · rintro i σ S hi ⟨x2, x3, rfl, rfl⟩ v hv
    have hi : i < xs.length := hi
    obtain ⟨d, hd, mv⟩ := hx.at hv
    obtain ⟨s, hs⟩ : ∃ s, w[i]? = some s := ⟨_, List.getElem?_eq_getElem (by omega)⟩
    rw [List.getElem?_map, hs] at hd
    cases hd
    obtain ⟨pt, rfl, hpt⟩ := st_open mv
    have hf := hsm s (List.mem_of_getElem? hs)
    refine ⟨_, hpt.s (fun _ z => nomatch z), rfl, ?_⟩
    have hlen : (hitL st (w.take i)).length = st.length := hitL_len _ _
    have hline : (pS (hitL st (w.take i))).length ≤ sizeLine := pS_line (by omega)
    refine ⟨hline, ?_⟩
    rw [cut_to]
    refine var_go (v := .str (sdS s.2)) (by rfl) (add_s (x := (hitL st (w.take i)).take s.1) (y := [cdB s.2]) (by rw [List.length_take, hlen, List.length_singleton]; omega) ?_)
    refine ⟨hline, ?_⟩
    rw [show cutS (pS (hitL st (w.take i))) (some ((s.1 : Int) + 1)) none = pS ((hitL st (w.take i)).drop (s.1 + 1)) from cut_from _ (s.1 + 1)]
    refine add_s (x := (hitL st (w.take i)).take s.1 ++ [cdB s.2]) (y := (hitL st (w.take i)).drop (s.1 + 1)) (by rw [List.length_append, List.length_take, List.length_drop, hlen, List.length_singleton]; omega) ?_
    refine ⟨_, SLe.refl _, some (.int (s.1 : Nat)), some (.str (sdS s.2)), ?_, rfl⟩
    rw [set_cut (f := s.1) (c := cdB s.2) (by rw [hlen]; exact hf), hit_more hs]
    rfl
  · rintro σ S ⟨x2, x3, rfl, rfl⟩
    have en : (itL K p xs).n = w.length := lx
    rw [en, List.take_length]
    exact fun H' o' => ⟨rfl, fun c u e => o'.fr c u e⟩
theorem use_hit {W : sWX} {σ : L2.St} {F : Hp} {G : List (Addr × HO)} {Q : V → SH → Prop} {vs : List V} (st : List Nat) (v : V) (w : Way) (e : vs = [.str (pS st), v]) (hv : lwyR K [] F v w) (h1 : ∀ s ∈ w, s.1 < st.length) (h2 : st.length ≤ 64)
    (k : Q (.str (pS (hitL st w))) ⟨F, G⟩) : rC (ct_l_hit K) W vs σ ⟨F, G⟩ Q :=
  ⟨(st, v, w), fun H o => ⟨e, hv.ext (own_F o), h1, h2⟩, fun H v H' o q => ⟨_, o.ex q.2, by rw [q.1]; exact k⟩, fun _ _ _ _ _ q => q.elim⟩
/-! ### holders -/
theorem rg_set {g : Nat → Nat} {n f v : Nat} : ((List.range n).map g).set f v = (List.range n).map fun x => if x = f then v else g x := by
  refine List.ext_getElem? fun k => ?_
  rw [List.getElem?_map]
  by_cases h : f = k
  · subst h
    by_cases hl : f < n
    · rw [List.getElem?_set_self (by rw [List.length_map, List.length_range]; exact hl), List.getElem?_range hl]
      exact congrArg some (if_pos rfl).symm
    · rw [List.getElem?_eq_none (by rw [List.length_set, List.length_map, List.length_range]; omega), List.getElem?_eq_none (by rw [List.length_range]; omega)]
      rfl
  · rw [List.getElem?_set_ne h, List.getElem?_map]
    cases e : (List.range n)[k]? with
    | none => rfl
    | some x =>
      have : x = k := by
        have := (List.getElem?_eq_some_iff.mp e)
        obtain ⟨h1, h2⟩ := this
        rw [List.getElem_range] at h2
        exact h2.symm
      subst this
      exact congrArg some (if_neg (fun z => h z.symm)).symm
theorem rg_congr {g g' : Nat → Nat} {n : Nat} (h : ∀ x, x < n → g x = g' x) : (List.range n).map g = (List.range n).map g' := List.map_congr_left fun x hx => h x (List.mem_range.mp hx)
end
section
variable {K : PySem.W.Frag} {a : Ads}
open TR
/-- the holders known when the slots before i are walked -/
def hgt (en : List Bool) (b : TR) (i f : Nat) : Nat := if f + 1 < nS b ∧ hol0 en b f < i then hol0 en b f else 0
theorem hgt_step {en : List Bool} {b : TR} {i : Nat} {L : List Nat} (h : ∀ f, f ∈ L ↔ f + 1 < nS b ∧ hol0 en b f = i) (f : Nat) : (if f ∈ L then i else hgt en b i f) = hgt en b (i + 1) f := by
  by_cases h1 : f + 1 < nS b ∧ hol0 en b f = i
  · rw [if_pos ((h f).mpr h1)]
    unfold hgt
    rw [if_pos ⟨h1.1, by omega⟩]
    exact h1.2.symm
  · rw [if_neg fun z => h1 ((h f).mp z)]
    unfold hgt
    by_cases h2 : f + 1 < nS b ∧ hol0 en b f < i
    · rw [if_pos h2, if_pos ⟨h2.1, by omega⟩]
    · rw [if_neg h2, if_neg fun z => ?_]
      rcases Nat.lt_or_ge (hol0 en b f) i with h3 | h3
      · exact h2 ⟨z.1, h3⟩
      · exact h1 ⟨z.1, by omega⟩
theorem on_way {en : List Bool} {b : TR} {i : Nat} {w : Way} (hw : (wayB b 0)[i]? = some w) (f : Nat) : f ∈ (trF (okF en) w).1 ↔ f + 1 < nS b ∧ hol0 en b f = i := by
  have := (con_all en b 0 i w hw).on f
  rw [this, Nat.zero_add, Nat.zero_add]
  exact ⟨fun h => h.2, fun h => ⟨Nat.zero_le _, h⟩⟩
theorem hgt_end {en : List Bool} {b : TR} : (List.range (nS b)).map (hgt en b (nS b)) = holL en b := by
  obtain ⟨n, hn⟩ : ∃ n, nS b = n + 1 := ⟨nS b - 1, by have := nS_pos b; omega⟩
  unfold holL
  rw [hn, List.range_succ, List.map_append]
  congr 1
  · refine List.map_congr_left fun x hx => ?_
    have hx := List.mem_range.mp hx
    have h1 := hol0_in (en := en) (b := b) (f := x) (by omega)
    unfold hgt
    exact if_pos ⟨by omega, by omega⟩
  · show [hgt en b (n + 1) n] = [0]
    unfold hgt
    rw [if_neg fun z => by omega]
theorem sd_dec (c d : Bool) : decide (V.str ⟨#[cdB c]⟩ = V.str (sdS d)) = (c == d) := by cases c <;> cases d <;> decide +kernel
theorem nV_set (L : List Nat) (i v : Nat) : (nV L).set i (.int (v : Nat)) = nV (L.set i v) := by
  unfold nV
  rw [List.map_set]
theorem vc_l_holders {vs : List V} {H : Hp} (g : List Bool × V × TR) (h : (ct_ways K fun en b => newL (holL en b)).pre g vs H) : ∃ S, Own S H ∧ r_l_holders K a (endsC (ct_ways K fun en b => newL (holL en b)) g H) (start N_l_holders vs) S := by
  obtain ⟨en, wv, b⟩ := g
  obtain ⟨rfl, ⟨pw, xs, e1, hpw, hxs⟩, hl, hsm⟩ := h
  have hl : en.length + 1 = nS b := hl
  have hsm : nS b ≤ 64 := hsm
  have e1 : wv = .ref pw := e1
  subst e1
  have hxs : allV (lwyR K [] H) xs (wayB b 0) := hxs
  have lxs : xs.length = nS b := by rw [allV_len hxs, wayB_len]
  have hp := nS_pos b
  refine ⟨⟨H, []⟩, Own.base H, ?_⟩
  refine .inl ⟨xs, .inr hpw, fun D => ?_⟩
  refine ⟨fun i S => S = ⟨H, [(D, .lst (nV ((List.range i).map fun _ => 0)))]⟩, rfl, ?_, ?_, ?_⟩
  · rintro i S _ rfl
    exact .inr hpw
  · rintro i S hi rfl v hv
    have hi : i < xs.length := hi
    refine ⟨rfl, ?_⟩
    refine ⟨0, _, rfl, ?_, ⟨_, SLe.refl _, ?_⟩⟩
    · rw [range_len]
      exact small_of (show i ≤ 64 by omega) (by decide)
    · show _ = SH.mk H [(D, .lst (nV ((List.range (i + 1)).map fun _ => 0)))]
      rw [range_more]
      rfl
  rintro S rfl
  have en1 : (itL K pw xs).n = nS b := lxs
  rw [en1]
  refine ⟨fun σ S => ∃ x3 x4 x5 x6, σ = [some (.str (fS en)), some (.ref pw), some (.ref D), x3, x4, x5, x6] ∧ S = ⟨H, [(D, .lst (nV (holL en b)))]⟩, ?_, ?_⟩
  · refine ⟨xs, .inl (.inr hpw), ?_⟩
    rw [lxs]
    refine ⟨by unfold rngOk; omega, ?_⟩
    refine ⟨fun i σ S => ∃ x3 x4 x5 x6, σ = [some (.str (fS en)), some (.ref pw), some (.ref D), x3, x4, x5, x6] ∧ S = ⟨H, [(D, .lst (nV ((List.range (nS b)).map (hgt en b i))))]⟩, ⟨none, none, none, none, rfl, ?_⟩, fun _ _ _ _ _ => trivial, ?_, ?_⟩
    · have e0 : (List.range (nS b)).map (hgt en b 0) = (List.range (nS b)).map fun _ => 0 := rg_congr fun x _ => by
        unfold hgt
        exact if_neg fun z => Nat.not_lt_zero _ z.2
      rw [e0]
    · rintro i σ S hi ⟨x3, x4, x5, x6, rfl, rfl⟩
      have hi : i < ((nS b : Nat) : Int).toNat := hi
      rw [Int.toNat_natCast] at hi
      refine yldR_go ?_
      rw [Int.zero_add]
      refine nm_go ?_
      obtain ⟨u, hu⟩ : ∃ u, xs[i]? = some u := ⟨_, List.getElem?_eq_getElem (by omega)⟩
      obtain ⟨w, hw, hvw⟩ := allV_at hxs hu
      obtain ⟨pu, us, rfl, hpu, hus⟩ := hvw
      have lus : us.length = w.length := by rw [hus.len, List.length_map]
      have hwm := List.mem_of_getElem? hw
      refine ⟨xs, _, .inl (.inr hpw), atI_at hu, ?_⟩
      refine .inl ⟨us, hpu.s (fun _ z => nomatch z), ?_⟩
      refine ⟨fun k σ S => ∃ x4 x5, (∀ s ∈ w.drop (w.length - k), okF en s = true) ∧ σ = [some (.str (fS en)), some (.ref pw), some (.ref D), some (.int (i : Nat)), x4, x5, x6] ∧ S = ⟨H, [(D, .lst (nV ((List.range (nS b)).map fun f => if f ∈ (w.drop (w.length - k)).map Prod.fst then i else hgt en b i f)))]⟩, ⟨x4, x5, ?_, rfl, ?_⟩, ?_, ?_, ?_⟩
      · rw [Nat.sub_zero, List.drop_length]
        exact fun _ z => nomatch z
      · rw [Nat.sub_zero, List.drop_length]
        rw [rg_congr (g := fun f => if f ∈ ([] : Way).map Prod.fst then i else hgt en b i f) (g' := hgt en b i) fun x _ => if_neg fun z => nomatch z]
      · rintro k σ S _ ⟨x4, x5, _, rfl, rfl⟩
        exact hpu.s fun _ z => nomatch z
      · rintro k σ S hk ⟨x4, x5, hok, rfl, rfl⟩ v hv
        have hk : k < us.length := hk
        obtain ⟨m, hm⟩ : ∃ m, w.length - k = m + 1 := ⟨w.length - k - 1, by omega⟩
        rw [hm] at hok
        rw [show us.length - 1 - k = m by omega] at hv
        obtain ⟨d, hd, mv⟩ := hus.at hv
        obtain ⟨s, hs⟩ : ∃ s, w[m]? = some s := ⟨_, List.getElem?_eq_getElem (by omega)⟩
        rw [List.getElem?_map, hs] at hd
        cases hd
        obtain ⟨pt, rfl, hpt⟩ := st_open mv
        have hf := (way_small b 0 w hwm s (List.mem_of_getElem? hs)).2
        obtain ⟨c, hc⟩ : ∃ c, en[s.1]? = some c := ⟨_, List.getElem?_eq_getElem (by omega)⟩
        have eok := okF_at (s := s) hc
        refine ⟨_, hpt.s (fun _ z => nomatch z), rfl, ?_⟩
        refine ⟨fS_line (by omega), cdB c, fS_at hc, ?_⟩
        refine var_go (v := .str (sdS s.2)) (by rfl) (ne_s (c := !okF en s) (by rw [sd_dec, eok, Bool.not_not]) ?_)
        cases ho : okF en s with
        | false =>
          have et := trF_at _ hs ho hok
          refine ⟨_, SLe.refl _, _, _, _, _, rfl, ?_⟩
          rw [hm]
          rw [rg_congr (g := fun f => if f ∈ (w.drop (m + 1)).map Prod.fst then i else hgt en b i f) (g' := hgt en b (i + 1)) fun x _ => hgt_step (fun f => by rw [← on_way hw f, et]) x]
        | true =>
          refine ⟨0, _, s.1, rfl, ixN_nat ?_, ⟨_, SLe.refl _, _, _, ?_, rfl, ?_⟩⟩
          · rw [range_len]
            omega
          · rw [show w.length - (k + 1) = m by omega]
            obtain ⟨hk1, hk2⟩ := List.getElem?_eq_some_iff.mp hs
            rw [← List.getElem_cons_drop (h := hk1), hk2]
            intro x hx
            cases hx with
            | head => exact ho
            | tail _ hx => exact hok x hx
          · rw [show w.length - (k + 1) = m by omega, hm, nV_set, rg_set]
            obtain ⟨hk1, hk2⟩ := List.getElem?_eq_some_iff.mp hs
            rw [← List.getElem_cons_drop (h := hk1), hk2]
            rw [rg_congr (g := fun x => if x = s.1 then i else if x ∈ (w.drop (m + 1)).map Prod.fst then i else hgt en b i x) (g' := fun f => if f ∈ (s :: w.drop (m + 1)).map Prod.fst then i else hgt en b i f) fun x _ => ?_]
            · rfl
            show (if x = s.1 then i else if x ∈ (w.drop (m + 1)).map Prod.fst then i else hgt en b i x) = if x ∈ s.1 :: (w.drop (m + 1)).map Prod.fst then i else hgt en b i x
            by_cases h1 : x = s.1
            · rw [if_pos h1, if_pos (by rw [h1]; exact .head _)]
            · rw [if_neg h1]
              by_cases h2 : x ∈ (w.drop (m + 1)).map Prod.fst
              · rw [if_pos h2, if_pos (.tail _ h2)]
              · rw [if_neg h2, if_neg fun z => (List.mem_cons.mp z).elim h1 h2]
      · rintro σ S ⟨x4, x5, hok, rfl, rfl⟩
        have en2 : (itLv K pu us).n = w.length := lus
        rw [en2, Nat.sub_self, List.drop_zero] at hok
        rw [en2, Nat.sub_self, List.drop_zero]
        have et := trF_all _ w hok
        refine ⟨_, SLe.refl _, _, _, _, _, rfl, ?_⟩
        rw [rg_congr (g := fun f => if f ∈ w.map Prod.fst then i else hgt en b i f) (g' := hgt en b (i + 1)) fun x _ => hgt_step (fun f => by rw [← on_way hw f, et]) x]
    · rintro σ S ⟨x3, x4, x5, x6, rfl, rfl⟩
      refine ⟨_, SLe.refl _, _, _, _, _, rfl, ?_⟩
      have en2 : (itR 0 ((nS b : Nat) : Int).toNat).n = nS b := Int.toNat_natCast _
      rw [en2, hgt_end]
  · rintro σ S ⟨x3, x4, x5, x6, rfl, rfl⟩
    intro H' o'
    have m := o'.gs (D, .lst (nV (holL en b))) (.head _)
    exact ⟨⟨D, rfl, m.2, m.1⟩, fun c u e => o'.fr c u e⟩
theorem use_holders {W : sWX} {σ : L2.St} {F : Hp} {G : List (Addr × HO)} {Q : V → SH → Prop} {vs : List V} (en : List Bool) (wv : V) (b : TR) (e : vs = [.str (fS en), wv]) (hw : lwsR K F wv b) (h1 : en.length + 1 = nS b) (h2 : nS b ≤ 64)
    (k : ∀ p, Q (.ref p) ⟨F, (p, .lst (nV (holL en b))) :: G⟩) : rC (ct_ways K fun en b => newL (holL en b)) W vs σ ⟨F, G⟩ Q := by
  refine ⟨(en, wv, b), fun H o => ⟨e, hw.ext (own_F o), h1, h2⟩, fun H v H' o q => ?_, fun _ _ _ _ _ q => q.elim⟩
  obtain ⟨⟨p, rfl, q1, q2⟩, q3⟩ := q
  exact ⟨_, o.new q1 q3 q2, k p⟩
theorem hol_at {en : List Bool} {b : TR} {f : Nat} (h : f + 1 < nS b) : (holL en b)[f]? = some (hol0 en b f) := by
  unfold holL
  rw [List.getElem?_append_left (by rw [List.length_map, List.length_range]; omega)]
  exact range_at (by omega)
theorem trF_snd (m : Nat × Bool → Bool) (s : Nat × Bool) (w : Way) : (trF m (s :: w)).2 = match (trF m w).2 with
    | some x => some x
    | none => if m s then none else some s.1 := by
  show (match trF m w with | (p, some h) => (p, some h) | (p, none) => if m s then (s.1 :: p, none) else (p, some s.1)).2 = _
  rcases trF m w with ⟨p, _ | h⟩
  · show (if m s then (s.1 :: p, none) else (p, some s.1) : Tr).2 = if m s then none else some s.1
    split <;> rfl
  · rfl
theorem trF_snoc (m : Nat × Bool → Bool) (s : Nat × Bool) : ∀ w : Way, (trF m (w ++ [s])).2 = if m s then (trF m w).2 else some s.1
  | [] => trF_snd m s []
  | x :: w => by
    rw [List.cons_append, trF_snd, trF_snoc m s w, trF_snd]
    cases m s with
    | true => rfl
    | false => rfl
theorem rgV_more (f : Nat → V) (i : Nat) : (List.range (i + 1)).map f = (List.range i).map f ++ [f i] := by
  rw [List.range_succ, List.map_append]
  rfl
theorem par_at {en : List Bool} {b : TR} {i : Nat} {w : Way} (hw : (wayB b 0)[i]? = some w) : par0 en b i = (trF (okF en) w).2.map (hol0 en b) :=
  (con_rng en b (t := trF (okF en) w) (by unfold trB; rw [List.getElem?_map, hw]; rfl)).2
theorem vc_l_above {vs : List V} {H : Hp} (g : List Bool × V × TR) (h : (ct_ways K fun en b H v H' => ∃ p, v = .ref p ∧ H p = none ∧ H' p = some (.lst (abvL en b))).pre g vs H) : ∃ S, Own S H ∧ r_l_above K a (endsC (ct_ways K fun en b H v H' => ∃ p, v = .ref p ∧ H p = none ∧ H' p = some (.lst (abvL en b))) g H) (start N_l_above vs) S := by
  obtain ⟨en, wv, b⟩ := g
  obtain ⟨rfl, hW, hl, hsm⟩ := h
  have hW : lwsR K H wv b := hW
  have hW0 := hW
  obtain ⟨pw, xs, e1, hpw, hxs⟩ := hW
  have hl : en.length + 1 = nS b := hl
  have hsm : nS b ≤ 64 := hsm
  subst e1
  have hxs : allV (lwyR K [] H) xs (wayB b 0) := hxs
  have lxs : xs.length = nS b := by rw [allV_len hxs, wayB_len]
  refine ⟨⟨H, []⟩, Own.base H, ?_⟩
  refine use_holders en (.ref pw) b (by rfl) hW0 hl hsm fun ph => ?_
  refine ⟨Nat.zero_le _, fun pf => ?_⟩
  refine .inl ⟨xs, .inr hpw, ?_⟩
  refine ⟨fun i σ S => ∃ x4 x5 x6 x7, σ = [some (.str (fS en)), some (.ref pw), some (.ref ph), some (.ref pf), x4, x5, x6, x7] ∧ S = ⟨H, [(pf, .lst ((List.range i).map fun j => hgV (par0 en b j))), (ph, .lst (nV (holL en b)))]⟩, ⟨none, none, none, none, rfl, rfl⟩, ?_, ?_, ?_⟩
  · rintro i σ S _ ⟨x4, x5, x6, x7, rfl, rfl⟩
    exact .inr hpw
  · rintro i σ S hi ⟨x4, x5, x6, x7, rfl, rfl⟩ u hu
    have hi : i < xs.length := hi
    obtain ⟨w, hw, hvw⟩ := allV_at hxs hu
    obtain ⟨pu, us, rfl, hpu, hus⟩ := hvw
    have lus : us.length = w.length := by rw [hus.len, List.length_map]
    have hwm := List.mem_of_getElem? hw
    refine .inl ⟨us, hpu.s (fun _ z => nomatch z), ?_⟩
    refine ⟨fun k σ S => ∃ x6 x7, σ = [some (.str (fS en)), some (.ref pw), some (.ref ph), some (.ref pf), some (.ref pu), some (hgV ((trF (okF en) (w.take k)).2.map (hol0 en b))), x6, x7] ∧ S = ⟨H, [(pf, .lst ((List.range i).map fun j => hgV (par0 en b j))), (ph, .lst (nV (holL en b)))]⟩, ⟨x6, x7, rfl, rfl⟩, ?_, ?_, ?_⟩
    · rintro k σ S _ ⟨x6, x7, rfl, rfl⟩
      exact hpu.s fun _ z => nomatch z
    · rintro k σ S hk ⟨x6, x7, rfl, rfl⟩ v hv
      have hk : k < us.length := hk
      obtain ⟨d, hd, mv⟩ := hus.at hv
      obtain ⟨s, hs⟩ : ∃ s, w[k]? = some s := ⟨_, List.getElem?_eq_getElem (by omega)⟩
      rw [List.getElem?_map, hs] at hd
      cases hd
      obtain ⟨pt, rfl, hpt⟩ := st_open mv
      have hf := (way_small b 0 w hwm s (List.mem_of_getElem? hs)).2
      obtain ⟨c, hc⟩ : ∃ c, en[s.1]? = some c := ⟨_, List.getElem?_eq_getElem (by omega)⟩
      have eok := okF_at (s := s) hc
      refine ⟨_, hpt.s (fun _ z => nomatch z), rfl, ?_⟩
      refine ⟨fS_line (by omega), cdB c, fS_at hc, ?_⟩
      refine var_go (v := .str (sdS s.2)) (by rfl) (ne_s (c := !okF en s) (by rw [sd_dec, eok, Bool.not_not]) ?_)
      cases ho : okF en s with
      | true =>
        refine ⟨_, SLe.refl _, some (.int (s.1 : Nat)), some (.str (sdS s.2)), ?_, rfl⟩
        rw [take_more hs, trF_snoc, if_pos ho]
        rfl
      | false =>
        refine ⟨_, _, .inl (.inl ⟨1, rfl⟩), atI_at (nV_at (hol_at (by omega))), ?_⟩
        refine ⟨_, SLe.refl _, some (.int (s.1 : Nat)), some (.str (sdS s.2)), ?_, rfl⟩
        rw [take_more hs, trF_snoc, if_neg (by rw [ho]; exact Bool.false_ne_true)]
        rfl
    · rintro σ S ⟨x6, x7, rfl, rfl⟩
      have en2 : (itL K pu us).n = w.length := lus
      rw [en2, List.take_length, ← par_at hw]
      refine ⟨.inl ⟨rfl, _, .inl ⟨0, rfl⟩⟩, ?_⟩
      refine ⟨0, _, rfl, ?_, ⟨_, SLe.refl _, _, _, _, _, rfl, ?_⟩⟩
      · rw [List.length_map, List.length_range]
        exact small_of (show i ≤ 64 by omega) (by decide)
      · rw [rgV_more]
        rfl
  · rintro σ S ⟨x4, x5, x6, x7, rfl, rfl⟩
    have en2 : (itL K pw xs).n = nS b := lxs
    rw [en2]
    intro H' o'
    have m := o'.gs (pf, .lst (abvL en b)) (.head _)
    exact ⟨⟨pf, rfl, m.2, m.1⟩, fun c u e => o'.fr c u e⟩
theorem use_above {W : sWX} {σ : L2.St} {F : Hp} {G : List (Addr × HO)} {Q : V → SH → Prop} {vs : List V} (en : List Bool) (wv : V) (b : TR) (e : vs = [.str (fS en), wv]) (hw : lwsR K F wv b) (h1 : en.length + 1 = nS b) (h2 : nS b ≤ 64)
    (k : ∀ p, Q (.ref p) ⟨F, (p, .lst (abvL en b)) :: G⟩) : rC (ct_ways K fun en b H v H' => ∃ p, v = .ref p ∧ H p = none ∧ H' p = some (.lst (abvL en b))) W vs σ ⟨F, G⟩ Q := by
  refine ⟨(en, wv, b), fun H o => ⟨e, hw.ext (own_F o), h1, h2⟩, fun H v H' o q => ?_, fun _ _ _ _ _ q => q.elim⟩
  obtain ⟨⟨p, rfl, q1, q2⟩, q3⟩ := q
  exact ⟨_, o.new q1 q3 q2, k p⟩
end
section
variable {K : PySem.W.Frag} {a : Ads}
open TR
theorem rgA_set {α : Type} {g : Nat → α} {n f : Nat} {v : α} : ((List.range n).map g).set f v = (List.range n).map fun x => if x = f then v else g x := by
  refine List.ext_getElem? fun k => ?_
  rw [List.getElem?_map]
  by_cases h : f = k
  · subst h
    by_cases hl : f < n
    · rw [List.getElem?_set_self (by rw [List.length_map, List.length_range]; exact hl), List.getElem?_range hl]
      exact congrArg some (if_pos rfl).symm
    · rw [List.getElem?_eq_none (by rw [List.length_set, List.length_map, List.length_range]; omega), List.getElem?_eq_none (by rw [List.length_range]; omega)]
      rfl
  · rw [List.getElem?_set_ne h, List.getElem?_map]
    cases e : (List.range n)[k]? with
    | none => rfl
    | some x =>
      have : x = k := by
        obtain ⟨h1, h2⟩ := List.getElem?_eq_some_iff.mp e
        rw [List.getElem_range] at h2
        exact h2.symm
      subst this
      exact congrArg some (if_neg (fun z => h z.symm)).symm
theorem rgA_congr {α : Type} {g g' : Nat → α} {n : Nat} (h : ∀ x, x < n → g x = g' x) : (List.range n).map g = (List.range n).map g' := List.map_congr_left fun x hx => h x (List.mem_range.mp hx)
theorem rgA_at {α : Type} {f : Nat → α} {n d : Nat} (h : d < n) : ((List.range n).map f)[d]? = some (f d) := by
  rw [List.getElem?_map, List.getElem?_range h]
  rfl
theorem chn_get {en : List Bool} {b : TR} : ∀ (k s x : Nat), s < nS b → (chn0 en b s)[k]? = some x → (chn0 en b s).drop k = chn0 en b x
  | 0, s, x, hs, h => by
    obtain ⟨t, ht⟩ := chn_head (en := en) b 0 s
    have e : s = x := by
      have h : (chnF en b 0 s)[0]? = some x := h
      rw [ht] at h
      exact Option.some.inj h
    subst e
    rfl
  | k + 1, s, x, hs, h => by
    have hk := (List.getElem?_eq_some_iff.mp h).1
    obtain ⟨y, hy⟩ : ∃ y, (chn0 en b s)[k]? = some y := ⟨_, List.getElem?_eq_getElem (by omega)⟩
    have e1 := chn_get k s y hs hy
    have hyb := chn0_in en b hs (List.mem_of_getElem? hy)
    have e2 : (chn0 en b y)[1]? = some x := by
      rw [← e1, List.getElem?_drop]
      exact h
    have e3 : chn0 en b y = y :: chn0 en b x := (chn_step (en := en) b 0 y (Nat.zero_le _) (by omega)).1 x e2
    rw [show k + 1 = k + 1 from rfl, ← List.drop_drop, e1, e3]
    rfl
/-- the slots that a fork marks -/
def mrk (en : List Bool) (dif : Nat → Bool) (b : TR) (f : Nat) : List Nat := if dif f then chn0 en b (hol0 en b f) else []
theorem mrk_next {en : List Bool} {dif : Nat → Bool} {b : TR} {f k x : Nat} (hf : f + 1 < nS b) (h : (mrk en dif b f)[k]? = some x) : x < nS b ∧ (mrk en dif b f)[k + 1]? = par0 en b x := by
  unfold mrk at h ⊢
  split at h
  · rename_i hd
    rw [if_pos hd]
    have hs := hol0_in en b hf
    refine ⟨chn0_in en b hs (List.mem_of_getElem? h), ?_⟩
    have := chn_get k _ x hs h
    show _ = (chn0 en b x)[1]?
    rw [← this, List.getElem?_drop]
  · cases h
theorem mrk_len (en : List Bool) (dif : Nat → Bool) (b : TR) (f : Nat) : (mrk en dif b f).length ≤ nS b := by
  unfold mrk
  split
  · exact chn_len en b 0 _
  · exact Nat.zero_le _
def mkd (en : List Bool) (dif : Nat → Bool) (b : TR) (f x : Nat) : Bool := (List.range f).any fun g => (mrk en dif b g).contains x
theorem mkd_more (en : List Bool) (dif : Nat → Bool) (b : TR) (f x : Nat) : mkd en dif b (f + 1) x = (mkd en dif b f x || (mrk en dif b f).contains x) := by
  unfold mkd
  rw [List.range_succ, List.any_append]
  congr 1
  exact Bool.or_false _
theorem mkd_end {en : List Bool} {dif : Nat → Bool} {b : TR} {x : Nat} (hx : x < nS b) : mkd en dif b (nS b - 1) x = ndQ en dif b x := by
  rw [Bool.eq_iff_iff, nd_chain en dif b hx]
  unfold mkd
  rw [List.any_eq_true]
  constructor
  · rintro ⟨f, hf, h⟩
    have hf := List.mem_range.mp hf
    have h := List.contains_iff_mem.mp h
    unfold mrk at h
    split at h
    · rename_i hd
      exact ⟨f, by omega, hd, h⟩
    · cases h
  · rintro ⟨f, hf, hd, h⟩
    refine ⟨f, List.mem_range.mpr (by omega), List.contains_iff_mem.mpr ?_⟩
    unfold mrk
    rw [if_pos hd]
    exact h
theorem dif_at {st : List Nat} {en : List Bool} {f c : Nat} {d : Bool} (h1 : st[f]? = some c) (h2 : en[f]? = some d) : decide (V.str ⟨#[c]⟩ = V.str ⟨#[cdB d]⟩) = !difF st en f := by
  unfold difF
  rw [h1, eF_at h2, Bool.eq_iff_iff, decide_eq_true_iff, Bool.not_eq_true', decide_eq_false_iff_not, Decidable.not_not]
  constructor
  · intro h
    have : [c] = [cdB d] := pS_inj (V.str.inj h)
    rw [List.head_eq_of_cons_eq this]
  · intro h
    rw [Option.some.inj h]
theorem pS_at {st : List Nat} {f c : Nat} (h : st[f]? = some c) : atI (pS st).cps.toList (f : Int) = some c := atI_at h
theorem abv_at {en : List Bool} {b : TR} {x : Nat} (h : x < nS b) : (abvL en b)[x]? = some (hgV (par0 en b x)) := rgA_at h
theorem vc_l_due {vs : List V} {H : Hp} (g : List Nat × List Bool × V × TR) (h : (ct_two K 64 resL).pre g vs H) : ∃ S, Own S H ∧ r_l_due K a (endsC (ct_two K 64 resL) g H) (start N_l_due vs) S := by
  obtain ⟨st, en, wv, b⟩ := g
  obtain ⟨e0, hW, hs0, hl0, hsm0⟩ := h
  have e0 : vs = [.str (pS st), .str (fS en), wv] := e0
  subst e0
  have hW : lwsR K H wv b := hW
  have hW0 := hW
  obtain ⟨pw, xs, e1, hpw, hxs⟩ := hW
  have hst : st.length + 1 = nS b := hs0
  have hl : en.length + 1 = nS b := hl0
  have hsm : nS b ≤ 64 := hsm0
  clear hs0 hl0 hsm0
  have hxs : allV (lwyR K [] H) xs (wayB b 0) := hxs
  have lxs : xs.length = nS b := by rw [allV_len hxs, wayB_len]
  have hp := nS_pos b
  subst e1
  refine ⟨⟨H, []⟩, Own.base H, ?_⟩
  refine use_holders en (.ref pw) b (by rfl) hW0 hl hsm fun ph => ?_
  refine use_above en (.ref pw) b (by rfl) hW0 hl hsm fun pa => ?_
  refine .inl ⟨xs, .inr hpw, fun D => ?_⟩
  refine ⟨fun i S => S = ⟨H, [(D, .lst (((List.range i).map fun _ => false).map V.bl)), (pa, .lst (abvL en b)), (ph, .lst (nV (holL en b)))]⟩, rfl, ?_, ?_, ?_⟩
  · rintro i S _ rfl
    exact .inr hpw
  · rintro i S hi rfl v hv
    have hi : i < xs.length := hi
    refine ⟨rfl, ?_⟩
    refine ⟨0, _, rfl, ?_, ⟨_, SLe.refl _, ?_⟩⟩
    · rw [List.length_map, List.length_map, List.length_range]
      exact small_of (show i ≤ 64 by omega) (by decide)
    · show _ = SH.mk H [(D, .lst (((List.range (i + 1)).map fun _ => false).map V.bl)), (pa, .lst (abvL en b)), (ph, .lst (nV (holL en b)))]
      rw [List.range_succ, List.map_append, List.map_append]
      rfl
  rintro S rfl
  have en1 : (itL K pw xs).n = nS b := lxs
  rw [en1]
  refine ⟨fun σ S => ∃ x6 x7 x8 x9, σ = [some (.str (pS st)), some (.str (fS en)), some (.ref pw), some (.ref ph), some (.ref pa), some (.ref D), x6, x7, x8, x9] ∧ S = ⟨H, [(D, .lst (((List.range (nS b)).map (ndQ en (difF st en) b)).map V.bl)), (pa, .lst (abvL en b)), (ph, .lst (nV (holL en b)))]⟩, ?_, ?_⟩
  · refine ⟨fS_line (by omega), ?_⟩
    rw [fS_len]
    refine ⟨by unfold rngOk; omega, ?_⟩
    refine ⟨fun i σ S => ∃ x6 x7 x8 x9, σ = [some (.str (pS st)), some (.str (fS en)), some (.ref pw), some (.ref ph), some (.ref pa), some (.ref D), x6, x7, x8, x9] ∧ S = ⟨H, [(D, .lst (((List.range (nS b)).map (mkd en (difF st en) b i)).map V.bl)), (pa, .lst (abvL en b)), (ph, .lst (nV (holL en b)))]⟩, ⟨none, none, none, none, rfl, rfl⟩, fun _ _ _ _ _ => trivial, ?_, ?_⟩
    · rintro f σ S hf ⟨x6, x7, x8, x9, rfl, rfl⟩
      have hf : f < ((en.length : Nat) : Int).toNat := hf
      rw [Int.toNat_natCast] at hf
      have hfb : f + 1 < nS b := by omega
      refine yldR_go ?_
      rw [Int.zero_add]
      refine nm_go ?_
      obtain ⟨c, hc⟩ : ∃ c, st[f]? = some c := ⟨_, List.getElem?_eq_getElem (by omega)⟩
      obtain ⟨d, hd⟩ : ∃ d, en[f]? = some d := ⟨_, List.getElem?_eq_getElem (by omega)⟩
      -- the inner loop
      have inner : ∀ (x7 x8 x9 : Option V) (E : sEnds), (∀ x7 x8 x9, E.nx [some (.str (pS st)), some (.str (fS en)), some (.ref pw), some (.ref ph), some (.ref pa), some (.ref D), some (.int (f : Nat)), x7, x8, x9] ⟨H, [(D, .lst (((List.range (nS b)).map (mkd en (difF st en) b (f + 1))).map V.bl)), (pa, .lst (abvL en b)), (ph, .lst (nV (holL en b)))]⟩) →
          (sFor (siR1 (sCons (sCall1 (nLen K) (sCons (sVar 2) (sNil))) (sNil))) (sgName 8) (sSeq (sIfS (sTst (sOp oIsN (sVar 7) (sC .non))) (sBreak) (sNext)) (sSeq (sAsg (sC (.bl true)) (sgSub (sVar 5) (sVar 7))) (sSet (sOp (oIx K) (sVar 4) (sVar 7)) 7)))) E [some (.str (pS st)), some (.str (fS en)), some (.ref pw), some (.ref ph), some (.ref pa), some (.ref D), some (.int (f : Nat)), some (hgV (mrk en (difF st en) b f)[0]?), x8, x9] ⟨H, [(D, .lst (((List.range (nS b)).map (mkd en (difF st en) b f)).map V.bl)), (pa, .lst (abvL en b)), (ph, .lst (nV (holL en b)))]⟩ := by
        intro x7 x8 x9 E hE
        refine ⟨xs, .inl (.inr hpw), ?_⟩
        rw [lxs]
        refine ⟨by unfold rngOk; omega, ?_⟩
        have whole : ∀ k, (mrk en (difF st en) b f).length ≤ k → (List.range (nS b)).map (fun x => mkd en (difF st en) b f x || ((mrk en (difF st en) b f).take k).contains x) = (List.range (nS b)).map (mkd en (difF st en) b (f + 1)) := fun k hk => rgA_congr fun x _ => by
          rw [List.take_of_length_le hk, mkd_more]
        refine ⟨fun k σ S => ∃ x8, σ = [some (.str (pS st)), some (.str (fS en)), some (.ref pw), some (.ref ph), some (.ref pa), some (.ref D), some (.int (f : Nat)), some (hgV (mrk en (difF st en) b f)[k]?), x8, x9] ∧ S = ⟨H, [(D, .lst (((List.range (nS b)).map (fun x => mkd en (difF st en) b f x || ((mrk en (difF st en) b f).take k).contains x)).map V.bl)), (pa, .lst (abvL en b)), (ph, .lst (nV (holL en b)))]⟩, ⟨x8, rfl, ?_⟩, fun _ _ _ _ _ => trivial, ?_, ?_⟩
        · have e0 : (List.range (nS b)).map (fun x => mkd en (difF st en) b f x || ((mrk en (difF st en) b f).take 0).contains x) = (List.range (nS b)).map (mkd en (difF st en) b f) := rgA_congr fun x _ => Bool.or_false _
          rw [e0]
        · rintro k σ S hk ⟨x8, rfl, rfl⟩
          refine yldR_go (nm_go ?_)
          cases hm : (mrk en (difF st en) b f)[k]? with
          | none =>
            rw [whole k (List.getElem?_eq_none_iff.mp hm)]
            exact hE (some .non) _ _
          | some x =>
            obtain ⟨hx, hnx⟩ := mrk_next hfb hm
            refine ⟨0, _, x, rfl, ixN_nat ?_, ?_⟩
            · rw [List.length_map, List.length_map, List.length_range]
              exact hx
            refine ⟨abvL en b, _, .inl (.inl ⟨1, rfl⟩), atI_at (abv_at hx), ?_⟩
            refine ⟨_, SLe.refl _, some (.int (0 + (k : Nat))), ?_, ?_⟩
            · rw [hnx]
              rfl
            · rw [← List.map_set, rgA_set]
              have e1 : (List.range (nS b)).map (fun y => if y = x then true else (mkd en (difF st en) b f y || ((mrk en (difF st en) b f).take k).contains y)) = (List.range (nS b)).map (fun y => mkd en (difF st en) b f y || ((mrk en (difF st en) b f).take (k + 1)).contains y) := rgA_congr fun y _ => by
                rw [take_more hm, List.contains_append]
                by_cases hy : y = x
                · rw [if_pos hy, hy]
                  simp
                · rw [if_neg hy]
                  simp [hy]
              rw [e1]
              rfl
        · rintro σ S ⟨x8, rfl, rfl⟩
          have en2 : (itR 0 ((nS b : Nat) : Int).toNat).n = nS b := Int.toNat_natCast _
          rw [en2, whole _ (mrk_len _ _ _ _)]
          exact hE _ _ _
      refine ⟨pS_line (by omega), c, pS_at hc, ?_⟩
      refine ⟨fS_line (by omega), cdB d, fS_at hd, ?_⟩
      refine ne_s (c := difF st en f) (dif_at hc hd) ?_
      have hm : ∀ q, difF st en f = q → mrk en (difF st en) b f = if q then chn0 en b (hol0 en b f) else [] := fun q e => by
        unfold mrk
        rw [e]
      cases hq : difF st en f with
      | true =>
        refine ⟨_, _, .inl (.inl ⟨2, rfl⟩), atI_at (nV_at (hol_at (en := en) hfb)), ?_⟩
        have e0 : (mrk en (difF st en) b f)[0]? = some (hol0 en b f) := by
          rw [hm true hq, if_pos rfl]
          obtain ⟨t, ht⟩ := chn_head (en := en) b 0 (hol0 en b f)
          show (chnF en b 0 (hol0 en b f))[0]? = _
          rw [ht]
          rfl
        have := inner x7 x8 x9
        rw [e0] at this
        exact this _ fun x7 x8 x9 => ⟨_, SLe.refl _, _, _, _, _, rfl, rfl⟩
      | false =>
        have e0 : (mrk en (difF st en) b f)[0]? = none := by
          rw [hm false hq]
          rfl
        have := inner x7 x8 x9
        rw [e0] at this
        exact this _ fun x7 x8 x9 => ⟨_, SLe.refl _, _, _, _, _, rfl, rfl⟩
    · rintro σ S ⟨x6, x7, x8, x9, rfl, rfl⟩
      refine ⟨_, SLe.refl _, _, _, _, _, rfl, ?_⟩
      have en2 : (itR 0 ((en.length : Nat) : Int).toNat).n = nS b - 1 := by
        show ((en.length : Nat) : Int).toNat = nS b - 1
        omega
      rw [en2, rgA_congr (g := mkd en (difF st en) b (nS b - 1)) (g' := ndQ en (difF st en) b) fun x hx => mkd_end hx]
  · rintro σ S ⟨x6, x7, x8, x9, rfl, rfl⟩
    refine ⟨xs, .inl (.inr hpw), ?_⟩
    rw [lxs]
    refine ⟨by unfold rngOk; omega, fun R => ?_⟩
    refine ⟨fun i S => S = ⟨H, [(R, .lst (nV ((List.range i).filter (ndQ en (difF st en) b)))), (D, .lst (((List.range (nS b)).map (ndQ en (difF st en) b)).map V.bl)), (pa, .lst (abvL en b)), (ph, .lst (nV (holL en b)))]⟩, rfl, fun _ _ _ _ => trivial, ?_, ?_⟩
    · rintro i S hi rfl
      have hi : i < ((nS b : Nat) : Int).toNat := hi
      rw [Int.toNat_natCast] at hi
      refine yldR_go ?_
      rw [Int.zero_add]
      refine nm_go ⟨rfl, ?_⟩
      refine ⟨_, .bl (ndQ en (difF st en) b i), .inl (.inl ⟨1, rfl⟩), atI_at (by rw [List.getElem?_map, rgA_at hi]; rfl), ?_⟩
      cases hb : ndQ en (difF st en) b i with
      | true =>
        refine ⟨0, _, rfl, ?_, ⟨_, SLe.refl _, ?_⟩⟩
        · rw [nV_len]
          exact small_of (Nat.le_trans filter_len (show i ≤ 64 by omega)) (by decide)
        · show _ = SH.mk H [(R, .lst (nV ((List.range (i + 1)).filter (ndQ en (difF st en) b)))), (D, .lst (((List.range (nS b)).map (ndQ en (difF st en) b)).map V.bl)), (pa, .lst (abvL en b)), (ph, .lst (nV (holL en b)))]
          rw [filter_more, hb, if_pos rfl, nV_snoc]
          rfl
      | false =>
        refine ⟨_, SLe.refl _, ?_⟩
        show _ = SH.mk H [(R, .lst (nV ((List.range (i + 1)).filter (ndQ en (difF st en) b)))), (D, .lst (((List.range (nS b)).map (ndQ en (difF st en) b)).map V.bl)), (pa, .lst (abvL en b)), (ph, .lst (nV (holL en b)))]
        rw [filter_more, hb, if_neg Bool.false_ne_true, List.append_nil]
    · rintro S rfl
      have en2 : (itR 0 ((nS b : Nat) : Int).toNat).n = nS b := Int.toNat_natCast _
      rw [en2]
      intro H' o'
      have m := o'.gs (R, .lst (nV (dueL st en b))) (.head _)
      exact ⟨⟨R, rfl, m.2, m.1⟩, fun c u e => o'.fr c u e⟩
theorem use_due {W : sWX} {σ : L2.St} {F : Hp} {G : List (Addr × HO)} {Q : V → SH → Prop} {vs : List V} (st : List Nat) (en : List Bool) (wv : V) (b : TR) (e : vs = [.str (pS st), .str (fS en), wv]) (hw : lwsR K F wv b) (h1 : st.length + 1 = nS b) (h2 : en.length + 1 = nS b) (h3 : nS b ≤ 64)
    (k : ∀ p, Q (.ref p) ⟨F, (p, .lst (nV (dueL st en b))) :: G⟩) : rC (ct_two K 64 resL) W vs σ ⟨F, G⟩ Q := by
  refine ⟨(st, en, wv, b), fun H o => ⟨e, hw.ext (own_F o), h1, h2, h3⟩, fun H v H' o q => ?_, fun _ _ _ _ _ q => q.elim⟩
  obtain ⟨⟨p, rfl, q1, q2⟩, q3⟩ := q
  exact ⟨_, o.new q1 q3 q2, k p⟩
end
section
variable {K : PySem.W.Frag} {a : Ads}
open TR
theorem in_hg (en : List Bool) (b : TR) (x : Nat) : ∀ left : List Nat, inV (.int (x : Nat)) (left.map fun y => hgV (par0 en b y)) = left.any fun y => decide (par0 en b y = some x)
  | [] => rfl
  | y :: left => by
    rw [List.map_cons, List.any_cons, ← in_hg en b x left]
    cases par0 en b y with
    | none => rfl
    | some z =>
      show (((z : Int) == (x : Int)) || inV (.int (x : Nat)) (left.map fun y => hgV (par0 en b y))) = (decide (some z = some x) || _)
      congr 1
      rw [Bool.eq_iff_iff, beq_iff_eq, decide_eq_true_iff, Option.some.injEq]
      omega
theorem flat_hg (en : List Bool) (b : TR) : ∀ left : List Nat, (left.map fun y => hgV (par0 en b y)).all flatV = true
  | [] => rfl
  | y :: left => by
    rw [List.map_cons, List.all_cons, flat_hg en b left]
    cases par0 en b y <;> rfl
def freeB (en : List Bool) (b : TR) (left : List Nat) (x : Nat) : Bool := !(left.any fun y => decide (par0 en b y = some x))
theorem filter_take {p : Nat → Bool} {l : List Nat} {i x : Nat} (h : l[i]? = some x) : (l.take (i + 1)).filter p = (l.take i).filter p ++ if p x then [x] else [] := by
  rw [take_more h, List.filter_append]
  congr 1
  rw [List.filter_cons]
  rfl
theorem filter_le {p : Nat → Bool} {l : List Nat} {i : Nat} : ((l.take i).filter p).length ≤ l.length := by
  have h1 := List.length_filter_le p (l.take i)
  rw [List.length_take] at h1
  omega
/-- a filter of a list of slots -/
theorem lc_keep {W : sWX} {F : Hp} {G : List (Addr × HO)} {Q : V → SH → Prop} {p3 : Addr} {left : List Nat} {tt : sT} (keep : Nat → Bool) {x0 x1 x2 x3 x4 x5 x6 x7 x8 x9 : Option V} (h3 : mL K F G p3 (nV left)) (hl : left.length ≤ 64)
    (ht : ∀ (D : Addr) (xs : List V) (x : Nat) (R : Bool → SH → Prop), x ∈ left → R (keep x) ⟨F, (D, .lst xs) :: G⟩ → tt noW [x0, x1, x2, x3, x4, x5, x6, x7, x8, some (.int (x : Nat))] ⟨F, (D, .lst xs) :: G⟩ R)
    (k : ∀ D, Q (.ref D) ⟨F, (D, .lst (nV (left.filter keep))) :: G⟩) (e3 : x3 = some (.ref p3)) :
    sLc (siSeq K (sVar 3)) (sgName 9) tt (sVar 9) [9] W [x0, x1, x2, x3, x4, x5, x6, x7, x8, x9] ⟨F, G⟩ Q := by
  subst e3
  refine .inl ⟨nV left, h3.s (List.Subset.refl _), fun D => ?_⟩
  refine ⟨fun i S => S = ⟨F, (D, .lst (nV ((left.take i).filter keep))) :: G⟩, rfl, ?_, ?_, ?_⟩
  · rintro i S _ rfl
    exact h3.s fun z hz => .tail _ hz
  · rintro i S hi rfl v hv
    obtain ⟨x, hx, rfl⟩ := nV_get hv
    refine ⟨rfl, ?_⟩
    refine ht D _ x _ (List.mem_of_getElem? hx) ?_
    cases hk : keep x with
    | true =>
      refine ⟨0, _, rfl, ?_, ⟨_, SLe.refl _, ?_⟩⟩
      · rw [nV_len]
        exact small_of (Nat.le_trans filter_le hl) (by decide)
      · show _ = SH.mk F ((D, .lst (nV ((left.take (i + 1)).filter keep))) :: G)
        rw [filter_take hx, hk, if_pos rfl, nV_snoc]
        rfl
    | false =>
      refine ⟨_, SLe.refl _, ?_⟩
      show _ = SH.mk F ((D, .lst (nV ((left.take (i + 1)).filter keep))) :: G)
      rw [filter_take hx, hk, if_neg Bool.false_ne_true, List.append_nil]
  · rintro S rfl
    have en : (itL K p3 (nV left)).n = left.length := nV_len left
    rw [en, List.take_length]
    exact k D
theorem vc_l_order {vs : List V} {H : Hp} (g : Addr × Addr × Bx × Addr × List Nat × Addr × List Bool × TR) (h : (ct_l_order K).pre g vs H) : ∃ S, Own S H ∧ r_l_order K a (endsC (ct_l_order K) g H) (start N_l_order vs) S := by
  refine body_box g h fun b m x g F eg eF hms hok e => ?_
  subst eg
  obtain ⟨pd, ds, pa, en, t⟩ := g
  have e : vs = [.ref b, .ref pd, .ref pa] := e
  subst e
  obtain ⟨hpd0, hpa0, hnd0, hsl0, hsm0⟩ := hok
  have hpd : SqL K F pd (nV ds) := hpd0
  have hpa : SqL K F pa (abvL en t) := hpa0
  have hnd : ds.Nodup := hnd0
  have hsl : ∀ x ∈ ds, x < nS t := hsl0
  have hsm : nS t ≤ 64 := hsm0
  clear hpd0 hpa0 hnd0 hsl0 hsm0
  have lds : ds.length ≤ 64 := by
    have := nodup_sub (ks := ds) (ms := List.range (nS t)) hnd fun x hx => List.mem_range.mpr (hsl x hx)
    rw [List.length_range] at this
    omega
  refine ⟨nV ds, .inl (.inr hpd), fun p30 => ?_⟩
  refine ⟨Nat.zero_le _, fun p4 => ?_⟩
  refine ⟨nV ds, .inl (.inr hpd), ?_⟩
  rw [nV_len]
  refine ⟨by unfold rngOk; omega, ?_⟩
  refine ⟨fun i σ S => ∃ (y : Bx) (left ord : List Nat) (p3 : Addr) (x5 x6 x7 x8 x9 : Option V), y.ms ≠ [] ∧ left.Nodup ∧ (∀ z ∈ left, z < nS t) ∧ (ord ++ left).Perm ds ∧ ord.length = i ∧ ord.Pairwise (fun u v => par0 en t v ≠ some u) ∧ (∀ u ∈ ord, ∀ v ∈ left, par0 en t v ≠ some u) ∧
    σ = [some (.ref b), some (.ref pd), some (.ref pa), some (.ref p3), some (.ref p4), x5, x6, x7, x8, x9] ∧ S = ⟨F, [(p4, .lst (nV ord)), (p3, .lst (nV left))] ++ boxG b m y⟩, ⟨x, ds, [], p30, none, none, none, none, none, hms, hnd, hsl, List.Perm.refl _, rfl, .nil, (fun _ z => nomatch z), rfl, rfl⟩, fun _ _ _ _ _ => trivial, ?_, ?_⟩
  · rintro i σ S hi ⟨y, left, ord, p3, x5, x6, x7, x8, x9, hy, h1, h2, h3, h4, h5, h6, rfl, rfl⟩
    have hi : i < ((ds.length : Nat) : Int).toNat := hi
    rw [Int.toNat_natCast] at hi
    have h3l := h3.length_eq
    rw [List.length_append] at h3l
    have hne : left ≠ [] := fun z => by
      rw [z, List.length_nil] at h3l
      omega
    refine yldR_go (nm_go ?_)
    -- hanging
    refine .inl ⟨nV left, .inl ⟨1, rfl⟩, fun D1 => ?_⟩
    refine ⟨fun j S => S = ⟨F, (D1, .lst ((left.take j).map fun z => hgV (par0 en t z))) :: ([(p4, .lst (nV ord)), (p3, .lst (nV left))] ++ boxG b m y)⟩, rfl, ?_, ?_, ?_⟩
    · rintro j S _ rfl
      exact .inl ⟨2, rfl⟩
    · rintro j S hj rfl v hv
      obtain ⟨z, hz, rfl⟩ := nV_get hv
      have hzt := h2 z (List.mem_of_getElem? hz)
      refine ⟨rfl, ?_⟩
      refine ⟨abvL en t, _, .inl (.inr hpa), atI_at (abv_at hzt), ?_⟩
      refine ⟨0, _, rfl, ?_, ⟨_, SLe.refl _, ?_⟩⟩
      · rw [List.length_map, List.length_take]
        exact small_of (show min j left.length ≤ 64 by omega) (by decide)
      · show _ = SH.mk F ((D1, .lst ((left.take (j + 1)).map fun z => hgV (par0 en t z))) :: ([(p4, .lst (nV ord)), (p3, .lst (nV left))] ++ boxG b m y))
        rw [map_more hz]
        rfl
    rintro S rfl
    have en1 : (itL K p3 (nV left)).n = left.length := nV_len left
    rw [en1, List.take_length]
    -- free
    dsimp only
    refine seq_go (set_go ?_)
    refine lc_keep (K := K) (F := F) (left := left) (p3 := p3) (freeB en t left) (.inl (.tail _ (.tail _ (.head _)))) (by omega) (fun D xs z R hz hR => ?_) (fun D2 => ?_) rfl
    · refine ⟨_, .inl (.inl ⟨1, rfl⟩), rfl, flat_hg en t left, ?_⟩
      rw [in_hg]
      exact hR
    -- the pick
    obtain ⟨x0, hx0, hx1⟩ := free_one en t left h2 hne
    have hfree : x0 ∈ left.filter (freeB en t left) := List.mem_filter.mpr ⟨hx0, by
      unfold freeB
      rw [Bool.not_eq_true', List.any_eq_false]
      exact fun y hy => by
        rw [decide_eq_true_iff]
        exact hx1 y hy⟩
    have hpos := List.length_pos_of_mem hfree
    refine ⟨nV (left.filter (freeB en t left)), .inl (.inl ⟨0, rfl⟩), ?_⟩
    rw [nV_len]
    have lfree : (left.filter (freeB en t left)).length ≤ left.length := List.length_filter_le _ _
    refine use_takeB (E := [(D2, .lst (nV (left.filter (freeB en t left)))), (D1, .lst (left.map fun z => hgV (par0 en t z))), (p4, .lst (nV ord)), (p3, .lst (nV left))]) ((left.filter (freeB en t left)).length : Nat) (by rfl) hy (by omega) fun y r hy hr => ?_
    obtain ⟨pick, hpick⟩ : ∃ pick, (left.filter (freeB en t left))[r]? = some pick := ⟨_, List.getElem?_eq_getElem (by omega)⟩
    refine ⟨_, _, .inl (.inl ⟨0, rfl⟩), atI_at (nV_at hpick), ?_⟩
    have hpm := List.mem_filter.mp (List.mem_of_getElem? hpick)
    have hpf : ∀ y ∈ left, par0 en t y ≠ some pick := by
      have h := hpm.2
      unfold freeB at h
      rw [Bool.not_eq_true', List.any_eq_false] at h
      exact fun y hy z => h y hy (decide_eq_true z)
    refine ⟨.inl ⟨rfl, _, .inl ⟨2, rfl⟩⟩, ?_⟩
    refine ⟨2, _, rfl, ?_, ?_⟩
    · rw [nV_len]
      exact small_of (show ord.length ≤ 64 by omega) (by decide)
    dsimp only
    refine set_go ?_
    refine lc_keep (K := K) (F := F) (G := [(D2, .lst (nV (left.filter (freeB en t left)))), (D1, .lst (left.map fun z => hgV (par0 en t z))), (p4, .lst (nV ord ++ [.int (pick : Nat)])), (p3, .lst (nV left))] ++ boxG b m y) (left := left) (p3 := p3) (fun z => z != pick) (.inl (.tail _ (.tail _ (.tail _ (.head _))))) (by omega) (fun D xs z R hz hR => ?_) (fun D3 => ?_) rfl
    · unfold sTst
      refine op_go (var_go (v := .int (z : Nat)) (by rfl) (var_go (v := .int (pick : Nat)) (by rfl) (ne_i (c := z != pick) ?_ hR)))
      rw [Bool.eq_iff_iff, decide_eq_true_iff, Bool.not_eq_true', bne_eq_false_iff_eq]
      omega
    refine ⟨⟨F, [(p4, .lst (nV ord ++ [.int (pick : Nat)])), (D3, .lst (nV (left.filter fun z => z != pick)))] ++ boxG b m y⟩, SLe.trans (sle_sub (G0 := [(D3, .lst (nV (left.filter fun z => z != pick))), (p4, .lst (nV ord ++ [.int (pick : Nat)]))] ++ boxG b m y) ?_) (sle_perm (List.Perm.swap _ _ _)), y, left.filter (fun z => z != pick), ord ++ [pick], D3, _, _, _, _, _, hy, ?_, ?_, ?_, ?_, ?_, ?_, rfl, ?_⟩
    · exact .cons₂ _ (.cons _ (.cons _ (.cons₂ _ (.cons _ (List.Sublist.refl _)))))
    · exact h1.sublist List.filter_sublist
    · exact fun z hz => h2 z (List.mem_filter.mp hz).1
    · refine List.Perm.trans ?_ h3
      rw [List.append_assoc]
      refine List.Perm.append_left _ ?_
      rw [← h1.erase_eq_filter]
      exact (List.perm_cons_erase hpm.1).symm
    · rw [List.length_append, h4]
      rfl
    · refine List.pairwise_append.mpr ⟨h5, List.pairwise_singleton _ _, fun u hu v hv => ?_⟩
      rw [List.mem_singleton.mp hv]
      exact h6 u hu pick hpm.1
    · intro u hu v hv
      have hvl := (List.mem_filter.mp hv).1
      rcases List.mem_append.mp hu with hu | hu
      · exact h6 u hu v hvl
      · rw [List.mem_singleton.mp hu]
        exact hpf v hvl
    · rw [nV_snoc]
  · rintro σ S ⟨y, left, ord, p3, x5, x6, x7, x8, x9, hy, h1, h2, h3, h4, h5, h6, rfl, rfl⟩
    have h4 : ord.length = ((ds.length : Nat) : Int).toNat := h4
    rw [Int.toNat_natCast] at h4
    have h3l := h3.length_eq
    rw [List.length_append] at h3l
    have hz : left = [] := List.length_eq_zero_iff.mp (by omega)
    rw [hz, List.append_nil] at h3
    intro H' o'
    subst eF
    refine end_box (E := [(p4, .lst (nV ord)), (p3, .lst (nV left))]) o' hy fun H2 o2 => ?_
    have mm := o2.gs (p4, .lst (nV ord)) (.head _)
    exact ⟨p4, ord, rfl, mm.2, mm.1, h3, h5⟩
end
section
variable {K : PySem.W.Frag} {a : Ads}
open TR
theorem gt_i {x y : Int} {c : Bool} {S : SH} {Q : V → SH → Prop} (e : decide (y < x) = c) (h : Q (.bl c) S) : oGt (.int x) (.int y) S Q := by
  show Q (.bl (decide (y < x))) S
  rw [e]
  exact h
theorem le_i {x y : Int} {c : Bool} {S : SH} {Q : V → SH → Prop} (e : decide (x ≤ y) = c) (h : Q (.bl c) S) : oLe (.int x) (.int y) S Q := by
  show Q (.bl (decide (x ≤ y))) S
  rw [e]
  exact h
def kvS (seen : List SL) : List (Key × V) := seen.map fun l => (.inr (pS l), .bl true)
def sV (L : List SL) : List V := L.map fun l => V.str (pS l)
theorem kv_any (seen : List SL) (x : SL) : (valV (kvS seen) (.inr (pS x))).isSome = decide (x ∈ seen) := by
  rw [← valV_any]
  unfold kvS
  rw [List.any_map, Bool.eq_iff_iff, List.any_eq_true, decide_eq_true_iff]
  constructor
  · rintro ⟨y, hy, h⟩
    have h : (Sum.inr (pS y) : Key) = .inr (pS x) := of_decide_eq_true h
    rw [← pS_inj (Sum.inr.inj h)]
    exact hy
  · intro h
    exact ⟨x, h, decide_eq_true rfl⟩
theorem kv_put {seen : List SL} {x : SL} (h : x ∉ seen) : putK (kvS seen) (.inr (pS x)) (.bl true) = kvS (seen ++ [x]) := by
  unfold putK
  rw [if_neg]
  · unfold kvS
    rw [List.map_append]
    rfl
  · rw [valV_any, kv_any, decide_eq_false h]
    exact Bool.false_ne_true
theorem kvS_len (seen : List SL) : (kvS seen).length = seen.length := List.length_map _
theorem sV_len (L : List SL) : (sV L).length = L.length := List.length_map _
theorem sV_get {L : List SL} {i : Nat} {v : V} (h : (sV L)[i]? = some v) : ∃ x, L[i]? = some x ∧ v = .str (pS x) := by
  unfold sV at h
  rw [List.getElem?_map] at h
  cases e : L[i]? with
  | none =>
    rw [e] at h
    cases h
  | some x =>
    rw [e] at h
    exact ⟨x, rfl, (Option.some.inj h).symm⟩
theorem stp_more {ways : List Way} {acc : List SL × List SL} {s : SL} {k : Nat} {w : Way} (h : ways[k]? = some w) : stpS (ways.take (k + 1)) acc s = addS (stpS (ways.take k) acc s) (hitL s w) := by
  rw [take_more h]
  unfold stpS
  rw [List.foldl_append]
  rfl
theorem exp_more {ways : List Way} {acc : List SL × List SL} {L : List SL} {j : Nat} {s : SL} (h : L[j]? = some s) : expS ways acc (L.take (j + 1)) = stpS ways (expS ways acc (L.take j)) s := by
  rw [take_more h]
  unfold expS
  rw [List.foldl_append]
  rfl
theorem vc_l_search {vs : List V} {H : Hp} (g : List Nat × List Bool × V × TR) (h : (ct_two K 5 resN).pre g vs H) : ∃ S, Own S H ∧ r_l_search K a (endsC (ct_two K 5 resN) g H) (start N_l_search vs) S := by
  obtain ⟨st, en, wv, b⟩ := g
  obtain ⟨e0, hW, hs0, hl0, hsm0⟩ := h
  have e0 : vs = [.str (pS st), .str (fS en), wv] := e0
  subst e0
  have hW : lwsR K H wv b := hW
  obtain ⟨pw, xs, e1, hpw, hxs⟩ := hW
  have hst : st.length + 1 = nS b := hs0
  have hl : en.length + 1 = nS b := hl0
  have hsm : nS b ≤ 5 := hsm0
  clear hs0 hl0 hsm0
  have hxs : allV (lwyR K [] H) xs (wayB b 0) := hxs
  have lxs : xs.length = nS b := by rw [allV_len hxs, wayB_len]
  have lway : (wayB b 0).length = nS b := wayB_len b 0
  subst e1
  have hdl : (dueL st en b).length ≤ nS b := filter_len
  refine ⟨⟨H, []⟩, Own.base H, ?_⟩
  refine fun D => ?_
  refine ⟨0, .inr (pS st), rfl, rfl, ?_⟩
  refine ⟨show 1 ≤ sizeLine by decide, fun pl0 => ?_⟩
  refine ⟨xs, .inl (.inr hpw), ?_⟩
  rw [lxs]
  refine ⟨by show rngOk (((nS b : Nat) : Int) + 1); unfold rngOk; omega, ?_⟩
  refine ⟨fun i σ S => ∃ (pl : Addr) (x5 x6 x7 x8 x9 : Option V), i ≤ (dueL st en b).length ∧ σ = [some (.str (pS st)), some (.str (fS en)), some (.ref pw), some (.ref D), some (.ref pl), x5, x6, x7, x8, x9] ∧ S = ⟨H, [(pl, .lst (sV (lvS (wayB b 0) st i).2)), (D, .dK (kvS (lvS (wayB b 0) st i).1))]⟩, ⟨pl0, none, none, none, none, none, Nat.zero_le _, rfl, rfl⟩, fun _ _ _ _ _ => trivial, ?_, ?_⟩
  · rintro i σ S hi ⟨pl, x5, x6, x7, x8, x9, hdue, rfl, rfl⟩
    have hi : i < (((nS b : Nat) : Int) + 1).toNat := hi
    have hi5 : i ≤ 5 := by omega
    refine yldR_go ?_
    rw [Int.zero_add]
    refine nm_go ?_
    have hlv : en.map cdB ∈ (lvS (wayB b 0) st i).1 ↔ (dueL st en b).length ≤ i := lv_due hst hl i
    have hlen := lv_len (wayB b 0) st (by rw [lway]; exact hsm) i
    have hinv := lv_inv (wayB b 0) st i
    have e5 : 5 ^ i ≤ 3125 := Nat.le_trans (Nat.pow_le_pow_right (by decide) hi5) (by decide)
    have hnext : lvS (wayB b 0) st (i + 1) = expS (wayB b 0) ((lvS (wayB b 0) st i).1, []) (lvS (wayB b 0) st i).2 := rfl
    have hsl : ∀ s ∈ (lvS (wayB b 0) st i).2, s.length = st.length := fun s hs => by
      obtain ⟨row, _, _, e⟩ := (hinv.1 s).mp (hinv.2.2 s hs)
      rw [e, hitsL_len]
    clear hinv
    generalize lvS (wayB b 0) st i = lv at hlv hlen hsl hnext
    refine ⟨_, .inr (fS en), .inl ⟨1, rfl⟩, rfl, ?_⟩
    rw [show (valV (kvS lv.1) (.inr (fS en))).isSome = decide (en.map cdB ∈ lv.1) from kv_any _ _]
    by_cases hm : en.map cdB ∈ lv.1
    · rw [decide_eq_true hm]
      have := hlv.mp hm
      refine fun H' o' => ⟨?_, fun c u e => o'.fr c u e⟩
      show V.int (i : Nat) = V.int ((dueL st en b).length : Nat)
      rw [show i = (dueL st en b).length by omega]
    rw [decide_eq_false hm]
    have hdue2 : i + 1 ≤ (dueL st en b).length := by
      rcases Nat.lt_or_ge i (dueL st en b).length with h | h
      · exact h
      · exact absurd (hlv.mpr h) hm
    refine ⟨Nat.zero_le _, fun p6 => ?_⟩
    refine .inl ⟨sV lv.2, .inl ⟨1, rfl⟩, ?_⟩
    refine ⟨fun j σ S => ∃ (x7 x8 x9 : Option V), σ = [some (.str (pS st)), some (.str (fS en)), some (.ref pw), some (.ref D), some (.ref pl), some (.int (i : Nat)), some (.ref p6), x7, x8, x9] ∧ S = ⟨H, [(p6, .lst (sV (expS (wayB b 0) (lv.1, []) (lv.2.take j)).2)), (pl, .lst (sV lv.2)), (D, .dK (kvS (expS (wayB b 0) (lv.1, []) (lv.2.take j)).1))]⟩, ⟨x7, x8, x9, rfl, rfl⟩, ?_, ?_, ?_⟩
    · rintro j σ S _ ⟨x7, x8, x9, rfl, rfl⟩
      exact .inl ⟨1, rfl⟩
    · rintro j σ S hj ⟨x7, x8, x9, rfl, rfl⟩ v hv
      obtain ⟨s, hs, rfl⟩ := sV_get hv
      have hjl : j < lv.2.length := (List.getElem?_eq_some_iff.mp hs).1
      have hsl := hsl s (List.mem_of_getElem? hs)
      have hex := expS_len (wayB b 0) (lv.2.take j) (lv.1, [])
      have hmore := exp_more (ways := wayB b 0) (acc := (lv.1, [])) hs
      have hmul : (lv.2.take j).length * (wayB b 0).length ≤ 3125 * 5 := Nat.mul_le_mul (by rw [List.length_take]; omega) (by omega)
      generalize expS (wayB b 0) (lv.1, []) (lv.2.take j) = acc at hex hmore
      have hex1 : acc.1.length ≤ 2 * 3125 + 3125 * 5 := by
        have := hex.1
        have h2 : (lv.1, ([] : List SL)).1.length = lv.1.length := rfl
        omega
      have hex2 : acc.2.length ≤ 3125 * 5 := by
        have := hex.2
        have h2 : (lv.1, ([] : List SL)).2.length = 0 := rfl
        omega
      refine .inl ⟨xs, .inr hpw, ?_⟩
      refine ⟨fun k σ S => ∃ (x8 x9 : Option V), σ = [some (.str (pS st)), some (.str (fS en)), some (.ref pw), some (.ref D), some (.ref pl), some (.int (i : Nat)), some (.ref p6), some (.str (pS s)), x8, x9] ∧ S = ⟨H, [(p6, .lst (sV (stpS ((wayB b 0).take k) acc s).2)), (pl, .lst (sV lv.2)), (D, .dK (kvS (stpS ((wayB b 0).take k) acc s).1))]⟩, ⟨x8, x9, rfl, rfl⟩, ?_, ?_, ?_⟩
      · rintro k σ S _ ⟨x8, x9, rfl, rfl⟩
        exact .inr hpw
      · rintro k σ S hk ⟨x8, x9, rfl, rfl⟩ u hu
        have hk : k < xs.length := hk
        obtain ⟨w, hw, hvw⟩ := allV_at hxs hu
        have hwm := List.mem_of_getElem? hw
        have hst2 := stpS_len s ((wayB b 0).take k) acc
        rw [List.length_take] at hst2
        have hmore2 := stp_more (acc := acc) (s := s) hw
        generalize stpS ((wayB b 0).take k) acc s = ac at hst2 hmore2
        refine use_hit s u w (by rfl) hvw (fun t ht => by have := (way_small b 0 w hwm t ht).2; omega) (by omega) ?_
        refine ⟨_, .inr (pS (hitL s w)), .inl ⟨2, rfl⟩, rfl, ?_⟩
        rw [kv_any]
        by_cases hm2 : hitL s w ∈ ac.1
        · rw [decide_eq_true hm2]
          refine ⟨_, SLe.refl _, some u, some (.str (pS (hitL s w))), rfl, ?_⟩
          rw [hmore2]
          unfold addS
          rw [if_pos hm2]
        · rw [decide_eq_false hm2]
          refine ⟨2, _, .inr (pS (hitL s w)), rfl, rfl, ?_, ?_⟩
          · rw [kvS_len]
            exact small_of (show ac.1.length ≤ 30000 by omega) (by decide)
          rw [kv_put hm2]
          refine ⟨.inl ⟨rfl, _, .inl ⟨0, rfl⟩⟩, ?_⟩
          refine ⟨0, _, rfl, ?_, ⟨_, SLe.refl _, some u, some (.str (pS (hitL s w))), rfl, ?_⟩⟩
          · rw [sV_len]
            exact small_of (show ac.2.length ≤ 30000 by omega) (by decide)
          · rw [hmore2]
            unfold addS
            rw [if_neg hm2]
            show _ = SH.mk H [(p6, .lst (sV (ac.2 ++ [hitL s w]))), _, _]
            unfold sV
            rw [List.map_append]
            rfl
      · rintro σ S ⟨x8, x9, rfl, rfl⟩
        have en2 : (itL K pw xs).n = (wayB b 0).length := lxs.trans lway.symm
        rw [en2, List.take_length]
        refine ⟨_, SLe.refl _, _, _, _, rfl, ?_⟩
        rw [hmore]
    · rintro σ S ⟨x7, x8, x9, rfl, rfl⟩
      have en2 : (itL K pl (sV lv.2)).n = lv.2.length := sV_len _
      rw [en2, List.take_length]
      refine ⟨_, sle_sub (.cons₂ _ (.cons _ (List.Sublist.refl _))), p6, _, _, _, _, _, hdue2, rfl, ?_⟩
      rw [hnext]
  · rintro σ S ⟨pl, x5, x6, x7, x8, x9, hdue, rfl, rfl⟩
    have hdue : (((nS b : Nat) : Int) + 1).toNat ≤ (dueL st en b).length := hdue
    omega
theorem use_search {W : sWX} {σ : L2.St} {F : Hp} {G : List (Addr × HO)} {Q : V → SH → Prop} {vs : List V} (st : List Nat) (en : List Bool) (wv : V) (b : TR) (e : vs = [.str (pS st), .str (fS en), wv]) (hw : lwsR K F wv b) (h1 : st.length + 1 = nS b) (h2 : en.length + 1 = nS b) (h3 : nS b ≤ 5)
    (k : Q (.int ((dueL st en b).length : Nat)) ⟨F, G⟩) : rC (ct_two K 5 resN) W vs σ ⟨F, G⟩ Q := by
  refine ⟨(st, en, wv, b), fun H o => ⟨e, hw.ext (own_F o), h1, h2, h3⟩, fun H v H' o q => ?_, fun _ _ _ _ _ q => q.elim⟩
  obtain ⟨q1, q3⟩ := q
  have q1 : v = _ := q1
  exact ⟨_, o.ex q3, by rw [q1]; exact k⟩
theorem vc_l_answers {vs : List V} {H : Hp} (g : V × TR × List Nat × List Bool × V) (h : (ct_l_answers K a).pre g vs H) : ∃ S, Own S H ∧ r_l_answers K a (endsC (ct_l_answers K a) g H) (start N_l_answers vs) S := by
  obtain ⟨tv, b, st, en, wv⟩ := g
  obtain ⟨e0, hT0, hW0, hs0, hl0, hp0⟩ := h
  have e0 : vs = [tv, .str (pS st), .str (fS en), wv] := e0
  subst e0
  have hT : TreeAt K a H tv b := hT0
  have hW : lwsR K H wv b := hW0
  have hst : st.length + 1 = nS b := hs0
  have hl : en.length + 1 = nS b := hl0
  have hp : patOk st := hp0
  clear hT0 hW0 hs0 hl0 hp0
  have hsm : nS b ≤ 64 := hT.sm
  have hdl : (dueL st en b).length ≤ 64 := Nat.le_trans filter_len hsm
  obtain ⟨pw, xs, e1, hpw, hxs⟩ := id hW
  have lxs : xs.length = nS b := by rw [allV_len hxs, wayB_len]
  subst e1
  refine ⟨⟨H, []⟩, Own.base H, ?_⟩
  refine use_due st en (.ref pw) b (by rfl) hW hst hl hsm fun p4 => ?_
  refine use_needed tv b st en (by rfl) hT hst hl hp fun p5 => ?_
  refine use_same p5 p4 (dueL st en b) (by rfl) (.inl ⟨0, rfl⟩) (.inl ⟨1, rfl⟩) hdl ?_
  refine ⟨.inl ⟨rfl, _, .inl ⟨0, rfl⟩⟩, ?_⟩
  refine ⟨0, _, rfl, ?_⟩
  refine ⟨.inl ⟨rfl, _, .inl ⟨0, rfl⟩⟩, ?_⟩
  refine ⟨0, _, rfl, ?_, ?_⟩
  · rw [List.length_reverse, nV_len]
    exact small_of hdl (by decide)
  refine use_needed tv b st en (by rfl) hT hst hl hp fun pn => ?_
  refine use_same pn p4 (dueL st en b) (by rfl) (.inl ⟨0, rfl⟩) (.inl ⟨2, rfl⟩) hdl ?_
  refine use_least tv b st en (by rfl) hT hst hl hp ?_
  refine use_lisI ((dueL st en b).length : Nat) (by rfl) ?_
  refine ⟨_, .inl (.inl ⟨2, rfl⟩), ?_⟩
  rw [nV_len]
  refine ne_i (c := false) (decide_eq_true rfl) ?_
  refine ⟨xs, .inl (.inr hpw), ?_⟩
  rw [lxs]
  have e5 : decide ((5 : Int) < ((nS b : Nat) : Int)) = decide (5 < nS b) := decide_eq_decide.mpr (by omega)
  refine c_go (gt_i e5 ?_)
  cases h5 : decide (5 < nS b) with
  | true => exact fun H' o' => ⟨rfl, fun c u e => o'.fr c u e⟩
  | false =>
    have h5 := of_decide_eq_false h5
    refine use_search st en (.ref pw) b (by rfl) hW hst hl (by omega) ?_
    refine eq_i (c := true) (decide_eq_true rfl) ?_
    exact fun H' o' => ⟨rfl, fun c u e => o'.fr c u e⟩
end
section
variable {K : PySem.W.Frag} {a : Ads}
open TR
theorem hit_pat : ∀ (w : Way) (st : List Nat), patOk st → patOk (hitL st w)
  | [], _, h => h
  | s :: w, st, h => hit_pat w _ fun c hc => by
    rcases List.mem_or_eq_of_mem_set hc with hc | hc
    · exact h c hc
    · rw [hc]
      exact cd_pat s.2
theorem hits_pat : ∀ (ws : List Way) (st : List Nat), patOk st → patOk (hitsL st ws)
  | [], _, h => h
  | w :: ws, st, h => hits_pat ws _ (hit_pat w st h)
theorem hit_fl : ∀ (w : Way) (fl : List Bool), ∃ en : List Bool, hitL (fl.map cdB) w = en.map cdB ∧ en.length = fl.length
  | [], fl => ⟨fl, rfl, rfl⟩
  | s :: w, fl => by
    obtain ⟨en, h1, h2⟩ := hit_fl w (fl.set s.1 s.2)
    refine ⟨en, ?_, h2.trans (List.length_set)⟩
    rw [← h1, List.map_set]
    rfl
theorem hits_fl : ∀ (ws : List Way) (fl : List Bool), ∃ en : List Bool, hitsL (fl.map cdB) ws = en.map cdB ∧ en.length = fl.length
  | [], fl => ⟨fl, rfl, rfl⟩
  | w :: ws, fl => by
    obtain ⟨e1, h1, h2⟩ := hit_fl w fl
    obtain ⟨en, h3, h4⟩ := hits_fl ws e1
    refine ⟨en, ?_, h4.trans h2⟩
    rw [← h3, ← h1]
    rfl
theorem hits_end {en : List Bool} {b : TR} {st ord : List Nat} (hst : st.length + 1 = nS b) (hl : en.length + 1 = nS b) (h : ∀ f, f + 1 < nS b → (hitsL st (ord.map (wy b)))[f]? = some (cdB (eF en f))) : hitsL st (ord.map (wy b)) = en.map cdB := by
  refine List.ext_getElem? fun f => ?_
  rcases Nat.lt_or_ge f en.length with hf | hf
  · rw [h f (by omega), en_at hf]
  · rw [List.getElem?_eq_none (by rw [hitsL_len]; omega), List.getElem?_eq_none (by rw [List.length_map]; exact hf)]
theorem use_answers {W : sWX} {σ : L2.St} {F : Hp} {G : List (Addr × HO)} {Q : V → SH → Prop} {vs : List V} (tv : V) (b : TR) (st : List Nat) (en : List Bool) (wv : V) (e : vs = [tv, .str (pS st), .str (fS en), wv]) (hT : TreeAt K a F tv b) (hw : lwsR K F wv b) (h1 : st.length + 1 = nS b) (h2 : en.length + 1 = nS b) (hp : patOk st)
    (k : Q (.bl true) ⟨F, G⟩) : rC (ct_l_answers K a) W vs σ ⟨F, G⟩ Q := by
  refine ⟨(tv, b, st, en, wv), fun H o => ⟨e, hT.ext (own_F o), hw.ext (own_F o), h1, h2, hp⟩, fun H v H' o q => ?_, fun _ _ _ _ _ q => q.elim⟩
  obtain ⟨q1, q3⟩ := q
  exact ⟨_, o.ex q3, by rw [q1]; exact k⟩
theorem use_all {W : sWX} {σ : L2.St} {F : Hp} {G : List (Addr × HO)} {Q : V → SH → Prop} {vs : List V} (tv : V) (b : TR) (fl : List Bool) (p : Addr) (ns : List Nat) (e : vs = [tv, .str (fS fl), .ref p]) (hT : TreeAt K a F tv b) (hl : fl.length + 1 = nS b) (hp : sL K ⟨F, G⟩ p (nV ns)) (hn : ∀ i ∈ ns, i < nS b)
    (k : Q (.str (pS (hitsL (fl.map cdB) (ns.map (wy b))))) ⟨F, G⟩) : rC (ct_all_after K a) W vs σ ⟨F, G⟩ Q := by
  refine ⟨(tv, b, fl, p, ns), fun H o => ⟨e, hT.ext (own_F o), hl, o.l hp, hn⟩, fun H v H' o q => ?_, fun _ _ _ _ _ q => q.elim⟩
  obtain ⟨q1, q3⟩ := q
  have q1 : v = _ := q1
  exact ⟨_, o.ex q3, by rw [q1]; exact k⟩
theorem use_order {W : sWX} {vs : List V} {σ : L2.St} {F : Hp} {E : List (Addr × HO)} {b m : Addr} {x : Bx} {Q : V → SH → Prop} (pd : Addr) (ds : List Nat) (pa : Addr) (en : List Bool) (t : TR) (e : vs = [.ref b, .ref pd, .ref pa]) (hx : x.ms ≠ []) (hd : sL K ⟨F, E⟩ pd (nV ds)) (ha : sL K ⟨F, E⟩ pa (abvL en t)) (hn : ds.Nodup) (hs : ∀ x ∈ ds, x < nS t) (hm : nS t ≤ 64)
    (k : ∀ (y : Bx) (p : Addr) (ord : List Nat), y.ms ≠ [] → ord.Perm ds → (ord.Pairwise fun x y => par0 en t y ≠ some x) → Q (.ref p) ⟨F, ((p, .lst (nV ord)) :: E) ++ boxG b m y⟩) : rC (ct_l_order K) W vs σ ⟨F, E ++ boxG b m x⟩ Q := by
  refine use_box (pd, ds, pa, en, t) e hx (fun H o => ⟨o.l hd, o.l ha, hn, hs, hm⟩) fun y H1 v H2 hy o1 o2 ex hres => ?_
  obtain ⟨p, ord, rfl, q1, q2, q3, q4⟩ := hres
  exact ⟨F, (p, .lst (nV ord)) :: E, o1.new q1 ex q2, k y p ord hy q3 q4⟩
theorem due_small {st : List Nat} {en : List Bool} {b : TR} {i : Nat} (h : i ∈ dueL st en b) : i < nS b := ((due_mem en (difF st en) b).mp h).1
/-- the way of a slot, in the law's ways -/
theorem way_at {F : Hp} {xs : List V} {b : TR} {n : Nat} (hxs : allV (lwyR K [] F) xs (wayB b 0)) (hn : n < nS b) : ∃ u, xs[n]? = some u ∧ lwyR K [] F u (wy b n) := by
  have lxs : xs.length = nS b := by rw [allV_len hxs, wayB_len]
  obtain ⟨u, hu⟩ : ∃ u, xs[n]? = some u := ⟨_, List.getElem?_eq_getElem (by omega)⟩
  obtain ⟨w, hw, hvw⟩ := allV_at hxs hu
  rw [wy_at hn] at hw
  cases hw
  exact ⟨u, hu, hvw⟩
theorem vc_l_plays {vs : List V} {H : Hp} (g : Addr × Addr × Bx × V × TR × List Nat × List Bool × V) (h : (ct_l_plays K a).pre g vs H) : ∃ S, Own S H ∧ r_l_plays K a (endsC (ct_l_plays K a) g H) (start N_l_plays vs) S := by
  refine body_box g h fun b m x g F eg eF hms hok e => ?_
  subst eg
  obtain ⟨tv, t, st, en, wv⟩ := g
  have e : vs = [.ref b, tv, .str (pS st), .str (fS en), wv] := e
  subst e
  obtain ⟨hT0, hW0, hs0, hl0, hp0⟩ := hok
  have hT : TreeAt K a F tv t := hT0
  have hW : lwsR K F wv t := hW0
  have hst : st.length + 1 = nS t := hs0
  have hl : en.length + 1 = nS t := hl0
  have hp : patOk st := hp0
  clear hT0 hW0 hs0 hl0 hp0
  have hsm : nS t ≤ 64 := hT.sm
  obtain ⟨pw, xs, e1, hpw, hxs⟩ := id hW
  have lxs : xs.length = nS t := by rw [allV_len hxs, wayB_len]
  subst e1
  refine use_due st en (.ref pw) t (by rfl) hW hst hl hsm fun pd => ?_
  refine use_above en (.ref pw) t (by rfl) hW hl hsm fun pa => ?_
  refine use_order (E := [(pa, .lst (abvL en t)), (pd, .lst (nV (dueL st en t)))]) pd (dueL st en t) pa en t (by rfl) hms (.inl ⟨1, rfl⟩) (.inl ⟨0, rfl⟩) (due_nodup _ _ _) (fun z hz => due_small hz) hsm fun y p ord hy hperm hpw2 => ?_
  refine .inl ⟨nV ord, .inl ⟨0, rfl⟩, ?_⟩
  refine ⟨fun i σ S => ∃ (x6 x7 : Option V), σ = [some (.ref b), some tv, some (.str (pS st)), some (.str (fS en)), some (.ref pw), some (.str (pS (hitsL st ((ord.take i).map (wy t))))), x6, x7] ∧ S = ⟨F, [(p, .lst (nV ord)), (pa, .lst (abvL en t)), (pd, .lst (nV (dueL st en t)))] ++ boxG b m y⟩, ⟨none, none, rfl, rfl⟩, ?_, ?_, ?_⟩
  · rintro i σ S _ ⟨x6, x7, rfl, rfl⟩
    exact .inl ⟨0, rfl⟩
  · rintro i σ S hi ⟨x6, x7, rfl, rfl⟩ v hv
    obtain ⟨n, hn, rfl⟩ := nV_get hv
    have hnt : n < nS t := due_small (hperm.mem_iff.mp (List.mem_of_getElem? hn))
    obtain ⟨u, hu, hvw⟩ := way_at hxs hnt
    refine ⟨xs, _, .inl (.inr hpw), atI_at hu, ?_⟩
    have hlen : (hitsL st ((ord.take i).map (wy t))).length = st.length := hitsL_len _ _
    refine use_hit (hitsL st ((ord.take i).map (wy t))) u (wy t n) (by rfl) hvw (fun s hs => by have := wy_small hnt s hs; omega) (by omega) ?_
    refine use_turned (ok := patOk) tv t (hitsL st ((ord.take i).map (wy t))) n (by rfl) hT (by omega) hnt (hits_pat _ _ hp) ?_
    refine var_go (v := .str (pS (hitL (hitsL st ((ord.take i).map (wy t))) (wy t n)))) (by rfl) (ne_s (c := false) (decide_eq_true rfl) ?_)
    refine ⟨_, SLe.refl _, some (.int (n : Nat)), some (.str (pS (hitL (hitsL st ((ord.take i).map (wy t))) (wy t n)))), ?_, rfl⟩
    rw [hits_more hn]
    rfl
  · rintro σ S ⟨x6, x7, rfl, rfl⟩
    have en2 : (itL K p (nV ord)).n = ord.length := nV_len ord
    rw [en2, List.take_length]
    have hend : hitsL st (ord.map (wy t)) = en.map cdB := hits_end hst hl (plays_end hst (fun i => hperm.mem_iff) hpw2)
    rw [hend]
    dsimp only
    refine ret_go (op_go ?_)
    refine var_go (v := .str (pS (en.map cdB))) (by rfl) ?_
    refine var_go (v := .str (fS en)) (by rfl) ?_
    refine eq_s (c := true) (decide_eq_true rfl) ?_
    intro H' o'
    subst eF
    exact end_box (E := [(p, .lst (nV ord)), (pa, .lst (abvL en t)), (pd, .lst (nV (dueL st en t)))]) o' hy fun H2 o2 => rfl
theorem vc_l_comes {vs : List V} {H : Hp} (g : Addr × Addr × Bx × V × TR × V) (h : (ct_l_comes K a).pre g vs H) : ∃ S, Own S H ∧ r_l_comes K a (endsC (ct_l_comes K a) g H) (start N_l_comes vs) S := by
  refine body_box g h fun b m x g F eg eF hms hok e => ?_
  subst eg
  obtain ⟨tv, t, wv⟩ := g
  have e : vs = [.ref b, tv, wv] := e
  subst e
  obtain ⟨hT0, hW0⟩ := hok
  have hT : TreeAt K a F tv t := hT0
  have hW : lwsR K F wv t := hW0
  clear hT0 hW0
  have hsm : nS t ≤ 64 := hT.sm
  have hpos := nS_pos t
  obtain ⟨pw, xs, e1, hpw, hxs⟩ := id hW
  have lxs : xs.length = nS t := by rw [allV_len hxs, wayB_len]
  subst e1
  refine ⟨xs, .inl (.inr hpw), ?_⟩
  rw [lxs]
  refine use_box (E := []) (args := fun n : Nat => [V.int (n : Nat)]) (ok := fun n _ => n ≤ 63) (res := fun n _ v _ => ∃ fl, fl.length = n ∧ v = .str (fS fl)) (nS t - 1) ?_ hms (fun _ _ => by show nS t - 1 ≤ 63; omega) fun y H1 v H2 hy o1 o2 ex hv => ⟨F, [], o2, ?_⟩
  · show [V.ref b, .int ((nS t : Nat) - 1)] = _
    rw [show ((nS t : Nat) : Int) - 1 = ((nS t - 1 : Nat) : Int) by omega]
  obtain ⟨fl, hfl, rfl⟩ := hv
  have hfl : fl.length = nS t - 1 := hfl
  have hl : fl.length + 1 = nS t := by omega
  refine use_takeB (E := []) 6 (by rfl) hy (by decide) fun y r hy hr => ?_
  refine ⟨by show rngOk (1 + (r : Nat)); unfold rngOk; omega, fun D => ?_⟩
  refine ⟨fun i S => ∃ (y : Bx) (ns : List Nat), y.ms ≠ [] ∧ ns.length = i ∧ (∀ j ∈ ns, j < nS t) ∧ S = ⟨F, [(D, .lst (nV ns))] ++ boxG b m y⟩, ⟨y, [], hy, rfl, (fun _ z => nomatch z), rfl⟩, fun _ _ _ _ => trivial, ?_, ?_⟩
  · rintro i S hi ⟨y, ns, hy, hlen, hns, rfl⟩
    have hi : i < (1 + ((r : Nat) : Int)).toNat := hi
    refine yldR_go (nm_go ⟨rfl, ?_⟩)
    refine ⟨xs, .inl (.inr hpw), ?_⟩
    rw [lxs]
    refine use_takeB (E := [(D, .lst (nV ns))]) (nS t : Nat) (by rfl) hy (by omega) fun y q hy hq => ?_
    refine ⟨0, _, rfl, ?_, ⟨_, SLe.refl _, y, ns ++ [q], hy, by rw [List.length_append, hlen]; rfl, fun j hj => ?_, ?_⟩⟩
    · rw [nV_len, hlen]
      exact small_of (show i ≤ 64 by omega) (by decide)
    · rcases List.mem_append.mp hj with hj | hj
      · exact hns j hj
      · rw [List.mem_singleton.mp hj]
        omega
    · rw [nV_snoc]
      rfl
  rintro S ⟨y, ns, hy, hlen, hns, rfl⟩
  have hlen : ns.length = (1 + ((r : Nat) : Int)).toNat := hlen
  refine .inl ⟨nV ns, .inl ⟨0, rfl⟩, ?_⟩
  refine ⟨fun i σ S => ∃ (x6 x7 : Option V), σ = [some (.ref b), some tv, some (.ref pw), some (.str (fS fl)), some (.ref D), some (.str (pS (hitsL (fl.map cdB) ((ns.take i).map (wy t))))), x6, x7] ∧ S = ⟨F, [(D, .lst (nV ns))] ++ boxG b m y⟩, ⟨none, none, rfl, rfl⟩, ?_, ?_, ?_⟩
  · rintro i σ S _ ⟨x6, x7, rfl, rfl⟩
    exact .inl ⟨0, rfl⟩
  · rintro i σ S hi ⟨x6, x7, rfl, rfl⟩ v hv
    obtain ⟨n, hn, rfl⟩ := nV_get hv
    have hnt : n < nS t := hns n (List.mem_of_getElem? hn)
    obtain ⟨u, hu, hvw⟩ := way_at hxs hnt
    refine ⟨xs, _, .inl (.inr hpw), atI_at hu, ?_⟩
    have hlen2 : (hitsL (fl.map cdB) ((ns.take i).map (wy t))).length = fl.length := (hitsL_len _ _).trans (List.length_map _)
    refine use_hit (hitsL (fl.map cdB) ((ns.take i).map (wy t))) u (wy t n) (by rfl) hvw (fun s hs => by have := wy_small hnt s hs; omega) (by omega) ?_
    refine ⟨_, SLe.refl _, some (.int (n : Nat)), x7, ?_, rfl⟩
    rw [hits_more hn]
    rfl
  rintro σ S ⟨x6, x7, rfl, rfl⟩
  have en2 : (itL K D (nV ns)).n = ns.length := nV_len ns
  rw [en2, List.take_length]
  obtain ⟨en, hen, hle⟩ := hits_fl (ns.map (wy t)) fl
  have hl2 : en.length + 1 = nS t := by omega
  refine ⟨nV ns, .inl (.inl ⟨0, rfl⟩), fun pl => ?_⟩
  refine use_all tv t fl pl ns (by rfl) hT hl (.inl ⟨0, rfl⟩) hns ?_
  rw [hen]
  refine var_go (v := .str (pS (en.map cdB))) (by rfl) (ne_s (c := false) (decide_eq_true rfl) ?_)
  refine use_answers tv t (fl.map cdB) en (.ref pw) (by rfl) hT hW (by rw [List.length_map]; exact hl) hl2 (pat_fl fl) ?_
  have hfl1 : (fl.map cdB).length + 1 = nS t := by rw [List.length_map]; exact hl
  have hdue : ∀ i ∈ dueL (fl.map cdB) en t, i ∈ ns := comes_due hfl1 hns fun f hf => by
    rw [hen]
    exact en_at (by omega)
  refine use_needed tv t (fl.map cdB) en (by rfl) hT hfl1 hl2 (pat_fl fl) fun pn => ?_
  refine .inl ⟨nV (dueL (fl.map cdB) en t), .inl ⟨0, rfl⟩, ?_⟩
  refine ⟨fun i σ S => ∃ (x6 x7 : Option V), σ = [some (.ref b), some tv, some (.ref pw), some (.str (fS fl)), some (.ref D), some (.str (pS (en.map cdB))), x6, x7] ∧ S = ⟨F, [(pn, .lst (nV (dueL (fl.map cdB) en t))), (pl, .lst (nV ns)), (D, .lst (nV ns))] ++ boxG b m y⟩, ⟨x6, x7, rfl, rfl⟩, ?_, ?_, ?_⟩
  · rintro i σ S _ ⟨x6, x7, rfl, rfl⟩
    exact .inl ⟨0, rfl⟩
  · rintro i σ S hi ⟨x6, x7, rfl, rfl⟩ v hv
    obtain ⟨n, hn, rfl⟩ := nV_get hv
    refine ⟨nV ns, .inl (.inl ⟨2, rfl⟩), rfl, flat_nV ns, ?_⟩
    rw [in_nV, List.contains_iff_mem.mpr (hdue n (List.mem_of_getElem? hn))]
    exact ⟨_, SLe.refl _, _, _, rfl, rfl⟩
  · rintro σ S ⟨x6, x7, rfl, rfl⟩
    refine use_least tv t (fl.map cdB) en (by rfl) hT hfl1 hl2 (pat_fl fl) ?_
    refine ⟨nV ns, .inl (.inl ⟨2, rfl⟩), ?_⟩
    rw [nV_len]
    have hle3 : (dueL (fl.map cdB) en t).length ≤ ns.length := nodup_sub (due_nodup en (difF (fl.map cdB) en) t) hdue
    refine le_i (c := true) (decide_eq_true (by show (((dueL (fl.map cdB) en t).length : Nat) : Int) ≤ _; omega)) ?_
    intro H' o'
    subst eF
    exact end_box (E := [(pn, .lst (nV (dueL (fl.map cdB) en t))), (pl, .lst (nV ns)), (D, .lst (nV ns))]) o' hy fun H2 o2 => rfl
end
section
variable {K : PySem.W.Frag} {a : Ads}
open TR
/-! ### texts that can be laid -/
theorem ok_all {x : Str} : PyData.strOk x = true ↔ ∀ c ∈ x.cps.toList, c < 0x110000 := by
  unfold PyData.strOk
  rw [← Array.all_toList, List.all_eq_true]
  exact ⟨fun h c hc => of_decide_eq_true (h c hc), fun h c hc => decide_eq_true (h c hc)⟩
theorem ok_append {x y : Str} (hx : PyData.strOk x = true) (hy : PyData.strOk y = true) : PyData.strOk (x ++ y) = true := by
  rw [ok_all] at hx hy ⊢
  intro c hc
  have hc : c ∈ TL.tl (x ++ y) := hc
  rw [TL.tl_append] at hc
  rcases List.mem_append.mp hc with hc | hc
  · exact hx c hc
  · exact hy c hc
theorem ok_string (s : String) : PyData.strOk (Str.ofString s) = true := by
  rw [ok_all, Str.ofString_eq_toList]
  intro c hc
  obtain ⟨ch, _, rfl⟩ := List.mem_map.mp (show c ∈ s.toList.map Char.toNat from hc)
  have := ch.valid
  unfold UInt32.isValidChar Nat.isValidChar at this
  show ch.val.toNat < 1114112
  omega
theorem fold_repr (q : Nat) : ∀ (l : List Nat) (acc : Array Nat), (l.foldl (fun out c => out ++ (Builtin.Str.reprChar q c).toArray) acc).toList = acc.toList ++ l.flatMap (Builtin.Str.reprChar q)
  | [], acc => by
    rw [List.foldl_nil, List.flatMap_nil, List.append_nil]
  | c :: l, acc => by
    rw [List.foldl_cons, fold_repr q l, Array.toList_append, List.flatMap_cons, List.append_assoc]
theorem repr_list (x : Str) : (reprText x).cps.toList = reprQuote x :: (x.cps.toList.flatMap (Builtin.Str.reprChar (reprQuote x)) ++ [reprQuote x]) := by
  unfold reprText
  show ((x.cps.foldl (fun out c => out ++ (Builtin.Str.reprChar (reprQuote x) c).toArray) #[reprQuote x]).push (reprQuote x)).toList = _
  rw [Array.toList_push, ← Array.foldl_toList, fold_repr]
  rfl
theorem quote_is (x : Str) : reprQuote x = 34 ∨ reprQuote x = 39 := by
  unfold reprQuote
  split
  · exact .inl rfl
  · exact .inr rfl
theorem sign_repr : ∀ q ∈ [34, 39], ∀ c ∈ [76, 82, 63, 46, 108, 120, 33], (Builtin.Str.reprChar q c).length ≤ 1 ∧ (Builtin.Str.reprChar q c).all (fun c => decide (c < 1114112)) = true := by decide +kernel
theorem flat_bound {f : Nat → List Nat} : ∀ l : List Nat, (∀ c ∈ l, (f c).length ≤ 1) → (l.flatMap f).length ≤ l.length
  | [], _ => Nat.le_refl 0
  | c :: l, h => by
    rw [List.flatMap_cons, List.length_append, List.length_cons]
    have h1 := h c (.head _)
    have h2 := flat_bound l fun d hd => h d (.tail _ hd)
    omega
theorem repr_signs {u : Str} (h : sgnOk u) : (reprText u).length ≤ 102 ∧ PyData.strOk (reprText u) = true := by
  have hq : reprQuote u ∈ [34, 39] := by
    rcases quote_is u with e | e
    · rw [e]
      exact .head _
    · rw [e]
      exact .tail _ (.head _)
  have hs := sign_repr (reprQuote u) hq
  constructor
  · rw [TL.len_tl]
    show (reprText u).cps.toList.length ≤ 102
    rw [repr_list, List.length_cons, List.length_append, List.length_singleton]
    have h1 := h.1
    have h2 := flat_bound u.cps.toList fun c hc => (hs c (h.2 c hc)).1
    omega
  · rw [ok_all, repr_list]
    intro c hc
    have q0 : reprQuote u < 0x110000 := by
      rcases quote_is u with e | e
      · rw [e]
        decide
      · rw [e]
        decide
    cases hc with
    | head => exact q0
    | tail _ hc =>
      rcases List.mem_append.mp hc with hc | hc
      · obtain ⟨d, hd, hc⟩ := List.mem_flatMap.mp hc
        exact of_decide_eq_true (List.all_eq_true.mp (hs d (h.2 d hd)).2 c hc)
      · rw [List.mem_singleton.mp hc]
        exact q0
theorem ok_from : ∀ (ts : List Str) (k : Nat) (acc : Str), PyData.strOk acc = true → (∀ t ∈ ts, PyData.strOk t = true) → PyData.strOk (textFrom k acc ts) = true
  | [], _, _, h, _ => h
  | t :: r, k, acc, h, ht => by
    show PyData.strOk (textFrom (k + 1) (acc ++ (if k > 0 then ", " else "" : String) ++ t) r) = true
    exact ok_from r (k + 1) _ (ok_append (ok_append h (ok_string _)) (ht t (.head _))) fun u hu => ht u (.tail _ hu)
theorem shown_strs : ∀ us : List Str, PyData.shownAll (us.map PyData.str) = us.map reprText
  | [] => rfl
  | u :: us => congrArg (reprText u :: ·) (shown_strs us)
theorem strs_show : ∀ us : List Str, PyData.showableAll (us.map PyData.str) = true
  | [] => rfl
  | u :: us => strs_show us
theorem strs_dict : ∀ us : List Str, PyData.hasDictAll (us.map PyData.str) = false
  | [] => rfl
  | u :: us => strs_dict us
theorem strs_deep : ∀ us : List Str, PyData.depthAll (us.map PyData.str) = 0
  | [] => rfl
  | u :: us => by
    show max (PyData.depth (.str u)) (PyData.depthAll (us.map PyData.str)) = 0
    rw [strs_deep us]
    rfl
theorem dp_strs (H : Hp) : ∀ us : List Str, DpAll K H (us.map V.str) (us.map PyData.str)
  | [] => .nil
  | u :: us => .cons (.str u) (dp_strs H us)
/-- bad flags, seen in a heap: a kind, and what repr tells of them -/
def BadV (K : PySem.W.Frag) (H : Hp) (v : V) : Prop := ∃ t z, Ty0 K H v t ∧ RprV K H v z ∧ PyData.strOk z = true
theorem one_repr (u : Str) (h : ∃ c ∈ [76, 82, 63], u = pS [c]) : (reprText u).length = 3 ∧ PyData.strOk (reprText u) = true := by
  obtain ⟨c, hc, rfl⟩ := h
  simp only [List.mem_cons, List.not_mem_nil, or_false] at hc
  rcases hc with rfl | rfl | rfl
  · decide +kernel
  · decide +kernel
  · decide +kernel
theorem sum_three : ∀ us : List Str, (∀ u ∈ us, (reprText u).length = 3) → ((us.map reprText).map (·.length)).sum = 3 * us.length
  | [], _ => rfl
  | u :: us, h => by
    show (reprText u).length + ((us.map reprText).map (·.length)).sum = 3 * (us.length + 1)
    rw [h u (.head _), sum_three us fun x hx => h x (.tail _ hx)]
    omega
theorem list_rpr {H : Hp} {p : Addr} {us : List Str} (hp : H p = some (.lst (us.map V.str))) (hl : us.length ≤ 100) (hu : ∀ u ∈ us, ∃ c ∈ [76, 82, 63], u = pS [c]) : RprV K H (.ref p) (PyData.shown (.list (us.map PyData.str))) ∧ PyData.strOk (PyData.shown (.list (us.map PyData.str))) = true := by
  have es : PyData.shown (.list (us.map PyData.str)) = listText (us.map reprText) := by
    show listText (PyData.shownAll (us.map PyData.str)) = _
    rw [shown_strs]
  constructor
  · refine ⟨_, .lst (.inl (.inl hp)) (dp_strs H us), strs_show us, strs_dict us, ?_, ?_, rfl⟩
    · show PyData.depthAll (us.map PyData.str) + 1 ≤ 60
      rw [strs_deep]
      decide
    · rw [es]
      have h1 := listText_len_le (us.map reprText)
      rw [sum_three us fun u h => (one_repr u (hu u h)).1, List.length_map] at h1
      exact Nat.le_trans (show _ ≤ 1000 by omega) (by decide)
  · rw [es]
    unfold listText
    refine ok_append (ok_from _ _ _ (ok_string "[") fun t ht => ?_) (ok_string "]")
    obtain ⟨u, h, rfl⟩ := List.mem_map.mp ht
    exact (one_repr u (hu u h)).2
/-- the pair that the law compares -/
theorem pair_shaped {x z : Str} (hx : PyData.strOk x = true) (hz : PyData.strOk z = true) : SeqAt.shaped (.tuple [.str x, .str z]) = true := by
  have h : PyData.canLay0 (.tuple [.str x, .str z]) = (PyData.strOk x && (PyData.strOk z && true)) := rfl
  unfold SeqAt.shaped
  rw [h, hx, hz]
  rfl
theorem pair_eqv {x z : Str} (hx : PyData.strOk x = true) (hz : PyData.strOk z = true) : PyData.eqv (.tuple [.str x, .str z]) (.tuple [.str x, .str z]) = true :=
  SeqAt.eqv_refl _ (by
    have h : PyData.canLay0 (.tuple [.str x, .str z]) = (PyData.strOk x && (PyData.strOk z && true)) := rfl
    rw [h, hx, hz]
    rfl)
/-- what the top says of the error -/
structure Kit (K : PySem.W.Frag) (a : Ads) : Prop where
  ef : ExcC K a.InvalidFlags
  ff : PySem.W.exmOne K (.ref a.InvalidFlags) (.ref a.InvalidFlags) = some true
  fs : PySem.W.kitOne K (.ref a.InvalidFlags) (.ref a.InvalidSlot) = some false
  fc : PySem.W.kitOne K (.ref a.InvalidFlags) (.ref a.CacheError) = some true
  fv : PySem.W.kitOne K (.ref a.InvalidFlags) (.type "ValueError") = some true
theorem rpr_ext {H H' : Hp} {x : V} {z : Str} (h : RprV K H x z) (e : Ext H H') : RprV K H' x z := by
  unfold RprV at h ⊢
  split at h
  · exact h
  · exact h
  · exact h
  · exact h
  · obtain ⟨d, h1, h2⟩ := h
    exact ⟨d, dp_ext e d _ h1, h2⟩
  · exact h.elim
def sufF (K : PySem.W.Frag) (a : Ads) (ea : Addr) (cls : Value) (ed : Option Addr) : sS := sSeq (sIfS (sOr (sTru K (sCall1 (nIsY K ea cls ed) (sCons (sVar 4) (sCons (sC (.ref a.InvalidSlot)) (sNil))))) (sOr (sNot (sTru K (sCall1 (nIsY K ea cls ed) (sCons (sVar 4) (sCons (sC (.ref a.CacheError)) (sNil)))))) (sNot (sTru K (sCall1 (nIsY K ea cls ed) (sCons (sVar 4) (sCons (sC (.ty "ValueError")) (sNil)))))))) (sRet (sTup (sCons (sC (.str ("a class of another family" : Str))) (sCons (sC (.str ("" : Str))) (sNil))))) (sNext)) (sRet (sTup (sCons (sC (.str ("InvalidFlags" : Str))) (sCons (sCall1 (nRepr K) (sCons (sXf ea cls ed a.InvalidFlags ("flags" : Str) (sVar 4)) (sNil))) (sNil)))))
theorem suiteF (T : Kit K a) {D : sEnds} {S : SH} {ea dd : Addr} {fv : V} {z : Str} {x0 x1 x2 x3 : Option V} (hz : ∀ H, Own (S.new dd (.xd [("flags", fv)])) H → RprV K H fv z)
    (k : ∀ q, D.rt (.ref q) ((S.new dd (.xd [("flags", fv)])).new q (.tup [.str "InvalidFlags", .str z]))) : sufF K a ea (.ref a.InvalidFlags) (some dd) D [x0, x1, x2, x3, some (.ref ea)] (S.new dd (.xd [("flags", fv)])) := by
  refine ⟨rfl, _, dd, _, false, _, rfl, rfl, T.ef, .inl ⟨0, rfl⟩, fun u r => r, T.fs, ?_⟩
  refine ⟨rfl, _, dd, _, true, _, rfl, rfl, T.ef, .inl ⟨0, rfl⟩, fun u r => r, T.fc, ?_⟩
  refine ⟨rfl, _, dd, _, true, _, rfl, rfl, T.ef, .inl ⟨0, rfl⟩, fun u r => r, T.fv, ?_⟩
  refine ⟨rfl, rfl, dd, _, fv, rfl, .inl ⟨0, rfl⟩, by simp [List.lookup], ?_⟩
  refine ⟨z, hz, ?_⟩
  exact ⟨show 2 ≤ sizeLine by decide, fun q => k q⟩
theorem vc_l_fault (T : Kit K a) {vs : List V} {H : Hp} (g : FaultG) (h : (ct_l_fault K a).pre g vs H) : ∃ S, Own S H ∧ r_l_fault K a (endsC (ct_l_fault K a) g H) (start N_l_fault vs) S := by
  obtain ⟨door, tv, b, sv, s1, ev, e1, z⟩ := g
  obtain ⟨e0, hT0, hst0, hss0, het0, hes0, hcase0⟩ := h
  have e0 : vs = [.int door, tv, sv, ev] := e0
  subst e0
  have hT : TreeAt K a H tv b := hT0
  have hst : Ty0 K H sv s1 := hst0
  have hss : strOk sv := hss0
  have het : Ty0 K H ev e1 := het0
  have hes : strOk ev := hes0
  have hcase : if flOk true b sv then flOk false b ev = false ∧ RprV K H ev z else RprV K H sv z := hcase0
  clear hT0 hst0 hss0 het0 hes0 hcase0
  refine ⟨⟨H, []⟩, Own.base H, ?_⟩
  refine ⟨fun _ _ => False, ?_, fun _ _ z => z.elim⟩
  have fin : ∀ {f : Str} {x : V} {d q : Addr} (H' : Hp), Own (((SH.mk H []).new d (.xd [(f, x)])).new q (.tup [.str "InvalidFlags", .str z])) H' → (ct_l_fault K a).post ⟨door, tv, b, sv, s1, ev, e1, z⟩ H (.ref q) H' := fun {f x d q} H' o' => by
    have m := o'.gs (q, .tup [.str "InvalidFlags", .str z]) (.head _)
    exact ⟨⟨q, rfl, m.2, m.1⟩, fun c u e => o'.fr c u e⟩
  -- the exception of a door
  have door2 : ∀ (D : sEnds), D.rt = (endsC (ct_l_fault K a) ⟨door, tv, b, sv, s1, ev, e1, z⟩ H).rt → ∀ (res : List Nat → List Bool → TR → Hp → V → Hp → Prop) (H1 : Hp) (c : Value) (d : Option Addr) (H' : Hp) (x0 x1 x2 x3 x4 : Option V), Own ⟨H, []⟩ H1 → (ct_door K a res).exn (tv, b, sv, s1, ev, e1) H1 c d H' →
      ∃ S', Own S' H' ∧ ∃ bb, PySem.W.exmOne K c (.ref a.InvalidFlags) = some bb ∧ (bb = true → ∀ ea, sufF K a ea c d { nx := fun σ2 S2 => D.nx (σ2.set 4 none) S2, rt := D.rt, bk := fun σ2 S2 => D.bk (σ2.set 4 none) S2, ct := fun σ2 S2 => D.ct (σ2.set 4 none) S2, ex := noW } (List.set [x0, x1, x2, x3, x4] 4 (some (.ref ea))) S') ∧ (bb = false → D.ex c d [x0, x1, x2, x3, x4] S') := by
    intro D eD res H1 c d H' x0 x1 x2 x3 x4 o q
    obtain ⟨rfl, dd, rfl, q1, q2, q3⟩ := q
    rcases q3 with ⟨hf, q3⟩ | ⟨hf, hg, q3⟩
    · have hf : flOk true b sv = false := hf
      rw [hf] at hcase
      refine ⟨_, o.new q1 q2 q3, true, T.ff, fun _ ea => ?_, fun y => nomatch y⟩
      refine suiteF T (z := z) (fun H' o' => rpr_ext hcase (own_F o')) fun q => ?_
      rw [eD]
      exact fin
    · have hf : flOk true b sv = true := hf
      rw [hf] at hcase
      refine ⟨_, o.new q1 q2 q3, true, T.ff, fun _ ea => ?_, fun y => nomatch y⟩
      refine suiteF T (z := z) (fun H' o' => rpr_ext hcase.2 (own_F o')) fun q => ?_
      rw [eD]
      exact fin
  have nope : ∀ {P : Prop}, flOk true b sv = true → flOk false b ev = true → P := fun h1 h2 => by
    rw [h1] at hcase
    have := hcase.1
    rw [h2] at this
    cases this
  walk_at "b"
  · refine ⟨(tv, b, sv, s1, ev, e1), fun H1 o => ⟨rfl, hT.ext (own_F o), hst.ex (own_F o), hss, het.ex (own_F o), hes⟩, fun H1 v H' o q => nope q.1 q.2.1, fun H1 c d H' o q => ?_⟩
    exact door2 _ rfl _ _ _ _ _ _ _ _ _ _ o q
  · refine ⟨(tv, b, sv, s1, ev, e1), fun H1 o => ⟨rfl, hT.ext (own_F o), hst.ex (own_F o), hss, het.ex (own_F o), hes⟩, fun H1 v H' o q => nope q.1 q.2.1, fun H1 c d H' o q => ?_⟩
    exact door2 _ rfl _ _ _ _ _ _ _ _ _ _ o q
/-- a call of the fault door -/
theorem use_fault {W : sWX} {σ : L2.St} {F : Hp} {G : List (Addr × HO)} {Q : V → SH → Prop} {vs : List V} (g : FaultG) (e : vs = [.int g.door, g.tv, g.sv, g.ev]) (hT : TreeAt K a F g.tv g.b) (hs : ∀ H, Own ⟨F, G⟩ H → Ty0 K H g.sv g.st) (hss : strOk g.sv) (he : ∀ H, Own ⟨F, G⟩ H → Ty0 K H g.ev g.et) (hes : strOk g.ev)
    (hc : ∀ H, Own ⟨F, G⟩ H → if flOk true g.b g.sv then flOk false g.b g.ev = false ∧ RprV K H g.ev g.z else RprV K H g.sv g.z)
    (k : ∀ p, Q (.ref p) ⟨F, (p, .tup [.str "InvalidFlags", .str g.z]) :: G⟩) : rC (ct_l_fault K a) W vs σ ⟨F, G⟩ Q := by
  refine ⟨g, fun H o => ⟨e, hT.ext (own_F o), hs H o, hss, he H o, hes, hc H o⟩, fun H v H' o q => ?_, fun _ _ _ _ _ q => q.elim⟩
  obtain ⟨⟨p, rfl, q1, q2⟩, q3⟩ := q
  exact ⟨_, o.new q1 q3 q2, k p⟩
theorem use_pair {F : Hp} {G : List (Addr × HO)} {p q : Addr} {x z : Str} {Q : V → SH → Prop} (hx : PyData.strOk x = true) (hz : PyData.strOk z = true) (hp : sU K ⟨F, G⟩ p [.str x, .str z]) (hq : sU K ⟨F, G⟩ q [.str x, .str z]) (k : Q (.bl false) ⟨F, G⟩) : oNe K (.ref p) (.ref q) ⟨F, G⟩ Q := by
  refine ⟨.tuple [.str x, .str z], .tuple [.str x, .str z], fun H o => .tup (o.u hp) (.cons (.str _) (.cons (.str _) .nil)), fun H o => .tup (o.u hq) (.cons (.str _) (.cons (.str _) .nil)), pair_shaped hx hz, pair_shaped hx hz, ?_⟩
  rw [pair_eqv hx hz]
  exact k
end
/-! ### the law: its later rows -/
def r_lawU (K : PySem.W.Frag) (a : Ads) : sS := sSeq (sFor (siR1 (sCons (sC (.int 2)) (sNil))) (sgName 11) (sSeq (sIfS (sTst (sOp (oNe K) (sCallD (q_l_fault K a) [] (sCons (sVar 11) (sCons (sVar 7) (sCons (sVar 9) (sCons (sVar 5) (sNil)))))) (sTup (sCons (sC (.str ("InvalidFlags" : Str))) (sCons (sCall1 (nRepr K) (sCons (sVar 9) (sNil))) (sNil)))))) (sRet (sC (.bl false))) (sNext)) (sSeq (sIfS (sTst (sOp (oNe K) (sCallD (q_l_fault K a) [] (sCons (sVar 11) (sCons (sVar 7) (sCons (sVar 6) (sCons (sVar 10) (sNil)))))) (sTup (sCons (sC (.str ("InvalidFlags" : Str))) (sCons (sCall1 (nRepr K) (sCons (sVar 10) (sNil))) (sNil)))))) (sRet (sC (.bl false))) (sNext)) (sIfS (sTst (sOp (oNe K) (sCallD (q_l_fault K a) [] (sCons (sVar 11) (sCons (sVar 7) (sCons (sVar 9) (sCons (sVar 10) (sNil)))))) (sTup (sCons (sC (.str ("InvalidFlags" : Str))) (sCons (sCall1 (nRepr K) (sCons (sVar 9) (sNil))) (sNil)))))) (sRet (sC (.bl false))) (sNext))))) (sRet (sOp (oEq K) (sFldO a.Tree ("text" : Str) (sVar 7)) (sVar 3)))
def r_lawT (K : PySem.W.Frag) (a : Ads) : sS := sSeq (sSet (sMakO a.Tree (q_Tree_init K a) (sCons (sVar 3) (sNil))) 7) (sSeq (sFor (siSeq K (sLst (sCons (sVar 6) (sCons (sOp oMulS (sC (.str ("?" : Str))) (sOp oSub (sVar 2) (sC (.int 1)))) (sNil))))) (sgName 8) (sIfS (sNot (sTru K (sCallD (q_l_answers K a) [] (sCons (sVar 7) (sCons (sVar 8) (sCons (sVar 5) (sCons (sVar 4) (sNil)))))))) (sRet (sC (.bl false))) (sNext))) (sSeq (sIfS (sOr (sNot (sTru K (sCallD (q_l_plays K a) [] (sCons (sVar 1) (sCons (sVar 7) (sCons (sVar 6) (sCons (sVar 5) (sCons (sVar 4) (sNil))))))))) (sNot (sTru K (sCallD (q_l_comes K a) [] (sCons (sVar 1) (sCons (sVar 7) (sCons (sVar 4) (sNil)))))))) (sRet (sC (.bl false))) (sNext)) (sSeq (sSet (sCallD (q_l_bent K a) [] (sCons (sVar 1) (sCons (sVar 6) (sCons (sC (.str ("!.lx" : Str))) (sNil))))) 9) (sSeq (sSet (sCallD (q_l_bent K a) [] (sCons (sVar 1) (sCons (sVar 5) (sCons (sC (.str ("?.lx" : Str))) (sNil))))) 10) (r_lawU K a)))))
section
variable {K : PySem.W.Frag} {a : Ads}
open TR
theorem mul_q : ∀ n ∈ List.range 64, MulOk "?" (n : Nat) ∧ Txt.mul "?" (n : Nat) = pS (List.replicate n 63) := by
  unfold MulOk
  decide +kernel
theorem bad_open {q : Bool} {n : Nat} {F H1 H2 : Hp} {E : List (Addr × HO)} {v : V} {b : TR} (hv : BadF q n H1 v H2) (hn : n + 1 = nS b) (o1 : Own ⟨F, E⟩ H1) (ex : Ext H1 H2) :
    ∃ (E' : List (Addr × HO)) (t : TY) (z : Str), Own ⟨F, E' ++ E⟩ H2 ∧ (∀ H, Own ⟨F, E' ++ E⟩ H → Ty0 K H v t ∧ RprV K H v z) ∧ PyData.strOk z = true ∧ strOk v ∧ flOk q b v = false := by
  rcases hv with ⟨u, rfl, h1, h2⟩ | rfl | ⟨p, us, rfl, h1, h2, h3, h4⟩
  · obtain ⟨r1, r2⟩ := repr_signs h1
    refine ⟨[], .str, reprText u, o1.ex ex, fun H o => ⟨rfl, Nat.le_trans r1 (by decide), rfl⟩, r2, h1, ?_⟩
    show (madeL q u && decide (u.cps.toList.length + 1 = nS b)) = false
    rw [← h2, ← hn]
    congr 1
    exact decide_eq_decide.mpr (by omega)
  · exact ⟨[], .non, "None", o1.ex ex, fun H o => ⟨rfl, rfl⟩, ok_string _, trivial, rfl⟩
  · have hr : ∀ H, H p = some (.lst (us.map V.str)) → RprV K H (.ref p) (PyData.shown (.list (us.map PyData.str))) ∧ PyData.strOk (PyData.shown (.list (us.map PyData.str))) = true := fun H hp => list_rpr hp h3 h4
    refine ⟨[(p, .lst (us.map V.str))], .list, PyData.shown (.list (us.map PyData.str)), o1.new h1 ex h2, fun H o => ⟨?_, ?_⟩, (hr H2 h2).2, trivial, rfl⟩
    · exact .inl ⟨rfl, _, .inr (.inl (.inl (o.gs (p, .lst (us.map V.str)) (.head _)).1))⟩
    · exact (hr H (o.gs (p, .lst (us.map V.str)) (.head _)).1).1
theorem walk_lawU {D : sEnds} {F : Hp} {G : List (Addr × HO)} {tv : V} {bt : TR} {st : List Nat} {en : List Bool} {v1 v2 : V} {t1 t2 : TY} {z1 z2 : Str} {x0 x1 x2 x4 x8 x11 : Option V} (hT : TreeAt K a F tv bt) (hst : st.length + 1 = nS bt) (hp : patOk st) (hl : en.length + 1 = nS bt)
    (b1 : flOk true bt v1 = false) (s1 : strOk v1) (h1 : ∀ H, Own ⟨F, G⟩ H → Ty0 K H v1 t1 ∧ RprV K H v1 z1) (k1 : PyData.strOk z1 = true)
    (b2 : flOk false bt v2 = false) (s2 : strOk v2) (h2 : ∀ H, Own ⟨F, G⟩ H → Ty0 K H v2 t2 ∧ RprV K H v2 z2) (k2 : PyData.strOk z2 = true) (k : ∀ S, D.rt (.bl true) S) :
    r_lawU K a D [x0, x1, x2, some (.str (tS bt)), x4, some (.str (fS en)), some (.str (pS st)), some tv, x8, some v1, some v2, x11] ⟨F, G⟩ := by
  have hsm : nS bt ≤ 64 := hT.sm
  refine ⟨⟨by decide, by decide⟩, ?_⟩
  refine ⟨fun i σ S => ∃ (A : List (Addr × HO)) (x11 : Option V), σ = [x0, x1, x2, some (.str (tS bt)), x4, some (.str (fS en)), some (.str (pS st)), some tv, x8, some v1, some v2, x11] ∧ S = ⟨F, A ++ G⟩, ⟨[], x11, rfl, rfl⟩, fun _ _ _ _ _ => trivial, ?_, ?_⟩
  · rintro i σ S hi ⟨A, x11, rfl, rfl⟩
    refine yldR_go (nm_go ?_)
    have sub : ∀ {A : List (Addr × HO)} {H : Hp}, Own ⟨F, A ++ G⟩ H → Own ⟨F, G⟩ H := fun {A H} o => sle_sub (List.sublist_append_right A G) H o
    refine use_fault ⟨0 + (i : Nat), tv, bt, v1, t1, .str (fS en), .str, z1⟩ (by rfl) hT (fun H o => (h1 H (sub o)).1) s1 (fun H o => rfl) (fS_sgn (by omega)) (fun H o => ?_) fun p => ?_
    · show if flOk true bt v1 then _ else RprV K H v1 z1
      rw [b1]
      exact (h1 H (sub o)).2
    refine ⟨z1, fun H o => (h1 H (sub (A := _ :: A) o)).2, ?_⟩
    refine ⟨show 2 ≤ sizeLine by decide, fun q => ?_⟩
    refine use_pair (x := "InvalidFlags") (z := z1) (ok_string _) k1 (.inl ⟨1, rfl⟩) (.inl ⟨0, rfl⟩) ?_
    refine use_fault (G := (q, .tup [.str "InvalidFlags", .str z1]) :: (p, .tup [.str "InvalidFlags", .str z1]) :: (A ++ G)) ⟨0 + (i : Nat), tv, bt, .str (pS st), .str, v2, t2, z2⟩ (by rfl) hT (fun H o => rfl) (pS_sgn (by omega) hp) (fun H o => (h2 H (sub (A := _ :: _ :: A) o)).1) s2 (fun H o => ?_) fun p2 => ?_
    · show if flOk true bt (.str (pS st)) then flOk false bt v2 = false ∧ RprV K H v2 z2 else _
      rw [flOk_pat hst hp]
      exact ⟨b2, (h2 H (sub (A := _ :: _ :: A) o)).2⟩
    refine ⟨z2, fun H o => (h2 H (sub (A := _ :: _ :: _ :: A) o)).2, ?_⟩
    refine ⟨show 2 ≤ sizeLine by decide, fun q2 => ?_⟩
    refine use_pair (x := "InvalidFlags") (z := z2) (ok_string _) k2 (.inl ⟨1, rfl⟩) (.inl ⟨0, rfl⟩) ?_
    refine use_fault (G := (q2, .tup [.str "InvalidFlags", .str z2]) :: (p2, .tup [.str "InvalidFlags", .str z2]) :: (q, .tup [.str "InvalidFlags", .str z1]) :: (p, .tup [.str "InvalidFlags", .str z1]) :: (A ++ G)) ⟨0 + (i : Nat), tv, bt, v1, t1, v2, t2, z1⟩ (by rfl) hT (fun H o => (h1 H (sub (A := _ :: _ :: _ :: _ :: A) o)).1) s1 (fun H o => (h2 H (sub (A := _ :: _ :: _ :: _ :: A) o)).1) s2 (fun H o => ?_) fun p3 => ?_
    · show if flOk true bt v1 then _ else RprV K H v1 z1
      rw [b1]
      exact (h1 H (sub (A := _ :: _ :: _ :: _ :: A) o)).2
    refine ⟨z1, fun H o => (h1 H (sub (A := _ :: _ :: _ :: _ :: _ :: A) o)).2, ?_⟩
    refine ⟨show 2 ≤ sizeLine by decide, fun q3 => ?_⟩
    refine use_pair (x := "InvalidFlags") (z := z1) (ok_string _) k1 (.inl ⟨1, rfl⟩) (.inl ⟨0, rfl⟩) ?_
    exact ⟨_, SLe.refl _, _ :: _ :: _ :: _ :: _ :: _ :: A, _, rfl, rfl⟩
  · rintro σ S ⟨A, x11, rfl, rfl⟩
    obtain ⟨⟨p, dx, fs, w, sp, rfl, h2, h3, h4, h5, h6, h7⟩, h9⟩ := hT
    refine ⟨dx, fs, _, .inr h2, h3, ?_⟩
    have ee : decide (V.str (tS bt) = V.str (tS bt)) = true := decide_eq_true rfl
    show D.rt (V.bl (decide (V.str (tS bt) = V.str (tS bt)))) _
    rw [ee]
    exact k _
theorem use_plays {W : sWX} {vs : List V} {σ : L2.St} {F : Hp} {E : List (Addr × HO)} {b m : Addr} {x : Bx} {Q : V → SH → Prop} (tv : V) (t : TR) (st : List Nat) (en : List Bool) (wv : V) (e : vs = [.ref b, tv, .str (pS st), .str (fS en), wv]) (hx : x.ms ≠ []) (hT : TreeAt K a F tv t) (hw : lwsR K F wv t) (h1 : st.length + 1 = nS t) (h2 : en.length + 1 = nS t) (hp : patOk st)
    (k : ∀ (y : Bx), y.ms ≠ [] → Q (.bl true) ⟨F, E ++ boxG b m y⟩) : rC (ct_l_plays K a) W vs σ ⟨F, E ++ boxG b m x⟩ Q := by
  refine use_box (tv, t, st, en, wv) e hx (fun H o => ⟨hT.ext (own_F o), hw.ext (own_F o), h1, h2, hp⟩) fun y H1 v H2 hy o1 o2 ex hres => ?_
  have hres : v = .bl true := hres
  exact ⟨F, E, o2, by rw [hres]; exact k y hy⟩
theorem use_comes {W : sWX} {vs : List V} {σ : L2.St} {F : Hp} {E : List (Addr × HO)} {b m : Addr} {x : Bx} {Q : V → SH → Prop} (tv : V) (t : TR) (wv : V) (e : vs = [.ref b, tv, wv]) (hx : x.ms ≠ []) (hT : TreeAt K a F tv t) (hw : lwsR K F wv t)
    (k : ∀ (y : Bx), y.ms ≠ [] → Q (.bl true) ⟨F, E ++ boxG b m y⟩) : rC (ct_l_comes K a) W vs σ ⟨F, E ++ boxG b m x⟩ Q := by
  refine use_box (tv, t, wv) e hx (fun H o => ⟨hT.ext (own_F o), hw.ext (own_F o)⟩) fun y H1 v H2 hy o1 o2 ex hres => ?_
  have hres : v = .bl true := hres
  exact ⟨F, E, o2, by rw [hres]; exact k y hy⟩
theorem use_bent {W : sWX} {vs : List V} {σ : L2.St} {F : Hp} {E : List (Addr × HO)} {b m : Addr} {x : Bx} {Q : V → SH → Prop} (st : List Nat) (q : Bool) (t : TR) (e : vs = [.ref b, .str (pS st), .str (if q then "!.lx" else "?.lx")]) (hx : x.ms ≠ []) (hst : st.length + 1 = nS t) (hsm : nS t ≤ 64) (hp : patOk st)
    (k : ∀ (y : Bx) (v : V) (E' : List (Addr × HO)) (ty : TY) (z : Str), y.ms ≠ [] → (∀ H, Own ⟨F, E' ++ E⟩ H → Ty0 K H v ty ∧ RprV K H v z) → PyData.strOk z = true → strOk v → flOk q t v = false → Q v ⟨F, (E' ++ E) ++ boxG b m y⟩) : rC ct_l_bent W vs σ ⟨F, E ++ boxG b m x⟩ Q := by
  refine use_box (st, q) e hx (fun H o => ⟨by show st.length ≤ 63; omega, hp⟩) fun y H1 v H2 hy o1 o2 ex hres => ?_
  obtain ⟨E', ty, z, o3, h1, h2, h3, h4⟩ := bad_open (K := K) (show BadF q st.length H1 v H2 from hres) hst o1 ex
  exact ⟨F, E' ++ E, o3, k y v E' ty z hy h1 h2 h3 h4⟩
theorem walk_lawT {D : sEnds} {F : Hp} {b m : Addr} {y : Bx} {wv : V} {bt : TR} {st : List Nat} {en : List Bool} {n : Nat} {x0 x7 x8 x9 x10 x11 : Option V} (hy : y.ms ≠ []) (hn : nS bt = n) (hsm : n ≤ 64) (hst : st.length + 1 = n) (hp : patOk st) (hl : en.length + 1 = n) (hw : lwsR K F wv bt) (k : ∀ S, D.rt (.bl true) S) :
    r_lawT K a D [x0, some (.ref b), some (.int (n : Nat)), some (.str (tS bt)), some wv, some (.str (fS en)), some (.str (pS st)), x7, x8, x9, x10, x11] ⟨F, boxG b m y⟩ := by
  refine fun x dx => ?_
  refine ⟨(x, dx, bt), fun H1 o => ⟨rfl, (o.gs _ (.head _)).1, by show nS bt ≤ 64; omega⟩, fun H1 v H' o q => ?_, fun _ _ _ _ _ q => q.elim⟩
  obtain ⟨q1, q2, q3⟩ := q
  have o1 : Own ⟨F, boxG b m y⟩ (without H1 x) := by
    have nd : (x :: dx :: (boxG b m y).map (·.1)).Nodup := o.nd
    have nx : ∀ q ∈ boxG b m y, q.1 ≠ x := fun q hq e => (List.nodup_cons.mp nd).1 (.tail _ (by rw [← e]; exact List.mem_map.mpr ⟨q, hq, rfl⟩))
    have fx : F x = none := (o.gs (x, .ins a.Tree dx []) (.head _)).2
    refine ⟨fun c u e => ?_, fun q hq => ?_, (List.nodup_cons.mp (List.nodup_cons.mp nd).2).2⟩
    · have ne : c ≠ x := fun z => by
        have e : F c = some u := e
        rw [z, fx] at e
        cases e
      rw [without_ne ne]
      exact o.fr c u e
    · rw [without_ne (nx q hq)]
      exact o.gs q (.tail _ (.tail _ hq))
  have e1 : Ext (without H1 x) H' := fun c u e => by
    have ne : c ≠ x := fun z => by
      rw [z, without_same] at e
      cases e
    rw [without_ne ne] at e
    exact q3 c u ne e
  obtain ⟨o2, e2, k2⟩ := own_hid o1 e1 (box_lists b m y)
  refine ⟨_, o2, q1, ?_⟩
  generalize hid (boxG b m y) H' = F2 at o2 e2 k2
  have hT : TreeAt K a F2 (.ref x) bt := TreeAt.low q2 k2
  have hw2 := hw.ext e2
  clear o1 o2 o q3 e1 k2 q2
  have hst2 : st.length + 1 = nS bt := by omega
  have hl2 : en.length + 1 = nS bt := by omega
  obtain ⟨m1, m2⟩ := mul_q (n - 1) (List.mem_range.mpr (by omega))
  have em : Txt.mul "?" ((n : Int) - 1) = pS (List.replicate (n - 1) 63) := by
    rw [← m2]
    congr 1
    omega
  refine ⟨?_, ?_⟩
  · show MulOk "?" ((n : Int) - 1)
    rw [show ((n : Int) - 1) = ((n - 1 : Nat) : Int) by omega]
    exact m1
  rw [em]
  refine ⟨show 2 ≤ sizeLine by decide, fun lp => ?_⟩
  refine .inl ⟨[.str (pS st), .str (pS (List.replicate (n - 1) 63))], .inl ⟨0, rfl⟩, ?_⟩
  refine ⟨fun i σ S => ∃ (x8 : Option V), σ = [x0, some (.ref b), some (.int (n : Nat)), some (.str (tS bt)), some wv, some (.str (fS en)), some (.str (pS st)), some (.ref x), x8, x9, x10, x11] ∧ S = ⟨F2, [(lp, .lst [.str (pS st), .str (pS (List.replicate (n - 1) 63))])] ++ boxG b m y⟩, ⟨_, rfl, rfl⟩, ?_, ?_, ?_⟩
  · rintro i σ S _ ⟨x8, rfl, rfl⟩
    exact .inl ⟨0, rfl⟩
  · rintro i σ S hi ⟨x8, rfl, rfl⟩ w hw0
    obtain ⟨gl, rfl, hgl, hgp⟩ : ∃ gl, w = .str (pS gl) ∧ gl.length + 1 = nS bt ∧ patOk gl := by
      have := List.mem_of_getElem? hw0
      simp only [List.mem_cons, List.not_mem_nil, or_false] at this
      rcases this with e | e
      · exact ⟨st, e, hst2, hp⟩
      · refine ⟨_, e, by rw [List.length_replicate]; omega, fun c hc => ?_⟩
        rw [List.eq_of_mem_replicate hc]
        decide
    refine use_answers (.ref x) bt gl en wv (by rfl) hT hw2 hgl hl2 hgp ?_
    exact ⟨_, SLe.refl _, _, rfl, rfl⟩
  · rintro σ S ⟨x8, rfl, rfl⟩
    refine use_plays (E := [(lp, .lst [.str (pS st), .str (pS (List.replicate (n - 1) 63))])]) (.ref x) bt st en wv (by rfl) hy hT hw2 hst2 hl2 hp fun y hy => ?_
    refine use_comes (E := [(lp, .lst [.str (pS st), .str (pS (List.replicate (n - 1) 63))])]) (.ref x) bt wv (by rfl) hy hT hw2 fun y hy => ?_
    refine use_bent (E := [(lp, .lst [.str (pS st), .str (pS (List.replicate (n - 1) 63))])]) (K := K) st true bt (by rfl) hy hst2 (by omega) hp fun y v1 E1 t1 z1 hy h1 k1 s1 b1 => ?_
    refine use_bent (K := K) (en.map cdB) false bt (by rfl) hy (by rw [List.length_map]; exact hl2) (by omega) (pat_fl en) fun y v2 E2 t2 z2 hy h2 k2 s2 b2 => ?_
    refine walk_lawU (t1 := t1) (t2 := t2) (z1 := z1) (z2 := z2) hT hst2 hp hl2 b1 s1 (fun H o => h1 H (sle_sub ?_ H o)) k1 b2 s2 (fun H o => h2 H (sle_sub ?_ H o)) k2 k
    · exact (List.sublist_append_right E2 _).trans (List.sublist_append_left _ _)
    · exact List.sublist_append_left _ _
theorem vc_law (T : Kit K a) {vs : List V} {H : Hp} (g : Addr × List Int) (h : (ct_law K).pre g vs H) : ∃ S, Own S H ∧ r_law K a (endsC (ct_law K) g H) (start N_law vs) S := by
  obtain ⟨p0, ns⟩ := g
  obtain ⟨rfl, hs⟩ := h
  have hs : SqL K H p0 (ns.map V.int) := hs
  refine ⟨⟨H, []⟩, Own.base H, ?_⟩
  refine ⟨(p0, ns), fun H1 o1 => ⟨rfl, SqL.up (ext0 o1) hs⟩, fun H1 v H2 o1 q => ?_, fun _ _ _ _ _ q => q.elim⟩
  obtain ⟨b, m, x, rfl, f1, f2, f3, hbx, hms, q3⟩ := q
  have ob : Own ⟨H, [] ++ boxG b m x⟩ H2 := box_join hbx ⟨fun c u e => by
    have hc := o1.fr c u e
    have ne : ¬ (c = b ∨ c = x.g ∨ c = m) := fun z => by
      rcases z with rfl | rfl | rfl
      · rw [f1] at hc
        cases hc
      · rw [f2] at hc
        cases hc
      · rw [f3] at hc
        cases hc
    exact (wo_out ne).trans (q3 c u hc), fun _ z => (nomatch z), List.nodup_nil⟩
  refine ⟨_, ob, ?_⟩
  refine use_box (args := fun _ : Unit => []) (ok := fun _ _ => True) (res := fun _ _ v _ => ∃ n : Nat, v = .int (n : Nat) ∧ 1 ≤ n ∧ n ≤ 64) () (by rfl) hms (fun _ _ => trivial) fun y H1 v H3 hy o3 o4 ex hv => ⟨H, [], o4, ?_⟩
  obtain ⟨n, rfl, h1, h2⟩ := hv
  refine use_box (args := fun n : Nat => [V.int (n : Nat)]) (ok := fun n _ => 1 ≤ n ∧ n ≤ 64) (res := fun n _ v H' => ∃ b p wv, nS b = n ∧ v = .ref p ∧ SqT K H' p [.str (tS b), wv] ∧ lwsR K H' wv b) n (by rfl) hy (fun _ _ => ⟨h1, h2⟩) fun y H1 v H4 hy o5 o6 ex2 hv => ?_
  obtain ⟨bt, p, wv, hn, rfl, hp, hw⟩ := hv
  refine ⟨H4, [], Own.base H4, ?_⟩
  refine ⟨_, .inr hp, rfl, ?_⟩
  refine use_box (E := []) (args := fun n : Nat => [V.int (n : Nat)]) (ok := fun n _ => n ≤ 63) (res := fun n _ v _ => ∃ fl, fl.length = n ∧ v = .str (fS fl)) (n - 1) ?_ hy (fun _ _ => by show n - 1 ≤ 63; omega) fun y H1 v H5 hy o7 o8 ex3 hv => ⟨H4, [], o8, ?_⟩
  · show [V.ref b, .int ((n : Nat) - 1)] = _
    rw [show ((n : Nat) : Int) - 1 = ((n - 1 : Nat) : Int) by omega]
  obtain ⟨fl, hfl, rfl⟩ := hv
  have hfl : fl.length = n - 1 := hfl
  refine use_box (E := []) (args := fun en : List Bool => [.str (fS en), .str "?"]) (ok := fun en _ => en.length ≤ 63) (res := fun en _ v _ => ∃ st, v = .str (pS st) ∧ st.length = en.length ∧ patOk st) fl (by rfl) hy (fun _ _ => by show fl.length ≤ 63; omega) fun y H1 v H6 hy o9 o10 ex4 hv => ⟨H4, [], o10, ?_⟩
  obtain ⟨st, rfl, hst, hpat⟩ := hv
  have hst : st.length = fl.length := hst
  exact walk_lawT hy hn h2 (by omega) hpat (by omega) hw fun S H' o' => rfl
end
/-! ### each def keeps its promise -/
theorem sp_some {f : List V → Option Ot} {vs : List V} {H : Hp} {Q : VK} {E : XK} (h : spV f vs H Q E) : ∃ o, f vs = some o := by
  unfold spV at h
  split at h
  · exact ⟨_, by assumption⟩
  · exact ⟨_, by assumption⟩
  · exact h.elim
section
variable {P : Program} {w : World} {K : PySem.W.Frag} {mg : Str → Option Value} {base : Heap} {a : Ads}
theorem ok_is_integer (G : Env P w K mg base a)  {f : Addr} {fd : FuncData} (F : Fun K "is_integer" "is_integer" s_is_integer f fd) : FnOk P w K mg base (L2.CX P w) l_is_integer f fd ["value"] (p_is_integer K a) := by
  refine F.okX (k := l_is_integer - 1) sc_is_integer (fun vs H Q E h => ?_) fun cdv A outer s H vs Q E hr h => ⟨_, d_is_integer G  hr, ?_⟩
  · obtain ⟨g, hg, _⟩ := h
    have e := hg.1
    subst e
    rfl
  · exact body_C h fun g hg => vc_is_integer g hg
theorem ok_is_place (G : Env P w K mg base a) (T_is_integer : DefC P w K mg base "is_integer" ["value"] l_is_integer [] (p_is_integer K a)) {f : Addr} {fd : FuncData} (F : Fun K "is_place" "is_place" s_is_place f fd) : FnOk P w K mg base (L2.CX P w) l_is_place f fd ["many", "value"] (p_is_place K a) := by
  refine F.okX (k := l_is_place - 1) sc_is_place (fun vs H Q E h => ?_) fun cdv A outer s H vs Q E hr h => ⟨_, d_is_place G T_is_integer hr, ?_⟩
  · obtain ⟨g, hg, _⟩ := h
    have e := hg.1
    subst e
    rfl
  · exact body_C h fun g hg => vc_is_place g hg
theorem ok_is_made_of (G : Env P w K mg base a)  {f : Addr} {fd : FuncData} (F : Fun K "is_made_of" "is_made_of" s_is_made_of f fd) : FnOk P w K mg base (L2.CX P w) l_is_made_of f fd ["value", "signs"] (p_is_made_of K a) := by
  refine F.okX (k := l_is_made_of - 1) sc_is_made_of (fun vs H Q E h => ?_) fun cdv A outer s H vs Q E hr h => ⟨_, d_is_made_of G  hr, ?_⟩
  · obtain ⟨g, hg, _⟩ := h
    have e := hg.1
    subst e
    rfl
  · exact body_C h fun g hg => vc_is_made_of g hg
theorem ok_Tree_forks (G : Env P w K mg base a)  {f : Addr} {fd : FuncData} (F : Fun K "forks" "Tree.forks" s_Tree_forks f fd) : FnOk P w K mg base (L2.CX P w) l_Tree_forks f fd ["self"] (p_Tree_forks K a) := by
  refine F.okX (k := l_Tree_forks - 1) sc_Tree_forks (fun vs H Q E h => ?_) fun cdv A outer s H vs Q E hr h => ⟨_, d_Tree_forks G  hr, ?_⟩
  · obtain ⟨g, hg, _⟩ := h
    have e := hg.1
    subst e
    rfl
  · exact body_C h fun g hg => vc_Tree_forks g hg
theorem ok_checked_flags (G : Env P w K mg base a) (T_is_made_of : DefC P w K mg base "is_made_of" ["value", "signs"] l_is_made_of [] (p_is_made_of K a)) (T_Tree_forks : ProC P w K mg base a.Tree "forks" l_Tree_forks (p_Tree_forks K a)) {f : Addr} {fd : FuncData} (F : Fun K "checked_flags" "checked_flags" s_checked_flags f fd) : FnOk P w K mg base (L2.CX P w) l_checked_flags f fd ["tree", "flags"] (p_checked_flags K a) := by
  refine F.okX (k := l_checked_flags - 1) sc_checked_flags (fun vs H Q E h => ?_) fun cdv A outer s H vs Q E hr h => ⟨_, d_checked_flags G T_is_made_of T_Tree_forks hr, ?_⟩
  · obtain ⟨g, hg, _⟩ := h
    have e := hg.1
    subst e
    rfl
  · exact body_C h fun g hg => vc_checked_flags g hg
theorem ok_checked_pattern (G : Env P w K mg base a) (T_is_made_of : DefC P w K mg base "is_made_of" ["value", "signs"] l_is_made_of [] (p_is_made_of K a)) (T_Tree_forks : ProC P w K mg base a.Tree "forks" l_Tree_forks (p_Tree_forks K a)) {f : Addr} {fd : FuncData} (F : Fun K "checked_pattern" "checked_pattern" s_checked_pattern f fd) : FnOk P w K mg base (L2.CX P w) l_checked_pattern f fd ["tree", "pattern"] (p_checked_pattern K a) := by
  refine F.okX (k := l_checked_pattern - 1) sc_checked_pattern (fun vs H Q E h => ?_) fun cdv A outer s H vs Q E hr h => ⟨_, d_checked_pattern G T_is_made_of T_Tree_forks hr, ?_⟩
  · obtain ⟨g, hg, _⟩ := h
    have e := hg.1
    subst e
    rfl
  · exact body_C h fun g hg => vc_checked_pattern g hg
theorem ok_Tree_len (G : Env P w K mg base a)  {f : Addr} {fd : FuncData} (F : Fun K "__len__" "Tree.__len__" s_Tree_len f fd) : FnOk P w K mg base (L2.CX P w) l_Tree_len f fd ["self"] (p_Tree_len K a) := by
  refine F.okX (k := l_Tree_len - 1) sc_Tree_len (fun vs H Q E h => ?_) fun cdv A outer s H vs Q E hr h => ⟨_, d_Tree_len G  hr, ?_⟩
  · obtain ⟨g, hg, _⟩ := h
    have e := hg.1
    subst e
    rfl
  · exact body_C h fun g hg => vc_Tree_len g hg
theorem ok_checked_slot (G : Env P w K mg base a) (T_is_place : DefC P w K mg base "is_place" ["many", "value"] l_is_place [] (p_is_place K a)) (T_Tree_len : MetC P w K mg base a.Tree "__len__" ["self"] l_Tree_len (p_Tree_len K a)) {f : Addr} {fd : FuncData} (F : Fun K "checked_slot" "checked_slot" s_checked_slot f fd) : FnOk P w K mg base (L2.CX P w) l_checked_slot f fd ["tree", "slot"] (p_checked_slot K a) := by
  refine F.okX (k := l_checked_slot - 1) sc_checked_slot (fun vs H Q E h => ?_) fun cdv A outer s H vs Q E hr h => ⟨_, d_checked_slot G T_is_place T_Tree_len hr, ?_⟩
  · obtain ⟨g, hg, _⟩ := h
    have e := hg.1
    subst e
    rfl
  · exact body_C h fun g hg => vc_checked_slot g hg
theorem ok_checked_visits (G : Env P w K mg base a) (T_checked_slot : DefC P w K mg base "checked_slot" ["tree", "slot"] l_checked_slot [] (p_checked_slot K a)) {f : Addr} {fd : FuncData} (F : Fun K "checked_visits" "checked_visits" s_checked_visits f fd) : FnOk P w K mg base (L2.CX P w) l_checked_visits f fd ["tree", "slots"] (p_checked_visits K a) := by
  refine F.okX (k := l_checked_visits - 1) sc_checked_visits (fun vs H Q E h => ?_) fun cdv A outer s H vs Q E hr h => ⟨_, d_checked_visits G T_checked_slot hr, ?_⟩
  · obtain ⟨g, hg, _⟩ := h
    have e := hg.1
    subst e
    rfl
  · exact body_C h fun g hg => vc_checked_visits g hg
theorem ok_trail_rows (G : Env P w K mg base a) (T_Tree_len : MetC P w K mg base a.Tree "__len__" ["self"] l_Tree_len (p_Tree_len K a)) {f : Addr} {fd : FuncData} (F : Fun K "trail_rows" "trail_rows" s_trail_rows f fd) : FnOk P w K mg base (L2.CX P w) l_trail_rows f fd ["tree", "flags"] (p_trail_rows K a) := by
  refine F.okX (k := l_trail_rows - 1) sc_trail_rows (fun vs H Q E h => ?_) fun cdv A outer s H vs Q E hr h => ⟨_, d_trail_rows G T_Tree_len hr, ?_⟩
  · obtain ⟨g, hg, _⟩ := h
    have e := hg.1
    subst e
    rfl
  · exact body_C h fun g hg => vc_trail_rows g hg
theorem ok_forks_below (G : Env P w K mg base a) (T_Tree_forks : ProC P w K mg base a.Tree "forks" l_Tree_forks (p_Tree_forks K a)) {f : Addr} {fd : FuncData} (F : Fun K "forks_below" "forks_below" s_forks_below f fd) : FnOk P w K mg base (L2.CX P w) l_forks_below f fd ["tree", "flags", "hang"] (p_forks_below K a) := by
  refine F.okX (k := l_forks_below - 1) sc_forks_below (fun vs H Q E h => ?_) fun cdv A outer s H vs Q E hr h => ⟨_, d_forks_below G T_Tree_forks hr, ?_⟩
  · obtain ⟨g, hg, _⟩ := h
    have e := hg.1
    subst e
    rfl
  · exact body_C h fun g hg => vc_forks_below g hg
theorem ok_needed_slots (G : Env P w K mg base a) (T_forks_below : DefC P w K mg base "forks_below" ["tree", "flags", "hang"] l_forks_below [] (p_forks_below K a)) (T_trail_rows : DefC P w K mg base "trail_rows" ["tree", "flags"] l_trail_rows [] (p_trail_rows K a)) {f : Addr} {fd : FuncData} (F : Fun K "needed_slots" "needed_slots" s_needed_slots f fd) : FnOk P w K mg base (L2.CX P w) l_needed_slots f fd ["tree", "start", "end"] (p_needed_slots K a) := by
  refine F.okX (k := l_needed_slots - 1) sc_needed_slots (fun vs H Q E h => ?_) fun cdv A outer s H vs Q E hr h => ⟨_, d_needed_slots G T_forks_below T_trail_rows hr, ?_⟩
  · obtain ⟨g, hg, _⟩ := h
    have e := hg.1
    subst e
    rfl
  · exact body_C h fun g hg => vc_needed_slots g hg
theorem ok_hits_between (G : Env P w K mg base a) (T_forks_below : DefC P w K mg base "forks_below" ["tree", "flags", "hang"] l_forks_below [] (p_forks_below K a)) (T_Tree_forks : ProC P w K mg base a.Tree "forks" l_Tree_forks (p_Tree_forks K a)) {f : Addr} {fd : FuncData} (F : Fun K "hits_between" "hits_between" s_hits_between f fd) : FnOk P w K mg base (L2.CX P w) l_hits_between f fd ["tree", "start", "end"] (p_hits_between K a) := by
  refine F.okX (k := l_hits_between - 1) sc_hits_between (fun vs H Q E h => ?_) fun cdv A outer s H vs Q E hr h => ⟨_, d_hits_between G T_forks_below T_Tree_forks hr, ?_⟩
  · obtain ⟨g, hg, _⟩ := h
    have e := hg.1
    subst e
    rfl
  · exact body_C h fun g hg => vc_hits_between g hg
theorem ok_needed (G : Env P w K mg base a) (T_checked_flags : DefC P w K mg base "checked_flags" ["tree", "flags"] l_checked_flags [] (p_checked_flags K a)) (T_checked_pattern : DefC P w K mg base "checked_pattern" ["tree", "pattern"] l_checked_pattern [] (p_checked_pattern K a)) (T_needed_slots : DefC P w K mg base "needed_slots" ["tree", "start", "end"] l_needed_slots [] (p_needed_slots K a)) {f : Addr} {fd : FuncData} (F : Fun K "needed" "needed" s_needed f fd) : FnOk P w K mg base (L2.CX P w) l_needed f fd ["tree", "start", "end"] (p_needed K a) := by
  refine F.okX (k := l_needed - 1) sc_needed (fun vs H Q E h => ?_) fun cdv A outer s H vs Q E hr h => ⟨_, d_needed G T_checked_flags T_checked_pattern T_needed_slots hr, ?_⟩
  · obtain ⟨g, hg, _⟩ := h
    have e := hg.1
    subst e
    rfl
  · exact body_C h fun g hg => vc_needed g hg
theorem ok_least_hits (G : Env P w K mg base a) (T_checked_flags : DefC P w K mg base "checked_flags" ["tree", "flags"] l_checked_flags [] (p_checked_flags K a)) (T_checked_pattern : DefC P w K mg base "checked_pattern" ["tree", "pattern"] l_checked_pattern [] (p_checked_pattern K a)) (T_hits_between : DefC P w K mg base "hits_between" ["tree", "start", "end"] l_hits_between [] (p_hits_between K a)) {f : Addr} {fd : FuncData} (F : Fun K "least_hits" "least_hits" s_least_hits f fd) : FnOk P w K mg base (L2.CX P w) l_least_hits f fd ["tree", "start", "end"] (p_least_hits K a) := by
  refine F.okX (k := l_least_hits - 1) sc_least_hits (fun vs H Q E h => ?_) fun cdv A outer s H vs Q E hr h => ⟨_, d_least_hits G T_checked_flags T_checked_pattern T_hits_between hr, ?_⟩
  · obtain ⟨g, hg, _⟩ := h
    have e := hg.1
    subst e
    rfl
  · exact body_C h fun g hg => vc_least_hits g hg
theorem ok_turned (G : Env P w K mg base a)  {f : Addr} {fd : FuncData} (F : Fun K "turned" "turned" s_turned f fd) : FnOk P w K mg base (L2.CX P w) l_turned f fd ["tree", "flags", "slot"] (p_turned K a) := by
  refine F.okX (k := l_turned - 1) sc_turned (fun vs H Q E h => ?_) fun cdv A outer s H vs Q E hr h => ⟨_, d_turned G  hr, ?_⟩
  · obtain ⟨g, hg, _⟩ := h
    have e := hg.1
    subst e
    rfl
  · exact body_C h fun g hg => vc_turned g hg
theorem ok_flags_after (G : Env P w K mg base a) (T_checked_pattern : DefC P w K mg base "checked_pattern" ["tree", "pattern"] l_checked_pattern [] (p_checked_pattern K a)) (T_checked_slot : DefC P w K mg base "checked_slot" ["tree", "slot"] l_checked_slot [] (p_checked_slot K a)) (T_turned : DefC P w K mg base "turned" ["tree", "flags", "slot"] l_turned [] (p_turned K a)) {f : Addr} {fd : FuncData} (F : Fun K "flags_after" "flags_after" s_flags_after f fd) : FnOk P w K mg base (L2.CX P w) l_flags_after f fd ["tree", "flags", "slot"] (p_flags_after K a) := by
  refine F.okX (k := l_flags_after - 1) sc_flags_after (fun vs H Q E h => ?_) fun cdv A outer s H vs Q E hr h => ⟨_, d_flags_after G T_checked_pattern T_checked_slot T_turned hr, ?_⟩
  · obtain ⟨g, hg, _⟩ := h
    have e := hg.1
    subst e
    rfl
  · exact body_C h fun g hg => vc_flags_after g hg
theorem ok_all_after (G : Env P w K mg base a) (T_checked_flags : DefC P w K mg base "checked_flags" ["tree", "flags"] l_checked_flags [] (p_checked_flags K a)) (T_checked_visits : DefC P w K mg base "checked_visits" ["tree", "slots"] l_checked_visits [] (p_checked_visits K a)) (T_turned : DefC P w K mg base "turned" ["tree", "flags", "slot"] l_turned [] (p_turned K a)) {f : Addr} {fd : FuncData} (F : Fun K "all_after" "all_after" s_all_after f fd) : FnOk P w K mg base (L2.CX P w) l_all_after f fd ["tree", "flags", "slots"] (p_all_after K a) := by
  refine F.okX (k := l_all_after - 1) sc_all_after (fun vs H Q E h => ?_) fun cdv A outer s H vs Q E hr h => ⟨_, d_all_after G T_checked_flags T_checked_visits T_turned hr, ?_⟩
  · obtain ⟨g, hg, _⟩ := h
    have e := hg.1
    subst e
    rfl
  · exact body_C h fun g hg => vc_all_after g hg
theorem ok_ends_fork (G : Env P w K mg base a)  {f : Addr} {fd : FuncData} (F : Fun K "ends_fork" "ends_fork" s_ends_fork f fd) : FnOk P w K mg base (L2.CX P w) l_ends_fork f fd ["stack"] (p_ends_fork K a) := by
  refine F.okX (k := l_ends_fork - 1) sc_ends_fork (fun vs H Q E h => ?_) fun cdv A outer s H vs Q E hr h => ⟨_, d_ends_fork G  hr, ?_⟩
  · obtain ⟨g, hg, _⟩ := h
    have e := hg.1
    subst e
    rfl
  · exact body_C h fun g hg => vc_ends_fork g hg
theorem ok_read_forks (G : Env P w K mg base a) (T_ends_fork : DefC P w K mg base "ends_fork" ["stack"] l_ends_fork [] (p_ends_fork K a)) {f : Addr} {fd : FuncData} (F : Fun K "read_forks" "read_forks" s_read_forks f fd) : FnOk P w K mg base (L2.CX P w) l_read_forks f fd ["text"] (p_read_forks K a) := by
  refine F.okX (k := l_read_forks - 1) sc_read_forks (fun vs H Q E h => ?_) fun cdv A outer s H vs Q E hr h => ⟨_, d_read_forks G T_ends_fork hr, ?_⟩
  · obtain ⟨g, hg, _⟩ := h
    have e := hg.1
    subst e
    rfl
  · exact body_C h fun g hg => vc_read_forks g hg
theorem ok_lay_ways (G : Env P w K mg base a)  {f : Addr} {fd : FuncData} (F : Fun K "lay_ways" "lay_ways" s_lay_ways f fd) : FnOk P w K mg base (L2.CX P w) l_lay_ways f fd ["root", "lefts", "rights"] (p_lay_ways K a) := by
  refine F.okX (k := l_lay_ways - 1) sc_lay_ways (fun vs H Q E h => ?_) fun cdv A outer s H vs Q E hr h => ⟨_, d_lay_ways G  hr, ?_⟩
  · obtain ⟨g, hg, _⟩ := h
    have e := hg.1
    subst e
    rfl
  · exact body_C h fun g hg => vc_lay_ways g hg
theorem ok_Tree_init (G : Env P w K mg base a) (T_lay_ways : DefC P w K mg base "lay_ways" ["root", "lefts", "rights"] l_lay_ways [] (p_lay_ways K a)) (T_read_forks : DefC P w K mg base "read_forks" ["text"] l_read_forks [] (p_read_forks K a)) {f : Addr} {fd : FuncData} (F : Fun K "__init__" "Tree.__init__" s_Tree_init f fd) : FnOk P w K mg base (L2.CX P w) l_Tree_init f fd ["self", "text"] (p_Tree_init K a) := by
  refine F.okX (k := l_Tree_init - 1) sc_Tree_init (fun vs H Q E h => ?_) fun cdv A outer s H vs Q E hr h => ⟨_, d_Tree_init G T_lay_ways T_read_forks hr, ?_⟩
  · obtain ⟨g, hg, _⟩ := h
    have e := hg.1
    subst e
    rfl
  · exact body_C h fun g hg => vc_Tree_init g hg
theorem ok_l_is_integer (G : Env P w K mg base a)  {f : Addr} {fd : FuncData} (F : Fun K "_law_is_integer" "_law_is_integer" s_l_is_integer f fd) : FnOk P w K mg base (L2.CX P w) l_l_is_integer f fd ["_law_told"] (p_l_is_integer K a) := by
  refine F.okX (k := l_l_is_integer - 1) sc_l_is_integer (fun vs H Q E h => ?_) fun cdv A outer s H vs Q E hr h => ⟨_, d_l_is_integer G  hr, ?_⟩
  · obtain ⟨g, hg, _⟩ := h
    have e := hg.1
    subst e
    rfl
  · exact body_C h fun g hg => vc_l_is_integer g hg
theorem ok_l_same (G : Env P w K mg base a) (T_l_is_integer : DefC P w K mg base "_law_is_integer" ["_law_told"] l_l_is_integer [] (p_l_is_integer K a)) {f : Addr} {fd : FuncData} (F : Fun K "_law_same" "_law_same" s_l_same f fd) : FnOk P w K mg base (L2.CX P w) l_l_same f fd ["_law_told", "_law_due_here"] (p_l_same K a) := by
  refine F.okX (k := l_l_same - 1) sc_l_same (fun vs H Q E h => ?_) fun cdv A outer s H vs Q E hr h => ⟨_, d_l_same G T_l_is_integer hr, ?_⟩
  · obtain ⟨g, hg, _⟩ := h
    have e := hg.1
    subst e
    rfl
  · exact body_C h fun g hg => vc_l_same g hg
theorem ok_l_box (G : Env P w K mg base a)  {f : Addr} {fd : FuncData} (F : Fun K "_law_box" "_law_box" s_l_box f fd) : FnOk P w K mg base (L2.CX P w) l_l_box f fd ["_law_script"] (p_l_box K a) := by
  refine F.okX (k := l_l_box - 1) sc_l_box (fun vs H Q E h => ?_) fun cdv A outer s H vs Q E hr h => ⟨_, d_l_box G  hr, ?_⟩
  · obtain ⟨g, hg, _⟩ := h
    have e := hg.1
    subst e
    rfl
  · exact body_C h fun g hg => vc_l_box g hg
theorem ok_l_take (G : Env P w K mg base a)  {f : Addr} {fd : FuncData} (F : Fun K "_law_take" "_law_take" s_l_take f fd) : FnOk P w K mg base (L2.CX P w) l_l_take f fd ["_law_box_here", "_law_size"] (p_l_take K a) := by
  refine F.okX (k := l_l_take - 1) sc_l_take (fun vs H Q E h => ?_) fun cdv A outer s H vs Q E hr h => ⟨_, d_l_take G  hr, ?_⟩
  · obtain ⟨g, hg, _⟩ := h
    have e := hg.1
    subst e
    rfl
  · exact body_C h fun g hg => vc_l_take g hg
theorem ok_l_join (G : Env P w K mg base a) (T_l_take : DefC P w K mg base "_law_take" ["_law_box_here", "_law_size"] l_l_take [] (p_l_take K a)) {f : Addr} {fd : FuncData} (F : Fun K "_law_join" "_law_join" s_l_join f fd) : FnOk P w K mg base (L2.CX P w) l_l_join f fd ["_law_box_here", "_law_lean", "_law_room"] (p_l_join K a) := by
  refine F.okX (k := l_l_join - 1) sc_l_join (fun vs H Q E h => ?_) fun cdv A outer s H vs Q E hr h => ⟨_, d_l_join G T_l_take hr, ?_⟩
  · obtain ⟨g, hg, _⟩ := h
    have e := hg.1
    subst e
    rfl
  · exact body_C h fun g hg => vc_l_join g hg
theorem ok_l_tree (G : Env P w K mg base a) (T_l_join : DefC P w K mg base "_law_join" ["_law_box_here", "_law_lean", "_law_room"] l_l_join [] (p_l_join K a)) (T_l_take : DefC P w K mg base "_law_take" ["_law_box_here", "_law_size"] l_l_take [] (p_l_take K a)) {f : Addr} {fd : FuncData} (F : Fun K "_law_tree" "_law_tree" s_l_tree f fd) : FnOk P w K mg base (L2.CX P w) l_l_tree f fd ["_law_box_here", "_law_slots_here"] (p_l_tree K a) := by
  refine F.okX (k := l_l_tree - 1) sc_l_tree (fun vs H Q E h => ?_) fun cdv A outer s H vs Q E hr h => ⟨_, d_l_tree G T_l_join T_l_take hr, ?_⟩
  · obtain ⟨g, hg, _⟩ := h
    have e := hg.1
    subst e
    rfl
  · exact body_C h fun g hg => vc_l_tree g hg
theorem ok_l_flags (G : Env P w K mg base a) (T_l_take : DefC P w K mg base "_law_take" ["_law_box_here", "_law_size"] l_l_take [] (p_l_take K a)) {f : Addr} {fd : FuncData} (F : Fun K "_law_flags" "_law_flags" s_l_flags f fd) : FnOk P w K mg base (L2.CX P w) l_l_flags f fd ["_law_box_here", "_law_many"] (p_l_flags K a) := by
  refine F.okX (k := l_l_flags - 1) sc_l_flags (fun vs H Q E h => ?_) fun cdv A outer s H vs Q E hr h => ⟨_, d_l_flags G T_l_take hr, ?_⟩
  · obtain ⟨g, hg, _⟩ := h
    have e := hg.1
    subst e
    rfl
  · exact body_C h fun g hg => vc_l_flags g hg
theorem ok_l_slots (G : Env P w K mg base a) (T_l_take : DefC P w K mg base "_law_take" ["_law_box_here", "_law_size"] l_l_take [] (p_l_take K a)) {f : Addr} {fd : FuncData} (F : Fun K "_law_slots" "_law_slots" s_l_slots f fd) : FnOk P w K mg base (L2.CX P w) l_l_slots f fd ["_law_box_here"] (p_l_slots K a) := by
  refine F.okX (k := l_l_slots - 1) sc_l_slots (fun vs H Q E h => ?_) fun cdv A outer s H vs Q E hr h => ⟨_, d_l_slots G T_l_take hr, ?_⟩
  · obtain ⟨g, hg, _⟩ := h
    have e := hg.1
    subst e
    rfl
  · exact body_C h fun g hg => vc_l_slots g hg
theorem ok_l_start (G : Env P w K mg base a) (T_l_take : DefC P w K mg base "_law_take" ["_law_box_here", "_law_size"] l_l_take [] (p_l_take K a)) {f : Addr} {fd : FuncData} (F : Fun K "_law_start" "_law_start" s_l_start f fd) : FnOk P w K mg base (L2.CX P w) l_l_start f fd ["_law_box_here", "_law_end", "_law_odd"] (p_l_start K a) := by
  refine F.okX (k := l_l_start - 1) sc_l_start (fun vs H Q E h => ?_) fun cdv A outer s H vs Q E hr h => ⟨_, d_l_start G T_l_take hr, ?_⟩
  · obtain ⟨g, hg, _⟩ := h
    have e := hg.1
    subst e
    rfl
  · exact body_C h fun g hg => vc_l_start g hg
theorem ok_l_bent (G : Env P w K mg base a) (T_l_take : DefC P w K mg base "_law_take" ["_law_box_here", "_law_size"] l_l_take [] (p_l_take K a)) {f : Addr} {fd : FuncData} (F : Fun K "_law_bent" "_law_bent" s_l_bent f fd) : FnOk P w K mg base (L2.CX P w) l_l_bent f fd ["_law_box_here", "_law_flags_here", "_law_odd"] (p_l_bent K a) := by
  refine F.okX (k := l_l_bent - 1) sc_l_bent (fun vs H Q E h => ?_) fun cdv A outer s H vs Q E hr h => ⟨_, d_l_bent G T_l_take hr, ?_⟩
  · obtain ⟨g, hg, _⟩ := h
    have e := hg.1
    subst e
    rfl
  · exact body_C h fun g hg => vc_l_bent g hg
theorem ok_l_hit (G : Env P w K mg base a)  {f : Addr} {fd : FuncData} (F : Fun K "_law_hit" "_law_hit" s_l_hit f fd) : FnOk P w K mg base (L2.CX P w) l_l_hit f fd ["_law_flags_here", "_law_way"] (p_l_hit K a) := by
  refine F.okX (k := l_l_hit - 1) sc_l_hit (fun vs H Q E h => ?_) fun cdv A outer s H vs Q E hr h => ⟨_, d_l_hit G  hr, ?_⟩
  · obtain ⟨g, hg, _⟩ := h
    have e := hg.1
    subst e
    rfl
  · exact body_C h fun g hg => vc_l_hit g hg
theorem ok_l_holders (G : Env P w K mg base a)  {f : Addr} {fd : FuncData} (F : Fun K "_law_holders" "_law_holders" s_l_holders f fd) : FnOk P w K mg base (L2.CX P w) l_l_holders f fd ["_law_flags_here", "_law_ways"] (p_l_holders K a) := by
  refine F.okX (k := l_l_holders - 1) sc_l_holders (fun vs H Q E h => ?_) fun cdv A outer s H vs Q E hr h => ⟨_, d_l_holders G  hr, ?_⟩
  · obtain ⟨g, hg, _⟩ := h
    have e := hg.1
    subst e
    rfl
  · exact body_C h fun g hg => vc_l_holders g hg
theorem ok_l_above (G : Env P w K mg base a) (T_l_holders : DefC P w K mg base "_law_holders" ["_law_flags_here", "_law_ways"] l_l_holders [] (p_l_holders K a)) {f : Addr} {fd : FuncData} (F : Fun K "_law_above" "_law_above" s_l_above f fd) : FnOk P w K mg base (L2.CX P w) l_l_above f fd ["_law_flags_here", "_law_ways"] (p_l_above K a) := by
  refine F.okX (k := l_l_above - 1) sc_l_above (fun vs H Q E h => ?_) fun cdv A outer s H vs Q E hr h => ⟨_, d_l_above G T_l_holders hr, ?_⟩
  · obtain ⟨g, hg, _⟩ := h
    have e := hg.1
    subst e
    rfl
  · exact body_C h fun g hg => vc_l_above g hg
theorem ok_l_due (G : Env P w K mg base a) (T_l_above : DefC P w K mg base "_law_above" ["_law_flags_here", "_law_ways"] l_l_above [] (p_l_above K a)) (T_l_holders : DefC P w K mg base "_law_holders" ["_law_flags_here", "_law_ways"] l_l_holders [] (p_l_holders K a)) {f : Addr} {fd : FuncData} (F : Fun K "_law_due" "_law_due" s_l_due f fd) : FnOk P w K mg base (L2.CX P w) l_l_due f fd ["_law_start_here", "_law_end", "_law_ways"] (p_l_due K a) := by
  refine F.okX (k := l_l_due - 1) sc_l_due (fun vs H Q E h => ?_) fun cdv A outer s H vs Q E hr h => ⟨_, d_l_due G T_l_above T_l_holders hr, ?_⟩
  · obtain ⟨g, hg, _⟩ := h
    have e := hg.1
    subst e
    rfl
  · exact body_C h fun g hg => vc_l_due g hg
theorem ok_l_order (G : Env P w K mg base a) (T_l_take : DefC P w K mg base "_law_take" ["_law_box_here", "_law_size"] l_l_take [] (p_l_take K a)) {f : Addr} {fd : FuncData} (F : Fun K "_law_order" "_law_order" s_l_order f fd) : FnOk P w K mg base (L2.CX P w) l_l_order f fd ["_law_box_here", "_law_due_here", "_law_above_here"] (p_l_order K a) := by
  refine F.okX (k := l_l_order - 1) sc_l_order (fun vs H Q E h => ?_) fun cdv A outer s H vs Q E hr h => ⟨_, d_l_order G T_l_take hr, ?_⟩
  · obtain ⟨g, hg, _⟩ := h
    have e := hg.1
    subst e
    rfl
  · exact body_C h fun g hg => vc_l_order g hg
theorem ok_l_search (G : Env P w K mg base a) (T_l_hit : DefC P w K mg base "_law_hit" ["_law_flags_here", "_law_way"] l_l_hit [] (p_l_hit K a)) {f : Addr} {fd : FuncData} (F : Fun K "_law_search" "_law_search" s_l_search f fd) : FnOk P w K mg base (L2.CX P w) l_l_search f fd ["_law_start_here", "_law_end", "_law_ways"] (p_l_search K a) := by
  refine F.okX (k := l_l_search - 1) sc_l_search (fun vs H Q E h => ?_) fun cdv A outer s H vs Q E hr h => ⟨_, d_l_search G T_l_hit hr, ?_⟩
  · obtain ⟨g, hg, _⟩ := h
    have e := hg.1
    subst e
    rfl
  · exact body_C h fun g hg => vc_l_search g hg
theorem ok_l_answers (G : Env P w K mg base a) (T_l_due : DefC P w K mg base "_law_due" ["_law_start_here", "_law_end", "_law_ways"] l_l_due [] (p_l_due K a)) (T_l_is_integer : DefC P w K mg base "_law_is_integer" ["_law_told"] l_l_is_integer [] (p_l_is_integer K a)) (T_l_same : DefC P w K mg base "_law_same" ["_law_told", "_law_due_here"] l_l_same [] (p_l_same K a)) (T_l_search : DefC P w K mg base "_law_search" ["_law_start_here", "_law_end", "_law_ways"] l_l_search [] (p_l_search K a)) (T_least_hits : DefC P w K mg base "least_hits" ["tree", "start", "end"] l_least_hits [] (p_least_hits K a)) (T_needed : DefC P w K mg base "needed" ["tree", "start", "end"] l_needed [] (p_needed K a)) {f : Addr} {fd : FuncData} (F : Fun K "_law_answers" "_law_answers" s_l_answers f fd) : FnOk P w K mg base (L2.CX P w) l_l_answers f fd ["_law_tree_here", "_law_start_here", "_law_end", "_law_ways"] (p_l_answers K a) := by
  refine F.okX (k := l_l_answers - 1) sc_l_answers (fun vs H Q E h => ?_) fun cdv A outer s H vs Q E hr h => ⟨_, d_l_answers G T_l_due T_l_is_integer T_l_same T_l_search T_least_hits T_needed hr, ?_⟩
  · obtain ⟨g, hg, _⟩ := h
    have e := hg.1
    subst e
    rfl
  · exact body_C h fun g hg => vc_l_answers g hg
theorem ok_l_plays (G : Env P w K mg base a) (T_l_above : DefC P w K mg base "_law_above" ["_law_flags_here", "_law_ways"] l_l_above [] (p_l_above K a)) (T_l_due : DefC P w K mg base "_law_due" ["_law_start_here", "_law_end", "_law_ways"] l_l_due [] (p_l_due K a)) (T_l_hit : DefC P w K mg base "_law_hit" ["_law_flags_here", "_law_way"] l_l_hit [] (p_l_hit K a)) (T_l_order : DefC P w K mg base "_law_order" ["_law_box_here", "_law_due_here", "_law_above_here"] l_l_order [] (p_l_order K a)) (T_flags_after : DefC P w K mg base "flags_after" ["tree", "flags", "slot"] l_flags_after [] (p_flags_after K a)) {f : Addr} {fd : FuncData} (F : Fun K "_law_plays" "_law_plays" s_l_plays f fd) : FnOk P w K mg base (L2.CX P w) l_l_plays f fd ["_law_box_here", "_law_tree_here", "_law_start_here", "_law_end", "_law_ways"] (p_l_plays K a) := by
  refine F.okX (k := l_l_plays - 1) sc_l_plays (fun vs H Q E h => ?_) fun cdv A outer s H vs Q E hr h => ⟨_, d_l_plays G T_l_above T_l_due T_l_hit T_l_order T_flags_after hr, ?_⟩
  · obtain ⟨g, hg, _⟩ := h
    have e := hg.1
    subst e
    rfl
  · exact body_C h fun g hg => vc_l_plays g hg
theorem ok_l_comes (G : Env P w K mg base a) (T_l_answers : DefC P w K mg base "_law_answers" ["_law_tree_here", "_law_start_here", "_law_end", "_law_ways"] l_l_answers [] (p_l_answers K a)) (T_l_flags : DefC P w K mg base "_law_flags" ["_law_box_here", "_law_many"] l_l_flags [] (p_l_flags K a)) (T_l_hit : DefC P w K mg base "_law_hit" ["_law_flags_here", "_law_way"] l_l_hit [] (p_l_hit K a)) (T_l_take : DefC P w K mg base "_law_take" ["_law_box_here", "_law_size"] l_l_take [] (p_l_take K a)) (T_all_after : DefC P w K mg base "all_after" ["tree", "flags", "slots"] l_all_after [] (p_all_after K a)) (T_least_hits : DefC P w K mg base "least_hits" ["tree", "start", "end"] l_least_hits [] (p_least_hits K a)) (T_needed : DefC P w K mg base "needed" ["tree", "start", "end"] l_needed [] (p_needed K a)) {f : Addr} {fd : FuncData} (F : Fun K "_law_comes" "_law_comes" s_l_comes f fd) : FnOk P w K mg base (L2.CX P w) l_l_comes f fd ["_law_box_here", "_law_tree_here", "_law_ways"] (p_l_comes K a) := by
  refine F.okX (k := l_l_comes - 1) sc_l_comes (fun vs H Q E h => ?_) fun cdv A outer s H vs Q E hr h => ⟨_, d_l_comes G T_l_answers T_l_flags T_l_hit T_l_take T_all_after T_least_hits T_needed hr, ?_⟩
  · obtain ⟨g, hg, _⟩ := h
    have e := hg.1
    subst e
    rfl
  · exact body_C h fun g hg => vc_l_comes g hg
theorem ok_l_fault (G : Env P w K mg base a) (T : Kit K a) (T_least_hits : DefC P w K mg base "least_hits" ["tree", "start", "end"] l_least_hits [] (p_least_hits K a)) (T_needed : DefC P w K mg base "needed" ["tree", "start", "end"] l_needed [] (p_needed K a)) {f : Addr} {fd : FuncData} (F : Fun K "_law_fault" "_law_fault" s_l_fault f fd) : FnG P w K mg base l_l_fault f fd ["_law_door", "_law_tree_here", "_law_start_here", "_law_end"] (p_l_fault K a) := by
  refine fn_ofG (k := l_l_fault - 1) F sc_l_fault (fun vs H Q E h => ?_) fun cdv A outer s H vs Q E hgd hr h => ⟨_, d_l_fault G T_least_hits T_needed hgd hr, ?_⟩
  · obtain ⟨g, hg, _⟩ := h
    have e := hg.1
    subst e
    rfl
  · exact body_C h fun g hg => vc_l_fault T g hg
theorem ok_law (G : Env P w K mg base a) (T : Kit K a) (T_l_answers : DefC P w K mg base "_law_answers" ["_law_tree_here", "_law_start_here", "_law_end", "_law_ways"] l_l_answers [] (p_l_answers K a)) (T_l_bent : DefC P w K mg base "_law_bent" ["_law_box_here", "_law_flags_here", "_law_odd"] l_l_bent [] (p_l_bent K a)) (T_l_box : DefC P w K mg base "_law_box" ["_law_script"] l_l_box [] (p_l_box K a)) (T_l_comes : DefC P w K mg base "_law_comes" ["_law_box_here", "_law_tree_here", "_law_ways"] l_l_comes [] (p_l_comes K a)) (T_l_flags : DefC P w K mg base "_law_flags" ["_law_box_here", "_law_many"] l_l_flags [] (p_l_flags K a)) (T_l_plays : DefC P w K mg base "_law_plays" ["_law_box_here", "_law_tree_here", "_law_start_here", "_law_end", "_law_ways"] l_l_plays [] (p_l_plays K a)) (T_l_slots : DefC P w K mg base "_law_slots" ["_law_box_here"] l_l_slots [] (p_l_slots K a)) (T_l_start : DefC P w K mg base "_law_start" ["_law_box_here", "_law_end", "_law_odd"] l_l_start [] (p_l_start K a)) (T_l_tree : DefC P w K mg base "_law_tree" ["_law_box_here", "_law_slots_here"] l_l_tree [] (p_l_tree K a)) (T_l_fault : DefG P w K mg base "_law_fault" ["_law_door", "_law_tree_here", "_law_start_here", "_law_end"] l_l_fault (p_l_fault K a)) (T_Tree_init : MakC P w K mg base "Tree" a.Tree ["self", "text"] l_Tree_init (p_Tree_init K a)) {f : Addr} {fd : FuncData} (F : Fun K "law" "law" s_law f fd) : FnG P w K mg base l_law f fd ["_law_script"] (p_law K a) := by
  refine fn_ofG (k := l_law - 1) F sc_law (fun vs H Q E h => ?_) fun cdv A outer s H vs Q E hgd hr h => ⟨_, d_law G T_l_answers T_l_bent T_l_box T_l_comes T_l_flags T_l_plays T_l_slots T_l_start T_l_tree T_l_fault T_Tree_init hgd hr, ?_⟩
  · obtain ⟨g, hg, _⟩ := h
    have e := hg.1
    subst e
    rfl
  · exact body_C h fun g hg => vc_law T g hg
end
/-! ### what the top has written -/
theorem all_mk {l : PySem.W.OpenLaw} {w : World} {K : PySem.W.Frag} {h : Heap} {mg : Str → Option Value} {fa : Addr} {c0 c1 c2 c3 c4 c5 c6 : Addr}
    {tc_c6_MOST : Tok}
    {f0 : Addr} {od0 an0 : Option Addr} {sl0 : Array (Option Value)} {oc0 kV0 dc0 pm0 cd0 ct0 : Value}
    {f1 : Addr} {od1 an1 : Option Addr} {sl1 : Array (Option Value)} {oc1 kV1 dc1 pm1 cd1 ct1 : Value}
    {f2 : Addr} {od2 an2 : Option Addr} {sl2 : Array (Option Value)} {oc2 kV2 dc2 pm2 cd2 ct2 : Value}
    {pp3 : Addr} {pq3 : List Value}
    {f3 : Addr} {od3 an3 : Option Addr} {sl3 : Array (Option Value)} {oc3 kV3 dc3 pm3 cd3 ct3 : Value}
    {f4 : Addr} {od4 an4 : Option Addr} {sl4 : Array (Option Value)} {oc4 kV4 dc4 pm4 cd4 ct4 : Value}
    {f5 : Addr} {od5 an5 : Option Addr} {sl5 : Array (Option Value)} {oc5 kV5 dc5 pm5 cd5 ct5 : Value}
    {f6 : Addr} {od6 an6 : Option Addr} {sl6 : Array (Option Value)} {oc6 kV6 dc6 pm6 cd6 ct6 : Value}
    {f7 : Addr} {od7 an7 : Option Addr} {sl7 : Array (Option Value)} {oc7 kV7 dc7 pm7 cd7 ct7 : Value}
    {f8 : Addr} {od8 an8 : Option Addr} {sl8 : Array (Option Value)} {oc8 kV8 dc8 pm8 cd8 ct8 : Value}
    {f9 : Addr} {od9 an9 : Option Addr} {sl9 : Array (Option Value)} {oc9 kV9 dc9 pm9 cd9 ct9 : Value}
    {f10 : Addr} {od10 an10 : Option Addr} {sl10 : Array (Option Value)} {oc10 kV10 dc10 pm10 cd10 ct10 : Value}
    {f11 : Addr} {od11 an11 : Option Addr} {sl11 : Array (Option Value)} {oc11 kV11 dc11 pm11 cd11 ct11 : Value}
    {f12 : Addr} {od12 an12 : Option Addr} {sl12 : Array (Option Value)} {oc12 kV12 dc12 pm12 cd12 ct12 : Value}
    {f13 : Addr} {od13 an13 : Option Addr} {sl13 : Array (Option Value)} {oc13 kV13 dc13 pm13 cd13 ct13 : Value}
    {f14 : Addr} {od14 an14 : Option Addr} {sl14 : Array (Option Value)} {oc14 kV14 dc14 pm14 cd14 ct14 : Value}
    {f15 : Addr} {od15 an15 : Option Addr} {sl15 : Array (Option Value)} {oc15 kV15 dc15 pm15 cd15 ct15 : Value}
    {f16 : Addr} {od16 an16 : Option Addr} {sl16 : Array (Option Value)} {oc16 kV16 dc16 pm16 cd16 ct16 : Value}
    {f17 : Addr} {od17 an17 : Option Addr} {sl17 : Array (Option Value)} {oc17 kV17 dc17 pm17 cd17 ct17 : Value}
    {f18 : Addr} {od18 an18 : Option Addr} {sl18 : Array (Option Value)} {oc18 kV18 dc18 pm18 cd18 ct18 : Value}
    {f19 : Addr} {od19 an19 : Option Addr} {sl19 : Array (Option Value)} {oc19 kV19 dc19 pm19 cd19 ct19 : Value}
    {f20 : Addr} {od20 an20 : Option Addr} {sl20 : Array (Option Value)} {oc20 kV20 dc20 pm20 cd20 ct20 : Value}
    {f21 : Addr} {od21 an21 : Option Addr} {sl21 : Array (Option Value)} {oc21 kV21 dc21 pm21 cd21 ct21 : Value}
    {f22 : Addr} {od22 an22 : Option Addr} {sl22 : Array (Option Value)} {oc22 kV22 dc22 pm22 cd22 ct22 : Value}
    {f23 : Addr} {od23 an23 : Option Addr} {sl23 : Array (Option Value)} {oc23 kV23 dc23 pm23 cd23 ct23 : Value}
    {f24 : Addr} {od24 an24 : Option Addr} {sl24 : Array (Option Value)} {oc24 kV24 dc24 pm24 cd24 ct24 : Value}
    {f25 : Addr} {od25 an25 : Option Addr} {sl25 : Array (Option Value)} {oc25 kV25 dc25 pm25 cd25 ct25 : Value}
    {f26 : Addr} {od26 an26 : Option Addr} {sl26 : Array (Option Value)} {oc26 kV26 dc26 pm26 cd26 ct26 : Value}
    {f27 : Addr} {od27 an27 : Option Addr} {sl27 : Array (Option Value)} {oc27 kV27 dc27 pm27 cd27 ct27 : Value}
    {f28 : Addr} {od28 an28 : Option Addr} {sl28 : Array (Option Value)} {oc28 kV28 dc28 pm28 cd28 ct28 : Value}
    {f29 : Addr} {od29 an29 : Option Addr} {sl29 : Array (Option Value)} {oc29 kV29 dc29 pm29 cd29 ct29 : Value}
    {f30 : Addr} {od30 an30 : Option Addr} {sl30 : Array (Option Value)} {oc30 kV30 dc30 pm30 cd30 ct30 : Value}
    {f31 : Addr} {od31 an31 : Option Addr} {sl31 : Array (Option Value)} {oc31 kV31 dc31 pm31 cd31 ct31 : Value}
    {f32 : Addr} {od32 an32 : Option Addr} {sl32 : Array (Option Value)} {oc32 kV32 dc32 pm32 cd32 ct32 : Value}
    {f33 : Addr} {od33 an33 : Option Addr} {sl33 : Array (Option Value)} {oc33 kV33 dc33 pm33 cd33 ct33 : Value}
    {f34 : Addr} {od34 an34 : Option Addr} {sl34 : Array (Option Value)} {oc34 kV34 dc34 pm34 cd34 ct34 : Value}
    {f35 : Addr} {od35 an35 : Option Addr} {sl35 : Array (Option Value)} {oc35 kV35 dc35 pm35 cd35 ct35 : Value}
    {f36 : Addr} {od36 an36 : Option Addr} {sl36 : Array (Option Value)} {oc36 kV36 dc36 pm36 cd36 ct36 : Value}
    {f37 : Addr} {od37 an37 : Option Addr} {sl37 : Array (Option Value)} {oc37 kV37 dc37 pm37 cd37 ct37 : Value}
    {f38 : Addr} {od38 an38 : Option Addr} {sl38 : Array (Option Value)} {oc38 kV38 dc38 pm38 cd38 ct38 : Value}
    {f39 : Addr} {od39 an39 : Option Addr} {sl39 : Array (Option Value)} {oc39 kV39 dc39 pm39 cd39 ct39 : Value}
    {f40 : Addr} {od40 an40 : Option Addr} {sl40 : Array (Option Value)} {oc40 kV40 dc40 pm40 cd40 ct40 : Value}
    {f41 : Addr} {od41 an41 : Option Addr} {sl41 : Array (Option Value)} {oc41 kV41 dc41 pm41 cd41 ct41 : Value}
    {f42 : Addr} {od42 an42 : Option Addr} {sl42 : Array (Option Value)} {oc42 kV42 dc42 pm42 cd42 ct42 : Value}
    {nm_c2 qn_c2 : Str} {N_c2 : Addr} {bs_c2 bm_c2 sub_c2 : List Value} {sn_c2 : List Str} {ab_c2 : Bool} {col_c2 : Option Bool} {dd_c2 : Option Addr} {k0_c2 k1_c2 k2_c2 k3_c2 k5_c2 : Option Value}
    {fic2 : Addr} {odc2 anc2 : Option Addr} {slc2 : Array (Option Value)} {occ2 kVc2 dcc2 pmc2 cdc2 ctc2 : Value}
    {nm_c3 qn_c3 : Str} {N_c3 : Addr} {bs_c3 bm_c3 sub_c3 : List Value} {sn_c3 : List Str} {ab_c3 : Bool} {col_c3 : Option Bool} {dd_c3 : Option Addr} {k0_c3 k1_c3 k2_c3 k3_c3 k5_c3 : Option Value}
    {fic3 : Addr} {odc3 anc3 : Option Addr} {slc3 : Array (Option Value)} {occ3 kVc3 dcc3 pmc3 cdc3 ctc3 : Value}
    {nm_c1 qn_c1 : Str} {N_c1 : Addr} {bs_c1 bm_c1 sub_c1 : List Value} {sn_c1 : List Str} {ab_c1 : Bool} {col_c1 : Option Bool} {dd_c1 : Option Addr} {k0_c1 k1_c1 k2_c1 k3_c1 k5_c1 : Option Value}
    {fic1 : Addr} {odc1 anc1 : Option Addr} {slc1 : Array (Option Value)} {occ1 kVc1 dcc1 pmc1 cdc1 ctc1 : Value}
    (X : K.In h) (G : h.Ns mainGlobals mg) (hfa : mg "law" = some (.ref fa))
    (ac0 : PySem.W.nsIn K mainGlobals "CacheError" = some (some (.ref c0)))
    (ac1 : PySem.W.nsIn K mainGlobals "InvalidTree" = some (some (.ref c1)))
    (ac2 : PySem.W.nsIn K mainGlobals "InvalidFlags" = some (some (.ref c2)))
    (ac3 : PySem.W.nsIn K mainGlobals "InvalidSlot" = some (some (.ref c3)))
    (ac4 : PySem.W.nsIn K mainGlobals "InvalidFork" = some (some (.ref c4)))
    (ac5 : PySem.W.nsIn K mainGlobals "TooMany" = some (some (.ref c5)))
    (ac6 : PySem.W.nsIn K mainGlobals "Tree" = some (some (.ref c6)))
    (z_ValueError : PySem.W.nsIn K mainGlobals "ValueError" = some none)
    (z_all : PySem.W.nsIn K mainGlobals "all" = some none)
    (z_bool : PySem.W.nsIn K mainGlobals "bool" = some none)
    (z_enumerate : PySem.W.nsIn K mainGlobals "enumerate" = some none)
    (z_int : PySem.W.nsIn K mainGlobals "int" = some none)
    (z_isinstance : PySem.W.nsIn K mainGlobals "isinstance" = some none)
    (z_len : PySem.W.nsIn K mainGlobals "len" = some none)
    (z_list : PySem.W.nsIn K mainGlobals "list" = some none)
    (z_range : PySem.W.nsIn K mainGlobals "range" = some none)
    (z_repr : PySem.W.nsIn K mainGlobals "repr" = some none)
    (z_reversed : PySem.W.nsIn K mainGlobals "reversed" = some none)
    (z_sorted : PySem.W.nsIn K mainGlobals "sorted" = some none)
    (z_str : PySem.W.nsIn K mainGlobals "str" = some none)
    (z_tuple : PySem.W.nsIn K mainGlobals "tuple" = some none)
    (opg_c6 : PySem.W.plainGet K c6 Str.empty = true)
    (ohd_c6 : PySem.W.hasDictIn K c6 = true)
    (opo_c6 : PySem.W.plainOver K c6 = true)
    (osa_c6 : PySem.W.findIn K (.ref c6) "__setattr__" = some (some (.builtin "object.__setattr__")))
    (omk_c6 : PySem.W.makesIn K c6 = true)
    (okc_c6 : PySem.W.keepIn K (.ref c6) = true)
    (ona_c6_bounds : PySem.W.findIn K (.ref c6) "bounds" = some none)
    (ona_c6_lefts : PySem.W.findIn K (.ref c6) "lefts" = some none)
    (ona_c6_postorder : PySem.W.findIn K (.ref c6) "postorder" = some none)
    (ona_c6_preorder : PySem.W.findIn K (.ref c6) "preorder" = some none)
    (ona_c6_rights : PySem.W.findIn K (.ref c6) "rights" = some none)
    (ona_c6_root : PySem.W.findIn K (.ref c6) "root" = some none)
    (ona_c6_spans : PySem.W.findIn K (.ref c6) "spans" = some none)
    (ona_c6_text : PySem.W.findIn K (.ref c6) "text" = some none)
    (ona_c6_ways : PySem.W.findIn K (.ref c6) "ways" = some none)
    (oco_c6_MOST : PySem.W.findIn K (.ref c6) "MOST" = some (some (.int 64 tc_c6_MOST)))
    (ocg_c6_MOST : PySem.W.specialIn K (.int 64 tc_c6_MOST) "__get__" = some none)
    (at0 : PySem.W.nsIn K mainGlobals "is_integer" = some (some (.ref f0)))
    (l0 : K.lookup f0 = some ⟨oc0, od0, .func (PySem.W.fnOf "is_integer" "is_integer" (defArgs s_is_integer) (defBody s_is_integer) (defScope s_is_integer) .none kV0 dc0 pm0 an0 cd0 ct0), sl0⟩)
    (co0 : PySem.W.codeIn K cd0 "is_integer" = true)
    (kp0 : PySem.W.keepIn K (.ref f0) = true)
    (at1 : PySem.W.nsIn K mainGlobals "is_place" = some (some (.ref f1)))
    (l1 : K.lookup f1 = some ⟨oc1, od1, .func (PySem.W.fnOf "is_place" "is_place" (defArgs s_is_place) (defBody s_is_place) (defScope s_is_place) .none kV1 dc1 pm1 an1 cd1 ct1), sl1⟩)
    (co1 : PySem.W.codeIn K cd1 "is_place" = true)
    (kp1 : PySem.W.keepIn K (.ref f1) = true)
    (at2 : PySem.W.nsIn K mainGlobals "is_made_of" = some (some (.ref f2)))
    (l2 : K.lookup f2 = some ⟨oc2, od2, .func (PySem.W.fnOf "is_made_of" "is_made_of" (defArgs s_is_made_of) (defBody s_is_made_of) (defScope s_is_made_of) .none kV2 dc2 pm2 an2 cd2 ct2), sl2⟩)
    (co2 : PySem.W.codeIn K cd2 "is_made_of" = true)
    (kp2 : PySem.W.keepIn K (.ref f2) = true)
    (pa3 : PySem.W.findIn K (.ref c6) "forks" = some (some (.ref pp3)))
    (pgt3 : PySem.W.specialIn K (.ref pp3) "__get__" = some (some (.builtin "property.__get__")))
    (pt3 : PySem.W.takesIn K (.ref pp3) = some true)
    (prc3 : PySem.W.recIn K pp3 "property" = some (.ref f3 :: pq3))
    (l3 : K.lookup f3 = some ⟨oc3, od3, .func (PySem.W.fnOf "forks" "Tree.forks" (defArgs s_Tree_forks) (defBody s_Tree_forks) (defScope s_Tree_forks) .none kV3 dc3 pm3 an3 cd3 ct3), sl3⟩)
    (co3 : PySem.W.codeIn K cd3 "Tree.forks" = true)
    (kp3 : PySem.W.keepIn K (.ref f3) = true)
    (at4 : PySem.W.nsIn K mainGlobals "checked_flags" = some (some (.ref f4)))
    (l4 : K.lookup f4 = some ⟨oc4, od4, .func (PySem.W.fnOf "checked_flags" "checked_flags" (defArgs s_checked_flags) (defBody s_checked_flags) (defScope s_checked_flags) .none kV4 dc4 pm4 an4 cd4 ct4), sl4⟩)
    (co4 : PySem.W.codeIn K cd4 "checked_flags" = true)
    (kp4 : PySem.W.keepIn K (.ref f4) = true)
    (at5 : PySem.W.nsIn K mainGlobals "checked_pattern" = some (some (.ref f5)))
    (l5 : K.lookup f5 = some ⟨oc5, od5, .func (PySem.W.fnOf "checked_pattern" "checked_pattern" (defArgs s_checked_pattern) (defBody s_checked_pattern) (defScope s_checked_pattern) .none kV5 dc5 pm5 an5 cd5 ct5), sl5⟩)
    (co5 : PySem.W.codeIn K cd5 "checked_pattern" = true)
    (kp5 : PySem.W.keepIn K (.ref f5) = true)
    (at6 : PySem.W.findIn K (.ref c6) "__len__" = some (some (.ref f6)))
    (fn6 : PySem.W.isFn K (.ref f6) = true)
    (l6 : K.lookup f6 = some ⟨oc6, od6, .func (PySem.W.fnOf "__len__" "Tree.__len__" (defArgs s_Tree_len) (defBody s_Tree_len) (defScope s_Tree_len) .none kV6 dc6 pm6 an6 cd6 ct6), sl6⟩)
    (co6 : PySem.W.codeIn K cd6 "Tree.__len__" = true)
    (kp6 : PySem.W.keepIn K (.ref f6) = true)
    (at7 : PySem.W.nsIn K mainGlobals "checked_slot" = some (some (.ref f7)))
    (l7 : K.lookup f7 = some ⟨oc7, od7, .func (PySem.W.fnOf "checked_slot" "checked_slot" (defArgs s_checked_slot) (defBody s_checked_slot) (defScope s_checked_slot) .none kV7 dc7 pm7 an7 cd7 ct7), sl7⟩)
    (co7 : PySem.W.codeIn K cd7 "checked_slot" = true)
    (kp7 : PySem.W.keepIn K (.ref f7) = true)
    (at8 : PySem.W.nsIn K mainGlobals "checked_visits" = some (some (.ref f8)))
    (l8 : K.lookup f8 = some ⟨oc8, od8, .func (PySem.W.fnOf "checked_visits" "checked_visits" (defArgs s_checked_visits) (defBody s_checked_visits) (defScope s_checked_visits) .none kV8 dc8 pm8 an8 cd8 ct8), sl8⟩)
    (co8 : PySem.W.codeIn K cd8 "checked_visits" = true)
    (kp8 : PySem.W.keepIn K (.ref f8) = true)
    (at9 : PySem.W.nsIn K mainGlobals "trail_rows" = some (some (.ref f9)))
    (l9 : K.lookup f9 = some ⟨oc9, od9, .func (PySem.W.fnOf "trail_rows" "trail_rows" (defArgs s_trail_rows) (defBody s_trail_rows) (defScope s_trail_rows) .none kV9 dc9 pm9 an9 cd9 ct9), sl9⟩)
    (co9 : PySem.W.codeIn K cd9 "trail_rows" = true)
    (kp9 : PySem.W.keepIn K (.ref f9) = true)
    (at10 : PySem.W.nsIn K mainGlobals "forks_below" = some (some (.ref f10)))
    (l10 : K.lookup f10 = some ⟨oc10, od10, .func (PySem.W.fnOf "forks_below" "forks_below" (defArgs s_forks_below) (defBody s_forks_below) (defScope s_forks_below) .none kV10 dc10 pm10 an10 cd10 ct10), sl10⟩)
    (co10 : PySem.W.codeIn K cd10 "forks_below" = true)
    (kp10 : PySem.W.keepIn K (.ref f10) = true)
    (at11 : PySem.W.nsIn K mainGlobals "needed_slots" = some (some (.ref f11)))
    (l11 : K.lookup f11 = some ⟨oc11, od11, .func (PySem.W.fnOf "needed_slots" "needed_slots" (defArgs s_needed_slots) (defBody s_needed_slots) (defScope s_needed_slots) .none kV11 dc11 pm11 an11 cd11 ct11), sl11⟩)
    (co11 : PySem.W.codeIn K cd11 "needed_slots" = true)
    (kp11 : PySem.W.keepIn K (.ref f11) = true)
    (at12 : PySem.W.nsIn K mainGlobals "hits_between" = some (some (.ref f12)))
    (l12 : K.lookup f12 = some ⟨oc12, od12, .func (PySem.W.fnOf "hits_between" "hits_between" (defArgs s_hits_between) (defBody s_hits_between) (defScope s_hits_between) .none kV12 dc12 pm12 an12 cd12 ct12), sl12⟩)
    (co12 : PySem.W.codeIn K cd12 "hits_between" = true)
    (kp12 : PySem.W.keepIn K (.ref f12) = true)
    (at13 : PySem.W.nsIn K mainGlobals "needed" = some (some (.ref f13)))
    (l13 : K.lookup f13 = some ⟨oc13, od13, .func (PySem.W.fnOf "needed" "needed" (defArgs s_needed) (defBody s_needed) (defScope s_needed) .none kV13 dc13 pm13 an13 cd13 ct13), sl13⟩)
    (co13 : PySem.W.codeIn K cd13 "needed" = true)
    (kp13 : PySem.W.keepIn K (.ref f13) = true)
    (at14 : PySem.W.nsIn K mainGlobals "least_hits" = some (some (.ref f14)))
    (l14 : K.lookup f14 = some ⟨oc14, od14, .func (PySem.W.fnOf "least_hits" "least_hits" (defArgs s_least_hits) (defBody s_least_hits) (defScope s_least_hits) .none kV14 dc14 pm14 an14 cd14 ct14), sl14⟩)
    (co14 : PySem.W.codeIn K cd14 "least_hits" = true)
    (kp14 : PySem.W.keepIn K (.ref f14) = true)
    (at15 : PySem.W.nsIn K mainGlobals "turned" = some (some (.ref f15)))
    (l15 : K.lookup f15 = some ⟨oc15, od15, .func (PySem.W.fnOf "turned" "turned" (defArgs s_turned) (defBody s_turned) (defScope s_turned) .none kV15 dc15 pm15 an15 cd15 ct15), sl15⟩)
    (co15 : PySem.W.codeIn K cd15 "turned" = true)
    (kp15 : PySem.W.keepIn K (.ref f15) = true)
    (at16 : PySem.W.nsIn K mainGlobals "flags_after" = some (some (.ref f16)))
    (l16 : K.lookup f16 = some ⟨oc16, od16, .func (PySem.W.fnOf "flags_after" "flags_after" (defArgs s_flags_after) (defBody s_flags_after) (defScope s_flags_after) .none kV16 dc16 pm16 an16 cd16 ct16), sl16⟩)
    (co16 : PySem.W.codeIn K cd16 "flags_after" = true)
    (kp16 : PySem.W.keepIn K (.ref f16) = true)
    (at17 : PySem.W.nsIn K mainGlobals "all_after" = some (some (.ref f17)))
    (l17 : K.lookup f17 = some ⟨oc17, od17, .func (PySem.W.fnOf "all_after" "all_after" (defArgs s_all_after) (defBody s_all_after) (defScope s_all_after) .none kV17 dc17 pm17 an17 cd17 ct17), sl17⟩)
    (co17 : PySem.W.codeIn K cd17 "all_after" = true)
    (kp17 : PySem.W.keepIn K (.ref f17) = true)
    (at18 : PySem.W.nsIn K mainGlobals "ends_fork" = some (some (.ref f18)))
    (l18 : K.lookup f18 = some ⟨oc18, od18, .func (PySem.W.fnOf "ends_fork" "ends_fork" (defArgs s_ends_fork) (defBody s_ends_fork) (defScope s_ends_fork) .none kV18 dc18 pm18 an18 cd18 ct18), sl18⟩)
    (co18 : PySem.W.codeIn K cd18 "ends_fork" = true)
    (kp18 : PySem.W.keepIn K (.ref f18) = true)
    (at19 : PySem.W.nsIn K mainGlobals "read_forks" = some (some (.ref f19)))
    (l19 : K.lookup f19 = some ⟨oc19, od19, .func (PySem.W.fnOf "read_forks" "read_forks" (defArgs s_read_forks) (defBody s_read_forks) (defScope s_read_forks) .none kV19 dc19 pm19 an19 cd19 ct19), sl19⟩)
    (co19 : PySem.W.codeIn K cd19 "read_forks" = true)
    (kp19 : PySem.W.keepIn K (.ref f19) = true)
    (at20 : PySem.W.nsIn K mainGlobals "lay_ways" = some (some (.ref f20)))
    (l20 : K.lookup f20 = some ⟨oc20, od20, .func (PySem.W.fnOf "lay_ways" "lay_ways" (defArgs s_lay_ways) (defBody s_lay_ways) (defScope s_lay_ways) .none kV20 dc20 pm20 an20 cd20 ct20), sl20⟩)
    (co20 : PySem.W.codeIn K cd20 "lay_ways" = true)
    (kp20 : PySem.W.keepIn K (.ref f20) = true)
    (at21 : PySem.W.findIn K (.ref c6) "__init__" = some (some (.ref f21)))
    (fn21 : PySem.W.isFn K (.ref f21) = true)
    (l21 : K.lookup f21 = some ⟨oc21, od21, .func (PySem.W.fnOf "__init__" "Tree.__init__" (defArgs s_Tree_init) (defBody s_Tree_init) (defScope s_Tree_init) .none kV21 dc21 pm21 an21 cd21 ct21), sl21⟩)
    (co21 : PySem.W.codeIn K cd21 "Tree.__init__" = true)
    (kp21 : PySem.W.keepIn K (.ref f21) = true)
    (at22 : PySem.W.nsIn K mainGlobals "_law_is_integer" = some (some (.ref f22)))
    (l22 : K.lookup f22 = some ⟨oc22, od22, .func (PySem.W.fnOf "_law_is_integer" "_law_is_integer" (defArgs s_l_is_integer) (defBody s_l_is_integer) (defScope s_l_is_integer) .none kV22 dc22 pm22 an22 cd22 ct22), sl22⟩)
    (co22 : PySem.W.codeIn K cd22 "_law_is_integer" = true)
    (kp22 : PySem.W.keepIn K (.ref f22) = true)
    (at23 : PySem.W.nsIn K mainGlobals "_law_same" = some (some (.ref f23)))
    (l23 : K.lookup f23 = some ⟨oc23, od23, .func (PySem.W.fnOf "_law_same" "_law_same" (defArgs s_l_same) (defBody s_l_same) (defScope s_l_same) .none kV23 dc23 pm23 an23 cd23 ct23), sl23⟩)
    (co23 : PySem.W.codeIn K cd23 "_law_same" = true)
    (kp23 : PySem.W.keepIn K (.ref f23) = true)
    (at24 : PySem.W.nsIn K mainGlobals "_law_box" = some (some (.ref f24)))
    (l24 : K.lookup f24 = some ⟨oc24, od24, .func (PySem.W.fnOf "_law_box" "_law_box" (defArgs s_l_box) (defBody s_l_box) (defScope s_l_box) .none kV24 dc24 pm24 an24 cd24 ct24), sl24⟩)
    (co24 : PySem.W.codeIn K cd24 "_law_box" = true)
    (kp24 : PySem.W.keepIn K (.ref f24) = true)
    (at25 : PySem.W.nsIn K mainGlobals "_law_take" = some (some (.ref f25)))
    (l25 : K.lookup f25 = some ⟨oc25, od25, .func (PySem.W.fnOf "_law_take" "_law_take" (defArgs s_l_take) (defBody s_l_take) (defScope s_l_take) .none kV25 dc25 pm25 an25 cd25 ct25), sl25⟩)
    (co25 : PySem.W.codeIn K cd25 "_law_take" = true)
    (kp25 : PySem.W.keepIn K (.ref f25) = true)
    (at26 : PySem.W.nsIn K mainGlobals "_law_join" = some (some (.ref f26)))
    (l26 : K.lookup f26 = some ⟨oc26, od26, .func (PySem.W.fnOf "_law_join" "_law_join" (defArgs s_l_join) (defBody s_l_join) (defScope s_l_join) .none kV26 dc26 pm26 an26 cd26 ct26), sl26⟩)
    (co26 : PySem.W.codeIn K cd26 "_law_join" = true)
    (kp26 : PySem.W.keepIn K (.ref f26) = true)
    (at27 : PySem.W.nsIn K mainGlobals "_law_tree" = some (some (.ref f27)))
    (l27 : K.lookup f27 = some ⟨oc27, od27, .func (PySem.W.fnOf "_law_tree" "_law_tree" (defArgs s_l_tree) (defBody s_l_tree) (defScope s_l_tree) .none kV27 dc27 pm27 an27 cd27 ct27), sl27⟩)
    (co27 : PySem.W.codeIn K cd27 "_law_tree" = true)
    (kp27 : PySem.W.keepIn K (.ref f27) = true)
    (at28 : PySem.W.nsIn K mainGlobals "_law_flags" = some (some (.ref f28)))
    (l28 : K.lookup f28 = some ⟨oc28, od28, .func (PySem.W.fnOf "_law_flags" "_law_flags" (defArgs s_l_flags) (defBody s_l_flags) (defScope s_l_flags) .none kV28 dc28 pm28 an28 cd28 ct28), sl28⟩)
    (co28 : PySem.W.codeIn K cd28 "_law_flags" = true)
    (kp28 : PySem.W.keepIn K (.ref f28) = true)
    (at29 : PySem.W.nsIn K mainGlobals "_law_slots" = some (some (.ref f29)))
    (l29 : K.lookup f29 = some ⟨oc29, od29, .func (PySem.W.fnOf "_law_slots" "_law_slots" (defArgs s_l_slots) (defBody s_l_slots) (defScope s_l_slots) .none kV29 dc29 pm29 an29 cd29 ct29), sl29⟩)
    (co29 : PySem.W.codeIn K cd29 "_law_slots" = true)
    (kp29 : PySem.W.keepIn K (.ref f29) = true)
    (at30 : PySem.W.nsIn K mainGlobals "_law_start" = some (some (.ref f30)))
    (l30 : K.lookup f30 = some ⟨oc30, od30, .func (PySem.W.fnOf "_law_start" "_law_start" (defArgs s_l_start) (defBody s_l_start) (defScope s_l_start) .none kV30 dc30 pm30 an30 cd30 ct30), sl30⟩)
    (co30 : PySem.W.codeIn K cd30 "_law_start" = true)
    (kp30 : PySem.W.keepIn K (.ref f30) = true)
    (at31 : PySem.W.nsIn K mainGlobals "_law_bent" = some (some (.ref f31)))
    (l31 : K.lookup f31 = some ⟨oc31, od31, .func (PySem.W.fnOf "_law_bent" "_law_bent" (defArgs s_l_bent) (defBody s_l_bent) (defScope s_l_bent) .none kV31 dc31 pm31 an31 cd31 ct31), sl31⟩)
    (co31 : PySem.W.codeIn K cd31 "_law_bent" = true)
    (kp31 : PySem.W.keepIn K (.ref f31) = true)
    (at32 : PySem.W.nsIn K mainGlobals "_law_hit" = some (some (.ref f32)))
    (l32 : K.lookup f32 = some ⟨oc32, od32, .func (PySem.W.fnOf "_law_hit" "_law_hit" (defArgs s_l_hit) (defBody s_l_hit) (defScope s_l_hit) .none kV32 dc32 pm32 an32 cd32 ct32), sl32⟩)
    (co32 : PySem.W.codeIn K cd32 "_law_hit" = true)
    (kp32 : PySem.W.keepIn K (.ref f32) = true)
    (at33 : PySem.W.nsIn K mainGlobals "_law_holders" = some (some (.ref f33)))
    (l33 : K.lookup f33 = some ⟨oc33, od33, .func (PySem.W.fnOf "_law_holders" "_law_holders" (defArgs s_l_holders) (defBody s_l_holders) (defScope s_l_holders) .none kV33 dc33 pm33 an33 cd33 ct33), sl33⟩)
    (co33 : PySem.W.codeIn K cd33 "_law_holders" = true)
    (kp33 : PySem.W.keepIn K (.ref f33) = true)
    (at34 : PySem.W.nsIn K mainGlobals "_law_above" = some (some (.ref f34)))
    (l34 : K.lookup f34 = some ⟨oc34, od34, .func (PySem.W.fnOf "_law_above" "_law_above" (defArgs s_l_above) (defBody s_l_above) (defScope s_l_above) .none kV34 dc34 pm34 an34 cd34 ct34), sl34⟩)
    (co34 : PySem.W.codeIn K cd34 "_law_above" = true)
    (kp34 : PySem.W.keepIn K (.ref f34) = true)
    (at35 : PySem.W.nsIn K mainGlobals "_law_due" = some (some (.ref f35)))
    (l35 : K.lookup f35 = some ⟨oc35, od35, .func (PySem.W.fnOf "_law_due" "_law_due" (defArgs s_l_due) (defBody s_l_due) (defScope s_l_due) .none kV35 dc35 pm35 an35 cd35 ct35), sl35⟩)
    (co35 : PySem.W.codeIn K cd35 "_law_due" = true)
    (kp35 : PySem.W.keepIn K (.ref f35) = true)
    (at36 : PySem.W.nsIn K mainGlobals "_law_order" = some (some (.ref f36)))
    (l36 : K.lookup f36 = some ⟨oc36, od36, .func (PySem.W.fnOf "_law_order" "_law_order" (defArgs s_l_order) (defBody s_l_order) (defScope s_l_order) .none kV36 dc36 pm36 an36 cd36 ct36), sl36⟩)
    (co36 : PySem.W.codeIn K cd36 "_law_order" = true)
    (kp36 : PySem.W.keepIn K (.ref f36) = true)
    (at37 : PySem.W.nsIn K mainGlobals "_law_search" = some (some (.ref f37)))
    (l37 : K.lookup f37 = some ⟨oc37, od37, .func (PySem.W.fnOf "_law_search" "_law_search" (defArgs s_l_search) (defBody s_l_search) (defScope s_l_search) .none kV37 dc37 pm37 an37 cd37 ct37), sl37⟩)
    (co37 : PySem.W.codeIn K cd37 "_law_search" = true)
    (kp37 : PySem.W.keepIn K (.ref f37) = true)
    (at38 : PySem.W.nsIn K mainGlobals "_law_answers" = some (some (.ref f38)))
    (l38 : K.lookup f38 = some ⟨oc38, od38, .func (PySem.W.fnOf "_law_answers" "_law_answers" (defArgs s_l_answers) (defBody s_l_answers) (defScope s_l_answers) .none kV38 dc38 pm38 an38 cd38 ct38), sl38⟩)
    (co38 : PySem.W.codeIn K cd38 "_law_answers" = true)
    (kp38 : PySem.W.keepIn K (.ref f38) = true)
    (at39 : PySem.W.nsIn K mainGlobals "_law_plays" = some (some (.ref f39)))
    (l39 : K.lookup f39 = some ⟨oc39, od39, .func (PySem.W.fnOf "_law_plays" "_law_plays" (defArgs s_l_plays) (defBody s_l_plays) (defScope s_l_plays) .none kV39 dc39 pm39 an39 cd39 ct39), sl39⟩)
    (co39 : PySem.W.codeIn K cd39 "_law_plays" = true)
    (kp39 : PySem.W.keepIn K (.ref f39) = true)
    (at40 : PySem.W.nsIn K mainGlobals "_law_comes" = some (some (.ref f40)))
    (l40 : K.lookup f40 = some ⟨oc40, od40, .func (PySem.W.fnOf "_law_comes" "_law_comes" (defArgs s_l_comes) (defBody s_l_comes) (defScope s_l_comes) .none kV40 dc40 pm40 an40 cd40 ct40), sl40⟩)
    (co40 : PySem.W.codeIn K cd40 "_law_comes" = true)
    (kp40 : PySem.W.keepIn K (.ref f40) = true)
    (at41 : PySem.W.nsIn K mainGlobals "_law_fault" = some (some (.ref f41)))
    (l41 : K.lookup f41 = some ⟨oc41, od41, .func (PySem.W.fnOf "_law_fault" "_law_fault" (defArgs s_l_fault) (defBody s_l_fault) (defScope s_l_fault) .none kV41 dc41 pm41 an41 cd41 ct41), sl41⟩)
    (co41 : PySem.W.codeIn K cd41 "_law_fault" = true)
    (kp41 : PySem.W.keepIn K (.ref f41) = true)
    (at42 : PySem.W.nsIn K mainGlobals "law" = some (some (.ref f42)))
    (l42 : K.lookup f42 = some ⟨oc42, od42, .func (PySem.W.fnOf "law" "law" (defArgs s_law) (defBody s_law) (defScope s_law) .none kV42 dc42 pm42 an42 cd42 ct42), sl42⟩)
    (co42 : PySem.W.codeIn K cd42 "law" = true)
    (kp42 : PySem.W.keepIn K (.ref f42) = true)
    (x_c2 : K.lookup c2 = some (excClassObj nm_c2 qn_c2 c2 N_c2 bs_c2 bm_c2 true sn_c2 sub_c2 ab_c2 col_c2 dd_c2 k0_c2 k1_c2 k2_c2 k3_c2 k5_c2 "ValueError.__new__"))
    (rv_c2 : PySem.HandSPX.refsVE bm_c2 = true)
    (sa_c2 : PySem.W.findIn K (.ref c2) "__setattr__" = some (some (.builtin "object.__setattr__")))
    (ex_c2 : PySem.W.subIn K (.ref c2) (.type "BaseException") = some true)
    (ty_c2 : PySem.W.typeIn K (.ref c2) = some (.type "type"))
    (kc_c2 : PySem.W.keepIn K (.ref c2) = true)
    (ga_c2 : PySem.W.findIn K (.ref c2) "__getattribute__" = some (some (.builtin "BaseException.__getattribute__")))
    (gg_c2 : PySem.W.findIn K (.ref c2) "__getattr__" = some none)
    (hd_c2 : PySem.W.hasDictIn K c2 = true)
    (ha_c2 : PySem.W.findIn K (.ref c2) "__class__" = some (some (.builtin "object.__class__")))
    (hn_c2 : PySem.W.specialIn K (.builtin "object.__class__") "__get__" = some (some (.builtin "getset_descriptor.__get__")))
    (ht_c2 : PySem.W.takesIn K (.builtin "object.__class__") = some true)
    (hm_c2 : PySem.W.mroIn K c2 (.type "object") = some true)
    (no_c2 : PySem.W.findIn K (.ref c2) "flags" = some none)
    (fi_c2 : PySem.W.findIn K (.ref c2) "__init__" = some (some (.ref fic2)))
    (ft_c2 : PySem.W.typeIn K (.ref fic2) = some (.type "function"))
    (fl_c2 : K.lookup fic2 = some ⟨occ2, odc2, .func (PySem.W.fnOf "__init__" "InvalidFlags.__init__" (defArgs s_InvalidFlags_init) (defBody s_InvalidFlags_init) (defScope s_InvalidFlags_init) .none kVc2 dcc2 pmc2 anc2 cdc2 ctc2), slc2⟩)
    (fc_c2 : PySem.W.codeIn K cdc2 "InvalidFlags.__init__" = true)
    (fk_c2 : PySem.W.keepIn K (.ref fic2) = true)
    (x_c3 : K.lookup c3 = some (excClassObj nm_c3 qn_c3 c3 N_c3 bs_c3 bm_c3 true sn_c3 sub_c3 ab_c3 col_c3 dd_c3 k0_c3 k1_c3 k2_c3 k3_c3 k5_c3 "ValueError.__new__"))
    (rv_c3 : PySem.HandSPX.refsVE bm_c3 = true)
    (sa_c3 : PySem.W.findIn K (.ref c3) "__setattr__" = some (some (.builtin "object.__setattr__")))
    (ex_c3 : PySem.W.subIn K (.ref c3) (.type "BaseException") = some true)
    (ty_c3 : PySem.W.typeIn K (.ref c3) = some (.type "type"))
    (kc_c3 : PySem.W.keepIn K (.ref c3) = true)
    (ga_c3 : PySem.W.findIn K (.ref c3) "__getattribute__" = some (some (.builtin "BaseException.__getattribute__")))
    (gg_c3 : PySem.W.findIn K (.ref c3) "__getattr__" = some none)
    (hd_c3 : PySem.W.hasDictIn K c3 = true)
    (ha_c3 : PySem.W.findIn K (.ref c3) "__class__" = some (some (.builtin "object.__class__")))
    (hn_c3 : PySem.W.specialIn K (.builtin "object.__class__") "__get__" = some (some (.builtin "getset_descriptor.__get__")))
    (ht_c3 : PySem.W.takesIn K (.builtin "object.__class__") = some true)
    (hm_c3 : PySem.W.mroIn K c3 (.type "object") = some true)
    (no_c3 : PySem.W.findIn K (.ref c3) "slot" = some none)
    (fi_c3 : PySem.W.findIn K (.ref c3) "__init__" = some (some (.ref fic3)))
    (ft_c3 : PySem.W.typeIn K (.ref fic3) = some (.type "function"))
    (fl_c3 : K.lookup fic3 = some ⟨occ3, odc3, .func (PySem.W.fnOf "__init__" "InvalidSlot.__init__" (defArgs s_InvalidSlot_init) (defBody s_InvalidSlot_init) (defScope s_InvalidSlot_init) .none kVc3 dcc3 pmc3 anc3 cdc3 ctc3), slc3⟩)
    (fc_c3 : PySem.W.codeIn K cdc3 "InvalidSlot.__init__" = true)
    (fk_c3 : PySem.W.keepIn K (.ref fic3) = true)
    (x_c1 : K.lookup c1 = some (excClassObj nm_c1 qn_c1 c1 N_c1 bs_c1 bm_c1 true sn_c1 sub_c1 ab_c1 col_c1 dd_c1 k0_c1 k1_c1 k2_c1 k3_c1 k5_c1 "ValueError.__new__"))
    (rv_c1 : PySem.HandSPX.refsVE bm_c1 = true)
    (sa_c1 : PySem.W.findIn K (.ref c1) "__setattr__" = some (some (.builtin "object.__setattr__")))
    (ex_c1 : PySem.W.subIn K (.ref c1) (.type "BaseException") = some true)
    (ty_c1 : PySem.W.typeIn K (.ref c1) = some (.type "type"))
    (kc_c1 : PySem.W.keepIn K (.ref c1) = true)
    (ga_c1 : PySem.W.findIn K (.ref c1) "__getattribute__" = some (some (.builtin "BaseException.__getattribute__")))
    (gg_c1 : PySem.W.findIn K (.ref c1) "__getattr__" = some none)
    (hd_c1 : PySem.W.hasDictIn K c1 = true)
    (ha_c1 : PySem.W.findIn K (.ref c1) "__class__" = some (some (.builtin "object.__class__")))
    (hn_c1 : PySem.W.specialIn K (.builtin "object.__class__") "__get__" = some (some (.builtin "getset_descriptor.__get__")))
    (ht_c1 : PySem.W.takesIn K (.builtin "object.__class__") = some true)
    (hm_c1 : PySem.W.mroIn K c1 (.type "object") = some true)
    (no_c1 : PySem.W.findIn K (.ref c1) "text" = some none)
    (fi_c1 : PySem.W.findIn K (.ref c1) "__init__" = some (some (.ref fic1)))
    (ft_c1 : PySem.W.typeIn K (.ref fic1) = some (.type "function"))
    (fl_c1 : K.lookup fic1 = some ⟨occ1, odc1, .func (PySem.W.fnOf "__init__" "InvalidTree.__init__" (defArgs s_InvalidTree_init) (defBody s_InvalidTree_init) (defScope s_InvalidTree_init) .none kVc1 dcc1 pmc1 anc1 cdc1 ctc1), slc1⟩)
    (fc_c1 : PySem.W.codeIn K cdc1 "InvalidTree.__init__" = true)
    (fk_c1 : PySem.W.keepIn K (.ref fic1) = true)
    (kff : PySem.W.exmOne K (.ref c2) (.ref c2) = some true)
    (kfs : PySem.W.kitOne K (.ref c2) (.ref c3) = some false)
    (kfc : PySem.W.kitOne K (.ref c2) (.ref c0) = some true)
    (kfv : PySem.W.kitOne K (.ref c2) (.type "ValueError") = some true)
    : ∃ fd : FuncData, (∀ (s : Shared) (v : Value), BindsTo s fd ⟨[v], []⟩ [("_law_script", v)]) ∧ ∀ base : Heap, K.In base → base.Ns mainGlobals mg → FnG l.prog w K mg base l_law fa fd ["_law_script"] (p_law K (Ads.mk c0 c1 c2 c3 c4 c5 c6)) := by
  have e := hfa.symm.trans (PySem.W.mg_of X G at42)
  cases e
  refine ⟨PySem.W.fnOf "law" "law" (defArgs s_law) (defBody s_law) (defScope s_law) .none kV42 dc42 pm42 an42 cd42 ct42, fun s v => .of_eq rfl, fun base _ _ => ?_⟩
  have Oc2 : OexC K c2 := ⟨⟨_, _, _, _, _, _, _, _, _, _, _, _, _, _, _, x_c2, rv_c2⟩, sa_c2, ex_c2, ty_c2, kc_c2⟩
  have Ic2 := fun_mk (st := s_InvalidFlags_init) fl_c2 fc_c2 fk_c2
  have e_InvalidFlags : ErrC l.prog w K mg base "InvalidFlags" "flags" c2 := ⟨Oc2, ⟨ga_c2, gg_c2, ex_c2, hd_c2⟩, ⟨ga_c2, gg_c2, ex_c2, hd_c2, ha_c2, hn_c2, ht_c2, hm_c2⟩, no_c2, PySem.W.mg_of X G ac2, _, _, fi_c2, ft_c2, ini_InvalidFlags Oc2 no_c2 Ic2, Ic2.binds (ps := ["self", "flags"]) fun _ _ _ _ _ _ us hl => match us, hl with | [_, _], _ => rfl⟩
  have Oc3 : OexC K c3 := ⟨⟨_, _, _, _, _, _, _, _, _, _, _, _, _, _, _, x_c3, rv_c3⟩, sa_c3, ex_c3, ty_c3, kc_c3⟩
  have Ic3 := fun_mk (st := s_InvalidSlot_init) fl_c3 fc_c3 fk_c3
  have e_InvalidSlot : ErrC l.prog w K mg base "InvalidSlot" "slot" c3 := ⟨Oc3, ⟨ga_c3, gg_c3, ex_c3, hd_c3⟩, ⟨ga_c3, gg_c3, ex_c3, hd_c3, ha_c3, hn_c3, ht_c3, hm_c3⟩, no_c3, PySem.W.mg_of X G ac3, _, _, fi_c3, ft_c3, ini_InvalidSlot Oc3 no_c3 Ic3, Ic3.binds (ps := ["self", "slot"]) fun _ _ _ _ _ _ us hl => match us, hl with | [_, _], _ => rfl⟩
  have Oc1 : OexC K c1 := ⟨⟨_, _, _, _, _, _, _, _, _, _, _, _, _, _, _, x_c1, rv_c1⟩, sa_c1, ex_c1, ty_c1, kc_c1⟩
  have Ic1 := fun_mk (st := s_InvalidTree_init) fl_c1 fc_c1 fk_c1
  have e_InvalidTree : ErrC l.prog w K mg base "InvalidTree" "text" c1 := ⟨Oc1, ⟨ga_c1, gg_c1, ex_c1, hd_c1⟩, ⟨ga_c1, gg_c1, ex_c1, hd_c1, ha_c1, hn_c1, ht_c1, hm_c1⟩, no_c1, PySem.W.mg_of X G ac1, _, _, fi_c1, ft_c1, ini_InvalidTree Oc1 no_c1 Ic1, Ic1.binds (ps := ["self", "text"]) fun _ _ _ _ _ _ us hl => match us, hl with | [_, _], _ => rfl⟩
  have G0 : Env l.prog w K mg base (Ads.mk c0 c1 c2 c3 c4 c5 c6) := ⟨PySem.W.mg_none_of X G z_ValueError, PySem.W.mg_none_of X G z_all, PySem.W.mg_none_of X G z_bool, PySem.W.mg_none_of X G z_enumerate, PySem.W.mg_none_of X G z_int, PySem.W.mg_none_of X G z_isinstance, PySem.W.mg_none_of X G z_len, PySem.W.mg_none_of X G z_list, PySem.W.mg_none_of X G z_range, PySem.W.mg_none_of X G z_repr, PySem.W.mg_none_of X G z_reversed, PySem.W.mg_none_of X G z_sorted, PySem.W.mg_none_of X G z_str, PySem.W.mg_none_of X G z_tuple, PySem.W.mg_of X G ac0, PySem.W.mg_of X G ac2, PySem.W.mg_of X G ac3, PySem.W.mg_of X G ac1, ⟨opg_c6, ohd_c6, opo_c6, osa_c6⟩, ona_c6_bounds, ona_c6_lefts, ona_c6_postorder, ona_c6_preorder, ona_c6_rights, ona_c6_root, ona_c6_spans, ona_c6_text, ona_c6_ways, ⟨_, oco_c6_MOST, ⟨_, rfl⟩, ocg_c6_MOST, by decide +kernel⟩, e_InvalidFlags, e_InvalidSlot, e_InvalidTree⟩
  have T : Kit K (Ads.mk c0 c1 c2 c3 c4 c5 c6) := ⟨e_InvalidFlags.isc, kff, kfs, kfc, kfv⟩
  have F0 := fun_mk (st := s_is_integer) l0 co0 kp0
  have O0 : FnOk l.prog w K mg base (L2.CX l.prog w) l_is_integer f0 _ ["value"] (p_is_integer K (Ads.mk c0 c1 c2 c3 c4 c5 c6)) := ok_is_integer G0  F0
  have T_is_integer : DefC l.prog w K mg base "is_integer" ["value"] l_is_integer [] (p_is_integer K (Ads.mk c0 c1 c2 c3 c4 c5 c6)) := ⟨_, _, [], PySem.W.mg_of X G at0, kp0, O0, .nil, F0.binds (ps := ["value"]) fun _ _ _ _ _ _ us hl => match us, hl with | [_], _ => rfl⟩
  have F1 := fun_mk (st := s_is_place) l1 co1 kp1
  have O1 : FnOk l.prog w K mg base (L2.CX l.prog w) l_is_place f1 _ ["many", "value"] (p_is_place K (Ads.mk c0 c1 c2 c3 c4 c5 c6)) := ok_is_place G0 T_is_integer F1
  have T_is_place : DefC l.prog w K mg base "is_place" ["many", "value"] l_is_place [] (p_is_place K (Ads.mk c0 c1 c2 c3 c4 c5 c6)) := ⟨_, _, [], PySem.W.mg_of X G at1, kp1, O1, .nil, F1.binds (ps := ["many", "value"]) fun _ _ _ _ _ _ us hl => match us, hl with | [_, _], _ => rfl⟩
  have F2 := fun_mk (st := s_is_made_of) l2 co2 kp2
  have O2 : FnOk l.prog w K mg base (L2.CX l.prog w) l_is_made_of f2 _ ["value", "signs"] (p_is_made_of K (Ads.mk c0 c1 c2 c3 c4 c5 c6)) := ok_is_made_of G0  F2
  have T_is_made_of : DefC l.prog w K mg base "is_made_of" ["value", "signs"] l_is_made_of [] (p_is_made_of K (Ads.mk c0 c1 c2 c3 c4 c5 c6)) := ⟨_, _, [], PySem.W.mg_of X G at2, kp2, O2, .nil, F2.binds (ps := ["value", "signs"]) fun _ _ _ _ _ _ us hl => match us, hl with | [_, _], _ => rfl⟩
  have F3 := fun_mk (st := s_Tree_forks) l3 co3 kp3
  have O3 : FnOk l.prog w K mg base (L2.CX l.prog w) l_Tree_forks f3 _ ["self"] (p_Tree_forks K (Ads.mk c0 c1 c2 c3 c4 c5 c6)) := ok_Tree_forks G0  F3
  have T_Tree_forks : ProC l.prog w K mg base c6 "forks" l_Tree_forks (p_Tree_forks K (Ads.mk c0 c1 c2 c3 c4 c5 c6)) := ⟨_, _, _, ⟨pa3, pgt3, pt3, _, prc3⟩, O3, F3.binds (ps := ["self"]) fun _ _ _ _ _ _ us hl => match us, hl with | [_], _ => rfl⟩
  have F4 := fun_mk (st := s_checked_flags) l4 co4 kp4
  have O4 : FnOk l.prog w K mg base (L2.CX l.prog w) l_checked_flags f4 _ ["tree", "flags"] (p_checked_flags K (Ads.mk c0 c1 c2 c3 c4 c5 c6)) := ok_checked_flags G0 T_is_made_of T_Tree_forks F4
  have T_checked_flags : DefC l.prog w K mg base "checked_flags" ["tree", "flags"] l_checked_flags [] (p_checked_flags K (Ads.mk c0 c1 c2 c3 c4 c5 c6)) := ⟨_, _, [], PySem.W.mg_of X G at4, kp4, O4, .nil, F4.binds (ps := ["tree", "flags"]) fun _ _ _ _ _ _ us hl => match us, hl with | [_, _], _ => rfl⟩
  have F5 := fun_mk (st := s_checked_pattern) l5 co5 kp5
  have O5 : FnOk l.prog w K mg base (L2.CX l.prog w) l_checked_pattern f5 _ ["tree", "pattern"] (p_checked_pattern K (Ads.mk c0 c1 c2 c3 c4 c5 c6)) := ok_checked_pattern G0 T_is_made_of T_Tree_forks F5
  have T_checked_pattern : DefC l.prog w K mg base "checked_pattern" ["tree", "pattern"] l_checked_pattern [] (p_checked_pattern K (Ads.mk c0 c1 c2 c3 c4 c5 c6)) := ⟨_, _, [], PySem.W.mg_of X G at5, kp5, O5, .nil, F5.binds (ps := ["tree", "pattern"]) fun _ _ _ _ _ _ us hl => match us, hl with | [_, _], _ => rfl⟩
  have F6 := fun_mk (st := s_Tree_len) l6 co6 kp6
  have O6 : FnOk l.prog w K mg base (L2.CX l.prog w) l_Tree_len f6 _ ["self"] (p_Tree_len K (Ads.mk c0 c1 c2 c3 c4 c5 c6)) := ok_Tree_len G0  F6
  have T_Tree_len : MetC l.prog w K mg base c6 "__len__" ["self"] l_Tree_len (p_Tree_len K (Ads.mk c0 c1 c2 c3 c4 c5 c6)) := ⟨_, _, ⟨at6, fn6, kp6⟩, O6, F6.binds (ps := ["self"]) fun _ _ _ _ _ _ us hl => match us, hl with | [_], _ => rfl⟩
  have F7 := fun_mk (st := s_checked_slot) l7 co7 kp7
  have O7 : FnOk l.prog w K mg base (L2.CX l.prog w) l_checked_slot f7 _ ["tree", "slot"] (p_checked_slot K (Ads.mk c0 c1 c2 c3 c4 c5 c6)) := ok_checked_slot G0 T_is_place T_Tree_len F7
  have T_checked_slot : DefC l.prog w K mg base "checked_slot" ["tree", "slot"] l_checked_slot [] (p_checked_slot K (Ads.mk c0 c1 c2 c3 c4 c5 c6)) := ⟨_, _, [], PySem.W.mg_of X G at7, kp7, O7, .nil, F7.binds (ps := ["tree", "slot"]) fun _ _ _ _ _ _ us hl => match us, hl with | [_, _], _ => rfl⟩
  have F8 := fun_mk (st := s_checked_visits) l8 co8 kp8
  have O8 : FnOk l.prog w K mg base (L2.CX l.prog w) l_checked_visits f8 _ ["tree", "slots"] (p_checked_visits K (Ads.mk c0 c1 c2 c3 c4 c5 c6)) := ok_checked_visits G0 T_checked_slot F8
  have T_checked_visits : DefC l.prog w K mg base "checked_visits" ["tree", "slots"] l_checked_visits [] (p_checked_visits K (Ads.mk c0 c1 c2 c3 c4 c5 c6)) := ⟨_, _, [], PySem.W.mg_of X G at8, kp8, O8, .nil, F8.binds (ps := ["tree", "slots"]) fun _ _ _ _ _ _ us hl => match us, hl with | [_, _], _ => rfl⟩
  have F9 := fun_mk (st := s_trail_rows) l9 co9 kp9
  have O9 : FnOk l.prog w K mg base (L2.CX l.prog w) l_trail_rows f9 _ ["tree", "flags"] (p_trail_rows K (Ads.mk c0 c1 c2 c3 c4 c5 c6)) := ok_trail_rows G0 T_Tree_len F9
  have T_trail_rows : DefC l.prog w K mg base "trail_rows" ["tree", "flags"] l_trail_rows [] (p_trail_rows K (Ads.mk c0 c1 c2 c3 c4 c5 c6)) := ⟨_, _, [], PySem.W.mg_of X G at9, kp9, O9, .nil, F9.binds (ps := ["tree", "flags"]) fun _ _ _ _ _ _ us hl => match us, hl with | [_, _], _ => rfl⟩
  have F10 := fun_mk (st := s_forks_below) l10 co10 kp10
  have O10 : FnOk l.prog w K mg base (L2.CX l.prog w) l_forks_below f10 _ ["tree", "flags", "hang"] (p_forks_below K (Ads.mk c0 c1 c2 c3 c4 c5 c6)) := ok_forks_below G0 T_Tree_forks F10
  have T_forks_below : DefC l.prog w K mg base "forks_below" ["tree", "flags", "hang"] l_forks_below [] (p_forks_below K (Ads.mk c0 c1 c2 c3 c4 c5 c6)) := ⟨_, _, [], PySem.W.mg_of X G at10, kp10, O10, .nil, F10.binds (ps := ["tree", "flags", "hang"]) fun _ _ _ _ _ _ us hl => match us, hl with | [_, _, _], _ => rfl⟩
  have F11 := fun_mk (st := s_needed_slots) l11 co11 kp11
  have O11 : FnOk l.prog w K mg base (L2.CX l.prog w) l_needed_slots f11 _ ["tree", "start", "end"] (p_needed_slots K (Ads.mk c0 c1 c2 c3 c4 c5 c6)) := ok_needed_slots G0 T_forks_below T_trail_rows F11
  have T_needed_slots : DefC l.prog w K mg base "needed_slots" ["tree", "start", "end"] l_needed_slots [] (p_needed_slots K (Ads.mk c0 c1 c2 c3 c4 c5 c6)) := ⟨_, _, [], PySem.W.mg_of X G at11, kp11, O11, .nil, F11.binds (ps := ["tree", "start", "end"]) fun _ _ _ _ _ _ us hl => match us, hl with | [_, _, _], _ => rfl⟩
  have F12 := fun_mk (st := s_hits_between) l12 co12 kp12
  have O12 : FnOk l.prog w K mg base (L2.CX l.prog w) l_hits_between f12 _ ["tree", "start", "end"] (p_hits_between K (Ads.mk c0 c1 c2 c3 c4 c5 c6)) := ok_hits_between G0 T_forks_below T_Tree_forks F12
  have T_hits_between : DefC l.prog w K mg base "hits_between" ["tree", "start", "end"] l_hits_between [] (p_hits_between K (Ads.mk c0 c1 c2 c3 c4 c5 c6)) := ⟨_, _, [], PySem.W.mg_of X G at12, kp12, O12, .nil, F12.binds (ps := ["tree", "start", "end"]) fun _ _ _ _ _ _ us hl => match us, hl with | [_, _, _], _ => rfl⟩
  have F13 := fun_mk (st := s_needed) l13 co13 kp13
  have O13 : FnOk l.prog w K mg base (L2.CX l.prog w) l_needed f13 _ ["tree", "start", "end"] (p_needed K (Ads.mk c0 c1 c2 c3 c4 c5 c6)) := ok_needed G0 T_checked_flags T_checked_pattern T_needed_slots F13
  have T_needed : DefC l.prog w K mg base "needed" ["tree", "start", "end"] l_needed [] (p_needed K (Ads.mk c0 c1 c2 c3 c4 c5 c6)) := ⟨_, _, [], PySem.W.mg_of X G at13, kp13, O13, .nil, F13.binds (ps := ["tree", "start", "end"]) fun _ _ _ _ _ _ us hl => match us, hl with | [_, _, _], _ => rfl⟩
  have F14 := fun_mk (st := s_least_hits) l14 co14 kp14
  have O14 : FnOk l.prog w K mg base (L2.CX l.prog w) l_least_hits f14 _ ["tree", "start", "end"] (p_least_hits K (Ads.mk c0 c1 c2 c3 c4 c5 c6)) := ok_least_hits G0 T_checked_flags T_checked_pattern T_hits_between F14
  have T_least_hits : DefC l.prog w K mg base "least_hits" ["tree", "start", "end"] l_least_hits [] (p_least_hits K (Ads.mk c0 c1 c2 c3 c4 c5 c6)) := ⟨_, _, [], PySem.W.mg_of X G at14, kp14, O14, .nil, F14.binds (ps := ["tree", "start", "end"]) fun _ _ _ _ _ _ us hl => match us, hl with | [_, _, _], _ => rfl⟩
  have F15 := fun_mk (st := s_turned) l15 co15 kp15
  have O15 : FnOk l.prog w K mg base (L2.CX l.prog w) l_turned f15 _ ["tree", "flags", "slot"] (p_turned K (Ads.mk c0 c1 c2 c3 c4 c5 c6)) := ok_turned G0  F15
  have T_turned : DefC l.prog w K mg base "turned" ["tree", "flags", "slot"] l_turned [] (p_turned K (Ads.mk c0 c1 c2 c3 c4 c5 c6)) := ⟨_, _, [], PySem.W.mg_of X G at15, kp15, O15, .nil, F15.binds (ps := ["tree", "flags", "slot"]) fun _ _ _ _ _ _ us hl => match us, hl with | [_, _, _], _ => rfl⟩
  have F16 := fun_mk (st := s_flags_after) l16 co16 kp16
  have O16 : FnOk l.prog w K mg base (L2.CX l.prog w) l_flags_after f16 _ ["tree", "flags", "slot"] (p_flags_after K (Ads.mk c0 c1 c2 c3 c4 c5 c6)) := ok_flags_after G0 T_checked_pattern T_checked_slot T_turned F16
  have T_flags_after : DefC l.prog w K mg base "flags_after" ["tree", "flags", "slot"] l_flags_after [] (p_flags_after K (Ads.mk c0 c1 c2 c3 c4 c5 c6)) := ⟨_, _, [], PySem.W.mg_of X G at16, kp16, O16, .nil, F16.binds (ps := ["tree", "flags", "slot"]) fun _ _ _ _ _ _ us hl => match us, hl with | [_, _, _], _ => rfl⟩
  have F17 := fun_mk (st := s_all_after) l17 co17 kp17
  have O17 : FnOk l.prog w K mg base (L2.CX l.prog w) l_all_after f17 _ ["tree", "flags", "slots"] (p_all_after K (Ads.mk c0 c1 c2 c3 c4 c5 c6)) := ok_all_after G0 T_checked_flags T_checked_visits T_turned F17
  have T_all_after : DefC l.prog w K mg base "all_after" ["tree", "flags", "slots"] l_all_after [] (p_all_after K (Ads.mk c0 c1 c2 c3 c4 c5 c6)) := ⟨_, _, [], PySem.W.mg_of X G at17, kp17, O17, .nil, F17.binds (ps := ["tree", "flags", "slots"]) fun _ _ _ _ _ _ us hl => match us, hl with | [_, _, _], _ => rfl⟩
  have F18 := fun_mk (st := s_ends_fork) l18 co18 kp18
  have O18 : FnOk l.prog w K mg base (L2.CX l.prog w) l_ends_fork f18 _ ["stack"] (p_ends_fork K (Ads.mk c0 c1 c2 c3 c4 c5 c6)) := ok_ends_fork G0  F18
  have T_ends_fork : DefC l.prog w K mg base "ends_fork" ["stack"] l_ends_fork [] (p_ends_fork K (Ads.mk c0 c1 c2 c3 c4 c5 c6)) := ⟨_, _, [], PySem.W.mg_of X G at18, kp18, O18, .nil, F18.binds (ps := ["stack"]) fun _ _ _ _ _ _ us hl => match us, hl with | [_], _ => rfl⟩
  have F19 := fun_mk (st := s_read_forks) l19 co19 kp19
  have O19 : FnOk l.prog w K mg base (L2.CX l.prog w) l_read_forks f19 _ ["text"] (p_read_forks K (Ads.mk c0 c1 c2 c3 c4 c5 c6)) := ok_read_forks G0 T_ends_fork F19
  have T_read_forks : DefC l.prog w K mg base "read_forks" ["text"] l_read_forks [] (p_read_forks K (Ads.mk c0 c1 c2 c3 c4 c5 c6)) := ⟨_, _, [], PySem.W.mg_of X G at19, kp19, O19, .nil, F19.binds (ps := ["text"]) fun _ _ _ _ _ _ us hl => match us, hl with | [_], _ => rfl⟩
  have F20 := fun_mk (st := s_lay_ways) l20 co20 kp20
  have O20 : FnOk l.prog w K mg base (L2.CX l.prog w) l_lay_ways f20 _ ["root", "lefts", "rights"] (p_lay_ways K (Ads.mk c0 c1 c2 c3 c4 c5 c6)) := ok_lay_ways G0  F20
  have T_lay_ways : DefC l.prog w K mg base "lay_ways" ["root", "lefts", "rights"] l_lay_ways [] (p_lay_ways K (Ads.mk c0 c1 c2 c3 c4 c5 c6)) := ⟨_, _, [], PySem.W.mg_of X G at20, kp20, O20, .nil, F20.binds (ps := ["root", "lefts", "rights"]) fun _ _ _ _ _ _ us hl => match us, hl with | [_, _, _], _ => rfl⟩
  have F21 := fun_mk (st := s_Tree_init) l21 co21 kp21
  have O21 : FnOk l.prog w K mg base (L2.CX l.prog w) l_Tree_init f21 _ ["self", "text"] (p_Tree_init K (Ads.mk c0 c1 c2 c3 c4 c5 c6)) := ok_Tree_init G0 T_lay_ways T_read_forks F21
  have T_Tree_init : MakC l.prog w K mg base "Tree" c6 ["self", "text"] l_Tree_init (p_Tree_init K (Ads.mk c0 c1 c2 c3 c4 c5 c6)) := ⟨_, _, PySem.W.mg_of X G ac6, ⟨omk_c6, at21, fn21, okc_c6⟩, O21, F21.binds (ps := ["self", "text"]) fun _ _ _ _ _ _ us hl => match us, hl with | [_, _], _ => rfl⟩
  have F22 := fun_mk (st := s_l_is_integer) l22 co22 kp22
  have O22 : FnOk l.prog w K mg base (L2.CX l.prog w) l_l_is_integer f22 _ ["_law_told"] (p_l_is_integer K (Ads.mk c0 c1 c2 c3 c4 c5 c6)) := ok_l_is_integer G0  F22
  have T_l_is_integer : DefC l.prog w K mg base "_law_is_integer" ["_law_told"] l_l_is_integer [] (p_l_is_integer K (Ads.mk c0 c1 c2 c3 c4 c5 c6)) := ⟨_, _, [], PySem.W.mg_of X G at22, kp22, O22, .nil, F22.binds (ps := ["_law_told"]) fun _ _ _ _ _ _ us hl => match us, hl with | [_], _ => rfl⟩
  have F23 := fun_mk (st := s_l_same) l23 co23 kp23
  have O23 : FnOk l.prog w K mg base (L2.CX l.prog w) l_l_same f23 _ ["_law_told", "_law_due_here"] (p_l_same K (Ads.mk c0 c1 c2 c3 c4 c5 c6)) := ok_l_same G0 T_l_is_integer F23
  have T_l_same : DefC l.prog w K mg base "_law_same" ["_law_told", "_law_due_here"] l_l_same [] (p_l_same K (Ads.mk c0 c1 c2 c3 c4 c5 c6)) := ⟨_, _, [], PySem.W.mg_of X G at23, kp23, O23, .nil, F23.binds (ps := ["_law_told", "_law_due_here"]) fun _ _ _ _ _ _ us hl => match us, hl with | [_, _], _ => rfl⟩
  have F24 := fun_mk (st := s_l_box) l24 co24 kp24
  have O24 : FnOk l.prog w K mg base (L2.CX l.prog w) l_l_box f24 _ ["_law_script"] (p_l_box K (Ads.mk c0 c1 c2 c3 c4 c5 c6)) := ok_l_box G0  F24
  have T_l_box : DefC l.prog w K mg base "_law_box" ["_law_script"] l_l_box [] (p_l_box K (Ads.mk c0 c1 c2 c3 c4 c5 c6)) := ⟨_, _, [], PySem.W.mg_of X G at24, kp24, O24, .nil, F24.binds (ps := ["_law_script"]) fun _ _ _ _ _ _ us hl => match us, hl with | [_], _ => rfl⟩
  have F25 := fun_mk (st := s_l_take) l25 co25 kp25
  have O25 : FnOk l.prog w K mg base (L2.CX l.prog w) l_l_take f25 _ ["_law_box_here", "_law_size"] (p_l_take K (Ads.mk c0 c1 c2 c3 c4 c5 c6)) := ok_l_take G0  F25
  have T_l_take : DefC l.prog w K mg base "_law_take" ["_law_box_here", "_law_size"] l_l_take [] (p_l_take K (Ads.mk c0 c1 c2 c3 c4 c5 c6)) := ⟨_, _, [], PySem.W.mg_of X G at25, kp25, O25, .nil, F25.binds (ps := ["_law_box_here", "_law_size"]) fun _ _ _ _ _ _ us hl => match us, hl with | [_, _], _ => rfl⟩
  have F26 := fun_mk (st := s_l_join) l26 co26 kp26
  have O26 : FnOk l.prog w K mg base (L2.CX l.prog w) l_l_join f26 _ ["_law_box_here", "_law_lean", "_law_room"] (p_l_join K (Ads.mk c0 c1 c2 c3 c4 c5 c6)) := ok_l_join G0 T_l_take F26
  have T_l_join : DefC l.prog w K mg base "_law_join" ["_law_box_here", "_law_lean", "_law_room"] l_l_join [] (p_l_join K (Ads.mk c0 c1 c2 c3 c4 c5 c6)) := ⟨_, _, [], PySem.W.mg_of X G at26, kp26, O26, .nil, F26.binds (ps := ["_law_box_here", "_law_lean", "_law_room"]) fun _ _ _ _ _ _ us hl => match us, hl with | [_, _, _], _ => rfl⟩
  have F27 := fun_mk (st := s_l_tree) l27 co27 kp27
  have O27 : FnOk l.prog w K mg base (L2.CX l.prog w) l_l_tree f27 _ ["_law_box_here", "_law_slots_here"] (p_l_tree K (Ads.mk c0 c1 c2 c3 c4 c5 c6)) := ok_l_tree G0 T_l_join T_l_take F27
  have T_l_tree : DefC l.prog w K mg base "_law_tree" ["_law_box_here", "_law_slots_here"] l_l_tree [] (p_l_tree K (Ads.mk c0 c1 c2 c3 c4 c5 c6)) := ⟨_, _, [], PySem.W.mg_of X G at27, kp27, O27, .nil, F27.binds (ps := ["_law_box_here", "_law_slots_here"]) fun _ _ _ _ _ _ us hl => match us, hl with | [_, _], _ => rfl⟩
  have F28 := fun_mk (st := s_l_flags) l28 co28 kp28
  have O28 : FnOk l.prog w K mg base (L2.CX l.prog w) l_l_flags f28 _ ["_law_box_here", "_law_many"] (p_l_flags K (Ads.mk c0 c1 c2 c3 c4 c5 c6)) := ok_l_flags G0 T_l_take F28
  have T_l_flags : DefC l.prog w K mg base "_law_flags" ["_law_box_here", "_law_many"] l_l_flags [] (p_l_flags K (Ads.mk c0 c1 c2 c3 c4 c5 c6)) := ⟨_, _, [], PySem.W.mg_of X G at28, kp28, O28, .nil, F28.binds (ps := ["_law_box_here", "_law_many"]) fun _ _ _ _ _ _ us hl => match us, hl with | [_, _], _ => rfl⟩
  have F29 := fun_mk (st := s_l_slots) l29 co29 kp29
  have O29 : FnOk l.prog w K mg base (L2.CX l.prog w) l_l_slots f29 _ ["_law_box_here"] (p_l_slots K (Ads.mk c0 c1 c2 c3 c4 c5 c6)) := ok_l_slots G0 T_l_take F29
  have T_l_slots : DefC l.prog w K mg base "_law_slots" ["_law_box_here"] l_l_slots [] (p_l_slots K (Ads.mk c0 c1 c2 c3 c4 c5 c6)) := ⟨_, _, [], PySem.W.mg_of X G at29, kp29, O29, .nil, F29.binds (ps := ["_law_box_here"]) fun _ _ _ _ _ _ us hl => match us, hl with | [_], _ => rfl⟩
  have F30 := fun_mk (st := s_l_start) l30 co30 kp30
  have O30 : FnOk l.prog w K mg base (L2.CX l.prog w) l_l_start f30 _ ["_law_box_here", "_law_end", "_law_odd"] (p_l_start K (Ads.mk c0 c1 c2 c3 c4 c5 c6)) := ok_l_start G0 T_l_take F30
  have T_l_start : DefC l.prog w K mg base "_law_start" ["_law_box_here", "_law_end", "_law_odd"] l_l_start [] (p_l_start K (Ads.mk c0 c1 c2 c3 c4 c5 c6)) := ⟨_, _, [], PySem.W.mg_of X G at30, kp30, O30, .nil, F30.binds (ps := ["_law_box_here", "_law_end", "_law_odd"]) fun _ _ _ _ _ _ us hl => match us, hl with | [_, _, _], _ => rfl⟩
  have F31 := fun_mk (st := s_l_bent) l31 co31 kp31
  have O31 : FnOk l.prog w K mg base (L2.CX l.prog w) l_l_bent f31 _ ["_law_box_here", "_law_flags_here", "_law_odd"] (p_l_bent K (Ads.mk c0 c1 c2 c3 c4 c5 c6)) := ok_l_bent G0 T_l_take F31
  have T_l_bent : DefC l.prog w K mg base "_law_bent" ["_law_box_here", "_law_flags_here", "_law_odd"] l_l_bent [] (p_l_bent K (Ads.mk c0 c1 c2 c3 c4 c5 c6)) := ⟨_, _, [], PySem.W.mg_of X G at31, kp31, O31, .nil, F31.binds (ps := ["_law_box_here", "_law_flags_here", "_law_odd"]) fun _ _ _ _ _ _ us hl => match us, hl with | [_, _, _], _ => rfl⟩
  have F32 := fun_mk (st := s_l_hit) l32 co32 kp32
  have O32 : FnOk l.prog w K mg base (L2.CX l.prog w) l_l_hit f32 _ ["_law_flags_here", "_law_way"] (p_l_hit K (Ads.mk c0 c1 c2 c3 c4 c5 c6)) := ok_l_hit G0  F32
  have T_l_hit : DefC l.prog w K mg base "_law_hit" ["_law_flags_here", "_law_way"] l_l_hit [] (p_l_hit K (Ads.mk c0 c1 c2 c3 c4 c5 c6)) := ⟨_, _, [], PySem.W.mg_of X G at32, kp32, O32, .nil, F32.binds (ps := ["_law_flags_here", "_law_way"]) fun _ _ _ _ _ _ us hl => match us, hl with | [_, _], _ => rfl⟩
  have F33 := fun_mk (st := s_l_holders) l33 co33 kp33
  have O33 : FnOk l.prog w K mg base (L2.CX l.prog w) l_l_holders f33 _ ["_law_flags_here", "_law_ways"] (p_l_holders K (Ads.mk c0 c1 c2 c3 c4 c5 c6)) := ok_l_holders G0  F33
  have T_l_holders : DefC l.prog w K mg base "_law_holders" ["_law_flags_here", "_law_ways"] l_l_holders [] (p_l_holders K (Ads.mk c0 c1 c2 c3 c4 c5 c6)) := ⟨_, _, [], PySem.W.mg_of X G at33, kp33, O33, .nil, F33.binds (ps := ["_law_flags_here", "_law_ways"]) fun _ _ _ _ _ _ us hl => match us, hl with | [_, _], _ => rfl⟩
  have F34 := fun_mk (st := s_l_above) l34 co34 kp34
  have O34 : FnOk l.prog w K mg base (L2.CX l.prog w) l_l_above f34 _ ["_law_flags_here", "_law_ways"] (p_l_above K (Ads.mk c0 c1 c2 c3 c4 c5 c6)) := ok_l_above G0 T_l_holders F34
  have T_l_above : DefC l.prog w K mg base "_law_above" ["_law_flags_here", "_law_ways"] l_l_above [] (p_l_above K (Ads.mk c0 c1 c2 c3 c4 c5 c6)) := ⟨_, _, [], PySem.W.mg_of X G at34, kp34, O34, .nil, F34.binds (ps := ["_law_flags_here", "_law_ways"]) fun _ _ _ _ _ _ us hl => match us, hl with | [_, _], _ => rfl⟩
  have F35 := fun_mk (st := s_l_due) l35 co35 kp35
  have O35 : FnOk l.prog w K mg base (L2.CX l.prog w) l_l_due f35 _ ["_law_start_here", "_law_end", "_law_ways"] (p_l_due K (Ads.mk c0 c1 c2 c3 c4 c5 c6)) := ok_l_due G0 T_l_above T_l_holders F35
  have T_l_due : DefC l.prog w K mg base "_law_due" ["_law_start_here", "_law_end", "_law_ways"] l_l_due [] (p_l_due K (Ads.mk c0 c1 c2 c3 c4 c5 c6)) := ⟨_, _, [], PySem.W.mg_of X G at35, kp35, O35, .nil, F35.binds (ps := ["_law_start_here", "_law_end", "_law_ways"]) fun _ _ _ _ _ _ us hl => match us, hl with | [_, _, _], _ => rfl⟩
  have F36 := fun_mk (st := s_l_order) l36 co36 kp36
  have O36 : FnOk l.prog w K mg base (L2.CX l.prog w) l_l_order f36 _ ["_law_box_here", "_law_due_here", "_law_above_here"] (p_l_order K (Ads.mk c0 c1 c2 c3 c4 c5 c6)) := ok_l_order G0 T_l_take F36
  have T_l_order : DefC l.prog w K mg base "_law_order" ["_law_box_here", "_law_due_here", "_law_above_here"] l_l_order [] (p_l_order K (Ads.mk c0 c1 c2 c3 c4 c5 c6)) := ⟨_, _, [], PySem.W.mg_of X G at36, kp36, O36, .nil, F36.binds (ps := ["_law_box_here", "_law_due_here", "_law_above_here"]) fun _ _ _ _ _ _ us hl => match us, hl with | [_, _, _], _ => rfl⟩
  have F37 := fun_mk (st := s_l_search) l37 co37 kp37
  have O37 : FnOk l.prog w K mg base (L2.CX l.prog w) l_l_search f37 _ ["_law_start_here", "_law_end", "_law_ways"] (p_l_search K (Ads.mk c0 c1 c2 c3 c4 c5 c6)) := ok_l_search G0 T_l_hit F37
  have T_l_search : DefC l.prog w K mg base "_law_search" ["_law_start_here", "_law_end", "_law_ways"] l_l_search [] (p_l_search K (Ads.mk c0 c1 c2 c3 c4 c5 c6)) := ⟨_, _, [], PySem.W.mg_of X G at37, kp37, O37, .nil, F37.binds (ps := ["_law_start_here", "_law_end", "_law_ways"]) fun _ _ _ _ _ _ us hl => match us, hl with | [_, _, _], _ => rfl⟩
  have F38 := fun_mk (st := s_l_answers) l38 co38 kp38
  have O38 : FnOk l.prog w K mg base (L2.CX l.prog w) l_l_answers f38 _ ["_law_tree_here", "_law_start_here", "_law_end", "_law_ways"] (p_l_answers K (Ads.mk c0 c1 c2 c3 c4 c5 c6)) := ok_l_answers G0 T_l_due T_l_is_integer T_l_same T_l_search T_least_hits T_needed F38
  have T_l_answers : DefC l.prog w K mg base "_law_answers" ["_law_tree_here", "_law_start_here", "_law_end", "_law_ways"] l_l_answers [] (p_l_answers K (Ads.mk c0 c1 c2 c3 c4 c5 c6)) := ⟨_, _, [], PySem.W.mg_of X G at38, kp38, O38, .nil, F38.binds (ps := ["_law_tree_here", "_law_start_here", "_law_end", "_law_ways"]) fun _ _ _ _ _ _ us hl => match us, hl with | [_, _, _, _], _ => rfl⟩
  have F39 := fun_mk (st := s_l_plays) l39 co39 kp39
  have O39 : FnOk l.prog w K mg base (L2.CX l.prog w) l_l_plays f39 _ ["_law_box_here", "_law_tree_here", "_law_start_here", "_law_end", "_law_ways"] (p_l_plays K (Ads.mk c0 c1 c2 c3 c4 c5 c6)) := ok_l_plays G0 T_l_above T_l_due T_l_hit T_l_order T_flags_after F39
  have T_l_plays : DefC l.prog w K mg base "_law_plays" ["_law_box_here", "_law_tree_here", "_law_start_here", "_law_end", "_law_ways"] l_l_plays [] (p_l_plays K (Ads.mk c0 c1 c2 c3 c4 c5 c6)) := ⟨_, _, [], PySem.W.mg_of X G at39, kp39, O39, .nil, F39.binds (ps := ["_law_box_here", "_law_tree_here", "_law_start_here", "_law_end", "_law_ways"]) fun _ _ _ _ _ _ us hl => match us, hl with | [_, _, _, _, _], _ => rfl⟩
  have F40 := fun_mk (st := s_l_comes) l40 co40 kp40
  have O40 : FnOk l.prog w K mg base (L2.CX l.prog w) l_l_comes f40 _ ["_law_box_here", "_law_tree_here", "_law_ways"] (p_l_comes K (Ads.mk c0 c1 c2 c3 c4 c5 c6)) := ok_l_comes G0 T_l_answers T_l_flags T_l_hit T_l_take T_all_after T_least_hits T_needed F40
  have T_l_comes : DefC l.prog w K mg base "_law_comes" ["_law_box_here", "_law_tree_here", "_law_ways"] l_l_comes [] (p_l_comes K (Ads.mk c0 c1 c2 c3 c4 c5 c6)) := ⟨_, _, [], PySem.W.mg_of X G at40, kp40, O40, .nil, F40.binds (ps := ["_law_box_here", "_law_tree_here", "_law_ways"]) fun _ _ _ _ _ _ us hl => match us, hl with | [_, _, _], _ => rfl⟩
  have F41 := fun_mk (st := s_l_fault) l41 co41 kp41
  have O41 : FnG l.prog w K mg base l_l_fault f41 _ ["_law_door", "_law_tree_here", "_law_start_here", "_law_end"] (p_l_fault K (Ads.mk c0 c1 c2 c3 c4 c5 c6)) := ok_l_fault G0 T T_least_hits T_needed F41
  have T_l_fault : DefG l.prog w K mg base "_law_fault" ["_law_door", "_law_tree_here", "_law_start_here", "_law_end"] l_l_fault (p_l_fault K (Ads.mk c0 c1 c2 c3 c4 c5 c6)) := ⟨_, _, PySem.W.mg_of X G at41, kp41, O41, F41.binds (ps := ["_law_door", "_law_tree_here", "_law_start_here", "_law_end"]) fun _ _ _ _ _ _ us hl => match us, hl with | [_, _, _, _], _ => rfl⟩
  have F42 := fun_mk (st := s_law) l42 co42 kp42
  have O42 : FnG l.prog w K mg base l_law fa _ ["_law_script"] (p_law K (Ads.mk c0 c1 c2 c3 c4 c5 c6)) := ok_law G0 T T_l_answers T_l_bent T_l_box T_l_comes T_l_flags T_l_plays T_l_slots T_l_start T_l_tree T_l_fault T_Tree_init F42
  exact O42
theorem walk {l : PySem.W.OpenLaw} {q : Program} {loose : List Str} {XP : (Str → Option Value) → Heap → Prop} {YP : World → Heap → Prop} {d : DefRec} {K : Params → PySem.W.Frag} (hn : l.most = some 63) (hdf : d.params.defaults = [])
    (hY : ∀ (w : World) (h : Heap), YP w h → (K w.params).In h)
    (F : ∀ (w : World) (mg : Str → Option Value) (fa : Addr) (h : Heap), (K w.params).In h → h.Ns mainGlobals mg → mg d.name = some (.ref fa) →
      ∃ fd : FuncData, (∀ (s : Shared) (u : Value), BindsTo s fd ⟨[u], []⟩ [("_law_script", u)]) ∧ ∀ base : Heap, (K w.params).In base → base.Ns mainGlobals mg → FnG l.prog w (K w.params) mg base l_law fa fd ["_law_script"] (spC (ct_law (K w.params)))) :
    PySem.W.WalkO q loose XP YP l.row.toRowW d [] (fun f vs => PySem.call f vs) :=
  walk_ofG (n := 63) (k := l_law) (x := "_law_script") (sp := fun w => spC (ct_law (K w.params))) hn (by decide) hdf ⟨rfl, by decide, by decide⟩ hY F
    fun _ _ a ns hl hS => ⟨(a, ns), ⟨rfl, hS⟩, fun _ _ q => q, fun _ _ _ q => q.elim⟩
end LW
open PySem PySem.W PyProof.Rows
set_option maxRecDepth 100000 in
set_option maxHeartbeats 0 in
theorem PySem.Challenge.cw_lastside_k21_whole_needed_holds : PySem.Challenge.rw_lastside_k21_whole_needed.Holds := by
  w_on; o_law; k_head; (case hw => w_witness2)
  k_fill
  refine LW.walk (l := PySem.Challenge.rw_lastside_k21_whole_needed) rfl rfl (fun w h Y => PySem.W.kIn_of Y) ?F
  case F =>
    intro w mg fa h KX G hmg
    refine' LW.all_mk KX G hmg ?ac0 ?ac1 ?ac2 ?ac3 ?ac4 ?ac5 ?ac6 ?z_ValueError ?z_all ?z_bool ?z_enumerate ?z_int ?z_isinstance ?z_len ?z_list ?z_range ?z_repr ?z_reversed ?z_sorted ?z_str ?z_tuple ?opg_c6 ?ohd_c6 ?opo_c6 ?osa_c6 ?omk_c6 ?okc_c6 ?ona_c6_bounds ?ona_c6_lefts ?ona_c6_postorder ?ona_c6_preorder ?ona_c6_rights ?ona_c6_root ?ona_c6_spans ?ona_c6_text ?ona_c6_ways ?oco_c6_MOST ?ocg_c6_MOST ?at0 ?l0 ?co0 ?kp0 ?at1 ?l1 ?co1 ?kp1 ?at2 ?l2 ?co2 ?kp2 ?pa3 ?pgt3 ?pt3 ?prc3 ?l3 ?co3 ?kp3 ?at4 ?l4 ?co4 ?kp4 ?at5 ?l5 ?co5 ?kp5 ?at6 ?fn6 ?l6 ?co6 ?kp6 ?at7 ?l7 ?co7 ?kp7 ?at8 ?l8 ?co8 ?kp8 ?at9 ?l9 ?co9 ?kp9 ?at10 ?l10 ?co10 ?kp10 ?at11 ?l11 ?co11 ?kp11 ?at12 ?l12 ?co12 ?kp12 ?at13 ?l13 ?co13 ?kp13 ?at14 ?l14 ?co14 ?kp14 ?at15 ?l15 ?co15 ?kp15 ?at16 ?l16 ?co16 ?kp16 ?at17 ?l17 ?co17 ?kp17 ?at18 ?l18 ?co18 ?kp18 ?at19 ?l19 ?co19 ?kp19 ?at20 ?l20 ?co20 ?kp20 ?at21 ?fn21 ?l21 ?co21 ?kp21 ?at22 ?l22 ?co22 ?kp22 ?at23 ?l23 ?co23 ?kp23 ?at24 ?l24 ?co24 ?kp24 ?at25 ?l25 ?co25 ?kp25 ?at26 ?l26 ?co26 ?kp26 ?at27 ?l27 ?co27 ?kp27 ?at28 ?l28 ?co28 ?kp28 ?at29 ?l29 ?co29 ?kp29 ?at30 ?l30 ?co30 ?kp30 ?at31 ?l31 ?co31 ?kp31 ?at32 ?l32 ?co32 ?kp32 ?at33 ?l33 ?co33 ?kp33 ?at34 ?l34 ?co34 ?kp34 ?at35 ?l35 ?co35 ?kp35 ?at36 ?l36 ?co36 ?kp36 ?at37 ?l37 ?co37 ?kp37 ?at38 ?l38 ?co38 ?kp38 ?at39 ?l39 ?co39 ?kp39 ?at40 ?l40 ?co40 ?kp40 ?at41 ?l41 ?co41 ?kp41 ?at42 ?l42 ?co42 ?kp42 ?x_c2 ?rv_c2 ?sa_c2 ?ex_c2 ?ty_c2 ?kc_c2 ?ga_c2 ?gg_c2 ?hd_c2 ?ha_c2 ?hn_c2 ?ht_c2 ?hm_c2 ?no_c2 ?fi_c2 ?ft_c2 ?fl_c2 ?fc_c2 ?fk_c2 ?x_c3 ?rv_c3 ?sa_c3 ?ex_c3 ?ty_c3 ?kc_c3 ?ga_c3 ?gg_c3 ?hd_c3 ?ha_c3 ?hn_c3 ?ht_c3 ?hm_c3 ?no_c3 ?fi_c3 ?ft_c3 ?fl_c3 ?fc_c3 ?fk_c3 ?x_c1 ?rv_c1 ?sa_c1 ?ex_c1 ?ty_c1 ?kc_c1 ?ga_c1 ?gg_c1 ?hd_c1 ?ha_c1 ?hn_c1 ?ht_c1 ?hm_c1 ?no_c1 ?fi_c1 ?ft_c1 ?fl_c1 ?fc_c1 ?fk_c1 ?kff ?kfs ?kfc ?kfv
    (case ac0 => k_is)
    (case ac1 => k_is)
    (case ac2 => k_is)
    (case ac3 => k_is)
    (case ac4 => k_is)
    (case ac5 => k_is)
    (case ac6 => k_is)
    (case z_ValueError => k_is)
    (case z_all => k_is)
    (case z_bool => k_is)
    (case z_enumerate => k_is)
    (case z_int => k_is)
    (case z_isinstance => k_is)
    (case z_len => k_is)
    (case z_list => k_is)
    (case z_range => k_is)
    (case z_repr => k_is)
    (case z_reversed => k_is)
    (case z_sorted => k_is)
    (case z_str => k_is)
    (case z_tuple => k_is)
    (case opg_c6 => k_is)
    (case ohd_c6 => k_is)
    (case opo_c6 => k_is)
    (case osa_c6 => k_is)
    (case omk_c6 => k_is)
    (case okc_c6 => k_is)
    (case ona_c6_bounds => k_is)
    (case ona_c6_lefts => k_is)
    (case ona_c6_postorder => k_is)
    (case ona_c6_preorder => k_is)
    (case ona_c6_rights => k_is)
    (case ona_c6_root => k_is)
    (case ona_c6_spans => k_is)
    (case ona_c6_text => k_is)
    (case ona_c6_ways => k_is)
    (case oco_c6_MOST => k_is)
    (case ocg_c6_MOST => k_is)
    (case at0 => k_is)
    (case l0 => k_is)
    (case co0 => k_is)
    (case kp0 => k_is)
    (case at1 => k_is)
    (case l1 => k_is)
    (case co1 => k_is)
    (case kp1 => k_is)
    (case at2 => k_is)
    (case l2 => k_is)
    (case co2 => k_is)
    (case kp2 => k_is)
    (case pa3 => k_is)
    (case pgt3 => k_is)
    (case pt3 => k_is)
    (case prc3 => k_is)
    (case l3 => k_is)
    (case co3 => k_is)
    (case kp3 => k_is)
    (case at4 => k_is)
    (case l4 => k_is)
    (case co4 => k_is)
    (case kp4 => k_is)
    (case at5 => k_is)
    (case l5 => k_is)
    (case co5 => k_is)
    (case kp5 => k_is)
    (case at6 => k_is)
    (case fn6 => k_is)
    (case l6 => k_is)
    (case co6 => k_is)
    (case kp6 => k_is)
    (case at7 => k_is)
    (case l7 => k_is)
    (case co7 => k_is)
    (case kp7 => k_is)
    (case at8 => k_is)
    (case l8 => k_is)
    (case co8 => k_is)
    (case kp8 => k_is)
    (case at9 => k_is)
    (case l9 => k_is)
    (case co9 => k_is)
    (case kp9 => k_is)
    (case at10 => k_is)
    (case l10 => k_is)
    (case co10 => k_is)
    (case kp10 => k_is)
    (case at11 => k_is)
    (case l11 => k_is)
    (case co11 => k_is)
    (case kp11 => k_is)
    (case at12 => k_is)
    (case l12 => k_is)
    (case co12 => k_is)
    (case kp12 => k_is)
    (case at13 => k_is)
    (case l13 => k_is)
    (case co13 => k_is)
    (case kp13 => k_is)
    (case at14 => k_is)
    (case l14 => k_is)
    (case co14 => k_is)
    (case kp14 => k_is)
    (case at15 => k_is)
    (case l15 => k_is)
    (case co15 => k_is)
    (case kp15 => k_is)
    (case at16 => k_is)
    (case l16 => k_is)
    (case co16 => k_is)
    (case kp16 => k_is)
    (case at17 => k_is)
    (case l17 => k_is)
    (case co17 => k_is)
    (case kp17 => k_is)
    (case at18 => k_is)
    (case l18 => k_is)
    (case co18 => k_is)
    (case kp18 => k_is)
    (case at19 => k_is)
    (case l19 => k_is)
    (case co19 => k_is)
    (case kp19 => k_is)
    (case at20 => k_is)
    (case l20 => k_is)
    (case co20 => k_is)
    (case kp20 => k_is)
    (case at21 => k_is)
    (case fn21 => k_is)
    (case l21 => k_is)
    (case co21 => k_is)
    (case kp21 => k_is)
    (case at22 => k_is)
    (case l22 => k_is)
    (case co22 => k_is)
    (case kp22 => k_is)
    (case at23 => k_is)
    (case l23 => k_is)
    (case co23 => k_is)
    (case kp23 => k_is)
    (case at24 => k_is)
    (case l24 => k_is)
    (case co24 => k_is)
    (case kp24 => k_is)
    (case at25 => k_is)
    (case l25 => k_is)
    (case co25 => k_is)
    (case kp25 => k_is)
    (case at26 => k_is)
    (case l26 => k_is)
    (case co26 => k_is)
    (case kp26 => k_is)
    (case at27 => k_is)
    (case l27 => k_is)
    (case co27 => k_is)
    (case kp27 => k_is)
    (case at28 => k_is)
    (case l28 => k_is)
    (case co28 => k_is)
    (case kp28 => k_is)
    (case at29 => k_is)
    (case l29 => k_is)
    (case co29 => k_is)
    (case kp29 => k_is)
    (case at30 => k_is)
    (case l30 => k_is)
    (case co30 => k_is)
    (case kp30 => k_is)
    (case at31 => k_is)
    (case l31 => k_is)
    (case co31 => k_is)
    (case kp31 => k_is)
    (case at32 => k_is)
    (case l32 => k_is)
    (case co32 => k_is)
    (case kp32 => k_is)
    (case at33 => k_is)
    (case l33 => k_is)
    (case co33 => k_is)
    (case kp33 => k_is)
    (case at34 => k_is)
    (case l34 => k_is)
    (case co34 => k_is)
    (case kp34 => k_is)
    (case at35 => k_is)
    (case l35 => k_is)
    (case co35 => k_is)
    (case kp35 => k_is)
    (case at36 => k_is)
    (case l36 => k_is)
    (case co36 => k_is)
    (case kp36 => k_is)
    (case at37 => k_is)
    (case l37 => k_is)
    (case co37 => k_is)
    (case kp37 => k_is)
    (case at38 => k_is)
    (case l38 => k_is)
    (case co38 => k_is)
    (case kp38 => k_is)
    (case at39 => k_is)
    (case l39 => k_is)
    (case co39 => k_is)
    (case kp39 => k_is)
    (case at40 => k_is)
    (case l40 => k_is)
    (case co40 => k_is)
    (case kp40 => k_is)
    (case at41 => k_is)
    (case l41 => k_is)
    (case co41 => k_is)
    (case kp41 => k_is)
    (case at42 => k_is)
    (case l42 => k_is)
    (case co42 => k_is)
    (case kp42 => k_is)
    (case x_c2 => k_is)
    (case rv_c2 => decide +kernel)
    (case sa_c2 => k_is)
    (case ex_c2 => k_is)
    (case ty_c2 => k_is)
    (case kc_c2 => k_is)
    (case ga_c2 => k_is)
    (case gg_c2 => k_is)
    (case hd_c2 => k_is)
    (case ha_c2 => k_is)
    (case hn_c2 => k_is)
    (case ht_c2 => k_is)
    (case hm_c2 => k_is)
    (case no_c2 => k_is)
    (case fi_c2 => k_is)
    (case ft_c2 => k_is)
    (case fl_c2 => k_is)
    (case fc_c2 => k_is)
    (case fk_c2 => k_is)
    (case x_c3 => k_is)
    (case rv_c3 => decide +kernel)
    (case sa_c3 => k_is)
    (case ex_c3 => k_is)
    (case ty_c3 => k_is)
    (case kc_c3 => k_is)
    (case ga_c3 => k_is)
    (case gg_c3 => k_is)
    (case hd_c3 => k_is)
    (case ha_c3 => k_is)
    (case hn_c3 => k_is)
    (case ht_c3 => k_is)
    (case hm_c3 => k_is)
    (case no_c3 => k_is)
    (case fi_c3 => k_is)
    (case ft_c3 => k_is)
    (case fl_c3 => k_is)
    (case fc_c3 => k_is)
    (case fk_c3 => k_is)
    (case x_c1 => k_is)
    (case rv_c1 => decide +kernel)
    (case sa_c1 => k_is)
    (case ex_c1 => k_is)
    (case ty_c1 => k_is)
    (case kc_c1 => k_is)
    (case ga_c1 => k_is)
    (case gg_c1 => k_is)
    (case hd_c1 => k_is)
    (case ha_c1 => k_is)
    (case hn_c1 => k_is)
    (case ht_c1 => k_is)
    (case hm_c1 => k_is)
    (case no_c1 => k_is)
    (case fi_c1 => k_is)
    (case ft_c1 => k_is)
    (case fl_c1 => k_is)
    (case fc_c1 => k_is)
    (case fk_c1 => k_is)
    (case kff => kernel_rfl)
    (case kfs => kernel_rfl)
    (case kfc => kernel_rfl)
    (case kfv => kernel_rfl)
