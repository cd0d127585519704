import PyProof.Rows.All
import Wide.All
import OpenK.AllK
import Wide.FinOn
import HandS.ForMost
import HandS.Flow
import HandS.IsInst
import HandS.Exc
import HandS.ExcInit
import HandS.ExcOwn
import HandS.WordsExc
import HandS.ExcIs
import HandS.ExcField
import HandS.TryMany
import HandS.CallSlots
import HandS.Defaults
import HandS.SetFor
import HandS.StrMore
import HandS.Gcd
import KE.KMathGC
import KE.KIsAll
import KE.KTryMore
import HandS.TupAny
import HandS.Rev
import HandS.Conv
import HandS.More
import HandS.Property
import HandS.New
import HandS.SortOrd
import HandS.SortRule
import HandS.Text
import HandS.RaiseMore
import OpenK.KOps
import PyProof.Draws
import PyProof.StrBlock2
import PyProof.CallFns
import PyProof.ReprRoads
import HandS.Ends
import HandS.Dict
import PyProof.ListStr
import HandS.Style
import HandS.DictComp
import KE.KDictDisplayH
import KE.KDictCopyH
import HandS.GenOver
import HandS.GenList
import PySem.Challenge.RW_lastside_k24_whole_spreads
set_option Elab.async false
set_option linter.all false
set_option maxRecDepth 100000
set_option maxHeartbeats 4000000
namespace PySem.W
open PySem PySem.Spec PySem.Calls PyProof.Rows
section
variable {prog : Program} {w : World} {A : Around} {E : Value → Shared → Prop} {s : Shared} {K : Frag} {x D : Addr} {ox : Obj} {od : Option Obj}
theorem sy_findObj {C : Addr} {name : Str} {a g : Value} (hc : (clsIn K C).isSome = true) (ha : findIn K (.ref C) name = some (some a)) (hg : specialIn K a "__get__" = some (some g)) (ht : takesIn K a = some true) : findObj K C od name = some (.bind g a) := by
  obtain ⟨cd, hc⟩ := Option.isSome_iff_exists.mp hc
  unfold findObj
  rw [hc, Option.bind_some, ha, Option.bind_some]
  simp [hg, ht]
/-- __class__ of an own error that has its dict -/
theorem sy_classE {Q : Option Value → Shared → Prop} (hga : findIn K (.ref D) "__getattribute__" = some (some (.builtin "BaseException.__getattribute__"))) (hgt : findIn K (.ref D) "__getattr__" = some none) (hsub : subIn K (.ref D) (.type "BaseException") = some true)
    (hdct : hasDictIn K D = true) (ha : findIn K (.ref D) "__class__" = some (some (.builtin "object.__class__")))
    (hn : specialIn K (.builtin "object.__class__") "__get__" = some (some (.builtin "getset_descriptor.__get__"))) (htk : takesIn K (.builtin "object.__class__") = some true) (hm : mroIn K D (.type "object") = some true)
    (X : K.In s.heap) (I : InstAt s.heap x ox D od) (h : Q (some (.ref D)) { s with toks := s.toks + 1 }) : wpAny (model prog w) A (getAttr? (.ref x) "__class__") Q E s := by
  have hf : findObj K D od "__class__" = some (.bind (.builtin "getset_descriptor.__get__") (.builtin "object.__class__")) := sy_findObj (by obtain ⟨cd, hc, _⟩ := any_some hdct; rw [hc]; rfl) ha hn htk
  obtain ⟨hp, g, d, t, os⟩ := s
  have L0 := I.type (M := model prog w)
  have L1 := looks_findIn (M := model prog w) X hga
  have L2 := looks_findIn (M := model prog w) X hgt
  have L3 := looks_find (M := model prog w) X I hf
  have sub : Looks (model prog w) hp (isInstance (.ref x) (.type "BaseException")) true := L0.andThen (looks_subIn X hsub)
  have hx0 : (false && onTheHeap (Value.builtin "BaseException.__getattribute__")) = false := rfl
  have hx2 : (Value.builtin "BaseException.__getattribute__" == Value.builtin "object.__getattribute__") = false := by decide +kernel
  have hx1 : (onTheHeap (Value.ref D) && Value.builtin "BaseException.__getattribute__" == Value.builtin "object.__getattribute__") = false := by rw [hx2]; rfl
  unfold getAttr? getAttrBy? getAttrBy
  refine wpAny_bind (wpAny_mkText (wpAny_bind (wpAny_attempt (wpAny_holding (wpAny_bind (L0.at (wpAny_bind (L1.at ?_))))))))
  show wpAny _ _ (if (onTheHeap (Value.ref D) && Value.builtin "BaseException.__getattribute__" == Value.builtin "object.__getattribute__") = true then _ else _) _ _ _
  rw [hx1, if_neg Bool.false_ne_true]
  unfold getAttrByItsOwn hookBefore
  refine wpAny_bind ?_
  rw [if_pos (show onTheHeap (Value.ref D) = true from rfl)]
  refine L2.at ?_
  refine wpAny_bind (wpAny_attempt (wpAny_holding ?_))
  unfold callGetattribute
  rw [hx0, if_neg Bool.false_ne_true]
  unfold boundAndCalled
  rw [PySem.F.excAttr_ValueError.ga.bind (.ref x)]
  refine wpAny_bind (wpAny_pure ?_)
  show wpAny _ _ (call (.builtin "BaseException.__getattribute__") [.ref x, .str "__class__" t]) _ _ _
  refine wpAny_call (codeAny_call_builtin PySem.F.excAttr_ValueError.ga.plain PySem.F.entry_bexc_ga ?_)
  refine @check_slot (model prog w) _ _ ⟨hp, g, d, t + 1, os⟩ "BaseException.__getattribute__" "BaseException" "__getattribute__" (.ref x) [.str "__class__" t] [] _ (by decide +kernel) (by decide +kernel) sub (PySem.F.args_bexc_ga (.ref x) (.str "__class__" t)) ?_
  unfold Builtin.«object.__getattribute__»
  refine wpAny_bind (wpAny_of_eq (a := ((Value.ref x : Value), [Value.str "__class__" t])) (by first | rfl | (simp only [slotArgs]; rfl)) ?_)
  refine wpAny_bind (wpAny_pure (wpAny_bind (L0.at (wpAny_bind (L3.at ?_)))))
  show wpAny _ _ (holding [Value.builtin "object.__class__"] (call (.builtin "getset_descriptor.__get__") [.builtin "object.__class__", .ref x, .ref D]) >>= ret) _ _ _
  refine wpAny_bind (wpAny_holding (wpAny_call (class_get (s := ⟨hp, g, d, t + 1, os⟩) (ox := ox) (od := od) X I hm ?_)))
  refine wpAny_pure ?_
  show wpAny _ _ (handedOut (.ref D)) _ _ _
  rw [handedOut_of (v := .ref D) rfl]
  first
    | exact wpAny_pure (wpAny_pure h)
    | exact wpAny_pure h
    | exact wpAny_pure (wpAny_bind (wpAny_pure (wpAny_pure h)))
theorem sy_kitx (hga : findIn K (.ref D) "__getattribute__" = some (some (.builtin "BaseException.__getattribute__"))) (hgt : findIn K (.ref D) "__getattr__" = some none) (hsub : subIn K (.ref D) (.type "BaseException") = some true) (hdct : hasDictIn K D = true) (ha : findIn K (.ref D) "__class__" = some (some (.builtin "object.__class__")))
    (hn : specialIn K (.builtin "object.__class__") "__get__" = some (some (.builtin "getset_descriptor.__get__"))) (htk : takesIn K (.builtin "object.__class__") = some true) (hm : mroIn K D (.type "object") = some true) :
    KitX K (.ref x) (.ref D) (fun h => InstAt h x ox D od) where
  ty := fun _ _ _ I => I.type
  it := fun _ _ X _ => by
    obtain ⟨cdD, hcD, _⟩ := any_some hdct
    unfold clsIn at hcD
    split at hcD
    · rename_i c' d' cd' sl' ho
      intro A' Q' E' s' k q
      unfold isType loadHead
      exact wpAny_bind (wpAny_loadPart (k _ _ (X _ _ ho)) (wpAny_pure q))
    · cases hcD
  ne := fun h tp dd its n sl X htp => by
    obtain ⟨cdD, hcD, _⟩ := any_some hdct
    refine Bool.eq_false_iff.mpr fun q => ?_
    have e : D = tp := Value.ref.inj (beq_iff_eq.mp q)
    subst e
    unfold clsIn at hcD
    split at hcD
    · rename_i c' d' cd' sl' ho
      have z := (X _ _ ho).symm.trans htp
      cases z
    · cases hcD
  ca := fun X I k => sy_classE hga hgt hsub hdct ha hn htk hm X I k
end
end PySem.W
/-! A layer of our own: readings over a symbolic heap. What stands at known addresses is a written list; the rest is a frame. -/
namespace SY
open PySem L2

/-! ### the symbolic heap -/
/-- F: what stands and stays; G: the objects that are known one by one -/
structure SH where
  F : Hp
  G : List (Addr × HO)
structure Own (S : SH) (H : Hp) : Prop where
  fr : ∀ a o, S.F a = some o → H a = some o
  gs : ∀ p, p ∈ S.G → H p.1 = some p.2 ∧ S.F p.1 = none
  nd : (S.G.map (·.1)).Nodup
abbrev SH.new (S : SH) (p : Addr) (o : HO) : SH := ⟨S.F, (p, o) :: S.G⟩
abbrev SH.put (S : SH) (i : Nat) (p : Addr) (o : HO) : SH := ⟨S.F, S.G.set i (p, o)⟩
def Ext (H H' : Hp) : Prop := ∀ a o, H a = some o → H' a = some o
theorem Ext.refl (H : Hp) : Ext H H := fun _ _ h => h
theorem Ext.trans {H H1 H2 : Hp} (a : Ext H H1) (b : Ext H1 H2) : Ext H H2 := fun x o h => b x o (a x o h)
theorem Ext.new {H : Hp} {p : Addr} {o : HO} (h : H p = none) : Ext H (upd H p o) := fun a u e => by
  rw [upd_ne (ne_of_none e h)]
  exact e
theorem ext_rd {H H' : Hp} {a : Addr} {u : HO} (e : Ext H H') (h : Rd H a u) : Rd H' a u := by
  rcases h with h | ⟨o, h⟩
  · exact Or.inl (e a _ h)
  · exact Or.inr ⟨o, e a _ h⟩
theorem ext_l {K : PySem.W.Frag} {H H' : Hp} {a : Addr} {xs : List V} (e : Ext H H') (h : SqL K H a xs) : SqL K H' a xs := by
  rcases h with h | h
  · exact Or.inl (ext_rd e h)
  · exact Or.inr h
theorem ext_t {K : PySem.W.Frag} {H H' : Hp} {a : Addr} {xs : List V} (e : Ext H H') (h : SqT K H a xs) : SqT K H' a xs := by
  rcases h with h | h
  · exact Or.inl (ext_rd e h)
  · exact Or.inr h
theorem Own.ex {S : SH} {H H' : Hp} (h : Own S H) (e : Ext H H') : Own S H' := ⟨fun a o q => e a o (h.fr a o q), fun p q => ⟨e _ _ (h.gs p q).1, (h.gs p q).2⟩, h.nd⟩
theorem Own.base (H : Hp) : Own ⟨H, []⟩ H := ⟨fun _ _ q => q, fun _ q => (nomatch q), List.nodup_nil⟩
theorem Own.f_none {S : SH} {H : Hp} (h : Own S H) {p : Addr} (hp : H p = none) : S.F p = none := by
  cases e : S.F p with
  | none => rfl
  | some o => rw [h.fr p o e] at hp; cases hp
theorem Own.g_none {S : SH} {H : Hp} (h : Own S H) {p : Addr} (hp : H p = none) : p ∉ S.G.map (·.1) := fun q => by
  obtain ⟨x, hx, e⟩ := List.mem_map.mp q
  rw [← e, (h.gs x hx).1] at hp
  cases hp
/-- a new object -/
theorem Own.new {S : SH} {H H' : Hp} (h : Own S H) {p : Addr} {o : HO} (hp : H p = none) (e : Ext H H') (hp' : H' p = some o) : Own (S.new p o) H' :=
  ⟨fun a u q => e a u (h.fr a u q), fun x q => by
    cases q with
    | head => exact ⟨hp', h.f_none hp⟩
    | tail _ q => exact ⟨e _ _ (h.gs x q).1, (h.gs x q).2⟩, List.nodup_cons.mpr ⟨h.g_none hp, h.nd⟩⟩
theorem Own.newU {S : SH} {H : Hp} (h : Own S H) {p : Addr} {o : HO} (hp : H p = none) : Own (S.new p o) (upd H p o) := h.new hp (Ext.new hp) upd_same
theorem Own.g {S : SH} {H : Hp} (h : Own S H) {i : Nat} {p : Addr} {o : HO} (q : S.G[i]? = some (p, o)) : H p = some o := (h.gs (p, o) (List.mem_of_getElem? q)).1
theorem set_fst {G : List (Addr × HO)} {i : Nat} {p : Addr} {o u : HO} (q : G[i]? = some (p, o)) : (G.set i (p, u)).map (·.1) = G.map (·.1) := by
  rw [List.map_set]
  refine List.ext_getElem? fun j => ?_
  by_cases e : i = j
  · subst e
    have hi := (List.getElem?_eq_some_iff.mp q).1
    rw [List.getElem?_set_self (by simpa using hi), List.getElem?_map, q]
    rfl
  · rw [List.getElem?_set_ne e]
theorem nodup_at {α : Type} {N : List α} (hN : N.Nodup) {i j : Nat} {x : α} (a : N[i]? = some x) (b : N[j]? = some x) : i = j := by
  obtain ⟨hi, ei⟩ := List.getElem?_eq_some_iff.mp a
  obtain ⟨hj, ej⟩ := List.getElem?_eq_some_iff.mp b
  have P := List.pairwise_iff_getElem.mp hN
  rcases Nat.lt_trichotomy i j with h | h | h
  · exact absurd (ei.trans ej.symm) (P i j hi hj h)
  · exact h
  · exact absurd (ej.trans ei.symm) (P j i hj hi h)
/-- a known object becomes another -/
theorem Own.put {S : SH} {H H' : Hp} (h : Own S H) {i : Nat} {p : Addr} {o u : HO} (q : S.G[i]? = some (p, o)) (k : ∀ b x, b ≠ p → H b = some x → H' b = some x) (hp : H' p = some u) : Own (S.put i p u) H' := by
  have hf : S.F p = none := (h.gs (p, o) (List.mem_of_getElem? q)).2
  have nd := h.nd
  refine ⟨fun a x e => k a x (fun z => by rw [z, hf] at e; cases e) (h.fr a x e), fun x hx => ?_, by rw [set_fst q]; exact nd⟩
  obtain ⟨j, hj, ej⟩ := List.mem_iff_getElem.mp hx
  by_cases e : i = j
  · subst e
    have ex : x = (p, u) := by rw [← ej, List.getElem_set_self]
    subst ex
    exact ⟨hp, hf⟩
  · have hj' : j < S.G.length := by rw [List.length_set] at hj; exact hj
    rw [List.getElem_set_ne e] at ej
    have hm : x ∈ S.G := by rw [← ej]; exact List.getElem_mem hj'
    have hne : x.1 ≠ p := fun z => by
      have hi := (List.getElem?_eq_some_iff.mp q).1
      have h1 : (S.G.map (·.1))[i]? = some p := by rw [List.getElem?_map, q]; rfl
      have h2 : (S.G.map (·.1))[j]? = some p := by rw [List.getElem?_map, List.getElem?_eq_getElem hj', ej]; exact congrArg some z
      exact e (nodup_at nd h1 h2)
    exact ⟨k _ _ hne (h.gs x hm).1, (h.gs x hm).2⟩
theorem Own.putU {S : SH} {H : Hp} (h : Own S H) {i : Nat} {p : Addr} {o u : HO} (q : S.G[i]? = some (p, o)) : Own (S.put i p u) (upd H p u) :=
  h.put q (fun b x hb e => by rw [upd_ne hb]; exact e) upd_same
/-- everything that is not at a is the frame -/
def without (H : Hp) (p : Addr) : Hp := fun b => if b = p then none else H b
theorem without_ne {H : Hp} {p b : Addr} (h : b ≠ p) : without H p b = H b := if_neg h
theorem without_same {H : Hp} {p : Addr} : without H p p = none := if_pos rfl
theorem Own.only {H : Hp} {p : Addr} {o : HO} (h : H p = some o) : Own ⟨without H p, [(p, o)]⟩ H := by
  refine ⟨fun a x e => ?_, fun x q => ?_, by simp⟩
  · by_cases ha : a = p
    · subst ha
      have e' : without H a a = some x := e
      rw [without_same] at e'
      cases e'
    · have e' : without H p a = some x := e
      rw [without_ne ha] at e'
      exact e'
  · have e : x = (p, o) := List.mem_singleton.mp q
    subst e
    exact ⟨h, without_same⟩

mutual
theorem dp_ext {K : PySem.W.Frag} {H H' : Hp} (e : Ext H H') : ∀ (d : PyData) (v : V), Dp K H v d → Dp K H' v d
  | .none, _, h => by cases h; exact .non
  | .bool b, _, h => by cases h; exact .bl b
  | .int i, _, h => by cases h; exact .int i
  | .str x, _, h => by cases h; exact .str x
  | .list ds, _, h => by
    cases h with
    | lst h1 h2 => exact .lst (ext_l e h1) (dpAll_ext e ds _ h2)
  | .tuple ds, _, h => by
    cases h with
    | tup h1 h2 => exact .tup (ext_t e h1) (dpAll_ext e ds _ h2)
  | .dict _, _, h => by cases h
theorem dpAll_ext {K : PySem.W.Frag} {H H' : Hp} (e : Ext H H') : ∀ (ds : List PyData) (vs : List V), DpAll K H vs ds → DpAll K H' vs ds
  | [], _, h => by cases h; exact .nil
  | d :: ds, _, h => by
    cases h with
    | cons h1 h2 => exact .cons (dp_ext e d _ h1) (dpAll_ext e ds _ h2)
end
/-- a list (tuple) that may be read -/
def sL (K : PySem.W.Frag) (S : SH) (a : Addr) (xs : List V) : Prop := (∃ i : Nat, S.G[i]? = some (a, .lst xs)) ∨ SqL K S.F a xs
def sU (K : PySem.W.Frag) (S : SH) (a : Addr) (xs : List V) : Prop := (∃ i : Nat, S.G[i]? = some (a, .tup xs)) ∨ SqT K S.F a xs
/-- what stands at a -/
def At (S : SH) (a : Addr) (o : HO) : Prop := (∃ i : Nat, S.G[i]? = some (a, o)) ∨ S.F a = some o
theorem rd_own {S : SH} {H : Hp} (h : Own S H) {a : Addr} {u : HO} (r : Rd S.F a u) : Rd H a u := by
  rcases r with r | ⟨o, r⟩
  · exact .inl (h.fr a _ r)
  · exact .inr ⟨o, h.fr a _ r⟩
theorem Own.l {K : PySem.W.Frag} {S : SH} {H : Hp} (h : Own S H) {a : Addr} {xs : List V} (q : sL K S a xs) : SqL K H a xs := by
  rcases q with ⟨i, q⟩ | q | q
  · exact .inl (.inl (h.g q))
  · exact .inl (rd_own h q)
  · exact .inr q
theorem Own.u {K : PySem.W.Frag} {S : SH} {H : Hp} (h : Own S H) {a : Addr} {xs : List V} (q : sU K S a xs) : SqT K H a xs := by
  rcases q with ⟨i, q⟩ | q | q
  · exact .inl (.inl (h.g q))
  · exact .inl (rd_own h q)
  · exact .inr q
theorem Own.at {S : SH} {H : Hp} (h : Own S H) {a : Addr} {o : HO} (q : At S a o) : H a = some o := by
  rcases q with ⟨i, q⟩ | q
  · exact h.g q
  · exact h.fr a o q

/-! ### readings -/
/-- the wish of exceptions -/
abbrev sWX := Value → Option Addr → St → SH → Prop
abbrev sE := sWX → St → SH → (V → SH → Prop) → Prop
abbrev sT := sWX → St → SH → (Bool → SH → Prop) → Prop
abbrev sA := sWX → St → SH → (List V → SH → Prop) → Prop
abbrev s2 := V → V → SH → (V → SH → Prop) → Prop
abbrev s1 := V → SH → (V → SH → Prop) → Prop
abbrev sN := List V → SH → (V → SH → Prop) → Prop
/-- Q' over the symbolic heap gives Q -/
def Imp {α : Type} (Q' : α → SH → Prop) (Q : α → Hp → Prop) : Prop := ∀ v S H, Own S H → Q' v S → Q v H
def ImpW (W' : sWX) (W : WX) : Prop := ∀ c d σ S H, Own S H → W' c d σ S → W c d σ H
def dE (W : WX) (t : sE) : TE := fun σ H Q => ∃ S Q' W', ImpW W' W ∧ Own S H ∧ t W' σ S Q' ∧ Imp Q' Q
def dT (W : WX) (t : sT) : TT := fun σ H Q => ∃ S Q' W', ImpW W' W ∧ Own S H ∧ t W' σ S Q' ∧ Imp Q' Q
def dA (W : WX) (t : sA) : TA := fun σ H Q => ∃ S Q' W', ImpW W' W ∧ Own S H ∧ t W' σ S Q' ∧ Imp Q' Q
theorem imp_self {α : Type} {Q' : α → SH → Prop} : Imp Q' (fun v H => ∃ S, Own S H ∧ Q' v S) := fun v S H o q => ⟨S, o, q⟩
structure sEnds where
  nx : St → SH → Prop
  rt : V → SH → Prop
  bk : St → SH → Prop := fun _ _ => False
  ct : St → SH → Prop := fun _ _ => False
  ex : sWX := fun _ _ _ _ => False
abbrev sS := sEnds → St → SH → Prop
structure EImp (W : WX) (D' : sEnds) (D : Ends) : Prop where
  nx : Imp D'.nx D.nx
  rt : Imp D'.rt D.rt
  bk : Imp D'.bk D.bk
  ct : Imp D'.ct D.ct
  ex : ImpW D'.ex W
def dS (W : WX) (t : sS) : TS := fun D σ H => ∃ S D', Own S H ∧ t D' σ S ∧ EImp W D' D
theorem imp_no {α : Type} {Q : α → Hp → Prop} : Imp (fun _ _ => False) Q := fun _ _ _ _ q => q.elim

section
variable {X : Cx} {W : WX}
theorem PE.by {e : Expr} {t t' : TE} (h : PE X e t) (k : ∀ σ H Q, t' σ H Q → t σ H Q) : PE X e t' := ⟨fun pins s σ H Q I q => h.run pins s σ H Q I (k σ H Q q)⟩
theorem PT.by {e : Expr} {t t' : TT} (h : PT X e t) (k : ∀ σ H Q, t' σ H Q → t σ H Q) : PT X e t' := ⟨fun pins s σ H Q I q => h.run pins s σ H Q I (k σ H Q q)⟩
theorem PW.by {e : Expr} {t t' : TT} (h : PW X e t) (k : ∀ σ H Q, t' σ H Q → t σ H Q) : PW X e t' := ⟨fun wh pins s σ H Q I q => h.run wh pins s σ H Q I (k σ H Q q)⟩
theorem PA.by {e : List Expr} {t t' : TA} (h : PA X e t) (k : ∀ σ H Q, t' σ H Q → t σ H Q) : PA X e t' := ⟨fun pos pins s σ H Q I q => h.run pos pins s σ H Q I (k σ H Q q)⟩
theorem PK.by {e : List Keyword} {t t' : TA} (h : PK X e t) (k : ∀ σ H Q, t' σ H Q → t σ H Q) : PK X e t' := ⟨fun pos pins s σ H Q I q => h.run pos pins s σ H Q I (k σ H Q q)⟩
theorem PS.by {e : Stmt} {t t' : TS} (h : PS X e t) (k : ∀ D σ H, t' D σ H → t D σ H) : PS X e t' := ⟨fun pins s σ H Q I q => h.run pins s σ H Q I (k _ _ _ q)⟩
theorem PSs.by {e : List Stmt} {t t' : TS} (h : PSs X e t) (k : ∀ D σ H, t' D σ H → t D σ H) : PSs X e t' := ⟨fun pins s σ H Q I q => h.run pins s σ H Q I (k _ _ _ q)⟩

/-! ### names and constants -/
def sVar (i : Nat) : sE := fun _ σ S Q => match σ[i]? with
  | some (some v) => Q v S
  | _ => False
def sC (v : V) : sE := fun _ _ S Q => Q v S
theorem gVar {i : Nat} {x : Str} {pos : Pos} (hN : X.N[i]? = some x) (hv : Vis X.env.scope x) (hd : (x == ("__debug__" : Str)) = false := by decide) (hcd : (x == ("__classdict__" : Str)) = false := by decide) : PE X (.Name x pos) (dE W (sVar i)) :=
  PE.by (pe_var hN hv hd hcd) fun σ H Q ⟨S, Q', W', kw, o, h, k⟩ => by
    unfold sVar at h
    unfold tVar
    split at h
    · rename_i v e
      exact ⟨v, e, k v S H o h⟩
    · exact h.elim
theorem gC_of {e : Expr} {v : V} (h : PE X e (tC v)) : PE X e (dE W (sC v)) := PE.by h fun σ H Q ⟨S, Q', W', kw, o, h, k⟩ => k v S H o h
theorem gInt {i j pos} : PE X (.Constant (.int i) j pos) (dE W (sC (.int i))) := gC_of pe_int
theorem gBl {b j pos} : PE X (.Constant (.bool b) j pos) (dE W (sC (.bl b))) := gC_of pe_bl
theorem gNon {j pos} : PE X (.Constant .none j pos) (dE W (sC .non)) := gC_of pe_non
theorem gStr {x j pos} : PE X (.Constant (.str x) j pos) (dE W (sC (.str x))) := gC_of pe_str

/-! ### operators -/
def sOp (r : s2) (ta tb : sE) : sE := fun W σ S Q => ta W σ S fun x S1 => tb W σ S1 fun y S2 => r x y S2 Q
def Lift2 (r : s2) (R : R2) : Prop := ∀ x y S Q' H Q, Own S H → r x y S Q' → Imp Q' Q → R x y H Q
theorem lift_op {r : s2} {R : R2} (l : Lift2 r R) {ta tb : sE} : ∀ σ H Q, dE W (sOp r ta tb) σ H Q → tOp R (dE W ta) (dE W tb) σ H Q := fun σ H Q ⟨S, Q', W', kw, o, h, k⟩ =>
  ⟨S, _, W', kw, o, h, fun x S1 H1 o1 h1 => ⟨S1, _, W', kw, o1, h1, fun y S2 H2 o2 h2 => l x y S2 Q' H2 Q o2 h2 k⟩⟩
variable {a b c : Expr} {ta tb tc : sE} {pos : Pos}
theorem gOp {op : Operator} {r : s2} {R : R2} (ho : OpR X (binaryOp op) R) (l : Lift2 r R) (ha : PE X a (dE W ta)) (hb : PE X b (dE W tb)) : PE X (.BinOp a op b pos) (dE W (sOp r ta tb)) :=
  PE.by (pe_op ho ha hb) (lift_op l)
theorem gCmp {op : CmpOp} {r : s2} {R : R2} (ho : OpR X (compareOp op) R) (l : Lift2 r R) (ha : PE X a (dE W ta)) (hb : PE X b (dE W tb)) (hm : behindInMarks op b = false) : PE X (.Compare a [op] [b] pos) (dE W (sOp r ta tb)) :=
  PE.by (pe_cmpR ho ha hb hm) (lift_op l)
def s1Op (r : s1) (ta : sE) : sE := fun W σ S Q => ta W σ S fun x S1 => r x S1 Q
def Lift1 (r : s1) (R : V → Hp → VK → Prop) : Prop := ∀ x S Q' H Q, Own S H → r x S Q' → Imp Q' Q → R x H Q
theorem gUn {op : UnaryOp} {r : s1} {R : V → Hp → VK → Prop} (ho : UnR X (unaryOp op) R) (l : Lift1 r R) (ha : PE X a (dE W ta)) : PE X (.UnaryOp op a pos) (dE W (s1Op r ta)) :=
  PE.by (pe_un ho ha) fun σ H Q ⟨S, Q', W', kw, o, h, k⟩ => ⟨S, _, W', kw, o, h, fun x S1 H1 o1 h1 => l x S1 Q' H1 Q o1 h1 k⟩

/-- + -/
def oAdd : s2 := fun x y S Q => match x, y with
  | .int i, .int j => Q (.int (i + j)) S
  | .str u, .str v => u.length + v.length ≤ sizeLine ∧ Q (.str (u ++ v)) S
  | .ref p, .ref q => ∃ xs ys, At S p (.lst xs) ∧ At S q (.lst ys) ∧ xs.length + ys.length ≤ sizeLine ∧ ∀ r, Q (.ref r) (S.new r (.lst (xs ++ ys)))
  | _, _ => False
theorem lAdd : Lift2 oAdd (fun x y H Q => (rI0 fun i j => .int (i + j)) x y H Q ∨ ((fun x y H Q => ∃ i j, x = .str i ∧ y = .str j ∧ i.length + j.length ≤ sizeLine ∧ Q (.str (i ++ j)) H) x y H Q ∨ rCat x y H Q)) := by
  intro x y S Q' H Q o h k
  unfold oAdd at h
  split at h
  · exact .inl ⟨_, _, rfl, rfl, k _ _ _ o h⟩
  · exact .inr (.inl ⟨_, _, rfl, rfl, h.1, k _ _ _ o h.2⟩)
  · obtain ⟨xs, ys, h1, h2, h3, h4⟩ := h
    exact .inr (.inr ⟨_, _, xs, ys, rfl, rfl, o.at h1, o.at h2, h3, fun p hp => k _ _ _ (o.newU hp) (h4 p)⟩)
  · exact h.elim
theorem gAdd (ha : PE X a (dE W ta)) (hb : PE X b (dE W tb)) : PE X (.BinOp a .Add b pos) (dE W (sOp oAdd ta tb)) := gOp (OpR.or op_add (OpR.or op_add_str op_cat)) lAdd ha hb
def oSub : s2 := fun x y S Q => match x, y with
  | .int i, .int j => Q (.int (i - j)) S
  | _, _ => False
theorem lSub : Lift2 oSub (rI0 fun i j => .int (i - j)) := by
  intro x y S Q' H Q o h k
  unfold oSub at h
  split at h
  · exact ⟨_, _, rfl, rfl, k _ _ _ o h⟩
  · exact h.elim
theorem gSub (ha : PE X a (dE W ta)) (hb : PE X b (dE W tb)) : PE X (.BinOp a .Sub b pos) (dE W (sOp oSub ta tb)) := gOp op_sub lSub ha hb
def sm64 (i : Int) : Prop := -(2 ^ 64) < i ∧ i < 2 ^ 64
def oMul : s2 := fun x y S Q => match x, y with
  | .int i, .int j => (sm64 i ∨ sm64 j) ∧ Q (.int (i * j)) S
  | .ref p, .int k => ∃ xs, At S p (.lst xs) ∧ (-(2 ^ 63) ≤ k ∧ k < 2 ^ 63) ∧ xs.length * k.toNat ≤ sizeLine ∧ ∀ r, Q (.ref r) (S.new r (.lst (List.replicate k.toNat xs).flatten))
  | _, _ => False
theorem lMul : Lift2 oMul (fun x y H Q => (rI CMul fun i j => .int (i * j)) x y H Q ∨ rRep x y H Q) := by
  intro x y S Q' H Q o h k
  unfold oMul at h
  split at h
  · exact .inl ⟨_, _, rfl, rfl, h.1, k _ _ _ o h.2⟩
  · obtain ⟨xs, h1, h2, h3, h4⟩ := h
    exact .inr ⟨_, _, xs, rfl, rfl, o.at h1, h2.1, h2.2, h3, fun p hp => k _ _ _ (o.newU hp) (h4 p)⟩
  · exact h.elim
theorem gMul (ha : PE X a (dE W ta)) (hb : PE X b (dE W tb)) : PE X (.BinOp a .Mult b pos) (dE W (sOp oMul ta tb)) := gOp (OpR.or op_mul op_rep) lMul ha hb
/-- an operator of two ints -/
def oI (C : Int → Int → Prop) (g : Int → Int → V) : s2 := fun x y S Q => match x, y with
  | .int i, .int j => C i j ∧ Q (g i j) S
  | _, _ => False
theorem lI {C : Int → Int → Prop} {g : Int → Int → V} : Lift2 (oI C g) (rI C g) := by
  intro x y S Q' H Q o h k
  unfold oI at h
  split at h
  · exact ⟨_, _, rfl, rfl, h.1, k _ _ _ o h.2⟩
  · exact h.elim
def oFdv : s2 := oI CDiv fun i j => .int (i / j)
def oMod : s2 := oI (fun _ j => 0 < j) fun i j => .int (i % j)
def oPow : s2 := oI CPow fun i j => .int (i ^ j.toNat)
theorem gFdv (ha : PE X a (dE W ta)) (hb : PE X b (dE W tb)) : PE X (.BinOp a .FloorDiv b pos) (dE W (sOp oFdv ta tb)) := gOp op_fdiv lI ha hb
theorem gMod (ha : PE X a (dE W ta)) (hb : PE X b (dE W tb)) : PE X (.BinOp a .Mod b pos) (dE W (sOp oMod ta tb)) := gOp op_mod lI ha hb
theorem gPow (ha : PE X a (dE W ta)) (hb : PE X b (dE W tb)) : PE X (.BinOp a .Pow b pos) (dE W (sOp oPow ta tb)) := gOp op_pow lI ha hb
def oNeg : s1 := fun x S Q => match x with
  | .int i => Q (.int (-i)) S
  | _ => False
theorem lNeg : Lift1 oNeg (rU fun i => .int (-i)) := by
  intro x S Q' H Q o h k
  unfold oNeg at h
  split at h
  · exact ⟨_, rfl, k _ _ _ o h⟩
  · exact h.elim
theorem gNeg (ha : PE X a (dE W ta)) : PE X (.UnaryOp .USub a pos) (dE W (s1Op oNeg ta)) := gUn un_neg lNeg ha

/-! ### comparisons -/
/-- data that stands: by any heap -/
def sD (K : PySem.W.Frag) (S : SH) (x : V) (d : PyData) : Prop := ∀ H, Own S H → Dp K H x d
def isRef : V → Bool
  | .ref _ => true
  | _ => false
def oEq (K : PySem.W.Frag) : s2 := fun x y S Q => if scal x y then Q (.bl (decide (x = y))) S else
  ∃ d e, sD K S x d ∧ sD K S y e ∧ SeqAt.shaped d = true ∧ SeqAt.shaped e = true ∧ Q (.bl (PyData.eqv d e)) S
def oNe (K : PySem.W.Frag) : s2 := fun x y S Q => if scal x y then Q (.bl (!decide (x = y))) S else
  ∃ d e, sD K S x d ∧ sD K S y e ∧ SeqAt.shaped d = true ∧ SeqAt.shaped e = true ∧ Q (.bl (!PyData.eqv d e)) S
theorem lEq {K : PySem.W.Frag} : Lift2 (oEq K) (fun x y H Q => rEq x y H Q ∨ rEqD K x y H Q) := by
  intro x y S Q' H Q o h k
  unfold oEq at h
  split at h
  · rename_i e
    exact .inl ⟨e, k _ _ _ o h⟩
  · obtain ⟨d, e, h1, h2, h3, h4, h5⟩ := h
    exact .inr ⟨d, e, h1 H o, h2 H o, h3, h4, k _ _ _ o h5⟩
theorem lNe {K : PySem.W.Frag} : Lift2 (oNe K) (fun x y H Q => rNe x y H Q ∨ rNeD K x y H Q) := by
  intro x y S Q' H Q o h k
  unfold oNe at h
  split at h
  · rename_i e
    exact .inl ⟨e, k _ _ _ o h⟩
  · obtain ⟨d, e, h1, h2, h3, h4, h5⟩ := h
    exact .inr ⟨d, e, h1 H o, h2 H o, h3, h4, k _ _ _ o h5⟩
theorem gEq (hu : X.A.units + 64 < cLine) (ha : PE X a (dE W ta)) (hb : PE X b (dE W tb)) : PE X (.Compare a [.Eq] [b] pos) (dE W (sOp (oEq X.K) ta tb)) := gCmp (OpR.or op_eq (op_eqD hu)) lEq ha hb (nomark _)
theorem gNe (hu : X.A.units + 64 < cLine) (ha : PE X a (dE W ta)) (hb : PE X b (dE W tb)) : PE X (.Compare a [.NotEq] [b] pos) (dE W (sOp (oNe X.K) ta tb)) := gCmp (OpR.or op_ne (op_neD hu)) lNe ha hb (nomark _)
/-- an order: of ints, of texts -/
def oOrd (f : Int → Int → Bool) (g : Str → Str → Bool) : s2 := fun x y S Q => match x, y with
  | .int i, .int j => Q (.bl (f i j)) S
  | .str i, .str j => Q (.bl (g i j)) S
  | _, _ => False
theorem lOrd {f : Int → Int → Bool} {g : Str → Str → Bool} : Lift2 (oOrd f g) (fun x y H Q => (rI0 fun i j => .bl (f i j)) x y H Q ∨ (fun x y H Q => ∃ i j, x = .str i ∧ y = .str j ∧ Q (.bl (g i j)) H) x y H Q) := by
  intro x y S Q' H Q o h k
  unfold oOrd at h
  split at h
  · exact .inl ⟨_, _, rfl, rfl, k _ _ _ o h⟩
  · exact .inr ⟨_, _, rfl, rfl, k _ _ _ o h⟩
  · exact h.elim
def oLt : s2 := oOrd (fun i j => decide (i < j)) (fun i j => decide (i.cps.toList < j.cps.toList))
def oLe : s2 := oOrd (fun i j => decide (i ≤ j)) (fun i j => !decide (j.cps.toList < i.cps.toList))
def oGt : s2 := oOrd (fun i j => decide (j < i)) (fun i j => decide (j.cps.toList < i.cps.toList))
def oGe : s2 := oOrd (fun i j => decide (j ≤ i)) (fun i j => !decide (i.cps.toList < j.cps.toList))
theorem gLt (ha : PE X a (dE W ta)) (hb : PE X b (dE W tb)) : PE X (.Compare a [.Lt] [b] pos) (dE W (sOp oLt ta tb)) := gCmp (OpR.or op_lt op_lt_str) lOrd ha hb (nomark _)
theorem gLe (ha : PE X a (dE W ta)) (hb : PE X b (dE W tb)) : PE X (.Compare a [.LtE] [b] pos) (dE W (sOp oLe ta tb)) := gCmp (OpR.or op_le op_le_str) lOrd ha hb (nomark _)
theorem gGt (ha : PE X a (dE W ta)) (hb : PE X b (dE W tb)) : PE X (.Compare a [.Gt] [b] pos) (dE W (sOp oGt ta tb)) := gCmp (OpR.or op_gt op_gt_str) lOrd ha hb (nomark _)
theorem gGe (ha : PE X a (dE W ta)) (hb : PE X b (dE W tb)) : PE X (.Compare a [.GtE] [b] pos) (dE W (sOp oGe ta tb)) := gCmp (OpR.or op_ge op_ge_str) lOrd ha hb (nomark _)
/-- is None, is not None -/
def oIsN : s2 := fun x y S Q => match y with
  | .non => Q (.bl (decide (x = .non))) S
  | _ => False
def oNotN : s2 := fun x y S Q => match y with
  | .non => Q (.bl (!decide (x = .non))) S
  | _ => False
theorem lIsN : Lift2 oIsN (fun x y H Q => y = .non ∧ Q (.bl (decide (x = .non))) H) := by
  intro x y S Q' H Q o h k
  unfold oIsN at h
  split at h
  · exact ⟨rfl, k _ _ _ o h⟩
  · exact h.elim
theorem lNotN : Lift2 oNotN (fun x y H Q => y = .non ∧ Q (.bl (!decide (x = .non))) H) := by
  intro x y S Q' H Q o h k
  unfold oNotN at h
  split at h
  · exact ⟨rfl, k _ _ _ o h⟩
  · exact h.elim
theorem gIsN (ha : PE X a (dE W ta)) (hb : PE X b (dE W tb)) : PE X (.Compare a [.Is] [b] pos) (dE W (sOp oIsN ta tb)) := gCmp op_isN lIsN ha hb (nomark _)
theorem gNotN (ha : PE X a (dE W ta)) (hb : PE X b (dE W tb)) : PE X (.Compare a [.IsNot] [b] pos) (dE W (sOp oNotN ta tb)) := gCmp op_notN lNotN ha hb (nomark _)
/-- in, not in: a text in a text; a flat thing in a list, a tuple of flat things -/
def oIn (K : PySem.W.Frag) (neg : Bool) : s2 := fun x y S Q => match y with
  | .str j => match x with
    | .str i => Q (.bl (if neg then !(!(Builtin.Str.occurrences j i 0 j.length 1).isEmpty) else !(Builtin.Str.occurrences j i 0 j.length 1).isEmpty)) S
    | _ => False
  | .ref p => ∃ xs, (sL K S p xs ∨ sU K S p xs) ∧ flatV x = true ∧ xs.all flatV = true ∧ Q (.bl (if neg then !inV x xs else inV x xs)) S
  | _ => False
theorem lIn {K : PySem.W.Frag} : Lift2 (oIn K false) (fun x y H Q => (fun x y H Q => ∃ i j, x = .str i ∧ y = .str j ∧ Q (.bl (!(Builtin.Str.occurrences j i 0 j.length 1).isEmpty)) H) x y H Q ∨ rIn K false x y H Q) := by
  intro x y S Q' H Q o h k
  unfold oIn at h
  split at h
  · split at h
    · exact .inl ⟨_, _, rfl, rfl, k _ _ _ o h⟩
    · exact h.elim
  · obtain ⟨xs, h1, h2, h3, h4⟩ := h
    exact .inr ⟨_, xs, rfl, h1.elim (fun z => .inl (o.l z)) (fun z => .inr (o.u z)), h2, h3, k _ _ _ o h4⟩
  · exact h.elim
theorem lNotIn {K : PySem.W.Frag} : Lift2 (oIn K true) (fun x y H Q => (fun x y H Q => ∃ i j, x = .str i ∧ y = .str j ∧ Q (.bl (!(!(Builtin.Str.occurrences j i 0 j.length 1).isEmpty))) H) x y H Q ∨ rIn K true x y H Q) := by
  intro x y S Q' H Q o h k
  unfold oIn at h
  split at h
  · split at h
    · exact .inl ⟨_, _, rfl, rfl, k _ _ _ o h⟩
    · exact h.elim
  · obtain ⟨xs, h1, h2, h3, h4⟩ := h
    exact .inr ⟨_, xs, rfl, h1.elim (fun z => .inl (o.l z)) (fun z => .inr (o.u z)), h2, h3, k _ _ _ o h4⟩
  · exact h.elim
theorem gIn (ha : PE X a (dE W ta)) (hb : PE X b (dE W tb)) (hm : behindInMarks .In b = false) : PE X (.Compare a [.In] [b] pos) (dE W (sOp (oIn X.K false) ta tb)) := gCmp (OpR.or op_in_str op_in_seq) lIn ha hb hm
theorem gNotIn (ha : PE X a (dE W ta)) (hb : PE X b (dE W tb)) (hm : behindInMarks .NotIn b = false) : PE X (.Compare a [.NotIn] [b] pos) (dE W (sOp (oIn X.K true) ta tb)) := gCmp (OpR.or op_notin_str op_notIn_seq) lNotIn ha hb hm
/-- a < b < c -/
def sChain (r r' : s2) (ta tb tc : sE) : sE := fun W σ S Q => ta W σ S fun x S1 => tb W σ S1 fun y S2 => r x y S2 fun z S3 => match z with
  | .bl true => tc W σ S3 fun w S4 => r' y w S4 Q
  | .bl false => Q (.bl false) S3
  | _ => False
theorem gChain {op op' : CmpOp} {r r' : s2} {R R' : R2} (ho : OpR X (compareOp op) R) (ho' : OpR X (compareOp op') R') (l : Lift2 r R) (l' : Lift2 r' R') (ha : PE X a (dE W ta)) (hb : PE X b (dE W tb)) (hc : PE X c (dE W tc))
    (hm : lastMarks [op, op'] [b, c] = false := by with_unfolding_all rfl) : PE X (.Compare a [op, op'] [b, c] pos) (dE W (sChain r r' ta tb tc)) :=
  PE.by (pe_chain ho ho' ha hb hc hm) fun σ H Q ⟨S, Q', W', kw, o, h, k⟩ => ⟨S, _, W', kw, o, h, fun x S1 H1 o1 h1 => ⟨S1, _, W', kw, o1, h1, fun y S2 H2 o2 h2 => l x y S2 _ H2 _ o2 h2 fun z S3 H3 o3 h3 => by
    split at h3
    · refine ⟨true, rfl, ?_⟩
      rw [if_pos rfl]
      exact ⟨S3, _, W', kw, o3, h3, fun w S4 H4 o4 h4 => l' y w S4 Q' H4 Q o4 h4 k⟩
    · refine ⟨false, rfl, ?_⟩
      rw [if_neg Bool.false_ne_true]
      exact k _ _ _ o3 h3
    · exact h3.elim⟩⟩

/-! ### tests -/
def sTst (t : sE) : sT := fun W σ S Q => t W σ S fun x S1 => match x with
  | .bl b => Q b S1
  | _ => False
theorem gTst {e : Expr} {t : sE} (h : PE X e (dE W t)) (he : ∀ whole, isTrue e X.env whole = (do let v ← whole; standAt e.pos; holding [v] (truthy v)) := by intro _; rfl) : PT X e (dT W (sTst t)) :=
  PT.by (pt_val h he) fun σ H Q ⟨S, Q', W', kw, o, h, k⟩ => ⟨S, _, W', kw, o, h, fun x S1 H1 o1 h1 => by
    split at h1
    · exact ⟨_, rfl, k _ _ _ o1 h1⟩
    · exact h1.elim⟩
theorem gTcmp {op : CmpOp} {r : s2} {R : R2} (ho : OpR X (compareOp op) R) (l : Lift2 r R) (ha : PE X a (dE W ta)) (hb : PE X b (dE W tb)) (hm : behindInMarks op b = false) : PT X (.Compare a [op] [b] pos) (dT W (sTst (sOp r ta tb))) :=
  PT.by (pt_cmpR ho ha hb hm) fun σ H Q ⟨S, Q', W', kw, o, h, k⟩ => ⟨S, _, W', kw, o, h, fun x S1 H1 o1 h1 => ⟨S1, _, W', kw, o1, h1, fun y S2 H2 o2 h2 => l x y S2 _ H2 _ o2 h2 fun z S3 H3 o3 h3 => by
    split at h3
    · exact ⟨_, rfl, k _ _ _ o3 h3⟩
    · exact h3.elim⟩⟩
theorem gTchain {op op' : CmpOp} {r r' : s2} {R R' : R2} (ho : OpR X (compareOp op) R) (ho' : OpR X (compareOp op') R') (l : Lift2 r R) (l' : Lift2 r' R') (ha : PE X a (dE W ta)) (hb : PE X b (dE W tb)) (hc : PE X c (dE W tc))
    (hm : lastMarks [op, op'] [b, c] = false := by with_unfolding_all rfl) : PT X (.Compare a [op, op'] [b, c] pos) (dT W (sTst (sChain r r' ta tb tc))) :=
  PT.by (pt_chain ho ho' ha hb hc hm) fun σ H Q ⟨S, Q', W', kw, o, h, k⟩ => ⟨S, _, W', kw, o, h, fun x S1 H1 o1 h1 => ⟨S1, _, W', kw, o1, h1, fun y S2 H2 o2 h2 => l x y S2 _ H2 _ o2 h2 fun z S3 H3 o3 h3 => by
    split at h3
    · refine ⟨true, rfl, ?_⟩
      rw [if_pos rfl]
      exact ⟨S3, _, W', kw, o3, h3, fun w S4 H4 o4 h4 => l' y w S4 _ H4 _ o4 h4 fun z' S5 H5 o5 h5 => by
        split at h5
        · exact ⟨_, rfl, k _ _ _ o5 h5⟩
        · exact h5.elim⟩
    · refine ⟨false, rfl, ?_⟩
      rw [if_neg Bool.false_ne_true]
      exact ⟨false, rfl, k _ _ _ o3 h3⟩
    · exact h3.elim⟩⟩
theorem gTEq (hu : X.A.units + 64 < cLine) (ha : PE X a (dE W ta)) (hb : PE X b (dE W tb)) : PT X (.Compare a [.Eq] [b] pos) (dT W (sTst (sOp (oEq X.K) ta tb))) := gTcmp (OpR.or op_eq (op_eqD hu)) lEq ha hb (nomark _)
theorem gTNe (hu : X.A.units + 64 < cLine) (ha : PE X a (dE W ta)) (hb : PE X b (dE W tb)) : PT X (.Compare a [.NotEq] [b] pos) (dT W (sTst (sOp (oNe X.K) ta tb))) := gTcmp (OpR.or op_ne (op_neD hu)) lNe ha hb (nomark _)
theorem gTLt (ha : PE X a (dE W ta)) (hb : PE X b (dE W tb)) : PT X (.Compare a [.Lt] [b] pos) (dT W (sTst (sOp oLt ta tb))) := gTcmp (OpR.or op_lt op_lt_str) lOrd ha hb (nomark _)
theorem gTLe (ha : PE X a (dE W ta)) (hb : PE X b (dE W tb)) : PT X (.Compare a [.LtE] [b] pos) (dT W (sTst (sOp oLe ta tb))) := gTcmp (OpR.or op_le op_le_str) lOrd ha hb (nomark _)
theorem gTGt (ha : PE X a (dE W ta)) (hb : PE X b (dE W tb)) : PT X (.Compare a [.Gt] [b] pos) (dT W (sTst (sOp oGt ta tb))) := gTcmp (OpR.or op_gt op_gt_str) lOrd ha hb (nomark _)
theorem gTGe (ha : PE X a (dE W ta)) (hb : PE X b (dE W tb)) : PT X (.Compare a [.GtE] [b] pos) (dT W (sTst (sOp oGe ta tb))) := gTcmp (OpR.or op_ge op_ge_str) lOrd ha hb (nomark _)
theorem gTIsN (ha : PE X a (dE W ta)) (hb : PE X b (dE W tb)) : PT X (.Compare a [.Is] [b] pos) (dT W (sTst (sOp oIsN ta tb))) := gTcmp op_isN lIsN ha hb (nomark _)
theorem gTNotN (ha : PE X a (dE W ta)) (hb : PE X b (dE W tb)) : PT X (.Compare a [.IsNot] [b] pos) (dT W (sTst (sOp oNotN ta tb))) := gTcmp op_notN lNotN ha hb (nomark _)
theorem gTIn (ha : PE X a (dE W ta)) (hb : PE X b (dE W tb)) (hm : behindInMarks .In b = false) : PT X (.Compare a [.In] [b] pos) (dT W (sTst (sOp (oIn X.K false) ta tb))) := gTcmp (OpR.or op_in_str op_in_seq) lIn ha hb hm
theorem gTNotIn (ha : PE X a (dE W ta)) (hb : PE X b (dE W tb)) (hm : behindInMarks .NotIn b = false) : PT X (.Compare a [.NotIn] [b] pos) (dT W (sTst (sOp (oIn X.K true) ta tb))) := gTcmp (OpR.or op_notin_str op_notIn_seq) lNotIn ha hb hm
/-- truth of any value -/
def oTru (K : PySem.W.Frag) (x : V) (S : SH) (Q : Bool → SH → Prop) : Prop := match x with
  | .non => Q false S
  | .bl b => Q b S
  | .int i => Q (i != 0) S
  | .str y => y.length ≤ sizeLine ∧ Q ((y.length : Int) != 0) S
  | .ref p => (∃ xs, sL K S p xs ∧ Q (!xs.isEmpty) S) ∨ (∃ xs, sU K S p xs ∧ Q (!xs.isEmpty) S) ∨ ∃ kvs, At S p (.dK kvs) ∧ Q (!kvs.isEmpty) S
  | _ => False
theorem lTru {K : PySem.W.Frag} {x : V} {S : SH} {Q' : Bool → SH → Prop} {H : Hp} {Q : Bool → Hp → Prop} (o : Own S H) (h : oTru K x S Q') (k : Imp Q' Q) : ∃ b, TruV K x H b ∧ Q b H := by
  unfold oTru at h
  unfold TruV
  cases x with
  | non => exact ⟨_, rfl, k _ _ _ o h⟩
  | bl b => exact ⟨_, rfl, k _ _ _ o h⟩
  | int i => exact ⟨_, rfl, k _ _ _ o h⟩
  | str y => exact ⟨_, ⟨h.1, rfl⟩, k _ _ _ o h.2⟩
  | ref p =>
    rcases h with ⟨xs, h1, h2⟩ | ⟨xs, h1, h2⟩ | ⟨kvs, h1, h2⟩
    · exact ⟨_, .inl ⟨xs, o.l h1, rfl⟩, k _ _ _ o h2⟩
    · exact ⟨_, .inr (.inl ⟨xs, o.u h1, rfl⟩), k _ _ _ o h2⟩
    · exact ⟨_, .inr (.inr ⟨kvs, o.at h1, rfl⟩), k _ _ _ o h2⟩
  | byt y => exact h.elim
  | flt y => exact h.elim
  | ty y => exact h.elim
def sTru (K : PySem.W.Frag) (t : sE) : sT := fun W σ S Q => t W σ S fun x S1 => oTru K x S1 Q
theorem gTru {e : Expr} {t : sE} (h : PE X e (dE W t)) (he : ∀ whole, isTrue e X.env whole = (do let v ← whole; standAt e.pos; holding [v] (truthy v)) := by intro _; rfl) : PT X e (dT W (sTru X.K t)) :=
  PT.by (pt_truth h he) fun σ H Q ⟨S, Q', W', kw, o, h, k⟩ => ⟨S, _, W', kw, o, h, fun x S1 H1 o1 h1 => lTru o1 h1 k⟩
variable {tA tB : sT} {rest : List Expr}
def sAnd (t u : sT) : sT := fun W σ S Q => t W σ S fun c S1 => match c with
    | true => u W σ S1 Q
    | false => Q false S1
def sOr (t u : sT) : sT := fun W σ S Q => t W σ S fun c S1 => match c with
    | true => Q true S1
    | false => u W σ S1 Q
def sNot (t : sT) : sT := fun W σ S Q => t W σ S fun c S1 => Q (!c) S1
theorem gAnd (ha : PT X a (dT W tA)) (hb : PW X (.BoolOp .And (b :: rest) pos) (dT W tB)) : PW X (.BoolOp .And (a :: b :: rest) pos) (dT W (sAnd tA tB)) :=
  PW.by (pw_and ha hb) fun σ H Q ⟨S, Q', W', kw, o, h, k⟩ => ⟨S, _, W', kw, o, h, fun c S1 H1 o1 h1 => by
    cases c with
    | true => exact ⟨S1, Q', W', kw, o1, h1, k⟩
    | false => exact k _ _ _ o1 h1⟩
theorem gOr (ha : PT X a (dT W tA)) (hb : PW X (.BoolOp .Or (b :: rest) pos) (dT W tB)) : PW X (.BoolOp .Or (a :: b :: rest) pos) (dT W (sOr tA tB)) :=
  PW.by (pw_or ha hb) fun σ H Q ⟨S, Q', W', kw, o, h, k⟩ => ⟨S, _, W', kw, o, h, fun c S1 H1 o1 h1 => by
    cases c with
    | false => exact ⟨S1, Q', W', kw, o1, h1, k⟩
    | true => exact k _ _ _ o1 h1⟩
theorem gTNot (ha : PT X a (dT W tA)) : PT X (.UnaryOp .Not a pos) (dT W (sNot tA)) :=
  PT.by (pt_not ha) fun σ H Q ⟨S, Q', W', kw, o, h, k⟩ => ⟨S, _, W', kw, o, h, fun c S1 H1 o1 h1 => k _ _ _ o1 h1⟩
/-- and, or, not as values of truth values -/
def sAndV (ta tb : sE) : sE := fun W σ S Q => ta W σ S fun x S1 => match x with
  | .bl true => tb W σ S1 Q
  | .bl false => Q (.bl false) S1
  | _ => False
def sOrV (ta tb : sE) : sE := fun W σ S Q => ta W σ S fun x S1 => match x with
  | .bl false => tb W σ S1 Q
  | .bl true => Q (.bl true) S1
  | _ => False
def sNotV (K : PySem.W.Frag) (ta : sE) : sE := fun W σ S Q => ta W σ S fun x S1 => oTru K x S1 fun k S2 => Q (.bl (!k)) S2
theorem gAndV (ha : PE X a (dE W ta)) (hb : PE X (.BoolOp .And (b :: rest) pos) (dE W tb)) : PE X (.BoolOp .And (a :: b :: rest) pos) (dE W (sAndV ta tb)) :=
  PE.by (pe_and ha hb) fun σ H Q ⟨S, Q', W', kw, o, h, k⟩ => ⟨S, _, W', kw, o, h, fun x S1 H1 o1 h1 => by
    split at h1
    · exact ⟨true, rfl, S1, Q', W', kw, o1, h1, k⟩
    · exact ⟨false, rfl, k _ _ _ o1 h1⟩
    · exact h1.elim⟩
theorem gOrV (ha : PE X a (dE W ta)) (hb : PE X (.BoolOp .Or (b :: rest) pos) (dE W tb)) : PE X (.BoolOp .Or (a :: b :: rest) pos) (dE W (sOrV ta tb)) :=
  PE.by (pe_or ha hb) fun σ H Q ⟨S, Q', W', kw, o, h, k⟩ => ⟨S, _, W', kw, o, h, fun x S1 H1 o1 h1 => by
    split at h1
    · exact ⟨false, rfl, S1, Q', W', kw, o1, h1, k⟩
    · exact ⟨true, rfl, k _ _ _ o1 h1⟩
    · exact h1.elim⟩
theorem gNotV (ha : PE X a (dE W ta)) : PE X (.UnaryOp .Not a pos) (dE W (sNotV X.K ta)) :=
  PE.by (pe_notT ha) fun σ H Q ⟨S, Q', W', kw, o, h, k⟩ => ⟨S, _, W', kw, o, h, fun x S1 H1 o1 h1 => lTru o1 h1 fun b S2 H2 o2 h2 => k _ _ _ o2 h2⟩
def sIf (t : sT) (ta tb : sE) : sE := fun W σ S Q => t W σ S fun c S1 => match c with
    | true => ta W σ S1 Q
    | false => tb W σ S1 Q
theorem gIfE {e : Expr} (ht : PT X e (dT W tA)) (ha : PE X a (dE W ta)) (hb : PE X b (dE W tb)) : PE X (.IfExp e a b pos) (dE W (sIf tA ta tb)) :=
  PE.by (pe_ifExp ht ha hb) fun σ H Q ⟨S, Q', W', kw, o, h, k⟩ => ⟨S, _, W', kw, o, h, fun c S1 H1 o1 h1 => by
    cases c with
    | true => exact ⟨S1, Q', W', kw, o1, h1, k⟩
    | false => exact ⟨S1, Q', W', kw, o1, h1, k⟩⟩

/-! ### argument lists, displays -/
variable {es : List Expr} {tas : sA}
def sNil : sA := fun _ _ S Q => Q [] S
def sCons (t : sE) (r : sA) : sA := fun W σ S Q => t W σ S fun x S1 => r W σ S1 fun xs S2 => Q (x :: xs) S2
theorem gNil : PA X [] (dA W sNil) := PA.by pa_nil fun σ H Q ⟨S, Q', W', kw, o, h, k⟩ => k _ _ _ o h
theorem gCons (ha : PE X a (dE W ta)) (hr : PA X es (dA W tas)) (hs : starEach (a :: es) X.env = (false, eval a X.env) :: starEach es X.env := by rfl) : PA X (a :: es) (dA W (sCons ta tas)) :=
  PA.by (pa_cons ha hr hs) fun σ H Q ⟨S, Q', W', kw, o, h, k⟩ => ⟨S, _, W', kw, o, h, fun x S1 H1 o1 h1 => ⟨S1, _, W', kw, o1, h1, fun xs S2 H2 o2 h2 => k _ _ _ o2 h2⟩⟩
def sTup (t : sA) : sE := fun W σ S Q => t W σ S fun xs S1 => xs.length ≤ sizeLine ∧ ∀ p, Q (.ref p) (S1.new p (.tup xs))
def sLst (t : sA) : sE := fun W σ S Q => t W σ S fun xs S1 => xs.length ≤ sizeLine ∧ ∀ p, Q (.ref p) (S1.new p (.lst xs))
theorem gTup {x1} (h : PA X es (dA W tas)) : PE X (.Tuple es x1 pos) (dE W (sTup tas)) :=
  PE.by (pe_tup h) fun σ H Q ⟨S, Q', W', kw, o, h, k⟩ => ⟨S, _, W', kw, o, h, fun xs S1 H1 o1 h1 => ⟨h1.1, fun p hp => k _ _ _ (o1.newU hp) (h1.2 p)⟩⟩
theorem gLst (h : PA X es (dA W tas)) : PE X (.List es pos) (dE W (sLst tas)) :=
  PE.by (pe_lst h) fun σ H Q ⟨S, Q', W', kw, o, h, k⟩ => ⟨S, _, W', kw, o, h, fun xs S1 H1 o1 h1 => ⟨h1.1, fun p hp => k _ _ _ (o1.newU hp) (h1.2 p)⟩⟩
def sCall1 (r : sN) (t : sA) : sE := fun W σ S Q => t W σ S fun vs S1 => r vs S1 Q
def LiftN (r : sN) (R : List V → Hp → VK → Prop) : Prop := ∀ vs S Q' H Q, Own S H → r vs S Q' → Imp Q' Q → R vs H Q
theorem gB {id : String} {x : Str} {p : Pos} {e : Expr} {r : sN} {R : List V → Hp → VK → Prop} (hc : CallR X (.builtin id) R) (l : LiftN r R) (hg : Gl X x) (hm : X.mg x = none) (hv : bootBuiltins x = some (.builtin id)) (ha : PA X (e :: es) (dA W tas)) (hn : x ≠ "__name__" := by decide) (hdb : (x == ("__debug__" : Str)) = false := by decide)
    (he : starEach (e :: es) X.env = (false, eval e X.env) :: starEach es X.env := by rfl) (hpl : (backTo pos (starEach es X.env)).any (·.1) = false := by rfl) : PE X (.Call (.Name x p) (e :: es) [] pos) (dE W (sCall1 r tas)) :=
  PE.by (pe_callB hc hg hm hv ha hn hdb he hpl) fun σ H Q ⟨S, Q', W', kw, o, h, k⟩ => ⟨S, _, W', kw, o, h, fun vs S1 H1 o1 h1 => l vs S1 Q' H1 Q o1 h1 k⟩
theorem gTy {T : String} {x : Str} {p : Pos} {e : Expr} {r : sN} {R : List V → Hp → VK → Prop} (hc : CallR X (.type T) R) (l : LiftN r R) (hg : Gl X x) (hm : X.mg x = none) (hv : bootBuiltins x = some (.type T)) (ha : PA X (e :: es) (dA W tas)) (hn : x ≠ "__name__" := by decide) (hdb : (x == ("__debug__" : Str)) = false := by decide)
    (he : starEach (e :: es) X.env = (false, eval e X.env) :: starEach es X.env := by rfl) (hpl : (backTo pos (starEach es X.env)).any (·.1) = false := by rfl) : PE X (.Call (.Name x p) (e :: es) [] pos) (dE W (sCall1 r tas)) :=
  PE.by (pe_callTy hc hg hm hv ha hn hdb he hpl) fun σ H Q ⟨S, Q', W', kw, o, h, k⟩ => ⟨S, _, W', kw, o, h, fun vs S1 H1 o1 h1 => l vs S1 Q' H1 Q o1 h1 k⟩
/-- len -/
def nLen (K : PySem.W.Frag) : sN := fun vs S Q => match vs with
  | [.str z] => z.length ≤ sizeLine ∧ Q (.int z.length) S
  | [.ref p] => ∃ xs, (sL K S p xs ∨ sU K S p xs) ∧ Q (.int xs.length) S
  | _ => False
theorem lLen {K : PySem.W.Frag} : LiftN (nLen K) (fun xs H Q => ∃ x n, xs = [x] ∧ LenV K x H n ∧ Q (.int n) H) := by
  intro vs S Q' H Q o h k
  unfold nLen at h
  split at h
  · exact ⟨_, _, rfl, ⟨h.1, rfl⟩, k _ _ _ o h.2⟩
  · obtain ⟨xs, h1, h2⟩ := h
    rcases h1 with h1 | h1
    · exact ⟨_, xs.length, rfl, .inl ⟨xs, o.l h1, rfl⟩, k _ _ _ o h2⟩
    · exact ⟨_, xs.length, rfl, .inr ⟨xs, o.u h1, rfl⟩, k _ _ _ o h2⟩
  · exact h.elim
/-- int, abs -/
def nInt : sN := fun vs S Q => match vs with
  | [.int i] => Q (.int i) S
  | [.bl b] => Q (.int (if b then 1 else 0)) S
  | _ => False
theorem lInt : LiftN nInt (fun xs H Q => (∃ i, xs = [.int i] ∧ Q (.int i) H) ∨ ∃ k, xs = [.bl k] ∧ Q (.int (if k then 1 else 0)) H) := by
  intro vs S Q' H Q o h k
  unfold nInt at h
  split at h
  · exact .inl ⟨_, rfl, k _ _ _ o h⟩
  · exact .inr ⟨_, rfl, k _ _ _ o h⟩
  · exact h.elim
def nAbs : sN := fun vs S Q => match vs with
  | [.int i] => Q (.int (if i < 0 then -i else i)) S
  | _ => False
theorem lAbs : LiftN nAbs (fun xs H Q => ∃ i, xs = [.int i] ∧ Q (.int (if i < 0 then -i else i)) H) := by
  intro vs S Q' H Q o h k
  unfold nAbs at h
  split at h
  · exact ⟨_, rfl, k _ _ _ o h⟩
  · exact h.elim
/-- sum of a list of ints -/
def nSum (K : PySem.W.Frag) : sN := fun vs S Q => match vs with
  | [.ref p] => ∃ ns : List Int, sL K S p (ns.map V.int) ∧ Q (.int ns.sum) S
  | _ => False
theorem lSum {K : PySem.W.Frag} : LiftN (nSum K) (rSum K) := by
  intro vs S Q' H Q o h k
  unfold nSum at h
  split at h
  · obtain ⟨ns, h1, h2⟩ := h
    exact ⟨_, ns, rfl, o.l h1, k _ _ _ o h2⟩
  · exact h.elim
/-- list(xs) -/
def nList (K : PySem.W.Frag) : sN := fun vs S Q => match vs with
  | [.ref p] => ∃ xs, (sL K S p xs ∨ sU K S p xs) ∧ ∀ r, Q (.ref r) (S.new r (.lst xs))
  | _ => False
theorem lList {K : PySem.W.Frag} : LiftN (nList K) (fun xs H Q => ∃ p ys, xs = [.ref p] ∧ (SqL K H p ys ∨ SqT K H p ys) ∧ ∀ l, H l = none → Q (.ref l) (upd H l (.lst ys))) := by
  intro vs S Q' H Q o h k
  unfold nList at h
  split at h
  · obtain ⟨xs, h1, h2⟩ := h
    exact ⟨_, xs, rfl, h1.elim (fun z => .inl (o.l z)) (fun z => .inr (o.u z)), fun l hl => k _ _ _ (o.newU hl) (h2 l)⟩
  · exact h.elim

/-! ### subscripts -/
def oIx (K : PySem.W.Frag) : s2 := fun x y S Q => match x, y with
  | .ref p, .int i => ∃ xs v, (sL K S p xs ∨ sU K S p xs) ∧ atI xs i = some v ∧ Q v S
  | .str z, .int i => z.length ≤ sizeLine ∧ ∃ c, atI z.cps.toList i = some c ∧ Q (.str ⟨#[c]⟩) S
  | _, _ => False
theorem lIx {K : PySem.W.Frag} : Lift2 (oIx K) (rIx K) := by
  intro x y S Q' H Q o h k
  unfold oIx at h
  split at h
  · obtain ⟨xs, v, h1, h2, h3⟩ := h
    rcases h1 with h1 | h1
    · exact .inl ⟨_, xs, _, v, rfl, rfl, o.l h1, h2, k _ _ _ o h3⟩
    · exact .inr (.inl ⟨_, xs, _, v, rfl, rfl, o.u h1, h2, k _ _ _ o h3⟩)
  · obtain ⟨hz, c, h2, h3⟩ := h
    exact .inr (.inr ⟨_, _, c, rfl, rfl, hz, h2, k _ _ _ o h3⟩)
  · exact h.elim
theorem gIx (ha : PE X a (dE W ta)) (hb : PE X b (dE W tb)) (hs : PlainIx b := by intro _ _; rfl) : PE X (.Subscript a b pos) (dE W (sOp (oIx X.K) ta tb)) :=
  PE.by (pe_ix ix_seq ha hb hs) (lift_op lIx)
/-- a slice's part -/
abbrev sO := sWX → St → SH → (Option Int → SH → Prop) → Prop
def dO (W : WX) (t : sO) : TO := fun σ H Q => ∃ S Q' W', ImpW W' W ∧ Own S H ∧ t W' σ S Q' ∧ Imp Q' Q
theorem PO.by {e : Option Expr} {t t' : TO} (h : PO X e t) (k : ∀ σ H Q, t' σ H Q → t σ H Q) : PO X e t' := ⟨fun pins s σ H Q I q => h.run pins s σ H Q I (k σ H Q q)⟩
def sNoP : sO := fun _ _ S Q => Q none S
def sPart (t : sE) : sO := fun W σ S Q => t W σ S fun x S1 => match x with
  | .int i => Q (some i) S1
  | _ => False
theorem gNoP : PO X none (dO W sNoP) := PO.by po_none fun σ H Q ⟨S, Q', W', kw, o, h, k⟩ => k _ _ _ o h
theorem gPart {e : Expr} {t : sE} (h : PE X e (dE W t)) : PO X (some e) (dO W (sPart t)) := PO.by (po_some h) fun σ H Q ⟨S, Q', W', kw, o, h, k⟩ => ⟨S, _, W', kw, o, h, fun x S1 H1 o1 h1 => by
  split at h1
  · exact ⟨_, rfl, k _ _ _ o1 h1⟩
  · exact h1.elim⟩
def oSl (K : PySem.W.Frag) (x : V) (lo hi : Option Int) (S : SH) (Q : V → SH → Prop) : Prop := match x with
  | .str z => z.length ≤ sizeLine ∧ Q (.str (cutS z lo hi)) S
  | .ref p => (∃ xs, sL K S p xs ∧ ∀ r, Q (.ref r) (S.new r (.lst (cutV xs lo hi)))) ∨
      ∃ xs, sU K S p xs ∧ ¬ (HT.sIx xs.length 0 lo = 0 ∧ HT.sIx xs.length xs.length hi = xs.length) ∧ ∀ r, Q (.ref r) (S.new r (.tup (cutV xs lo hi)))
  | _ => False
def sSl (K : PySem.W.Frag) (te : sE) (tl th : sO) : sE := fun W σ S Q => te W σ S fun x S1 => tl W σ S1 fun l S2 => th W σ S2 fun u S3 => oSl K x l u S3 Q
theorem gSl {lo hi : Option Expr} {tl th : sO} {p2 : Pos} (he : PE X a (dE W ta)) (hl : PO X lo (dO W tl)) (hu : PO X hi (dO W th)) : PE X (.Subscript a (.Slice lo hi none p2) pos) (dE W (sSl X.K ta tl th)) :=
  PE.by (pe_slice (SlR.or sl_str (SlR.or sl_list sl_tup)) he hl hu) fun σ H Q ⟨S, Q', W', kw, o, h, k⟩ => ⟨S, _, W', kw, o, h, fun x S1 H1 o1 h1 => ⟨S1, _, W', kw, o1, h1, fun l S2 H2 o2 h2 => ⟨S2, _, W', kw, o2, h2, fun u S3 H3 o3 h3 => by
    unfold oSl at h3
    split at h3
    · exact .inl ⟨_, rfl, h3.1, k _ _ _ o3 h3.2⟩
    · rcases h3 with ⟨xs, h3, h4⟩ | ⟨xs, h3, h5, h4⟩
      · exact .inr (.inl ⟨_, xs, rfl, o3.l h3, fun r hr => k _ _ _ (o3.newU hr) (h4 r)⟩)
      · exact .inr (.inr ⟨_, xs, rfl, o3.u h3, h5, fun r hr => k _ _ _ (o3.newU hr) (h4 r)⟩)
    · exact h3.elim⟩⟩⟩

/-! ### methods of built-in types -/
/-- o.m(args): r by the receiver and the arguments -/
abbrev sM := V → List V → SH → (V → SH → Prop) → Prop
def LiftM (r : sM) (R : V → List V → Hp → VK → Prop) : Prop := ∀ x vs S Q' H Q, Own S H → r x vs S Q' → Imp Q' Q → R x vs H Q
def sTy (K : PySem.W.Frag) (T : String) (x : V) (S : SH) : Prop := match x with
  | .str _ => T = "str"
  | .int _ => T = "int"
  | .ref p => (T = "list" ∧ ∃ xs, sL K S p xs) ∨ (T = "dict" ∧ ((∃ kvs, At S p (.dK kvs)) ∨ ∃ kvs, At S p (.dT kvs))) ∨ (T = "set" ∧ ∃ f n, At S p (.set f n))
  | _ => False
theorem Own.ty {K : PySem.W.Frag} {T : String} {x : V} {S : SH} {H : Hp} (o : Own S H) (h : sTy K T x S) : tyV K T x H := by
  unfold sTy at h
  unfold tyV
  cases x with
  | str _ => exact h
  | int _ => exact h
  | ref p =>
    rcases h with ⟨e, xs, h⟩ | ⟨e, h⟩ | ⟨e, f, n, h⟩
    · exact .inl ⟨e, xs, o.l h⟩
    · exact .inr (.inr (.inl ⟨e, h.elim (fun ⟨kvs, z⟩ => .inl ⟨kvs, o.at z⟩) (fun ⟨kvs, z⟩ => .inr ⟨kvs, o.at z⟩)⟩))
    · exact .inr (.inr (.inr ⟨e, f, n, o.at h⟩))
  | non => exact h.elim
  | bl _ => exact h.elim
  | byt _ => exact h.elim
  | flt _ => exact h.elim
  | ty _ => exact h.elim
def sMt (K : PySem.W.Frag) (T : String) (r : sM) (to : sE) (t : sA) : sE := fun W σ S Q => to W σ S fun x S1 => sTy K T x S1 ∧ t W σ S1 fun vs S2 => r x vs S2 Q
section
variable {o e : Expr} {to : sE} {name : Str} {apos cpos : Pos} {T id : String} {r : sM} {R : V → List V → Hp → VK → Prop}
theorem gM0 (pa : PlainAttrs T) (slot : Slot T name id) (hty : typeOf (.builtin id) = pure (.type "method_descriptor")) (hm : MtR X id R) (l : LiftM r R) (ho : PE X o (dE W to))
    (hbase : attributeBase o name X.env (eval o X.env) = eval o X.env := by rfl) (hline : (apos.endLine == cpos.line) = true := by rfl) : PE X (.Call (.Attribute o name apos) [] [] cpos) (dE W (sMt X.K T r to sNil)) :=
  PE.by (pe_bm0 pa slot hty hm ho hbase hline) fun σ H Q ⟨S, Q', W', kw, o, h, k⟩ => ⟨S, _, W', kw, o, h, fun x S1 H1 o1 h1 => ⟨o1.ty h1.1, l x [] S1 Q' H1 Q o1 h1.2 k⟩⟩
theorem gM (pa : PlainAttrs T) (slot : Slot T name id) (hty : typeOf (.builtin id) = pure (.type "method_descriptor")) (hm : MtR X id R) (l : LiftM r R) (ho : PE X o (dE W to)) (ha : PA X (e :: es) (dA W tas))
    (hbase : attributeBase o name X.env (eval o X.env) = eval o X.env := by rfl)
    (hfew : ((backTo cpos (starEach (e :: es) X.env)).all (fun x => !x.1) && (backToKw cpos (keywordEach [] X.env)).all (fun x => x.1.isSome)
      && decide ((e :: es).length + ([] : List Keyword).length + (if ([] : List Keyword).isEmpty then 0 else 1) < 30)) = true := by rfl)
    (hline : (apos.endLine == cpos.line) = true := by rfl) (hs : starEach (e :: es) X.env = (false, eval e X.env) :: starEach es X.env := by rfl) (hplain : (backTo cpos (starEach es X.env)).any (·.1) = false := by rfl) :
    PE X (.Call (.Attribute o name apos) (e :: es) [] cpos) (dE W (sMt X.K T r to tas)) :=
  PE.by (pe_bm pa slot hty hm ho ha hbase hfew hline hs hplain) fun σ H Q ⟨S, Q', W', kw, o, h, k⟩ => ⟨S, _, W', kw, o, h, fun x S1 H1 o1 h1 => ⟨o1.ty h1.1, ⟨S1, _, W', kw, o1, h1.2, fun vs S2 H2 o2 h2 => l x vs S2 Q' H2 Q o2 h2 k⟩⟩⟩
end
def mAppend : sM := fun x vs S Q => match x, vs with
  | .ref l, [y] => ∃ i xs, S.G[i]? = some (l, .lst xs) ∧ xs.length < sizeLine ∧ Q .non (S.put i l (.lst (xs ++ [y])))
  | _, _ => False
theorem lAppend : LiftM mAppend rAppend := by
  intro x vs S Q' H Q o h k
  unfold mAppend at h
  split at h
  · obtain ⟨i, xs, h1, h2, h3⟩ := h
    exact ⟨_, xs, _, rfl, rfl, o.g h1, h2, k _ _ _ (o.putU h1) h3⟩
  · exact h.elim
def mPop : sM := fun x vs S Q => match x, vs with
  | .ref l, [] => ∃ i xs y, S.G[i]? = some (l, .lst xs) ∧ xs[xs.length - 1]? = some y ∧ Q y (S.put i l (.lst xs.dropLast))
  | _, _ => False
theorem lPop : LiftM mPop rPop := by
  intro x vs S Q' H Q o h k
  unfold mPop at h
  split at h
  · obtain ⟨i, xs, y, h1, h2, h3⟩ := h
    exact ⟨_, xs, y, rfl, rfl, o.g h1, h2, k _ _ _ (o.putU h1) h3⟩
  · exact h.elim
def mPopAt : sM := fun x vs S Q => match x, vs with
  | .ref l, [.int j] => ∃ i xs k y, S.G[i]? = some (l, .lst xs) ∧ (-(2 ^ 63) ≤ j ∧ j < 2 ^ 63) ∧ seqIndex? j xs.length = some k ∧ xs[k]? = some y ∧ Q y (S.put i l (.lst (xs.eraseIdx k)))
  | _, _ => False
theorem lPopAt : LiftM mPopAt rPopAt := by
  intro x vs S Q' H Q o h k
  unfold mPopAt at h
  split at h
  · obtain ⟨i, xs, j, y, h1, h2, h3, h4, h5⟩ := h
    exact ⟨_, xs, _, j, y, rfl, rfl, o.g h1, h2.1, h2.2, h3, h4, k _ _ _ (o.putU h1) h5⟩
  · exact h.elim
def mExtend : sM := fun x vs S Q => match x, vs with
  | .ref l, [.ref b] => ∃ i xs zs, S.G[i]? = some (l, .lst xs) ∧ At S b (.lst zs) ∧ xs.length + zs.length ≤ sizeLine ∧ Q .non (S.put i l (.lst (xs ++ zs)))
  | _, _ => False
theorem lExtend : LiftM mExtend rExtend := by
  intro x vs S Q' H Q o h k
  unfold mExtend at h
  split at h
  · obtain ⟨i, xs, zs, h1, h2, h3, h4⟩ := h
    exact ⟨_, _, xs, zs, rfl, rfl, o.g h1, o.at h2, h3, k _ _ _ (o.putU h1) h4⟩
  · exact h.elim
def mReverse : sM := fun x vs S Q => match x, vs with
  | .ref l, [] => ∃ i xs, S.G[i]? = some (l, .lst xs) ∧ Q .non (S.put i l (.lst xs.reverse))
  | _, _ => False
theorem lReverse : LiftM mReverse rReverse := by
  intro x vs S Q' H Q o h k
  unfold mReverse at h
  split at h
  · obtain ⟨i, xs, h1, h2⟩ := h
    exact ⟨_, xs, rfl, rfl, o.g h1, k _ _ _ (o.putU h1) h2⟩
  · exact h.elim
/-- a method of two texts -/
def m1S (g : Str → Str → V) (C : Str → Str → Prop) : sM := fun x vs S Q => match x, vs with
  | .str u, [.str v] => C u v ∧ Q (g u v) S
  | _, _ => False
theorem l1S {g : Str → Str → V} {C : Str → Str → Prop} : LiftM (m1S g C) (fun x xs H Q => ∃ a b, x = .str a ∧ xs = [.str b] ∧ C a b ∧ Q (g a b) H) := by
  intro x vs S Q' H Q o h k
  unfold m1S at h
  split at h
  · exact ⟨_, _, rfl, rfl, h.1, k _ _ _ o h.2⟩
  · exact h.elim
theorem l1S0 {g : Str → Str → V} : LiftM (m1S g fun _ _ => True) (fun x xs H Q => ∃ a b, x = .str a ∧ xs = [.str b] ∧ Q (g a b) H) := by
  intro x vs S Q' H Q o h k
  unfold m1S at h
  split at h
  · exact ⟨_, _, rfl, rfl, k _ _ _ o h.2⟩
  · exact h.elim

/-! ### targets -/
abbrev sG := sWX → V → St → SH → (St → SH → Prop) → Prop
abbrev sGs := sWX → List V → St → SH → (St → SH → Prop) → Prop
def dG (W : WX) (t : sG) : TG := fun v σ H Q => ∃ S Q' W', ImpW W' W ∧ Own S H ∧ t W' v σ S Q' ∧ Imp Q' Q
def dGs (W : WX) (t : sGs) : TGs := fun v σ H Q => ∃ S Q' W', ImpW W' W ∧ Own S H ∧ t W' v σ S Q' ∧ Imp Q' Q
theorem PG.by {e : Expr} {t t' : TG} (h : PG X e t) (k : ∀ v σ H Q, t' v σ H Q → t v σ H Q) : PG X e t' := ⟨fun pins s σ H v u Q I r q => h.run pins s σ H v u Q I r (k v σ H Q q)⟩
theorem PGs.by {e : List Expr} {t t' : TGs} (h : PGs X e t) (k : ∀ v σ H Q, t' v σ H Q → t v σ H Q) : PGs X e t' := ⟨fun pins s σ H v u Q I r q => h.run pins s σ H v u Q I r (k v σ H Q q)⟩
def sgName (i : Nat) : sG := fun _ v σ S Q => Q (σ.set i (some v)) S
def sgNil : sGs := fun _ vs σ S Q => match vs with
  | [] => Q σ S
  | _ => False
def sgCons (t : sG) (u : sGs) : sGs := fun W vs σ S Q => match vs with
  | v :: r => t W v σ S fun σ1 S1 => u W r σ1 S1 Q
  | [] => False
def sgTup (K : PySem.W.Frag) (n : Nat) (t : sGs) : sG := fun W v σ S Q => match v with
  | .ref p => ∃ xs, sU K S p xs ∧ xs.length = n ∧ t W xs σ S Q
  | _ => False
def sgSub (to ti : sE) : sG := fun W v σ S Q => to W σ S fun o S1 => ti W σ S1 fun i S2 => match o, i with
  | .ref p, .int k => ∃ n xs j, S2.G[n]? = some (p, .lst xs) ∧ ixN xs.length k = some j ∧ Q σ (S2.put n p (.lst (xs.set j v)))
  | _, _ => False
theorem ggName {i : Nat} {x : Str} (hN : X.N.Nodup) (hi : X.N[i]? = some x) (hx : Loc X.env.scope x) (hf : X.fn x = true ∨ X.env.scope.names.lookup x = some .local := by first | exact .inl rfl | exact .inr rfl | assumption) : PG X (.Name x pos) (dG W (sgName i)) :=
  PG.by (pg_name hN hi hx hf) fun v σ H Q ⟨S, Q', W', kw, o, h, k⟩ => k _ _ _ o h
theorem ggNil : PGs X [] (dGs W sgNil) := PGs.by pgs_nil fun v σ H Q ⟨S, Q', W', kw, o, h, k⟩ => by
  unfold sgNil at h
  split at h
  · exact ⟨rfl, k _ _ _ o h⟩
  · exact h.elim
theorem ggCons {e : Expr} {t : sG} {u : sGs} (h1 : PG X e (dG W t)) (h2 : PGs X es (dGs W u)) (hs : (assignEach (e :: es) X.env).map (·.2) = assign e X.env :: (assignEach es X.env).map (·.2) := by rfl) : PGs X (e :: es) (dGs W (sgCons t u)) :=
  PGs.by (pgs_cons h1 h2 hs) fun v σ H Q ⟨S, Q', W', kw, o, h, k⟩ => by
    unfold sgCons at h
    split at h
    · exact ⟨_, _, rfl, S, _, W', kw, o, h, fun σ1 S1 H1 o1 h1 => ⟨S1, Q', W', kw, o1, h1, k⟩⟩
    · exact h.elim
theorem ggTup {kk : Nat} {t : sGs} {n : Nat} (hc : X.calm = true) (h : PGs X es (dGs W t)) (hn : (assignEach es X.env).length = n := by rfl) (hst : (assignEach es X.env).findIdx? (·.1) = none := by rfl) : PG X (.Tuple es kk pos) (dG W (sgTup X.K n t)) :=
  PG.by (pg_tup hc h hn hst) fun v σ H Q ⟨S, Q', W', kw, o, h, k⟩ => by
    unfold sgTup at h
    split at h
    · obtain ⟨xs, h1, h2, h3⟩ := h
      exact ⟨_, xs, rfl, o.u h1, h2, S, Q', W', kw, o, h3, k⟩
    · exact h.elim
theorem ggSub {o i : Expr} {to ti : sE} (ho : PE X o (dE W to)) (hi : PE X i (dE W ti))
    (hq : ∀ v, assign (.Subscript o i pos) X.env v = (do
      let ov ← holding [v] (eval o X.env)
      let iv ← holding [v, ov] (eval i X.env)
      standAt pos
      holding [v, ov, iv] (setItem ov iv v)
      release [v, ov, iv] []) := by intro _; rfl) : PG X (.Subscript o i pos) (dG W (sgSub to ti)) :=
  PG.by (pg_sub ho hi set_list hq) fun v σ H Q ⟨S, Q', W', kw, o, h, k⟩ => ⟨S, _, W', kw, o, h, fun x S1 H1 o1 h1 => ⟨S1, _, W', kw, o1, h1, fun y S2 H2 o2 h2 => by
    split at h2
    · obtain ⟨n, xs, j, h3, h4, h5⟩ := h2
      exact ⟨_, xs, _, j, rfl, rfl, o2.g h3, h4, k _ _ _ (o2.putU h3) h5⟩
    · exact h2.elim⟩⟩

/-! ### forgetting -/
/-- what is known may be less -/
def SLe (S S0 : SH) : Prop := ∀ H, Own S H → Own S0 H
def Wk (P : SH → Prop) : SH → Prop := fun S => ∃ S0, SLe S S0 ∧ P S0
theorem SLe.refl (S : SH) : SLe S S := fun _ o => o
theorem SLe.trans {S S1 S2 : SH} (a : SLe S S1) (b : SLe S1 S2) : SLe S S2 := fun H o => b H (a H o)
theorem sle_sub {F : Hp} {G G0 : List (Addr × HO)} (h : G0.Sublist G) : SLe ⟨F, G⟩ ⟨F, G0⟩ := fun H o => ⟨o.fr, fun p q => o.gs p (h.subset q), o.nd.sublist (h.map _)⟩
theorem sle_perm {F : Hp} {G G0 : List (Addr × HO)} (h : G.Perm G0) : SLe ⟨F, G⟩ ⟨F, G0⟩ := fun H o => ⟨o.fr, fun p q => o.gs p (h.mem_iff.mpr q), (h.map _).nodup_iff.mp o.nd⟩
/-- an object goes to the frame -/
theorem sle_frz {F : Hp} {p : Addr} {u : HO} {G : List (Addr × HO)} : SLe ⟨F, (p, u) :: G⟩ ⟨upd F p u, G⟩ := fun H o => by
  have hp := o.gs (p, u) List.mem_cons_self
  have nd := List.nodup_cons.mp o.nd
  refine ⟨fun a x e => ?_, fun q hq => ⟨(o.gs q (List.mem_cons_of_mem _ hq)).1, ?_⟩, nd.2⟩
  · by_cases ha : a = p
    · subst ha
      have e' : upd F a u a = some x := e
      rw [upd_same] at e'
      cases e'
      exact hp.1
    · have e' : upd F p u a = some x := e
      rw [upd_ne ha] at e'
      exact o.fr a x e'
  · have hne : q.1 ≠ p := fun e => nd.1 (List.mem_map.mpr ⟨q, hq, e⟩)
    show upd F p u q.1 = none
    rw [upd_ne hne]
    exact (o.gs q (List.mem_cons_of_mem _ hq)).2
theorem sle_get {S : SH} {i : Nat} {p : Addr} {u : HO} (h : S.G[i]? = some (p, u)) : SLe S ⟨S.F, [(p, u)]⟩ := fun H o => by
  refine ⟨o.fr, fun q hq => ?_, by simp⟩
  have e : q = (p, u) := List.mem_singleton.mp hq
  subst e
  exact o.gs _ (List.mem_of_getElem? h)

/-! ### statements -/
section
variable {st : Stmt} {rest body orelse : List Stmt} {t u : sS}
abbrev sEnds.at (D : sEnds) (n : St → SH → Prop) : sEnds := { D with nx := n }
def sNext : sS := fun D σ S => D.nx σ S
def sSeq (t u : sS) : sS := fun D σ S => t { D with nx := u D } σ S
/-- the same, what follows shown once -/
def sCut (t u : sS) : sS := fun D σ S => ∃ M : St → SH → Prop, t { D with nx := fun σ' => Wk (M σ') } σ S ∧ ∀ σ' S', M σ' S' → u D σ' S'
theorem hNil : PSs X [] (dS W sNext) := PSs.by pss_nil fun D σ H ⟨S, D', o, h, k⟩ => k.nx _ _ _ o h
theorem hCons (h1 : PS X st (dS W t)) (h2 : PSs X rest (dS W u)) : PSs X (st :: rest) (dS W (sSeq t u)) :=
  PSs.by (pss_cons h1 h2) fun D σ H ⟨S, D', o, h, k⟩ => ⟨S, { D' with nx := u D' }, o, h, ⟨fun σ1 S1 H1 o1 h1 => ⟨S1, D', o1, h1, k⟩, k.rt, k.bk, k.ct, k.ex⟩⟩
theorem hCut (h1 : PS X st (dS W t)) (h2 : PSs X rest (dS W u)) : PSs X (st :: rest) (dS W (sCut t u)) :=
  PSs.by (pss_cons h1 h2) fun D σ H ⟨S, D', o, ⟨M, h, hm⟩, k⟩ => ⟨S, { D' with nx := fun σ' => Wk (M σ') }, o, h, ⟨fun σ1 S1 H1 o1 ⟨S0, le, h1⟩ => ⟨S0, D', le _ o1, hm _ _ h1, k⟩, k.rt, k.bk, k.ct, k.ex⟩⟩
theorem hOne (h1 : PS X st (dS W t)) : PSs X [st] (dS W t) := PSs.by (pss_one h1) fun D σ H z => z
def sBreak : sS := fun D σ S => D.bk σ S
def sCont : sS := fun D σ S => D.ct σ S
def sNever : sS := fun _ _ _ => False
theorem hPass : PS X (.Pass pos) (dS W sNext) := PS.by ps_pass fun D σ H ⟨S, D', o, h, k⟩ => k.nx _ _ _ o h
theorem hBreak : PS X (.Break pos) (dS W sBreak) := PS.by ps_break fun D σ H ⟨S, D', o, h, k⟩ => k.bk _ _ _ o h
theorem hCont : PS X (.Continue pos) (dS W sCont) := PS.by ps_continue fun D σ H ⟨S, D', o, h, k⟩ => k.ct _ _ _ o h
theorem hNever : PS X st (dS W sNever) := PS.by ps_never fun D σ H ⟨S, D', o, h, k⟩ => h.elim
theorem hDoc {x j pos pos'} : PS X (.Expr (.Constant (.str x) j pos) pos') (dS W sNext) := PS.by ps_doc fun D σ H ⟨S, D', o, h, k⟩ => k.nx _ _ _ o h
def sDrop (te : sE) : sS := fun D σ S => te D.ex σ S fun _ S1 => D.nx σ S1
theorem hExpr {e : Expr} {te : sE} (he : PE X e (dE W te)) (hs : swapsWith e none pos.line X.env = pure false := by rfl) : PS X (.Expr e pos) (dS W (sDrop te)) :=
  PS.by (ps_expr he hs) fun D σ H ⟨S, D', o, h, k⟩ => ⟨S, _, D'.ex, k.ex, o, h, fun x S1 H1 o1 h1 => k.nx _ _ _ o1 h1⟩
def sRet (te : sE) : sS := fun D σ S => te D.ex σ S D.rt
def sRetN : sS := fun D _ S => D.rt .non S
theorem hRet {e : Expr} {te : sE} (he : PE X e (dE W te)) : PS X (.Return (some e) pos) (dS W (sRet te)) :=
  PS.by (ps_ret he) fun D σ H ⟨S, D', o, h, k⟩ => ⟨S, _, D'.ex, k.ex, o, h, k.rt⟩
theorem hRetN : PS X (.Return none pos) (dS W sRetN) := PS.by ps_retN fun D σ H ⟨S, D', o, h, k⟩ => k.rt _ _ _ o h
def sIfS (c : sT) (t u : sS) : sS := fun D σ S => c D.ex σ S fun b S1 => match b with
    | true => t D σ S1
    | false => u D σ S1
theorem hIf {c : Expr} {a b : List Stmt} {tc : sT} (hc : PT X c (dT W tc)) (ha : PSs X a (dS W t)) (hb : PSs X b (dS W u)) : PS X (.If c a b pos) (dS W (sIfS tc t u)) :=
  PS.by (ps_if hc ha hb) fun D σ H ⟨S, D', o, h, k⟩ => ⟨S, _, D'.ex, k.ex, o, h, fun b S1 H1 o1 h1 => by
    cases b with
    | true => exact ⟨S1, D', o1, h1, k⟩
    | false => exact ⟨S1, D', o1, h1, k⟩⟩
def sAsg (te : sE) (g : sG) : sS := fun D σ S => te D.ex σ S fun x S1 => g D.ex x σ S1 D.nx
theorem hAsg {tg e : Expr} {te : sE} {g : sG} (he : PE X e (dE W te)) (hg : PG X tg (dG W g)) (hs : swapsWithSole [tg] e pos.line X.env = pure false := by rfl) (hw : swappedStores [tg] e X.env = pure none := by rfl)
    (h1 : (assignEach [tg] X.env).map (·.2) = [assign tg X.env] := by rfl) : PS X (.Assign [tg] e pos) (dS W (sAsg te g)) :=
  PS.by (ps_asg he hg hs hw h1) fun D σ H ⟨S, D', o, h, k⟩ => ⟨S, _, D'.ex, k.ex, o, h, fun x S1 H1 o1 h1 => ⟨S1, _, D'.ex, k.ex, o1, h1, k.nx⟩⟩
def sSet (te : sE) (i : Nat) : sS := fun D σ S => te D.ex σ S fun x S1 => D.nx (σ.set i (some x)) S1
theorem hSet {i : Nat} {x : Str} {e : Expr} {te : sE} {pos' : Pos} (hN : X.N.Nodup) (hi : X.N[i]? = some x) (hx : Loc X.env.scope x) (he : PE X e (dE W te)) (hs : swapsWith e (some (.Name x pos')) pos.line X.env = pure false := by rfl) (hf : X.fn x = true ∨ X.env.scope.names.lookup x = some .local := by first | exact .inl rfl | exact .inr rfl | assumption) :
    PS X (.Assign [.Name x pos'] e pos) (dS W (sSet te i)) :=
  PS.by (ps_set hN hi hx he hs hf) fun D σ H ⟨S, D', o, h, k⟩ => ⟨S, _, D'.ex, k.ex, o, h, fun x S1 H1 o1 h1 => k.nx _ _ _ o1 h1⟩
/-- while -/
def sWhile (c : sT) (tb : sS) : sS := fun D σ S => ∃ P : Nat → St → SH → Prop, (∃ m, P m σ S) ∧ ∀ m σ S, P m σ S →
  c D.ex σ S fun b S1 => match b with
    | true => tb { D with nx := fun σ' => Wk fun S' => ∃ m', m' < m ∧ P m' σ' S', ct := fun σ' => Wk fun S' => ∃ m', m' < m ∧ P m' σ' S', bk := D.nx } σ S1
    | false => D.nx σ S1
theorem hWhile {c : Expr} {tc : sT} {tb : sS} (hp : PassesOwn (model X.prog X.w) X.A X.env X.xe) (hc : PT X c (dT W tc)) (hb : PSs X body (dS W tb)) : PS X (.While c body [] pos) (dS W (sWhile tc tb)) :=
  PS.by (ps_while hp hc hb) fun D σ H ⟨S, D', o, ⟨P, ⟨m0, h0⟩, h⟩, k⟩ => ⟨fun m σ H => ∃ S, Own S H ∧ P m σ S, ⟨m0, S, o, h0⟩, fun m σ H ⟨S, o, p⟩ => ⟨S, _, D'.ex, k.ex, o, h m σ S p, fun b S1 H1 o1 h1 => by
    cases b with
    | false => exact k.nx _ _ _ o1 h1
    | true => exact ⟨fun σ H => ∃ m', m' < m ∧ ∃ S, Own S H ∧ P m' σ S, fun σ' H' z => z, S1, _, o1, h1, ⟨fun σ' S' H' o' ⟨S0, le, m', z1, z2⟩ => ⟨m', z1, S0, le _ o', z2⟩, k.rt, k.nx, fun σ' S' H' o' ⟨S0, le, m', z1, z2⟩ => ⟨m', z1, S0, le _ o', z2⟩, k.ex⟩⟩⟩⟩
end

/-! ### what a for walks -/
/-- a walk: its length, what must stand, what a turn yields -/
structure SIt where
  n : Nat
  ok : SH → Prop
  yld : Nat → SH → (V → SH → Prop) → Prop
structure SItOk (J : It) (s : SIt) : Prop where
  stop : ∀ S H i, Own S H → s.ok S → s.n ≤ i → J.stop i H
  go : ∀ S H i, Own S H → s.ok S → i < s.n → J.go i H
  yld : ∀ S H i x H' k, Own S H → s.ok S → i < s.n → J.yld i H x H' → s.yld i S k → ∃ S', Own S' H' ∧ k x S'
abbrev sI := sWX → St → SH → (SIt → SH → Prop) → Prop
def dI (W : WX) (t : sI) : TI := fun σ H R => ∃ S R' W', ImpW W' W ∧ Own S H ∧ t W' σ S R' ∧ ∀ s S' H' J, Own S' H' → SItOk J s → R' s S' → R J H'
theorem PI.by {tg e : Expr} {t t' : TI} (h : PI X tg e t) (k : ∀ σ H R, t' σ H R → t σ H R) : PI X tg e t' := ⟨fun pins s σ H R I q => h.run pins s σ H R I (k σ H R q)⟩
def sFor (i : sI) (g : sG) (tb : sS) : sS := fun D σ S => i D.ex σ S fun s S1 => ∃ P : Nat → St → SH → Prop, P 0 σ S1 ∧ (∀ i σ S, i ≤ s.n → P i σ S → s.ok S) ∧
  (∀ i σ S, i < s.n → P i σ S → s.yld i S fun v S' => g D.ex v σ S' fun σ2 S2 => tb { D with nx := fun σ' => Wk (P (i + 1) σ'), ct := fun σ' => Wk (P (i + 1) σ'), bk := D.nx } σ2 S2) ∧ ∀ σ S, P s.n σ S → D.nx σ S
theorem hFor {tg iter : Expr} {body : List Stmt} {ti : sI} {g : sG} {tb : sS} (hp : PassesOwn (model X.prog X.w) X.A X.env X.xe) (hc : X.calm = true) (hi : PI X tg iter (dI W ti)) (hg : PG X tg (dG W g)) (hb : PSs X body (dS W tb)) (hs : ∀ x, foldedSetIterable iter X.env x = pure x := by intro _; rfl) : PS X (.For tg iter body [] pos) (dS W (sFor ti g tb)) :=
  PS.by (ps_for hp hc hi hg hb hs) fun D σ H ⟨S, D', o, h, k⟩ => ⟨S, _, D'.ex, k.ex, o, h, fun s S1 H1 J o1 j h1 => by
    obtain ⟨P, h0, hok, hs, hd⟩ := h1
    refine ⟨fun i m σ H => m = s.n - i ∧ i ≤ s.n ∧ ∃ S, Own S H ∧ P i σ S, ⟨s.n, by simp, Nat.zero_le _, S1, o1, h0⟩, ?_⟩
    rintro i m σ H ⟨rfl, hi, S2, o2, p⟩
    by_cases hlt : i < s.n
    · refine .inr ⟨j.go S2 H i o2 (hok i σ S2 hi p) hlt, fun σ' H' => ∃ S', Own S' H' ∧ P (i + 1) σ' S', fun σ' H' p' => ⟨s.n - (i + 1), by omega, rfl, hlt, p'⟩, fun x H' y => ?_⟩
      obtain ⟨S', o', q⟩ := j.yld S2 H i x H' _ o2 (hok i σ S2 hi p) hlt y (hs i σ S2 hlt p)
      refine ⟨S', _, D'.ex, k.ex, o', q, fun σ2 S3 H3 o3 q3 => ⟨S3, _, o3, q3, ⟨fun σ4 S4 H4 o4 ⟨S0, le, q4⟩ => ⟨S0, le _ o4, q4⟩, k.rt, k.nx, fun σ4 S4 H4 o4 ⟨S0, le, q4⟩ => ⟨S0, le _ o4, q4⟩, k.ex⟩⟩⟩
    · have e : i = s.n := by omega
      subst e
      exact .inl ⟨j.stop S2 H _ o2 (hok _ σ S2 hi p) (Nat.le_refl _), k.nx _ _ _ o2 (hd σ S2 p)⟩⟩
/-- a list, a tuple -/
def itL (K : PySem.W.Frag) (a : Addr) (xs : List V) : SIt := ⟨xs.length, fun S => sL K S a xs, fun i S k => ∀ v, xs[i]? = some v → k v S⟩
def itU (K : PySem.W.Frag) (a : Addr) (xs : List V) : SIt := ⟨xs.length, fun S => sU K S a xs, fun i S k => ∀ v, xs[i]? = some v → k v S⟩
theorem itL_ok {K : PySem.W.Frag} {a : Addr} {xs : List V} : SItOk (Itl K a) (itL K a xs) :=
  ⟨fun S H i o h hi => ⟨xs, o.l h, hi⟩, fun S H i o h hi => ⟨xs, _, o.l h, List.getElem?_eq_getElem hi⟩, fun S H i x H' k o h hi ⟨e, y⟩ q => by
    subst e
    exact ⟨S, o, q x (y xs (o.l h))⟩⟩
theorem itU_ok {K : PySem.W.Frag} {a : Addr} {xs : List V} : SItOk (Itt K a) (itU K a xs) :=
  ⟨fun S H i o h hi => ⟨xs, o.u h, hi⟩, fun S H i o h hi => ⟨xs, _, o.u h, List.getElem?_eq_getElem hi⟩, fun S H i x H' k o h hi ⟨e, y⟩ q => by
    subst e
    exact ⟨S, o, q x (y xs (o.u h))⟩⟩
def siSeq (K : PySem.W.Frag) (tl : sE) : sI := fun W σ S R => tl W σ S fun x S1 => match x with
  | .ref a => (∃ xs, sL K S1 a xs ∧ R (itL K a xs) S1) ∨ ∃ xs, sU K S1 a xs ∧ R (itU K a xs) S1
  | _ => False
/-- by values: what is walked -/
theorem pi_seq {tg l : Expr} {tl : TE} (hl : PE X l tl) : PI X tg l (fun σ H R => tl σ H fun x H1 => ∃ a, x = .ref a ∧ (((∃ xs, SqL X.K H1 a xs) ∧ R (Itl X.K a) H1) ∨ ((∃ xs, SqT X.K H1 a xs) ∧ R (Itt X.K a) H1))) := by
  refine ⟨fun pins s σ H R I h => ?_⟩
  refine thn (hl.run pins s σ H _ I h) fun v s1 ⟨x, H1, I1, r1, a, e, q⟩ => ?_
  subst e
  cases r1
  rcases q with ⟨⟨xs, hq⟩, q⟩ | ⟨⟨xs, hq⟩, q⟩
  · obtain ⟨its, rv, p, hz⟩ := I1.list hq
    refine wpAny_pyIter_list p.isList ?_
    refine ⟨s1.heap.objs.size, [s1.heap.objs.size], _, _, H1, rfl, I1.kept (t' := s1.toks) fun b o e => Heap.get?_push_of_some _ e, turn_list a _, ⟨_, Heap.get?_push_size _ rfl, rfl, rfl⟩, fun b hb => ?_, q⟩
    have e : b = s1.heap.objs.size := by simpa using hb
    subst e
    exact I1.fpOk (Nat.le_refl _) (I1.hok.fresh (Nat.le_refl _))
  · obtain ⟨its, rv, p, hz⟩ := I1.tuple hq
    refine wpAny_pyIter_tuple (show s1.heap.IsTuple a its.toArray from p) ?_
    refine ⟨s1.heap.objs.size, [s1.heap.objs.size], _, _, H1, rfl, I1.kept (t' := s1.toks) fun b o e => Heap.get?_push_of_some _ e, turn_tuple a _, ⟨_, Heap.get?_push_size _ rfl, rfl, rfl⟩, fun b hb => ?_, q⟩
    have e : b = s1.heap.objs.size := by simpa using hb
    subst e
    exact I1.fpOk (Nat.le_refl _) (I1.hok.fresh (Nat.le_refl _))
theorem iSeq {tg l : Expr} {tl : sE} (hl : PE X l (dE W tl)) : PI X tg l (dI W (siSeq X.K tl)) :=
  PI.by (pi_seq hl) fun σ H R ⟨S, R', W', kw, o, h, k⟩ => ⟨S, _, W', kw, o, h, fun x S1 H1 o1 h1 => by
    split at h1
    · rename_i a
      refine ⟨a, rfl, ?_⟩
      rcases h1 with ⟨xs, h1, h2⟩ | ⟨xs, h1, h2⟩
      · exact .inl ⟨⟨xs, o1.l h1⟩, k _ _ _ _ o1 itL_ok h2⟩
      · exact .inr ⟨⟨xs, o1.u h1⟩, k _ _ _ _ o1 itU_ok h2⟩
    · exact h1.elim⟩
/-- a range -/
def itR (lo : Int) (n : Nat) : SIt := ⟨n, fun _ => True, fun i S k => k (.int (lo + (i : Nat))) S⟩
theorem itR_ok {lo : Int} {n : Nat} : SItOk (Itr lo n) (itR lo n) :=
  ⟨fun S H i o h hi => hi, fun S H i o h hi => hi, fun S H i x H' k o h hi ⟨e, y⟩ q => by
    subst e
    subst y
    exact ⟨S, o, q⟩⟩
def rngOk (i : Int) : Prop := -(2 ^ 62) ≤ i ∧ i < 2 ^ 62
def siR1 (ta : sA) : sI := fun W σ S R => ta W σ S fun vs S1 => match vs with
  | [.int j] => rngOk j ∧ R (itR 0 j.toNat) S1
  | _ => False
def siR2 (ta : sA) : sI := fun W σ S R => ta W σ S fun vs S1 => match vs with
  | [.int i, .int j] => rngOk i ∧ rngOk j ∧ R (itR i (j - i).toNat) S1
  | _ => False
theorem iR1 {tg a : Expr} {ta : sA} {p pos : Pos} (hg : Gl X "range") (hm : X.mg "range" = none) (ha : PA X [a] (dA W ta)) (hs : starEach [a] X.env = [(false, eval a X.env)] := by rfl) : PI X tg (.Call (.Name "range" p) [a] [] pos) (dI W (siR1 ta)) :=
  PI.by (pi_range1 hg hm ha hs) fun σ H R ⟨S, R', W', kw, o, h, k⟩ => ⟨S, _, W', kw, o, h, fun vs S1 H1 o1 h1 => by
    split at h1
    · exact ⟨_, rfl, h1.1.1, h1.1.2, k _ _ _ _ o1 itR_ok h1.2⟩
    · exact h1.elim⟩
theorem iR2 {tg a b : Expr} {ta : sA} {p pos : Pos} (hg : Gl X "range") (hm : X.mg "range" = none) (ha : PA X [a, b] (dA W ta)) (hs : starEach [a, b] X.env = [(false, eval a X.env), (false, eval b X.env)] := by rfl) (hs2 : starEach [b] X.env = [(false, eval b X.env)] := by rfl) :
    PI X tg (.Call (.Name "range" p) [a, b] [] pos) (dI W (siR2 ta)) :=
  PI.by (pi_range2 hg hm ha hs hs2) fun σ H R ⟨S, R', W', kw, o, h, k⟩ => ⟨S, _, W', kw, o, h, fun vs S1 H1 o1 h1 => by
    split at h1
    · exact ⟨_, _, rfl, ⟨h1.1.1, h1.1.2, h1.2.1.1, h1.2.1.2⟩, k _ _ _ _ o1 itR_ok h1.2.2⟩
    · exact h1.elim⟩

/-! ### list comprehensions -/
/-- nothing may be let out -/
def noW : sWX := fun _ _ _ _ => False
abbrev NoW : WX := fun _ _ _ _ => False
theorem noW_imp {W : WX} : ImpW noW W := fun _ _ _ _ _ _ q => q.elim
def sLc (i : sI) (g : sG) (tt : sT) (te : sE) (vs : List Nat) : sE := fun W σ S Q => i W σ S fun s S1 => ∀ D, ∃ P : Nat → SH → Prop, P 0 (S1.new D (.lst [])) ∧ (∀ i S, i ≤ s.n → P i S → s.ok S) ∧
  (∀ i S, i < s.n → P i S → s.yld i S fun v S' => g noW v (wipe σ vs) S' fun σ2 S2 => wipe σ2 vs = wipe σ vs ∧ tt noW σ2 S2 fun b S3 =>
    match b with
    | true => te noW σ2 S3 fun y S4 => ∃ k acc, S4.G[k]? = some (D, .lst acc) ∧ acc.length < sizeLine ∧ Wk (P (i + 1)) (S4.put k D (.lst (acc ++ [y])))
    | false => Wk (P (i + 1)) S3) ∧ ∀ S, P s.n S → Q (.ref D) S
def sYes : sT := fun _ _ S Q => Q true S
structure sTs (X : Cx) (W : WX) (ifs : List Expr) (t : sT) : Prop where
  to : PTs X ifs (dT W t)
theorem gNoIf : sTs X W [] sYes := ⟨⟨fun pins s σ H Q I ⟨S, Q', W', kw, o, h, k⟩ => pts_nil.run pins s σ H Q I (k _ _ _ o h)⟩⟩
theorem gOneIf {c : Expr} {t : sT} (h : PT X c (dT W t)) : sTs X W [c] t := ⟨pts_one h⟩
theorem lift_lc {ti : sI} {g : sG} {tt : sT} {te : sE} {vs : List Nat} : ∀ σ H Q, dE W (sLc ti g tt te vs) σ H Q → tLc (dI W ti) (dG NoW g) (dT NoW tt) (dE NoW te) vs σ H Q := fun σ H Q ⟨S, Q', W', kw, o, h, k⟩ =>
  ⟨S, _, W', kw, o, h, fun s S1 H1 J o1 j h1 => by
    intro D hD
    obtain ⟨P, h0, hok, hs, hd⟩ := h1 D
    refine ⟨fun i m H => m = s.n - i ∧ i ≤ s.n ∧ ∃ S, Own S H ∧ P i S, ⟨s.n, by simp, Nat.zero_le _, _, o1.newU hD, h0⟩, ?_⟩
    rintro i m H ⟨rfl, hi, S2, o2, p⟩
    by_cases hlt : i < s.n
    · refine .inr ⟨j.go S2 H i o2 (hok i S2 hi p) hlt, fun H' => ∃ S', Own S' H' ∧ P (i + 1) S', fun H' p' => ⟨s.n - (i + 1), by omega, rfl, hlt, p'⟩, fun x H' y => ?_⟩
      obtain ⟨S', o', q⟩ := j.yld S2 H i x H' _ o2 (hok i S2 hi p) hlt y (hs i S2 hlt p)
      refine ⟨S', _, noW, noW_imp, o', q, fun σ2 S3 H3 o3 q3 => ⟨q3.1, S3, _, noW, noW_imp, o3, q3.2, fun b S4 H4 o4 q4 => ?_⟩⟩
      cases b with
      | false =>
        obtain ⟨S0, le, q4⟩ := q4
        exact ⟨S0, le _ o4, q4⟩
      | true =>
        refine ⟨S4, _, noW, noW_imp, o4, q4, fun y S5 H5 o5 q5 => ?_⟩
        obtain ⟨kk, acc, z1, z2, S0, le, z3⟩ := q5
        exact ⟨acc, o5.g z1, z2, _, le _ (o5.putU z1), z3⟩
    · have e : i = s.n := by omega
      subst e
      exact .inl ⟨j.stop S2 H _ o2 (hok _ S2 hi p) (Nat.le_refl _), k _ _ _ o2 (hd S2 p)⟩⟩
theorem gLc {elt tg iter : Expr} {ifs : List Expr} {scope : Scope} {own : List (Str × Nat)} {ti : sI} {g : sG} {tt : sT} {te : sE} (hc : X.calm = true) (hN : X.N.Nodup) (hi : PI X tg iter (dI W ti)) (ok : BlkOk X.N X.env.scope scope own)
    (hg : ∀ (s : Shared) (H : Hp) (C : Addr) (cl : List (Str × Addr)) (fp : List Addr), PG (X.blk s H scope (compEnvC scope cl C X.env) fp) tg (dG NoW g)) (ht : ∀ (s : Shared) (H : Hp) (C : Addr) (cl : List (Str × Addr)) (fp : List Addr), sTs (X.blk s H scope (compEnvC scope cl C X.env) fp) NoW ifs tt)
    (he : ∀ (s : Shared) (H : Hp) (C : Addr) (cl : List (Str × Addr)) (fp : List Addr), PE (X.blk s H scope (compEnvC scope cl C X.env) fp) elt (dE NoW te)) (hs : ∀ x, foldedSetIterable iter X.env x = pure x := by intro _; rfl) :
    PE X (.ListComp elt [⟨tg, iter, ifs, 0⟩] scope pos) (dE W (sLc ti g tt te (own.map (·.2)))) :=
  PE.by (pe_lc hc hN hi ok hg (fun s H C cl fp => (ht s H C cl fp).to) he hs) lift_lc
theorem hSetLc {i : Nat} {y : Str} {py : Pos} {elt tg iter : Expr} {ifs : List Expr} {scope : Scope} {own : List (Str × Nat)} {pos spos : Pos} {ti : sI} {g : sG} {tt : sT} {te : sE} (hc : X.calm = true) (hN : X.N.Nodup) (hy : X.N[i]? = some y) (hyl : X.env.scope.names.lookup y = some .local)
    (hsw : swapsWith (.ListComp elt [⟨tg, iter, ifs, 0⟩] scope pos) (some (.Name y py)) spos.line X.env = pure true) (hi : PI X tg iter (dI W ti)) (ok : BlkOk X.N X.env.scope scope own)
    (hg : ∀ (s : Shared) (H : Hp) (C : Addr) (cl : List (Str × Addr)) (fp : List Addr), PG (X.blk s H scope (compEnvC scope cl C X.env) fp) tg (dG NoW g)) (ht : ∀ (s : Shared) (H : Hp) (C : Addr) (cl : List (Str × Addr)) (fp : List Addr), sTs (X.blk s H scope (compEnvC scope cl C X.env) fp) NoW ifs tt)
    (he : ∀ (s : Shared) (H : Hp) (C : Addr) (cl : List (Str × Addr)) (fp : List Addr), PE (X.blk s H scope (compEnvC scope cl C X.env) fp) elt (dE NoW te)) (hs : ∀ x, foldedSetIterable iter X.env x = pure x := by intro _; rfl) :
    PS X (.Assign [.Name y py] (.ListComp elt [⟨tg, iter, ifs, 0⟩] scope pos) spos) (dS W (sSet (sLc ti g tt te (own.map (·.2))) i)) :=
  PS.by (ps_setLc hc hN hy hyl hsw hi ok hg (fun s H C cl fp => (ht s H C cl fp).to) he hs) fun D σ H ⟨S, D', o, h, k⟩ => lift_lc σ H _ ⟨S, _, D'.ex, k.ex, o, h, fun x S1 H1 o1 h1 => k.nx _ _ _ o1 h1⟩

/-! ### calls of own defs -/
/-- sp, from the symbolic heap -/
def sSp (sp : Sp) : sWX → List V → St → SH → (V → SH → Prop) → Prop := fun W vs σ S Q => ∀ H, Own S H → sp vs H (fun v H' => ∃ S', Own S' H' ∧ Q v S') (fun c d H' => ∃ S', Own S' H' ∧ W c d σ S')
/-- sp stands a weaker wish -/
def SpMono (sp : Sp) : Prop := ∀ vs H Q Q' E E', (∀ v H', Q v H' → Q' v H') → (∀ c d H', E c d H' → E' c d H') → sp vs H Q E → sp vs H Q' E'
def sCall (sp : Sp) (t : sA) : sE := fun W σ S Q => t W σ S fun vs S1 => sSp sp W vs σ S1 Q
section
variable {k : Nat} {f : Addr} {fd : FuncData} {ps : List Str} {sp : Sp} {x : Str} {p : Pos} {e : Expr}
theorem lift_sp (m : SpMono sp) {vs : List V} {σ : St} {S : SH} {H : Hp} {W' : sWX} {Q' : V → SH → Prop} {Q : VK} (kw : ImpW W' W) (o : Own S H) (h : sSp sp W' vs σ S Q') (k : Imp Q' Q) : sp vs H Q (WE W σ) :=
  m _ _ _ _ _ _ (fun v H' ⟨S', o', q⟩ => k v S' H' o' q) (fun c d H' ⟨S', o', q⟩ => kw c d σ S' H' o' q) (h H o)
theorem gCall (m : SpMono sp) (F : FnOk X.prog X.w X.K X.mg X.base (L2.CX X.prog X.w) k f fd ps sp) (hr : Room k X.A) (hg : Gl X x) (hm : X.mg x = some (.ref f)) (hk : PySem.W.keepIn X.K (.ref f) = true) (hb : Binds X.K fd ps []) (tk : Takes X W) (ha : PA X (e :: es) (dA W tas))
    (hdb : (x == ("__debug__" : Str)) = false := by decide) (he : starEach (e :: es) X.env = (false, eval e X.env) :: starEach es X.env := by rfl) (hpl : (backTo pos (starEach es X.env)).any (·.1) = false := by rfl) :
    PE X (.Call (.Name x p) (e :: es) [] pos) (dE W (sCall sp tas)) :=
  PE.by (pe_callS F hr hg hm hk hb (fun σ => passAt tk σ) ha hdb he hpl) fun σ H Q ⟨S, Q', W', kw, o, h, k⟩ => ⟨S, _, W', kw, o, h, fun vs S1 H1 o1 h1 => lift_sp m kw o1 h1 k⟩
end

/-! ### contracts -/
/-- of values alone: a value, or an error with one field -/
inductive Ot where
  | ok (v : V)
  | er (C : Addr) (f : Str) (v : V)
def spV (f : List V → Option Ot) : Sp := fun vs H Q E => match f vs with
  | some (.ok v) => ∀ H', Ext H H' → Q v H'
  | some (.er C n v) => ∀ H' d, Ext H H' → H d = none → H' d = some (.xd [(n, v)]) → E (.ref C) (some d) H'
  | none => False
theorem spV_mono {f : List V → Option Ot} : SpMono (spV f) := fun vs H Q Q' E E' kq ke h => by
  unfold spV at h ⊢
  split at h
  · exact fun H' e => kq _ _ (h H' e)
  · exact fun H' d e h1 h2 => ke _ _ _ (h H' d e h1 h2)
  · exact h.elim
/-- with ghosts α: what must hold ahead, what holds behind -/
structure Ct (α : Type) where
  pre : α → List V → Hp → Prop
  post : α → Hp → V → Hp → Prop
  exn : α → Hp → Value → Option Addr → Hp → Prop := fun _ _ _ _ _ => False
def spC {α : Type} (c : Ct α) : Sp := fun vs H Q E => ∃ g, c.pre g vs H ∧ (∀ v H', c.post g H v H' → Q v H') ∧ ∀ x d H', c.exn g H x d H' → E x d H'
theorem spC_mono {α : Type} {c : Ct α} : SpMono (spC c) := fun vs H Q Q' E E' kq ke ⟨g, h1, h2, h3⟩ => ⟨g, h1, fun v H' q => kq _ _ (h2 v H' q), fun x d H' q => ke _ _ _ (h3 x d H' q)⟩
def sCallV (f : List V → Option Ot) (t : sA) : sE := fun W σ S Q => t W σ S fun vs S1 => match f vs with
  | some (.ok v) => Q v S1
  | some (.er C n v) => ∀ d, W (.ref C) (some d) σ (S1.new d (.xd [(n, v)]))
  | none => False
def sCallC {α : Type} (c : Ct α) (t : sA) : sE := fun W σ S Q => t W σ S fun vs S1 => ∃ g, (∀ H, Own S1 H → c.pre g vs H) ∧ (∀ H v H', Own S1 H → c.post g H v H' → ∃ S', Own S' H' ∧ Q v S') ∧ ∀ H x d H', Own S1 H → c.exn g H x d H' → ∃ S', Own S' H' ∧ W x d σ S'
theorem lift_V {f : List V → Option Ot} {vs : List V} {σ : St} {S : SH} {W : sWX} {Q : V → SH → Prop} (h : match f vs with
  | some (.ok v) => Q v S
  | some (.er C n v) => ∀ d, W (.ref C) (some d) σ (S.new d (.xd [(n, v)]))
  | none => False) : sSp (spV f) W vs σ S Q := fun H o => by
  unfold spV
  split at h
  · exact fun H' e => ⟨S, o.ex e, h⟩
  · exact fun H' d e h1 h2 => ⟨_, o.new h1 e h2, h d⟩
  · exact h.elim
theorem lift_C {α : Type} {c : Ct α} {vs : List V} {σ : St} {S : SH} {W : sWX} {Q : V → SH → Prop} (h : ∃ g, (∀ H, Own S H → c.pre g vs H) ∧ (∀ H v H', Own S H → c.post g H v H' → ∃ S', Own S' H' ∧ Q v S') ∧ ∀ H x d H', Own S H → c.exn g H x d H' → ∃ S', Own S' H' ∧ W x d σ S') :
    sSp (spC c) W vs σ S Q := fun H o => by
  obtain ⟨g, h1, h2, h3⟩ := h
  exact ⟨g, h1 H o, fun v H' q => h2 H v H' o q, fun x d H' q => h3 H x d H' o q⟩
section
variable {k : Nat} {f : Addr} {fd : FuncData} {ps ks : List Str} {x : Str} {p : Pos} {e : Expr} {fv : List V → Option Ot} {α : Type} {ct : Ct α}
theorem gCallV (F : FnOk X.prog X.w X.K X.mg X.base (L2.CX X.prog X.w) k f fd ps (spV fv)) (hr : Room k X.A) (hg : Gl X x) (hm : X.mg x = some (.ref f)) (hk : PySem.W.keepIn X.K (.ref f) = true) (hb : Binds X.K fd ps []) (tk : Takes X W) (ha : PA X (e :: es) (dA W tas))
    (hdb : (x == ("__debug__" : Str)) = false := by decide) (he : starEach (e :: es) X.env = (false, eval e X.env) :: starEach es X.env := by rfl) (hpl : (backTo pos (starEach es X.env)).any (·.1) = false := by rfl) :
    PE X (.Call (.Name x p) (e :: es) [] pos) (dE W (sCallV fv tas)) :=
  PE.by (pe_callS F hr hg hm hk hb (fun σ => passAt tk σ) ha hdb he hpl) fun σ H Q ⟨S, Q', W', kw, o, h, k⟩ => ⟨S, _, W', kw, o, h, fun vs S1 H1 o1 h1 => lift_sp spV_mono kw o1 (lift_V h1) k⟩
theorem gCallC (F : FnOk X.prog X.w X.K X.mg X.base (L2.CX X.prog X.w) k f fd ps (spC ct)) (hr : Room k X.A) (hg : Gl X x) (hm : X.mg x = some (.ref f)) (hk : PySem.W.keepIn X.K (.ref f) = true) (hb : Binds X.K fd ps []) (tk : Takes X W) (ha : PA X (e :: es) (dA W tas))
    (hdb : (x == ("__debug__" : Str)) = false := by decide) (he : starEach (e :: es) X.env = (false, eval e X.env) :: starEach es X.env := by rfl) (hpl : (backTo pos (starEach es X.env)).any (·.1) = false := by rfl) :
    PE X (.Call (.Name x p) (e :: es) [] pos) (dE W (sCallC ct tas)) :=
  PE.by (pe_callS F hr hg hm hk hb (fun σ => passAt tk σ) ha hdb he hpl) fun σ H Q ⟨S, Q', W', kw, o, h, k⟩ => ⟨S, _, W', kw, o, h, fun vs S1 H1 o1 h1 => lift_sp spC_mono kw o1 (lift_C h1) k⟩
/-- with defaults that fill up, and keywords: gV puts them in order -/
def sKw (gV : List V → List V → List V) (t tk : sA) : sA := fun W σ S Q => t W σ S fun vs S1 => tk W σ S1 fun zs S2 => Q (gV vs zs) S2
def dK (W : WX) (t : sA) : TA := dA W t
theorem gKNil : PK X [] (dA W sNil) := PK.by pk_nil fun σ H Q ⟨S, Q', W', kw, o, h, k⟩ => k _ _ _ o h
theorem gKCons {nm : Option Str} {kpos : Pos} {kws : List Keyword} (ha : PE X a (dE W ta)) (hr : PK X kws (dA W tas)) : PK X (⟨nm, a, kpos⟩ :: kws) (dA W (sCons ta tas)) :=
  PK.by (pk_cons ha hr) fun σ H Q ⟨S, Q', W', kw, o, h, k⟩ => ⟨S, _, W', kw, o, h, fun x S1 H1 o1 h1 => ⟨S1, _, W', kw, o1, h1, fun xs S2 H2 o2 h2 => k _ _ _ o2 h2⟩⟩
theorem passE {E : XK} (tk : Takes X (fun c d _ H => E c d H)) : Passes (L2.CX X.prog X.w) X E := fun pins σ H s e s' I c => passAt tk σ pins H s e s' I c
end
/-! ### isinstance -/
/-- the built-in classes that we ask for -/
inductive TY where
  | non | bool | int | str | list | tuple | dict
  deriving DecidableEq
def TY.nm : TY → String
  | .non => "NoneType" | .bool => "bool" | .int => "int" | .str => "str" | .list => "list" | .tuple => "tuple" | .dict => "dict"
def TY.sub : TY → TY → Bool
  | .non, .non => true | .bool, .bool => true | .bool, .int => true | .int, .int => true | .str, .str => true | .list, .list => true | .tuple, .tuple => true | .dict, .dict => true
  | _, _ => false
theorem kit_sub : ∀ a n : TY, n ≠ .non → kitB a.nm n.nm = some (a.sub n) := by
  intro a n h
  cases a <;> cases n <;> first | exact absurd rfl h | decide +kernel
def isiTy (K : PySem.W.Frag) (x : V) (S : SH) (t : TY) : Prop := match x with
  | .non => t = .non
  | .bl _ => t = .bool
  | .int _ => t = .int
  | .str _ => t = .str
  | .ref p => (t = .list ∧ ∃ xs, sL K S p xs) ∨ (t = .tuple ∧ ∃ xs, sU K S p xs) ∨ (t = .dict ∧ ((∃ kvs, At S p (.dK kvs)) ∨ ∃ kvs, At S p (.dT kvs)))
  | _ => False
theorem Own.isi {K : PySem.W.Frag} {x : V} {S : SH} {H : Hp} {t : TY} (o : Own S H) (h : isiTy K x S t) : TyX K H x (.type t.nm) := by
  unfold isiTy at h
  cases x with
  | non => cases h; exact .base .non
  | bl b => cases h; exact .base (.bl b)
  | int b => cases h; exact .base (.int b)
  | str b => cases h; exact .base (.str b)
  | byt b => exact h.elim
  | flt b => exact h.elim
  | ty b => exact h.elim
  | ref p =>
    rcases h with ⟨rfl, xs, h⟩ | ⟨rfl, xs, h⟩ | ⟨rfl, ⟨kvs, h⟩ | ⟨kvs, h⟩⟩
    · rcases o.l h with (q | ⟨ob, q⟩) | ⟨ob, its, n, q1, q2, _⟩
      · exact .base (.lst q)
      · exact .base (.frz q)
      · exact .kList q1 q2
    · rcases o.u h with (q | ⟨ob, q⟩) | ⟨ob, its, n, q1, q2, _⟩
      · exact .base (.tup q)
      · exact .fTuple q
      · exact .kTuple q1 q2
    · exact .base (.dK (o.at h))
    · exact .base (.dT (o.at h))
/-- the same over a plain heap -/
def Ty0 (K : PySem.W.Frag) (H : Hp) (x : V) (t : TY) : Prop := isiTy K x ⟨H, []⟩ t
theorem At.ex {S : SH} {H : Hp} {p : Addr} {o : HO} (w : Own S H) (h : At S p o) : At ⟨H, []⟩ p o := .inr (w.at h)
theorem Own.ty0 {K : PySem.W.Frag} {x : V} {S : SH} {H : Hp} {t : TY} (o : Own S H) (h : isiTy K x S t) : Ty0 K H x t := by
  unfold Ty0
  unfold isiTy at h ⊢
  cases x with
  | ref p =>
    rcases h with ⟨rfl, xs, h⟩ | ⟨rfl, xs, h⟩ | ⟨rfl, ⟨kvs, h⟩ | ⟨kvs, h⟩⟩
    · exact .inl ⟨rfl, xs, .inr (o.l h)⟩
    · exact .inr (.inl ⟨rfl, xs, .inr (o.u h)⟩)
    · exact .inr (.inr ⟨rfl, .inl ⟨kvs, h.ex o⟩⟩)
    · exact .inr (.inr ⟨rfl, .inr ⟨kvs, h.ex o⟩⟩)
  | _ => exact h
theorem Ty0.ex {K : PySem.W.Frag} {x : V} {H H' : Hp} {t : TY} (h : Ty0 K H x t) (e : Ext H H') : Ty0 K H' x t := ((Own.base H).ex e).ty0 h
/-- isinstance(x, a built-in class) -/
def sIsi (K : PySem.W.Frag) (n : TY) (tx : sE) : sE := fun W σ S Q => tx W σ S fun x S1 => match x with
  | .non => Q (.bl (TY.sub .non n)) S1
  | .bl _ => Q (.bl (TY.sub .bool n)) S1
  | .int _ => Q (.bl (TY.sub .int n)) S1
  | .str _ => Q (.bl (TY.sub .str n)) S1
  | .ref p => ∃ t, isiTy K (.ref p) S1 t ∧ Q (.bl (TY.sub t n)) S1
  | _ => False
theorem gIsi {x : Expr} {tx : sE} {n : TY} {nm : Str} {p p2 : Pos} {pos : Pos} (hg : Gl X "isinstance") (hm : X.mg "isinstance" = none) (hx : PE X x (dE W tx)) (hn : n ≠ .non) (hg2 : Gl X nm) (hm2 : X.mg nm = none) (hv2 : bootBuiltins nm = some (.type n.nm)) (hn2 : nm ≠ "__name__" := by decide) (hd2 : (nm == ("__debug__" : Str)) = false := by decide)
    (he : starEach (x :: [.Name nm p2]) X.env = (false, eval x X.env) :: starEach [.Name nm p2] X.env := by rfl) (he2 : starEach [.Name nm p2] X.env = (false, eval (.Name nm p2) X.env) :: starEach [] X.env := by rfl) (hpl : (backTo pos (starEach [.Name nm p2] X.env)).any (·.1) = false := by rfl) :
    PE X (.Call (.Name "isinstance" p) [x, .Name nm p2] [] pos) (dE W (sIsi X.K n tx)) :=
  PE.by (pe_callB call_isi hg hm (by decide +kernel) (pa_cons hx (pa_cons (pe_bltn (v := .ty n.nm) hg2 hm2 hv2 rfl hn2 hd2) pa_nil he2) he) (by decide) (by decide) he hpl) fun σ H Q ⟨S, Q', W', kw, o, h, k⟩ => ⟨S, _, W', kw, o, h, fun x S1 H1 o1 h1 => by
    have fin : ∀ {t : TY}, isiTy X.K x S1 t → Q' (.bl (TY.sub t n)) S1 → rIsi X.K [x, .ty n.nm] H1 Q := fun {t} ht q =>
      ⟨x, .ty n.nm, _, _, _, rfl, .ty n.nm, o1.isi ht, kit_ty (kit_sub t n hn), k _ _ _ o1 q⟩
    show rIsi X.K [x, .ty n.nm] H1 Q
    split at h1
    · exact fin (t := .non) rfl h1
    · exact fin (t := .bool) rfl h1
    · exact fin (t := .int) rfl h1
    · exact fin (t := .str) rfl h1
    · obtain ⟨t, h2, h3⟩ := h1
      exact fin h2 h3
    · exact h1.elim⟩

/-! ### own errors: raised, caught -/
/-- __init__ of an own error with one field f -/
def spErr (C : Addr) (f : Str) : Sp := fun vs H Q _ => ∃ a v, vs = [.ref a, v] ∧ H a = some (exo a C none) ∧ ∀ dx, H dx = none → dx ≠ a → Q .non (upd (upd H dx (exd dx [(f, v)])) a (exo a C (some dx)))
/-- what the written part says of the error class x, with the one field f -/
structure ErrC (P : Program) (w : World) (K : PySem.W.Frag) (mg : Str → Option Value) (base : Heap) (x f : Str) (C : Addr) : Prop where
  oex : OexC K C
  xf : XfC K C
  isc : ExcC K C
  no : PySem.W.findIn K (.ref C) f = some none
  gC : mg x = some (.ref C)
  ini : ∃ fI fd, PySem.W.findIn K (.ref C) "__init__" = some (some (.ref fI)) ∧ PySem.W.typeIn K (.ref fI) = some (.type "function") ∧ FnOk P w K mg base (L2.CX P w) 1 fI fd ["self", f] (spErr C f) ∧ Binds K fd ["self", f] []
def sRaise (C : Addr) (f : Str) (ta : sE) : sS := fun D σ S => ta D.ex σ S fun v S1 => ∀ d, D.ex (.ref C) (some d) σ (S1.new d (.xd [(f, v)]))
theorem hRaise {x f : Str} {C : Addr} {a : Expr} {ta : sE} {p pos pos2 : Pos} {k : Nat} (hc : X.calm = true) (tk : Takes X W) (T : ErrC X.prog X.w X.K X.mg X.base x f C) (hr : Room (k + 2) X.A) (hg : Gl X x) (ha : PE X a (dE W ta))
    (hdb : (x == ("__debug__" : Str)) = false := by decide) (hs : starEach (a :: []) X.env = (false, eval a X.env) :: starEach [] X.env := by rfl) (hpl : (backTo pos (starEach [] X.env)).any (·.1) = false := by rfl) :
    PS X (.Raise (some (.Call (.Name x p) [a] [] pos)) none pos2) (dS W (sRaise C f ta)) := by
  obtain ⟨fI, fd, h1, h2, F, hb⟩ := T.ini
  refine PS.by (ps_raise hc tk (pmk_oex T.oex h1 h2 F (hr.mono (by omega)) hb .nil passL hg T.gC (pa_cons ha pa_nil hs) hdb hs hpl)) fun D σ H ⟨S, D', o, h, k⟩ => ⟨S, _, D'.ex, k.ex, o, h, fun v S1 H1 o1 h1 => ?_⟩
  refine ⟨by simp, fun e he => ⟨e, v, rfl, upd_same, fun dx hdx hne => ⟨rfl, dx, [(f, v)], upd_same, ?_, ?_, ?_⟩⟩⟩
  · rw [upd_ne hne, upd_same]
  · rw [upd_ne hne] at hdx
    exact hdx
  · rw [upd_ne hne] at hdx
    refine k.ex _ _ _ _ _ (o1.new hdx (fun b u hb => ?_) upd_same) (h1 dx)
    have n1 : b ≠ e := ne_of_none hb he
    have n2 : b ≠ dx := ne_of_none hb hdx
    rw [upd_ne n2, del_ne n1, upd_ne n1, upd_ne n2, upd_ne n1]
    exact hb
/-- try: body except x as n: suite -/
def sTryAs (K : PySem.W.Frag) (c : Value) (i : Nat) (tb : sS) (ts : Addr → Value → Option Addr → sS) : sS := fun D σ S => tb { D with ex := fun cls d σ' S' => ∃ b, PySem.W.exmOne K cls c = some b ∧
  (b = true → ∀ a, ts a cls d { nx := fun σ2 S2 => D.nx (σ2.set i none) S2, rt := D.rt, bk := fun σ2 S2 => D.bk (σ2.set i none) S2, ct := fun σ2 S2 => D.ct (σ2.set i none) S2, ex := noW } (σ'.set i (some (.ref a))) S') ∧ (b = false → D.ex cls d σ' S') } σ S
theorem hTryAs {x n : Str} {c : Value} {i : Nat} {body suite : List Stmt} {b₀ : Stmt} {np pos pos' : Pos} {tb : sS} {ts : Addr → Value → Option Addr → sS}
    (hs : X.stack = X.env :: X.outer) (hf : X.env.frame = some X.env.locals) (hN : X.N.Nodup) (hi : X.N[i]? = some n) (hln : X.env.kindOf n = some .local) (hc : Names X x c) (tk : Takes X W)
    (hb : ∀ (W : WX) (pn : List (Addr × Obj)) (xe : Value → Shared → Prop), Takes (X.tr pn xe) W → PassesOwn (model X.prog X.w) X.A X.env xe → PSs (X.tr pn xe) body (dS W tb))
    (hsu : ∀ (a : Addr) (oe : Obj) (cls : Value) (d : Option Addr) (pn : List (Addr × Obj)), Zc cls d oe → (∃ vs, oe.data = .fields vs) → PSs (X.suite a ((a, oe) :: pn)) (b₀ :: suite) (dS NoW (ts a cls d))) :
    PS X (.Try body [.ExceptHandler (some (.Name x np)) (some n) (b₀ :: suite) pos'] [] [] pos) (dS W (sTryAs X.K c i tb ts)) :=
  PS.by (ps_try_as (tb := fun W => dS W tb) (ts := fun a cls d => dS NoW (ts a cls d)) hs hf hN hi hln hc tk hb hsu) fun D σ H ⟨S, D', o, h, k⟩ => ⟨S, _, o, h, ⟨k.nx, k.rt, k.bk, k.ct, fun cls d σ' S' H' o' ⟨b, e, y, n⟩ =>
    ⟨b, e, fun hb a _ => ⟨S', _, o', y hb a, ⟨fun σ2 S2 H2 o2 q => k.nx _ _ _ o2 q, k.rt, fun σ2 S2 H2 o2 q => k.bk _ _ _ o2 q, fun σ2 S2 H2 o2 q => k.ct _ _ _ o2 q, noW_imp⟩⟩, fun hb => k.ex cls d σ' S' H' o' (n hb)⟩⟩⟩
/-- e.f of the error that the suite holds -/
def sXf (a : Addr) (cls : Value) (d : Option Addr) (C : Addr) (f : Str) (te : sE) : sE := fun W σ S Q => te W σ S fun x S1 => x = .ref a ∧ cls = .ref C ∧ ∃ (dd : Addr) (fs : List (Str × V)) (v : V), d = some dd ∧ At S1 dd (.xd fs) ∧ fs.lookup f = some v ∧ Q v S1
theorem gXf {a C : Addr} {oe : Obj} {cls : Value} {d : Option Addr} {pn : List (Addr × Obj)} {e : Expr} {te : sE} {pos : Pos} {n : Str} (T : XfC X.K C) (hno : PySem.W.findIn X.K (.ref C) n = some none)
    (hz : Zc cls d oe) (hf : ∃ vs, oe.data = .fields vs) (he : PE (X.suite a ((a, oe) :: pn)) e (dE W te)) (hb : attributeBase e n X.env (eval e X.env) = eval e X.env := by rfl) :
    PE (X.suite a ((a, oe) :: pn)) (.Attribute e n pos) (dE W (sXf a cls d C n te)) :=
  PE.by (pe_xf T hno hz hf he hb) fun σ H Q ⟨S, Q', W', kw, o, h, k⟩ => ⟨S, _, W', kw, o, h, fun x S1 H1 o1 ⟨e1, e2, dd, fs, v, e3, h3, h4, h5⟩ => ⟨e1, e2, dd, fs, v, e3, o1.at h3, h4, k _ _ _ o1 h5⟩⟩
/-- isinstance(e, c), e the error that the suite holds, with its dict -/
def rIsX (K : PySem.W.Frag) (D a : Addr) (d : Addr) : List V → Hp → VK → Prop := fun xs H Q => ∃ (c : V) (cv : Value) (b : Bool) (fs : List (Str × V)), xs = [.ref a, c] ∧ H d = some (.xd fs) ∧ (∀ u, RelV c u → u = cv) ∧ PySem.W.kitOne K (.ref D) cv = some b ∧ Q (.bl b) H
theorem call_isX {a D d : Addr} {oe : Obj} {pn : List (Addr × Obj)} (C : ExcC X.K D) (hz : Zc (.ref D) (some d) oe) (hf : ∃ vs, oe.data = .fields vs) : CallR (X.suite a ((a, oe) :: pn)) (.builtin "isinstance") (rIsX X.K D a d) := by
  intro pins s σ H xs us Q I r h
  obtain ⟨c, cv, b, fs, rfl, hd, hcv, e, q⟩ := h
  cases r with
  | cons rx rr =>
    cases rr with
    | cons rt rr =>
      cases rr
      cases rx
      have ec := hcv _ rt
      subst ec
      obtain ⟨hget, _⟩ := I.pin (a, oe) (List.mem_append.mpr (.inl List.mem_cons_self))
      obtain ⟨vs, hv⟩ := hf
      have hx : ObjOk X.prog X.w H s.heap d (.xd fs) := I.hok d _ hd
      obtain ⟨mA, hns, hr⟩ := hx
      obtain ⟨od, ho, hl⟩ := lookIn_ns hns
      have J : PySem.W.InstAt s.heap a oe D (some od) := ⟨hget, hz.1, by unfold PySem.W.notCls; rw [hv] <;> rfl, by rw [hz.2]; exact ho⟩
      exact PySem.W.kia_one (PySem.W.sy_kitx C.hg C.hk C.hs C.hd C.ha C.hn C.ht C.hm) I.kIn J e (fun z => nomatch z) fun tk => ⟨.bl b, H, I.kept (t' := tk) fun _ _ z => z, rfl, q⟩
/-- class c of an isinstance of an error of the class at D: what it is, the answer -/
def rIsY (K : PySem.W.Frag) (a : Addr) (cls : Value) (d : Option Addr) : List V → Hp → VK → Prop := fun xs H Q => ∃ (D dd : Addr), cls = .ref D ∧ d = some dd ∧ ExcC K D ∧ rIsX K D a dd xs H Q
theorem call_isY {a : Addr} {cls : Value} {d : Option Addr} {oe : Obj} {pn : List (Addr × Obj)} (hz : Zc cls d oe) (hf : ∃ vs, oe.data = .fields vs) : CallR (X.suite a ((a, oe) :: pn)) (.builtin "isinstance") (rIsY X.K a cls d) := by
  intro pins s σ H xs us Q I r ⟨D, dd, e1, e2, C, h⟩
  subst e1
  subst e2
  exact call_isX C hz hf pins s σ H xs us Q I r h
def nIsY (K : PySem.W.Frag) (a : Addr) (cls : Value) (d : Option Addr) : sN := fun vs S Q => match vs with
  | [.ref p, c] => p = a ∧ ∃ (D dd : Addr) (cv : Value) (b : Bool) (fs : List (Str × V)), cls = .ref D ∧ d = some dd ∧ ExcC K D ∧ At S dd (.xd fs) ∧ (∀ u, RelV c u → u = cv) ∧ PySem.W.kitOne K (.ref D) cv = some b ∧ Q (.bl b) S
  | _ => False
theorem lIsY {K : PySem.W.Frag} {a : Addr} {cls : Value} {d : Option Addr} : LiftN (nIsY K a cls d) (rIsY K a cls d) := by
  intro vs S Q' H Q o h k
  unfold nIsY at h
  split at h
  · obtain ⟨rfl, D, dd, cv, b, fs, h1, h2, h3, h4, h5, h6, h7⟩ := h
    exact ⟨D, dd, h1, h2, h3, _, cv, b, fs, rfl, o.at h4, h5, h6, k _ _ _ o h7⟩
  · exact h.elim
theorem gIsY {a : Addr} {cls : Value} {d : Option Addr} {oe : Obj} {pn : List (Addr × Obj)} (hz : Zc cls d oe) (hf : ∃ vs, oe.data = .fields vs) {x : Expr} {p : Pos} {es : List Expr} {tas : sA} {pos : Pos} (hg : Gl (X.suite a ((a, oe) :: pn)) "isinstance") (hm : X.mg "isinstance" = none) (ha : PA (X.suite a ((a, oe) :: pn)) (x :: es) (dA W tas))
    (he : starEach (x :: es) X.env = (false, eval x X.env) :: starEach es X.env := by rfl) (hpl : (backTo pos (starEach es X.env)).any (·.1) = false := by rfl) :
    PE (X.suite a ((a, oe) :: pn)) (.Call (.Name "isinstance" p) (x :: es) [] pos) (dE W (sCall1 (nIsY X.K a cls d) tas)) := gB (X := X.suite a ((a, oe) :: pn)) (call_isY hz hf) lIsY hg hm (by decide +kernel) ha (by decide) (by decide) he hpl
/-! ### more calls -/
section
variable {k : Nat} {f : Addr} {fd : FuncData} {ps ks : List Str} {x : Str} {p : Pos} {e : Expr} {sp : Sp}
/-- a promise and its reading -/
structure Ctr (sp : Sp) (r : sWX → List V → St → SH → (V → SH → Prop) → Prop) : Prop where
  mono : SpMono sp
  lift : ∀ W vs σ S Q, r W vs σ S Q → sSp sp W vs σ S Q
def rV (f : List V → Option Ot) : sWX → List V → St → SH → (V → SH → Prop) → Prop := fun W vs σ S Q => match f vs with
  | some (.ok v) => Q v S
  | some (.er C n v) => ∀ d, W (.ref C) (some d) σ (S.new d (.xd [(n, v)]))
  | none => False
def rC {α : Type} (c : Ct α) : sWX → List V → St → SH → (V → SH → Prop) → Prop := fun W vs σ S Q => ∃ g, (∀ H, Own S H → c.pre g vs H) ∧ (∀ H v H', Own S H → c.post g H v H' → ∃ S', Own S' H' ∧ Q v S') ∧ ∀ H x d H', Own S H → c.exn g H x d H' → ∃ S', Own S' H' ∧ W x d σ S'
theorem ctrV {f : List V → Option Ot} : Ctr (spV f) (rV f) := ⟨spV_mono, fun W vs σ S Q h => lift_V h⟩
theorem ctrC {α : Type} {c : Ct α} : Ctr (spC c) (rC c) := ⟨spC_mono, fun W vs σ S Q h => lift_C h⟩
variable {r : sWX → List V → St → SH → (V → SH → Prop) → Prop}
def sCallR (r : sWX → List V → St → SH → (V → SH → Prop) → Prop) (t : sA) : sE := fun W σ S Q => t W σ S fun vs S1 => r W vs σ S1 Q
def sCallD (r : sWX → List V → St → SH → (V → SH → Prop) → Prop) (ds : List V) (t : sA) : sE := fun W σ S Q => t W σ S fun vs S1 => r W (vs ++ ds) σ S1 Q
def sCallKw (r : sWX → List V → St → SH → (V → SH → Prop) → Prop) (gV : List V → List V → List V) (t tk : sA) : sE := fun W σ S Q => t W σ S fun vs S1 => tk W σ S1 fun zs S2 => r W (gV vs zs) σ S2 Q
theorem gCallR (c : Ctr sp r) (F : FnOk X.prog X.w X.K X.mg X.base (L2.CX X.prog X.w) k f fd ps sp) (hr : Room k X.A) (hg : Gl X x) (hm : X.mg x = some (.ref f)) (hk : PySem.W.keepIn X.K (.ref f) = true) (hb : Binds X.K fd ps []) (tk : Takes X W) (ha : PA X (e :: es) (dA W tas))
    (hdb : (x == ("__debug__" : Str)) = false := by decide) (he : starEach (e :: es) X.env = (false, eval e X.env) :: starEach es X.env := by rfl) (hpl : (backTo pos (starEach es X.env)).any (·.1) = false := by rfl) :
    PE X (.Call (.Name x p) (e :: es) [] pos) (dE W (sCallR r tas)) :=
  PE.by (pe_callS F hr hg hm hk hb (fun σ => passAt tk σ) ha hdb he hpl) fun σ H Q ⟨S, Q', W', kw, o, h, k⟩ => ⟨S, _, W', kw, o, h, fun vs S1 H1 o1 h1 => lift_sp c.mono kw o1 (c.lift _ _ _ _ _ h1) k⟩
theorem gCallD {ds : List V} {dus : List Value} (c : Ctr sp r) (F : FnOk X.prog X.w X.K X.mg X.base (L2.CX X.prog X.w) k f fd ps sp) (hr : Room k X.A) (hg : Gl X x) (hm : X.mg x = some (.ref f)) (hk : PySem.W.keepIn X.K (.ref f) = true) (hb : Binds X.K fd ps dus) (hd : Vals ds dus) (tk : Takes X W) (ha : PA X (e :: es) (dA W tas))
    (hdb : (x == ("__debug__" : Str)) = false := by decide) (he : starEach (e :: es) X.env = (false, eval e X.env) :: starEach es X.env := by rfl) (hpl : (backTo pos (starEach es X.env)).any (·.1) = false := by rfl) :
    PE X (.Call (.Name x p) (e :: es) [] pos) (dE W (sCallD r ds tas)) :=
  PE.by (pe_callSD F hr hg hm hk hb hd (fun σ => passAt tk σ) ha hdb he hpl) fun σ H Q ⟨S, Q', W', kw, o, h, k⟩ => ⟨S, _, W', kw, o, h, fun vs S1 H1 o1 h1 => lift_sp c.mono kw o1 (c.lift _ _ _ _ _ h1) k⟩
/-- the callee runs, called with keywords -/
theorem run_fnkS {CX : CXT} {pins : List (Addr × Obj)} {σ : St} {H : Hp} {s : Shared} {Q : VK} {us ws : List Value} {vs zs : List V} {E : St → XK} {g : List Value → List Value → List Value} {gV : List V → List V → List V} (F : FnOk X.prog X.w X.K X.mg X.base CX k f fd ps sp) (hr : Room k X.A) (hb : KBinds X.K fd ps ks g gV) (hx : PassesAt CX X σ (E σ))
    (I : Inv X pins σ H s) (r : Vals vs us) (rz : Vals zs ws) (h : sp (gV vs zs) H Q (E σ)) : wpAny (model X.prog X.w) X.A (call (.ref f) us (ks.zip ws)) (EP X pins σ Q) X.xe s := by
  have r2 := hb.rel r rz
  have hl : (g us ws).length = ps.length := by rw [← r2.length]; exact F.len _ _ _ _ h
  refine wpAny_call (codeAny_mono (F.run X.A X.stack s H ⟨us, ks.zip ws⟩ (g us ws) (gV vs zs) Q (E σ) hr I.env0 (hb.to s us ws I.kIn hl) r2 h) fun r s' hq => ?_)
  cases r with
  | error e => exact hx pins H s e s' I hq
  | ok fl =>
    cases fl with
    | ret u => exact I.after hq
    | next => exact False.elim hq
    | brk => exact False.elim hq
    | cont => exact False.elim hq
def tCallKS (sp : Sp) (gV : List V → List V → List V) (E : St → XK) (t tk : TA) : TE := fun σ H Q => t σ H fun vs H1 => tk σ H1 fun zs H2 => sp (gV vs zs) H2 Q (E σ)
theorem pe_callKS {CX : CXT} {kws : List Keyword} {t tk : TA} {E : St → XK} {g : List Value → List Value → List Value} {gV : List V → List V → List V} (F : FnOk X.prog X.w X.K X.mg X.base CX k f fd ps sp) (hr : Room k X.A) (hg : Gl X x) (hm : X.mg x = some (.ref f)) (hk : PySem.W.keepIn X.K (.ref f) = true) (hb : KBinds X.K fd ps ks g gV) (hx : ∀ σ, PassesAt CX X σ (E σ))
    (ha : PA X (e :: es) t) (hkw : PK X kws tk) (hall : (backToKw pos (keywordEach kws X.env)).all (·.1.isSome) = true := by rfl) (hks : (backToKw pos (keywordEach kws X.env)).filterMap (·.1) = ks := by rfl)
    (hdb : (x == ("__debug__" : Str)) = false := by decide) (he : starEach (e :: es) X.env = (false, eval e X.env) :: starEach es X.env := by rfl)
    (hpl : ((backTo pos (starEach (e :: es) X.env)).any (·.1) || (backToKw pos (keywordEach kws X.env)).any (·.1.isNone)) = false := by rfl) :
    PE X (.Call (.Name x p) (e :: es) kws pos) (tCallKS sp gV E t tk) := by
  refine ⟨fun pins s σ H Q I h => ?_⟩
  refine wpAny_Call_Name_kw (ld_glob I hg hm ?_ hdb)
  refine PySem.W.callWith_KW (h₀ := X.base) I.ok.mod.kin hk hall (thn (ha.run pos pins s σ H _ I h) fun us s1 ⟨vs, H1, I1, r, q⟩ => ?_) hpl he
  refine thn (hkw.run pos pins s1 σ H1 _ I1 q) fun ws s2 ⟨zs, H2, I2, rz, q2⟩ => ⟨I2.kIn, ?_⟩
  rw [hks]
  exact run_fnkS F hr hb (hx σ) I2 r rz q2
theorem run_fnNS {CX : CXT} {n : Nat} {pins : List (Addr × Obj)} {σ : St} {H : Hp} {s : Shared} {Q : VK} {us ws : List Value} {vs zs : List V} {E : St → XK} {g : List Value → List Value → List Value} {gV : List V → List V → List V} (F : FnOk X.prog X.w X.K X.mg X.base CX k f fd ps sp) (hr : Room k X.A) (hb : KBn X.K fd ps n ks g gV) (hx : PassesAt CX X σ (E σ))
    (I : Inv X pins σ H s) (r : Vals vs us) (rz : Vals zs ws) (l1 : vs.length = n) (l2 : zs.length = ks.length) (h : sp (gV vs zs) H Q (E σ)) : wpAny (model X.prog X.w) X.A (call (.ref f) us (ks.zip ws)) (EP X pins σ Q) X.xe s := by
  have r2 := hb.rel r rz
  refine wpAny_call (codeAny_mono (F.run X.A X.stack s H ⟨us, ks.zip ws⟩ (g us ws) (gV vs zs) Q (E σ) hr I.env0 (hb.to s us ws I.kIn (r.length.symm.trans l1) (rz.length.symm.trans l2)) r2 h) fun r s' hq => ?_)
  cases r with
  | error e => exact hx pins H s e s' I hq
  | ok fl =>
    cases fl with
    | ret u => exact I.after hq
    | next => exact False.elim hq
    | brk => exact False.elim hq
    | cont => exact False.elim hq
def tCallNS (n m : Nat) (sp : Sp) (gV : List V → List V → List V) (E : St → XK) (t tk : TA) : TE := fun σ H Q => t σ H fun vs H1 => tk σ H1 fun zs H2 => vs.length = n ∧ zs.length = m ∧ sp (gV vs zs) H2 Q (E σ)
theorem pe_callNS {CX : CXT} {n : Nat} {kws : List Keyword} {t tk : TA} {E : St → XK} {g : List Value → List Value → List Value} {gV : List V → List V → List V} (F : FnOk X.prog X.w X.K X.mg X.base CX k f fd ps sp) (hr : Room k X.A) (hg : Gl X x) (hm : X.mg x = some (.ref f)) (hk : PySem.W.keepIn X.K (.ref f) = true) (hb : KBn X.K fd ps n ks g gV) (hx : ∀ σ, PassesAt CX X σ (E σ))
    (ha : PA X (e :: es) t) (hkw : PK X kws tk) (hall : (backToKw pos (keywordEach kws X.env)).all (·.1.isSome) = true := by rfl) (hks : (backToKw pos (keywordEach kws X.env)).filterMap (·.1) = ks := by rfl)
    (hdb : (x == ("__debug__" : Str)) = false := by decide) (he : starEach (e :: es) X.env = (false, eval e X.env) :: starEach es X.env := by rfl)
    (hpl : ((backTo pos (starEach (e :: es) X.env)).any (·.1) || (backToKw pos (keywordEach kws X.env)).any (·.1.isNone)) = false := by rfl) :
    PE X (.Call (.Name x p) (e :: es) kws pos) (tCallNS n ks.length sp gV E t tk) := by
  refine ⟨fun pins s σ H Q I h => ?_⟩
  refine wpAny_Call_Name_kw (ld_glob I hg hm ?_ hdb)
  refine PySem.W.callWith_KW (h₀ := X.base) I.ok.mod.kin hk hall (thn (ha.run pos pins s σ H _ I h) fun us s1 ⟨vs, H1, I1, r, q⟩ => ?_) hpl he
  refine thn (hkw.run pos pins s1 σ H1 _ I1 q) fun ws s2 ⟨zs, H2, I2, rz, l1, l2, q2⟩ => ⟨I2.kIn, ?_⟩
  rw [hks]
  exact run_fnNS F hr hb (hx σ) I2 r rz l1 l2 q2
/-- a def of the module by its name: what it promises; the last ds.length parameters are left to their defaults ds -/
structure DefC (P : Program) (w : World) (K : PySem.W.Frag) (mg : Str → Option Value) (base : Heap) (x : Str) (ps : List Str) (k : Nat) (ds : List V) (sp : Sp) : Prop where
  ex : ∃ (f : Addr) (fd : FuncData) (dus : List Value), mg x = some (.ref f) ∧ PySem.W.keepIn K (.ref f) = true ∧ FnOk P w K mg base (L2.CX P w) k f fd ps sp ∧ Vals ds dus ∧ Binds K fd ps dus
/-- .. called with n positional values and the keywords ks -/
structure DefN (P : Program) (w : World) (K : PySem.W.Frag) (mg : Str → Option Value) (base : Heap) (x : Str) (ps : List Str) (k n : Nat) (ks : List Str) (gV : List V → List V → List V) (sp : Sp) : Prop where
  ex : ∃ (f : Addr) (fd : FuncData) (g : List Value → List Value → List Value), mg x = some (.ref f) ∧ PySem.W.keepIn K (.ref f) = true ∧ FnOk P w K mg base (L2.CX P w) k f fd ps sp ∧ KBn K fd ps n ks g gV
theorem gCall1 {j : Nat} {ds : List V} (c : Ctr sp r) (T : DefC X.prog X.w X.K X.mg X.base x ps k ds sp) (hr : Room j X.A) (hj : k ≤ j) (hg : Gl X x) (tk : Takes X W) (ha : PA X (e :: es) (dA W tas))
    (hdb : (x == ("__debug__" : Str)) = false := by decide) (he : starEach (e :: es) X.env = (false, eval e X.env) :: starEach es X.env := by rfl) (hpl : (backTo pos (starEach es X.env)).any (·.1) = false := by rfl) :
    PE X (.Call (.Name x p) (e :: es) [] pos) (dE W (sCallD r ds tas)) := by
  obtain ⟨f, fd, dus, hm, hk, F, hd, hb⟩ := T.ex
  exact gCallD c F (hr.mono hj) hg hm hk hb hd tk ha hdb he hpl
def sCallN (r : sWX → List V → St → SH → (V → SH → Prop) → Prop) (n m : Nat) (gV : List V → List V → List V) (t tk : sA) : sE := fun W σ S Q => t W σ S fun vs S1 => tk W σ S1 fun zs S2 => vs.length = n ∧ zs.length = m ∧ r W (gV vs zs) σ S2 Q
theorem gCall2 {j n m : Nat} {kws : List Keyword} {tks : sA} {gV : List V → List V → List V} (c : Ctr sp r) (T : DefN X.prog X.w X.K X.mg X.base x ps k n ks gV sp) (hr : Room j X.A) (hj : k ≤ j) (hg : Gl X x) (tk : Takes X W) (ha : PA X (e :: es) (dA W tas)) (hkw : PK X kws (dA W tks)) (hm : ks.length = m)
    (hall : (backToKw pos (keywordEach kws X.env)).all (·.1.isSome) = true := by rfl) (hks : (backToKw pos (keywordEach kws X.env)).filterMap (·.1) = ks := by rfl)
    (hdb : (x == ("__debug__" : Str)) = false := by decide) (he : starEach (e :: es) X.env = (false, eval e X.env) :: starEach es X.env := by rfl)
    (hpl : ((backTo pos (starEach (e :: es) X.env)).any (·.1) || (backToKw pos (keywordEach kws X.env)).any (·.1.isNone)) = false := by rfl) :
    PE X (.Call (.Name x p) (e :: es) kws pos) (dE W (sCallN r n m gV tas tks)) := by
  obtain ⟨f, fd, g, hmg, hk, F, hb⟩ := T.ex
  subst hm
  exact PE.by (pe_callNS F (hr.mono hj) hg hmg hk hb (fun σ => passAt tk σ) ha hkw hall hks hdb he hpl) fun σ H Q ⟨S, Q', W', kw, o, h, k⟩ => ⟨S, _, W', kw, o, h, fun vs S1 H1 o1 h1 => ⟨S1, _, W', kw, o1, h1, fun zs S2 H2 o2 ⟨l1, l2, h2⟩ => ⟨l1, l2, lift_sp c.mono kw o2 (c.lift _ _ _ _ _ h2) k⟩⟩⟩
end
/-- a built-in function that a module's name holds (from m import f) -/
theorem gBf {id : String} {x : Str} {p : Pos} {e : Expr} {r : sN} {R : List V → Hp → VK → Prop} (hc : CallR X (.builtin id) R) (l : LiftN r R) (hg : Gl X x) (hm : X.mg x = some (.builtin id)) (ha : PA X (e :: es) (dA W tas)) (hdb : (x == ("__debug__" : Str)) = false := by decide)
    (he : starEach (e :: es) X.env = (false, eval e X.env) :: starEach es X.env := by rfl) (hpl : (backTo pos (starEach es X.env)).any (·.1) = false := by rfl) : PE X (.Call (.Name x p) (e :: es) [] pos) (dE W (sCall1 r tas)) :=
  PE.by (pe_callBfun hc hg hm ha hdb he hpl) fun σ H Q ⟨S, Q', W', kw, o, h, k⟩ => ⟨S, _, W', kw, o, h, fun vs S1 H1 o1 h1 => l vs S1 Q' H1 Q o1 h1 k⟩

/-! ### xs.count(x), flat -/
def rCntF (K : PySem.W.Frag) : V → List V → Hp → VK → Prop := fun x vs H Q => ∃ (p : Addr) (xs : List V) (y : V), x = .ref p ∧ vs = [y] ∧ SqL K H p xs ∧ flatV y = true ∧ xs.all flatV = true ∧ Q (.int (xs.countP fun z => eqV z y : Nat)) H
theorem count_eqU {x : V} : ∀ {xs : List V} {us : List Value}, Vals xs us → xs.all flatV = true → us.countP (eqU x) = xs.countP fun y => eqV y x
  | _, _, .nil, _ => rfl
  | y :: xs, u :: us, .cons r t, f => by
    rw [List.all_cons, Bool.and_eq_true] at f
    rw [List.countP_cons, List.countP_cons, eqU_of r f.1, count_eqU t f.2]
theorem mt_lcountF : MtR X "list.count" (rCntF X.K) := by
  intro pins s σ H x xs v us Q I rx rxs h
  obtain ⟨p, ys, y, rfl, rfl, hs, f1, f2, q⟩ := h
  cases rx
  obtain ⟨u, rfl, ru⟩ := rxs.one
  obtain ⟨its, rv, ⟨⟨cls, dd, data, sl⟩, n, ho, hc, hdn, hd⟩, hlen⟩ := I.list hs
  simp only at hc hd
  subst hc hd
  refine call_meets PySem.F.slot_list_count ⟨_, ho, rfl⟩ PySem.F.entry_list_count (PySem.F.args_list_count_2 _ _)
    (SeqAt.list_countAt p its.toArray n dd sl u (eqU y)) ⟨ho, fun z hz => mem_eqAt ru f1 rv f2 z (by simpa using hz), ?_⟩
  refine ⟨.int (ys.countP fun z => eqV z y : Nat), H, I.tok _, ⟨s.toks, ?_⟩, q⟩
  show Value.int ((its.toArray.toList.countP (eqU y) : Nat) : Int) s.toks = Value.int ((ys.countP fun z => eqV z y : Nat) : Int) s.toks
  have e : its.toArray.toList = its := by simp
  rw [e, count_eqU rv f2]
def mCnt (K : PySem.W.Frag) : sM := fun x vs S Q => match x, vs with
  | .ref p, [y] => ∃ xs, sL K S p xs ∧ flatV y = true ∧ xs.all flatV = true ∧ Q (.int (xs.countP fun z => eqV z y : Nat)) S
  | _, _ => False
theorem lCnt {K : PySem.W.Frag} : LiftM (mCnt K) (rCntF K) := by
  intro x vs S Q' H Q o h k
  unfold mCnt at h
  split at h
  · obtain ⟨xs, h1, h2, h3, h4⟩ := h
    exact ⟨_, xs, _, rfl, rfl, o.l h1, h2, h3, k _ _ _ o h4⟩
  · exact h.elim

/-! ### math.comb -/
def rComb : List V → Hp → VK → Prop := fun vs H Q => ∃ a b : Int, vs = [.int a, .int b] ∧ 0 ≤ a ∧ 0 ≤ b ∧ a ≤ 18000 ∧ Q (.int (PySem.W.mcComb a b)) H
theorem cr_comb : CallR X (.builtin "math.comb") rComb := by
  intro pins s σ H vs us Q I r h
  obtain ⟨a, b, rfl, h1, h2, h3, q⟩ := h
  obtain ⟨t, u, rfl⟩ := Vals.int2 r
  exact PySem.W.mc_comb h1 h2 (by omega) (.inr h3) fun _ => ⟨.int _, H, I.tok _, ⟨_, rfl⟩, q⟩
def nComb : sN := fun vs S Q => match vs with
  | [.int a, .int b] => 0 ≤ a ∧ 0 ≤ b ∧ a ≤ 18000 ∧ Q (.int (PySem.W.mcComb a b)) S
  | _ => False
theorem lComb : LiftN nComb rComb := by
  intro vs S Q' H Q o h k
  unfold nComb at h
  split at h
  · exact ⟨_, _, rfl, h.1, h.2.1, h.2.2.1, k _ _ _ o h.2.2.2⟩
  · exact h.elim
/-! ### in short -/
theorem gv (i : Nat) {x : Str} {pos : Pos} (hN : X.N[i]? = some x := by rfl) (hv : Vis X.env.scope x := by first | exact Or.inl rfl | exact Or.inr (Or.inl rfl) | exact Or.inr (Or.inr rfl)) (hd : (x == ("__debug__" : Str)) = false := by decide)
    (hcd : (x == ("__classdict__" : Str)) = false := by decide) : PE X (.Name x pos) (dE W (sVar i)) := gVar hN hv hd hcd
theorem gOneV {a : Expr} {ta : sE} {op : BoolOp} {pos : Pos} (h : PE X a (dE W ta)) : PE X (.BoolOp op [a] pos) (dE W ta) := pe_one h
theorem gAnd1 {a : Expr} {ta : sT} {pos : Pos} (h : PT X a (dT W ta)) : PW X (.BoolOp .And [a] pos) (dT W ta) := pw_and1 h
theorem gOr1 {a : Expr} {ta : sT} {pos : Pos} (h : PT X a (dT W ta)) : PW X (.BoolOp .Or [a] pos) (dT W ta) := pw_or1 h
/-- a built-in class, an own class, a module's constant as a value -/
theorem gTyV {x : Str} {T : String} {pos : Pos} (hg : Gl X x) (hm : X.mg x = none) (hv : bootBuiltins x = some (.type T)) (hn : x ≠ "__name__" := by decide) (hd : (x == ("__debug__" : Str)) = false := by decide) : PE X (.Name x pos) (dE W (sC (.ty T))) := gC_of (pe_bltn hg hm hv rfl hn hd)
theorem gClV {x : Str} {C : Addr} {pos : Pos} (hg : Gl X x) (hm : X.mg x = some (.ref C)) (hd : (x == ("__debug__" : Str)) = false := by decide) : PE X (.Name x pos) (dE W (sC (.ref C))) := gC_of (pe_glob hg hm rfl hd)
theorem gCnV {x : Str} {i : Int} {t : Tok} {pos : Pos} (hg : Gl X x) (hm : X.mg x = some (.int i t)) (hd : (x == ("__debug__" : Str)) = false := by decide) : PE X (.Name x pos) (dE W (sC (.int i))) := gC_of (pe_glob hg hm ⟨t, rfl⟩ hd)
/-! ### a def's body -/
theorem start_body {W : WX} {t : sS} {D : Ends} {σ : St} {H : Hp} (S : SH) (o : Own S H)
    (h : t { nx := fun σ' S' => ∀ H', Own S' H' → D.nx σ' H', rt := fun v S' => ∀ H', Own S' H' → D.rt v H', ex := fun c d σ' S' => ∀ H', Own S' H' → W c d σ' H' } σ S) (hb : ∀ σ H, D.bk σ H ↔ False) (hc : ∀ σ H, D.ct σ H ↔ False) : dS W t D σ H :=
  ⟨S, _, o, h, ⟨fun σ' S' H' o' q => q H' o', fun v S' H' o' q => q H' o', fun _ _ _ _ q => q.elim, fun _ _ _ _ q => q.elim, fun c d σ' S' H' o' q => q H' o'⟩⟩
/-- what a body must show, by a contract -/
abbrev endsC {α : Type} (ct : Ct α) (g : α) (H : Hp) : sEnds := ⟨fun _ S' => ∀ H', Own S' H' → ct.post g H .non H', fun v S' => ∀ H', Own S' H' → ct.post g H v H', fun _ _ => False, fun _ _ => False, fun c d _ S' => ∀ H', Own S' H' → ct.exn g H c d H'⟩
theorem body_C {α : Type} {ct : Ct α} {t : sS} {σ : St} {vs : List V} {H : Hp} {Q : VK} {E : XK} (h : spC ct vs H Q E) (hv : ∀ g, ct.pre g vs H → ∃ S, Own S H ∧ t (endsC ct g H) σ S) :
    dS (fun c d _ H => E c d H) t { nx := fun _ H' => Q .non H', rt := Q } σ H := by
  obtain ⟨g, h1, h2, h3⟩ := h
  obtain ⟨S, o, q⟩ := hv g h1
  exact ⟨S, _, o, q, ⟨fun _ S' H' o' q => h2 _ _ (q H' o'), fun v S' H' o' q => h2 _ _ (q H' o'), fun _ _ _ _ q => q.elim, fun _ _ _ _ q => q.elim, fun c d σ' S' H' o' q => h3 _ _ _ (q H' o')⟩⟩
abbrev endsV (o : Ot) (H : Hp) : sEnds := ⟨fun _ S' => match o with | .ok v => v = .non ∧ (∀ a u, H a = some u → S'.F a = some u) | .er _ _ _ => False, fun v' S' => match o with | .ok v => v' = v ∧ (∀ a u, H a = some u → S'.F a = some u) | .er _ _ _ => False, fun _ _ => False, fun _ _ => False,
  fun c d _ S' => match o with | .ok _ => False | .er C n v => c = .ref C ∧ ∃ dd, d = some dd ∧ S'.F = H ∧ (∃ i : Nat, S'.G[i]? = some (dd, .xd [(n, v)]))⟩
theorem body_V {f : List V → Option Ot} {t : sS} {σ : St} {vs : List V} {H : Hp} {Q : VK} {E : XK} (h : spV f vs H Q E) (hv : ∀ o, f vs = some o → t (endsV o H) σ ⟨H, []⟩) :
    dS (fun c d _ H => E c d H) t { nx := fun _ H' => Q .non H', rt := Q } σ H := by
  unfold spV at h
  split at h
  · rename_i v e
    refine ⟨⟨H, []⟩, _, Own.base H, hv _ e, ⟨fun _ S' H' o' q => ?_, fun v S' H' o' q => ?_, fun _ _ _ _ q => q.elim, fun _ _ _ _ q => q.elim, fun c d σ' S' H' o' q => q.elim⟩⟩
    · obtain ⟨rfl, q⟩ := q
      exact h H' fun a u e => o'.fr a u (q a u e)
    · obtain ⟨rfl, q⟩ := q
      exact h H' fun a u e => o'.fr a u (q a u e)
  · rename_i C n v e
    refine ⟨⟨H, []⟩, _, Own.base H, hv _ e, ⟨fun _ S' H' o' q => q.elim, fun v S' H' o' q => q.elim, fun _ _ _ _ q => q.elim, fun _ _ _ _ q => q.elim, fun c d σ' S' H' o' q => ?_⟩⟩
    obtain ⟨rfl, dd, rfl, q1, i, q2⟩ := q
    refine h H' dd (fun a u e => o'.fr a u (by rw [q1]; exact e)) ?_ (o'.g q2)
    rw [← q1]
    exact (o'.gs _ (List.mem_of_getElem? q2)).2
  · exact h.elim
end
end SY
namespace SY
open PySem PySem.Spec PyProof.Rows L2
/-! ### a try with several clauses, each with a name or without -/
abbrev Cla := Value × Option Nat × (Addr → Value → Option Addr → TS)
/-- the ends of a clause's suite: its name goes -/
def offE (D : Ends) : Option Nat → Ends
  | none => D
  | some i => ⟨fun z H => D.nx (z.set i none) H, D.rt, fun z H => D.bk (z.set i none) H, fun z H => D.ct (z.set i none) H⟩
def onS (z : L2.St) (a : Addr) : Option Nat → L2.St
  | none => z
  | some i => z.set i (some (.ref a))
def wG (K : PySem.W.Frag) (Wo : WX) (D : Ends) : List Cla → WX
  | [] => Wo
  | q :: r => fun cls d z H => ∃ b, PySem.W.exmOne K cls q.1 = some b ∧ (b = true → ∀ a, H a = none → q.2.2 a cls d (offE D q.2.1) (onS z a q.2.1) H) ∧ (b = false → wG K Wo D r cls d z H)
inductive HdG (X : Cx) : List ExceptHandler → List Cla → Prop
  | nil : HdG X [] []
  | cons {x : Str} {c : Value} {on : Option Str} {oi : Option Nat} {ts : Addr → Value → Option Addr → TS} {b0 : Stmt} {rest : List Stmt} {np hp : Pos} {hs : List ExceptHandler} {l : List Cla} (hc : Names X x c)
      (ho : (on = none ∧ oi = none) ∨ ∃ n i, on = some n ∧ oi = some i ∧ X.N[i]? = some n ∧ X.env.kindOf n = some .local)
      (su : ∀ a oe cls d pn, Zc cls d oe → (∃ vs, oe.data = .fields vs) → PSs (X.suite a ((a, oe) :: pn)) (b0 :: rest) (ts a cls d)) (r : HdG X hs l) :
      HdG X (.ExceptHandler (some (.Name x np)) on (b0 :: rest) hp :: hs) ((c, oi, ts) :: l)
section
variable {X : Cx} {body : List Stmt} {h0 : ExceptHandler} {hs0 : List ExceptHandler} {l : List Cla} {pos : Pos} {tb : WX → TS} {Wo : WX}
theorem ps_tryG (hst : X.stack = X.env :: X.outer) (hfr : X.env.frame = some X.env.locals) (hN : X.N.Nodup) (tk : Takes X Wo)
    (hb : ∀ (W : WX) pn (xe : Value → Shared → Prop), Takes (X.tr pn xe) W → PassesOwn (model X.prog X.w) X.A X.env xe → PSs (X.tr pn xe) body (tb W))
    (hh : HdG X (h0 :: hs0) l) : PS X (.Try body (h0 :: hs0) [] [] pos) (fun D z H => tb (wG X.K Wo D l) D z H) := by
  refine ⟨fun pins s z H D I q => ?_⟩
  have ok := I.ok
  have fr : X.A.frames = some (X.env :: X.outer) := ok.frames.trans (congrArg some hst)
  refine wpAny_Try_except ?_
  refine wpAny_mono ((hb (wG X.K Wo D l) (X.pn ++ pins)
    (fun e s1 => wpAny (model X.prog X.w) X.A (noteFrame e X.env) (fun _ s2 => wpAny (model X.prog X.w) X.A (setFlight e none)
      (fun _ s3 => wpAny (model X.prog X.w) X.A (handleBy e X.env (h0 :: hs0)) (SP X pins D) X.xe s3) X.xe s2) X.xe s1)
    (fun u s1 caught => ?_) PassesOwn.looking).run [] s z H D (I.toTry _) q) (fun f s1 fin => ?_) fun _ _ y => y
  · obtain ⟨a, B, sI, pins1, z1, H1, cls, d, rfl, J1, nb, up, sky, na, os, ag, wish⟩ := caught
    have J : Inv X pins z1 H1 sI := J1.ofTry ok
    have sky2 : Sky B (X.env :: X.outer) a (Zc cls d) X.env.locals s1.heap := hst ▸ sky
    show wpAny (model X.prog X.w) X.A (noteFrame (.ref a) X.env) _ _ _
    refine Sky.land Zc.steady fr hfr sky2 fun h3 fl3 up3 => ?_
    have J3 : Inv X pins z1 H1 { s1 with heap := h3 } := J.landed nb fl3.1 (up.trans up3) os ag
    obtain ⟨oe3, vs3, he3, hz3, hd3⟩ := fl3.there
    have away : a ∉ frs (X.env :: X.outer) := fun hm => by
      obtain ⟨_, o', e', hnf⟩ := fl3.2.2.1.mem hm
      rw [he3] at e'
      cases e'
      exact hnf _ hd3
    have nL : a ≠ X.env.locals := fun y => away (List.mem_filterMap.mpr ⟨X.env, .head _, hfr.trans (congrArg some y.symm)⟩)
    have nF : a ∉ X.fs := fun hm => by
      obtain ⟨e, he, y⟩ := List.mem_filterMap.mp hm
      exact away (List.mem_filterMap.mpr ⟨e, .tail _ he, y⟩)
    have S3 := J3.suite he3 hd3 na nL nF
    have go : ∀ {hs : List ExceptHandler} {l1 : List Cla}, HdG X hs l1 → wG X.K Wo D l1 cls d z1 H1 → wpAny (model X.prog X.w) X.A (handleBy (.ref a) X.env hs) (SP X pins D) X.xe { s1 with heap := h3 } := by
      intro hs l1 hk
      induction hk with
      | nil =>
        intro w
        refine wpAny_handleBy_nil ?_
        obtain ⟨_, _, _, oe, vs, T, oT, _, he, _, hd, h1, _⟩ := id fl3
        unfold PySem.passOn
        refine wpAny_bind (wpAny_field he hd h1 ?_)
        rw [if_neg (show ¬ ((Value.ref T == Value.none) = true) by simp)]
        have last : wpAny (model X.prog X.w) X.A (setFlight (.ref a) X.env.frame)
            (fun _ s4 => wpAny (model X.prog X.w) X.A (throw (.ref a) : Sem Flow) (SP X pins D) X.xe s4) X.xe { s1 with heap := h3 } := by
          rw [hfr]
          refine HandSPX.setFlight_upZ fl3 fun h4 hh4 up4 => wpAny_throw (tk _ _ ⟨a, B, sI, pins, z1, H1, cls, d, rfl, J, nb, (up.trans up3).trans up4, .inr (.inr (hst ▸ hh4)), na, os, ag, w⟩)
        first
          | exact wpAny_bind (wpAny_pure (wpAny_bind last))
          | exact wpAny_bind last
      | @cons x c on oi ts b0 rest np hp hs2 l2 hc ho su r ih =>
        intro w
        obtain ⟨b, hb1, yes, no⟩ := w
        refine wpAny_handleBy_cons (codeAny_handlers_test ?_) (fun y => nomatch y)
        have LT : PySem.W.Looks (model X.prog X.w) h3 (typeOf (.ref a)) cls := fun A Q E t k y => wpAny_typeOf_ref (k _ _ he3) (by rw [hz3.1]; exact y)
        have LM := PySem.W.exm_one (M := model X.prog X.w) (J3.kIn) LT hb1
        have asks : ∀ {Q : Value → Shared → Prop} {E : Value → Shared → Prop}, Q c { s1 with heap := h3 } →
            wpAny (model X.prog X.w) (X.A.mark (some (.ref a))) (eval (.Name x np) X.env) Q E { s1 with heap := h3 } := fun {Q E} y => by
          obtain ⟨hg, hdbg, hm | ⟨hm, hv, hnn⟩⟩ := hc
          · exact ld_glob (X := X.suite a ((a, oe3) :: (X.pn ++ pins))) S3 hg hm y hdbg
          · exact ld_blt (X := X.suite a ((a, oe3) :: (X.pn ++ pins))) S3 hg hm hv y hnn hdbg
        refine asks (LM.here ?_)
        cases b with
        | false =>
          show wpAny _ X.A (handleBy (.ref a) X.env hs2) _ _ _
          exact ih (no rfl)
        | true =>
          rcases ho with ⟨rfl, rfl⟩ | ⟨n, i, rfl, rfl, hi, hln⟩
          · refine codeAny_handlers_suite ?_
            refine HandSPX.lands_againZ fl3 fun h4 fl4 up4 => ?_
            have J4 : Inv X pins z1 H1 { s1 with heap := h4 } := J.landed nb fl4.1 ((up.trans up3).trans up4) os ag
            obtain ⟨oe4, vs4, he4, hz4, hd4⟩ := fl4.there
            have S4 := J4.suite he4 hd4 na nL nF
            refine wpAny_mono ((su a oe4 cls d (X.pn ++ pins) hz4 ⟨_, hd4⟩).run [] _ _ H1 _ S4 (yes rfl a na)) (fun f s6 y => ?_) (fun _ _ y => y.elim)
            cases f with
            | ret u =>
              obtain ⟨v6, z6, H6, S6, r6, q6⟩ := y
              exact ⟨_, _, _, S6.unsuite ok, r6, q6⟩
            | _ =>
              obtain ⟨z6, H6, S6, q6⟩ := y
              exact ⟨_, _, S6.unsuite ok, q6⟩
          · refine codeAny_handlers_suite_as ?_
            refine HandSPX.lands_againZ fl3 fun h4 fl4 up4 => ?_
            have J4 : Inv X pins z1 H1 { s1 with heap := h4 } := J.landed nb fl4.1 ((up.trans up3).trans up4) os ag
            obtain ⟨oe4, vs4, he4, hz4, hd4⟩ := fl4.there
            have S4 := J4.suite he4 hd4 na nL nF
            refine store_ok (X := X.suite a ((a, oe4) :: (X.pn ++ pins))) (v := .ref a) S4 hN hi (.inl hln) rfl (fun s5 S5 => ?_) (.inr hln)
            refine wpAny_mono ((su a oe4 cls d (X.pn ++ pins) hz4 ⟨_, hd4⟩).run [] s5 _ H1 _ S5 (yes rfl a na)) (fun f s6 y => ?_) (fun _ _ y => y.elim)
            have off : ∀ {z6 : L2.St} {H6 : Hp} {Q : Shared → Prop}, Inv (X.suite a ((a, oe4) :: (X.pn ++ pins))) [] z6 H6 s6 → (∀ s7, Inv X pins (z6.set i none) H6 s7 → Q s7) →
                wpAny (model X.prog X.w) X.A (do bindName X.env n .none; unbindBehindTheSuite X.env n hp) (fun _ s7 => Q s7) X.xe s6 := fun S6 k => gone_ok (S6.unsuite ok) hN hi hln k
            cases f with
            | ret u =>
              obtain ⟨v6, z6, H6, S6, r6, q6⟩ := y
              exact off S6 fun s7 J7 => ⟨_, _, _, J7, r6, q6⟩
            | _ =>
              obtain ⟨z6, H6, S6, q6⟩ := y
              exact off S6 fun s7 J7 => ⟨_, _, J7, q6⟩
    exact go hh wish
  · cases f with
    | next =>
      obtain ⟨z1, H1, J1, y⟩ := fin
      exact wpAny_execs_nil ⟨z1, H1, J1.ofTry ok, y⟩
    | ret u =>
      obtain ⟨v, z1, H1, J1, rv, y⟩ := fin
      exact ⟨v, z1, H1, J1.ofTry ok, rv, y⟩
    | _ =>
      obtain ⟨z1, H1, J1, y⟩ := fin
      exact ⟨z1, H1, J1.ofTry ok, y⟩
end
/-! over the symbolic heap -/
abbrev Cls := Value × Option Nat × (Addr → Value → Option Addr → sS)
def offS (D : sEnds) : Option Nat → sEnds
  | none => { D with ex := noW }
  | some i => ⟨fun z S => D.nx (z.set i none) S, D.rt, fun z S => D.bk (z.set i none) S, fun z S => D.ct (z.set i none) S, noW⟩
def sHan (K : PySem.W.Frag) (D : sEnds) : List Cls → sWX
  | [] => D.ex
  | q :: r => fun cls d z S => ∃ b, PySem.W.exmOne K cls q.1 = some b ∧ (b = true → ∀ a, q.2.2 a cls d (offS D q.2.1) (onS z a q.2.1) S) ∧ (b = false → sHan K D r cls d z S)
def sTryG (K : PySem.W.Frag) (tb : sS) (l : List Cls) : sS := fun D z S => tb { D with ex := sHan K D l } z S
inductive sHd (X : Cx) : List ExceptHandler → List Cls → Prop
  | nil : sHd X [] []
  | as {x n : Str} {c : Value} {i : Nat} {ts : Addr → Value → Option Addr → sS} {b0 : Stmt} {rest : List Stmt} {np hp : Pos} {hs : List ExceptHandler} {l : List Cls} (hc : Names X x c) (hi : X.N[i]? = some n) (hl : X.env.kindOf n = some .local)
      (su : ∀ a oe cls d pn, Zc cls d oe → (∃ vs, oe.data = .fields vs) → PSs (X.suite a ((a, oe) :: pn)) (b0 :: rest) (dS NoW (ts a cls d))) (r : sHd X hs l) :
      sHd X (.ExceptHandler (some (.Name x np)) (some n) (b0 :: rest) hp :: hs) ((c, some i, ts) :: l)
  | no {x : Str} {c : Value} {ts : Addr → Value → Option Addr → sS} {b0 : Stmt} {rest : List Stmt} {np hp : Pos} {hs : List ExceptHandler} {l : List Cls} (hc : Names X x c)
      (su : ∀ a oe cls d pn, Zc cls d oe → (∃ vs, oe.data = .fields vs) → PSs (X.suite a ((a, oe) :: pn)) (b0 :: rest) (dS NoW (ts a cls d))) (r : sHd X hs l) :
      sHd X (.ExceptHandler (some (.Name x np)) none (b0 :: rest) hp :: hs) ((c, none, ts) :: l)
theorem sHd.to {X : Cx} {hs : List ExceptHandler} {l : List Cls} (h : sHd X hs l) : HdG X hs (l.map fun q => (q.1, q.2.1, fun a cls d => dS NoW (q.2.2 a cls d))) := by
  induction h with
  | nil => exact .nil
  | as hc hi hl su r ih => exact .cons hc (.inr ⟨_, _, rfl, rfl, hi, hl⟩) su ih
  | no hc su r ih => exact .cons hc (.inl ⟨rfl, rfl⟩) su ih
theorem sHan_ok {K : PySem.W.Frag} {W : WX} {D : Ends} {D' : sEnds} (k : EImp W D' D) : ∀ (l : List Cls), ImpW (sHan K D' l) (wG K W D (l.map fun q => (q.1, q.2.1, fun a cls d => dS NoW (q.2.2 a cls d))))
  | [] => k.ex
  | q :: r => fun cls d z S H o ⟨b, e, y, n⟩ => ⟨b, e, fun hb a _ => ⟨S, _, o, y hb a, by
      cases q.2.1 with
      | none => exact ⟨k.nx, k.rt, k.bk, k.ct, noW_imp⟩
      | some i => exact ⟨fun z2 S2 H2 o2 q => k.nx _ _ _ o2 q, k.rt, fun z2 S2 H2 o2 q => k.bk _ _ _ o2 q, fun z2 S2 H2 o2 q => k.ct _ _ _ o2 q, noW_imp⟩⟩, fun hb => sHan_ok k r cls d z S H o (n hb)⟩
theorem hTryG {X : Cx} {W : WX} {body : List Stmt} {h0 : ExceptHandler} {hs : List ExceptHandler} {l : List Cls} {pos : Pos} {tb : sS}
    (hst : X.stack = X.env :: X.outer) (hf : X.env.frame = some X.env.locals) (hN : X.N.Nodup) (tk : Takes X W)
    (hb : ∀ (W : WX) (pn : List (Addr × Obj)) (xe : Value → Shared → Prop), Takes (X.tr pn xe) W → PassesOwn (model X.prog X.w) X.A X.env xe → PSs (X.tr pn xe) body (dS W tb))
    (hh : sHd X (h0 :: hs) l) : PS X (.Try body (h0 :: hs) [] [] pos) (dS W (sTryG X.K tb l)) :=
  PS.by (ps_tryG (tb := fun W => dS W tb) hst hf hN tk hb hh.to) fun D z H ⟨S, D', o, h, k⟩ => ⟨S, _, o, h, ⟨k.nx, k.rt, k.bk, k.ct, sHan_ok k l⟩⟩
end SY
namespace SY
open PySem PySem.Spec PyProof.Rows L2
section
variable {X : Cx} {W : WX} {a b e : Expr} {es : List Expr} {pos : Pos} {ta tb te : sE} {tas : sA}
/-! ### tuples: +, tuple(x) -/
def oAddT (K : PySem.W.Frag) : s2 := fun x y S Q => match x, y with
  | .ref p, .ref q => ∃ xs ys, sU K S p xs ∧ sU K S q ys ∧ xs.length + ys.length ≤ sizeLine ∧ (xs = [] → Q (.ref q) S) ∧ (xs ≠ [] → ys = [] → Q (.ref p) S) ∧ (xs ≠ [] → ys ≠ [] → ∀ r, Q (.ref r) (S.new r (.tup (xs ++ ys))))
  | _, _ => False
theorem lAddT {K : PySem.W.Frag} : Lift2 (oAddT K) (rCatA K) := by
  intro x y S Q' H Q o h k
  unfold oAddT at h
  split at h
  · obtain ⟨xs, ys, h1, h2, h3, h4, h5, h6⟩ := h
    exact ⟨_, _, xs, ys, rfl, rfl, o.u h1, o.u h2, h3, fun z => k _ _ _ o (h4 z), fun z1 z2 => k _ _ _ o (h5 z1 z2), fun z1 z2 r hr => k _ _ _ (o.newU hr) (h6 z1 z2 r)⟩
  · exact h.elim
theorem gAddT (ha : PE X a (dE W ta)) (hb : PE X b (dE W tb)) : PE X (.BinOp a .Add b pos) (dE W (sOp (oAddT X.K) ta tb)) := gOp op_catA lAddT ha hb
/-- tuple(x) of a list: a new tuple; of a tuple: itself -/
def nTuple (K : PySem.W.Frag) (x : V) (S : SH) (Q : V → SH → Prop) : Prop := match x with
  | .ref p => (∃ xs, sL K S p xs ∧ ∀ q, Q (.ref q) (S.new q (.tup xs))) ∨ ∃ xs, sU K S p xs ∧ Q (.ref p) S
  | _ => False
def sTuple (K : PySem.W.Frag) (t : sE) : sE := fun W z S Q => t W z S fun x S1 => nTuple K x S1 Q
theorem gTuple {p : Pos} (hg : Gl X "tuple") (hm : X.mg "tuple" = none) (ha : PE X a (dE W ta)) (na : starEach [a] X.env = (false, eval a X.env) :: starEach [] X.env := by rfl) : PE X (.Call (.Name "tuple" p) [a] [] pos) (dE W (sTuple X.K ta)) :=
  PE.by (pe_tupleOf hg hm ha na) fun z H Q ⟨S, Q', W', kw, o, h, k⟩ => ⟨S, _, W', kw, o, h, fun x S1 H1 o1 h1 => by
    unfold nTuple at h1
    split at h1
    · rcases h1 with ⟨xs, h1, h2⟩ | ⟨xs, h1, h2⟩
      · exact .inl ⟨_, xs, rfl, o1.l h1, fun q hq => k _ _ _ (o1.newU hq) (h2 q)⟩
      · exact .inr ⟨_, xs, rfl, o1.u h1, k _ _ _ o1 h2⟩
    · exact h1.elim⟩
/-! ### list(range(..)), tuple(range(..)) -/
def rgS (n : Int) : List V := (List.range n.toNat).map fun i => V.int (i : Nat)
theorem rgS_eq (n : Int) : rgV 0 n = rgS n := by
  unfold rgV rgS
  rw [Int.sub_zero]
  congr 1
  funext i
  rw [Int.zero_add]
def nRgL (x : V) (S : SH) (Q : V → SH → Prop) : Prop := match x with
  | .int n => (0 ≤ n ∧ n ≤ 16777216) ∧ ∀ q, Q (.ref q) (S.new q (.lst (rgS n)))
  | _ => False
def nRgT (x : V) (S : SH) (Q : V → SH → Prop) : Prop := match x with
  | .int n => (0 ≤ n ∧ n ≤ 16777216) ∧ ∀ q, Q (.ref q) (S.new q (.tup (rgS n)))
  | _ => False
def sRgL (t : sE) : sE := fun W z S Q => t W z S fun x S1 => nRgL x S1 Q
def sRgT (t : sE) : sE := fun W z S Q => t W z S fun x S1 => nRgT x S1 Q
theorem gRgL {p pos2 p2 : Pos} (hc : X.calm = true) (hg : Gl X "list") (hm : X.mg "list" = none) (hg2 : Gl X "range") (hm2 : X.mg "range" = none) (ha : PE X a (dE W ta)) (na : starEach [a] X.env = (false, eval a X.env) :: starEach [] X.env := by rfl)
    (nb : starEach [.Call (.Name "range" p2) [a] [] pos2] X.env = (false, eval (.Call (.Name "range" p2) [a] [] pos2) X.env) :: starEach [] X.env := by rfl) : PE X (.Call (.Name "list" p) [.Call (.Name "range" p2) [a] [] pos2] [] pos) (dE W (sRgL ta)) :=
  PE.by (pe_listRg hc hg hm (prg_1 hg2 hm2 ha na) nb) fun z H Q ⟨S, Q', W', kw, o, h, k⟩ => ⟨S, _, W', kw, o, h, fun x S1 H1 o1 h1 => by
    unfold nRgL at h1
    split at h1
    · obtain ⟨⟨h2, h3⟩, h4⟩ := h1
      exact ⟨_, rfl, RgOk.of_le (by decide) h3 (by decide) h2, fun q hq => by rw [rgS_eq]; exact k _ _ _ (o1.newU hq) (h4 q)⟩
    · exact h1.elim⟩
theorem gRgT {p pos2 p2 : Pos} (hc : X.calm = true) (hg : Gl X "tuple") (hm : X.mg "tuple" = none) (hg2 : Gl X "range") (hm2 : X.mg "range" = none) (ha : PE X a (dE W ta)) (na : starEach [a] X.env = (false, eval a X.env) :: starEach [] X.env := by rfl)
    (nb : starEach [.Call (.Name "range" p2) [a] [] pos2] X.env = (false, eval (.Call (.Name "range" p2) [a] [] pos2) X.env) :: starEach [] X.env := by rfl) : PE X (.Call (.Name "tuple" p) [.Call (.Name "range" p2) [a] [] pos2] [] pos) (dE W (sRgT ta)) :=
  PE.by (pe_tupRg hc hg hm (prg_1 hg2 hm2 ha na) nb) fun z H Q ⟨S, Q', W', kw, o, h, k⟩ => ⟨S, _, W', kw, o, h, fun x S1 H1 o1 h1 => by
    unfold nRgT at h1
    split at h1
    · obtain ⟨⟨h2, h3⟩, h4⟩ := h1
      exact ⟨_, rfl, RgOk.of_le (by decide) h3 (by decide) h2, fun q hq => by rw [rgS_eq]; exact k _ _ _ (o1.newU hq) (h4 q)⟩
    · exact h1.elim⟩
/-! ### xs.index(y), flat -/
def mIdx (K : PySem.W.Frag) : sM := fun x vs S Q => match x, vs with
  | .ref p, [y] => ∃ ys j z, sL K S p ys ∧ flatV y = true ∧ ys.all flatV = true ∧ ys[j]? = some z ∧ eqV z y = true ∧ (∀ (m : Nat) (z' : V), m < j → ys[m]? = some z' → eqV z' y = false) ∧ Q (.int (j : Nat)) S
  | _, _ => False
theorem lIdx {K : PySem.W.Frag} : LiftM (mIdx K) (rIndex K) := by
  intro x vs S Q' H Q o h k
  unfold mIdx at h
  split at h
  · obtain ⟨ys, j, z, h1, h2, h3, h4, h5, h6, h7⟩ := h
    exact ⟨_, ys, _, j, z, rfl, rfl, o.l h1, h2, h3, h4, h5, h6, k _ _ _ o h7⟩
  · exact h.elim
/-! ### walks: reversed, enumerate -/
def itLv (K : PySem.W.Frag) (a : Addr) (xs : List V) : SIt := ⟨xs.length, fun S => sL K S a xs, fun i S k => ∀ v, xs[xs.length - 1 - i]? = some v → k v S⟩
def itUv (K : PySem.W.Frag) (a : Addr) (xs : List V) : SIt := ⟨xs.length, fun S => sU K S a xs, fun i S k => ∀ v, xs[xs.length - 1 - i]? = some v → k v S⟩
theorem itLv_ok {K : PySem.W.Frag} {a : Addr} {xs : List V} : SItOk (Itv K a xs.length) (itLv K a xs) :=
  ⟨fun S H i o h hi => hi, fun S H i o h hi => ⟨hi, xs, _, o.l h, List.getElem?_eq_getElem (by have : i < xs.length := hi; omega)⟩, fun S H i x H' k o h hi ⟨e, y⟩ q => by
    subst e
    exact ⟨S, o, q x (y xs (o.l h))⟩⟩
theorem itUv_ok {K : PySem.W.Frag} {a : Addr} {xs : List V} : SItOk (RT.ItvT K a xs.length) (itUv K a xs) :=
  ⟨fun S H i o h hi => hi, fun S H i o h hi => ⟨hi, xs, _, o.u h, List.getElem?_eq_getElem (by have : i < xs.length := hi; omega)⟩, fun S H i x H' k o h hi ⟨e, y⟩ q => by
    subst e
    exact ⟨S, o, q x (y xs (o.u h))⟩⟩
def siRev (K : PySem.W.Frag) (tl : sE) : sI := fun W z S R => tl W z S fun x S1 => match x with
  | .ref a => (∃ xs, sL K S1 a xs ∧ R (itLv K a xs) S1) ∨ ∃ xs, sU K S1 a xs ∧ R (itUv K a xs) S1
  | _ => False
theorem iRev {tg l : Expr} {tl : sE} {p : Pos} (hg : Gl X "reversed") (hm : X.mg "reversed" = none) (hl : PE X l (dE W tl)) (hs : starEach [l] X.env = (false, eval l X.env) :: starEach [] X.env := by rfl) : PI X tg (.Call (.Name "reversed" p) [l] [] pos) (dI W (siRev X.K tl)) :=
  PI.by (RT.pi_revA hg hm hl hs) fun z H R ⟨S, R', W', kw, o, h, k⟩ => ⟨S, _, W', kw, o, h, fun x S1 H1 o1 h1 => by
    split at h1
    · rcases h1 with ⟨xs, h1, h2⟩ | ⟨xs, h1, h2⟩
      · exact ⟨_, xs, rfl, .inl ⟨o1.l h1, k _ _ _ _ o1 itLv_ok h2⟩⟩
      · exact ⟨_, xs, rfl, .inr ⟨o1.u h1, k _ _ _ _ o1 itUv_ok h2⟩⟩
    · exact h1.elim⟩
/-- each turn gives a new pair -/
def itE (K : PySem.W.Frag) (a : Addr) (xs : List V) : SIt := ⟨xs.length, fun S => sL K S a xs, fun i S k => ∀ v, xs[i]? = some v → ∀ r, k (.ref r) (S.new r (.tup [.int (i : Nat), v]))⟩
theorem itE_ok {K : PySem.W.Frag} {a : Addr} {xs : List V} : SItOk (Ite K a) (itE K a xs) :=
  ⟨fun S H i o h hi => ⟨xs, o.l h, hi⟩, fun S H i o h hi => ⟨xs, _, o.l h, List.getElem?_eq_getElem hi⟩, fun S H i x H' k o h hi ⟨T, v, e1, e2, e3, y⟩ q => by
    subst e1
    subst e3
    exact ⟨_, o.newU e2, q v (y xs (o.l h)) T⟩⟩
def siEn (K : PySem.W.Frag) (tl : sA) : sI := fun W z S R => tl W z S fun vs S1 => match vs with
  | [.ref a] => ∃ xs, sL K S1 a xs ∧ R (itE K a xs) S1
  | _ => False
theorem iEn {l : Expr} {tl : sA} {p tpos : Pos} {elts : List Expr} {kk : Nat} (hg : Gl X "enumerate") (hm : X.mg "enumerate" = none) (hl : PA X [l] (dA W tl)) (hs : starEach [l] X.env = [(false, eval l X.env)] := by rfl) : PI X (.Tuple elts kk tpos) (.Call (.Name "enumerate" p) [l] [] pos) (dI W (siEn X.K tl)) :=
  PI.by (pi_enum hg hm hl hs) fun z H R ⟨S, R', W', kw, o, h, k⟩ => ⟨S, _, W', kw, o, h, fun x S1 H1 o1 h1 => by
    split at h1
    · obtain ⟨xs, h1, h2⟩ := h1
      exact ⟨_, xs, rfl, o1.l h1, k _ _ _ _ o1 itE_ok h2⟩
    · exact h1.elim⟩
/-! ### dicts whose keys are ints or texts -/
def sDctK : sE := fun _ _ S Q => ∀ p, Q (.ref p) (S.new p (.dK []))
theorem gDctK : PE X (.Dict [] [] pos) (dE W sDctK) := PE.by pe_dnewK fun z H Q ⟨S, Q', W', kw, o, h, k⟩ => fun p hp => k _ _ _ (o.newU hp) (h p)
/-- d[k] = v -/
def sDPutK (td ty tv : sE) : sS := fun D z S => tv D.ex z S fun v S1 => td D.ex z S1 fun x S2 => ty D.ex z S2 fun y S3 => match x with
  | .ref p => ∃ i kvs k, S3.G[i]? = some (p, .dK kvs) ∧ y = kV k ∧ kvs.length < sizeLine ∧ D.nx z (S3.put i p (.dK (putK kvs k v)))
  | _ => False
theorem hDPutK {o i value : Expr} {td ty tv : sE} {pos2 : Pos} (hu : X.A.units + 1 < cLine) (ho : PE X o (dE W td)) (hi : PE X i (dE W ty)) (hv : PE X value (dE W tv)) (hs : swapsWith value (some (.Subscript o i pos2)) pos.line X.env = pure false := by rfl) :
    PS X (.Assign [.Subscript o i pos2] value pos) (dS W (sDPutK td ty tv)) :=
  PS.by (ps_dput hu ho hi hv hs) fun D z H ⟨S, D', ow, h, k⟩ => ⟨S, _, D'.ex, k.ex, ow, h, fun v S1 H1 o1 h1 => ⟨S1, _, D'.ex, k.ex, o1, h1, fun x S2 H2 o2 h2 => ⟨S2, _, D'.ex, k.ex, o2, h2, fun y S3 H3 o3 h3 => by
    split at h3
    · obtain ⟨n, kvs, kk, q1, rfl, q2, q3⟩ := h3
      exact ⟨_, _, rfl, .inl ⟨kvs, kk, o3.g q1, rfl, q2, rfl⟩, k.nx _ _ _ (o3.putU q1) q3⟩
    · exact h3.elim⟩⟩⟩
/-- sorted(d), fewer than 64 keys, all ints -/
def nSortD : sN := fun vs S Q => match vs with
  | [.ref p] => ∃ kvs ks, At S p (.dK kvs) ∧ kvs.map (·.1) = ks.map Sum.inl ∧ ks.length < 64 ∧ ∀ (ys : List Int) r, ys.Perm ks → ys.Pairwise (· ≤ ·) → Q (.ref r) (S.new r (.lst (ys.map V.int)))
  | _ => False
theorem lSortD : LiftN nSortD (fun xs H Q => ∃ (a : Addr) (kvs : List (Key × V)) (ks : List Int), xs = [.ref a] ∧ Rd H a (.dK kvs) ∧ kvs.map (·.1) = ks.map Sum.inl ∧ ks.length < 64 ∧
    ∀ (ys : List Int) (p : Addr), ys.Perm ks → ys.Pairwise (· ≤ ·) → H p = none → Q (.ref p) (upd H p (.lst (ys.map V.int)))) := by
  intro vs S Q' H Q o h k
  unfold nSortD at h
  split at h
  · obtain ⟨kvs, ks, h1, h2, h3, h4⟩ := h
    exact ⟨_, kvs, ks, rfl, .inl (o.at h1), h2, h3, fun ys r q1 q2 hr => k _ _ _ (o.newU hr) (h4 ys r q1 q2)⟩
  · exact h.elim
theorem gCnE {x : Str} {i : Int} (hg : Gl X x) (hm : ∃ t, X.mg x = some (.int i t)) (hd : (x == ("__debug__" : Str)) = false := by decide) : PE X (.Name x pos) (dE W (sC (.int i))) := hm.elim fun _ h => gCnV hg h hd
end
end SY
namespace SY
open PySem PySem.Spec PyProof.Rows L2
/-! ### objects of an own class -/
section
variable {X : Cx} {W : WX} {e o : Expr} {es : List Expr} {pos : Pos} {te tv : sE} {tas : sA}
theorem no_cx {P : Program} {w : World} {outer : List PySem.Env} {H : Hp} {s s' : Shared} {u : Value} : ¬ L2.CX P w outer H s (fun _ _ _ => False) u s' := fun c => by
  obtain ⟨_, _, _, _, _, _, _, _, _, _, _, _, z⟩ := c
  exact z
theorem passF {X : Cx} : Passes (L2.CX X.prog X.w) X (fun _ _ _ => False) := fun _ _ _ _ _ _ _ c => (no_cx c).elim
/-- a method's promise, by its class -/
structure MetC (P : Program) (w : World) (K : PySem.W.Frag) (mg : Str → Option Value) (base : Heap) (C : Addr) (m : Str) (ps : List Str) (k : Nat) (sp : Sp) : Prop where
  ex : ∃ (f : Addr) (fd : FuncData), Meth K C m f ∧ FnOk P w K mg base (L2.CX P w) k f fd ps sp ∧ Binds K fd ps []
/-- a property's -/
structure ProC (P : Program) (w : World) (K : PySem.W.Frag) (mg : Str → Option Value) (base : Heap) (C : Addr) (m : Str) (k : Nat) (sp : Sp) : Prop where
  ex : ∃ (p g : Addr) (fd : FuncData), PropOf K C m p g ∧ FnOk P w K mg base (L2.CX P w) k g fd ["self"] sp ∧ Binds K fd ["self"] []
/-- the making of one -/
structure MakC (P : Program) (w : World) (K : PySem.W.Frag) (mg : Str → Option Value) (base : Heap) (x : Str) (C : Addr) (ps : List Str) (k : Nat) (sp : Sp) : Prop where
  ex : ∃ (f : Addr) (fd : FuncData), mg x = some (.ref C) ∧ Mk K C f ∧ FnOk P w K mg base (L2.CX P w) k f fd ps sp ∧ Binds K fd ps []
def sFldO (C : Addr) (f : Str) (te : sE) : sE := fun W z S Q => te W z S fun x S1 => match x with
  | .ref p => ∃ dx fs v, At S1 p (.ins C dx fs) ∧ fs.lookup f = some v ∧ Q v S1
  | _ => False
theorem gFldO {C : Addr} {f : Str} (c : L2.Cls X.K C) (n : NoAttr X.K C f) (he : PE X e (dE W te)) (hb : attributeBase e f X.env (eval e X.env) = eval e X.env := by rfl) : PE X (.Attribute e f pos) (dE W (sFldO C f te)) :=
  PE.by (pe_fld he hb) fun z H Q ⟨S, Q', W', kw, ow, h, k⟩ => ⟨S, _, W', kw, ow, h, fun x S1 H1 o1 h1 => by
    split at h1
    · obtain ⟨dx, fs, v, h1, h2, h3⟩ := h1
      exact ⟨_, C, dx, fs, v, rfl, o1.at h1, c, n, h2, k _ _ _ o1 h3⟩
    · exact h1.elim⟩
def sConO (C : Addr) (f : Str) (v : V) (te : sE) : sE := fun W z S Q => te W z S fun x S1 => match x with
  | .ref p => ∃ dx fs, At S1 p (.ins C dx fs) ∧ fs.lookup f = none ∧ Q v S1
  | _ => False
theorem gConO {C : Addr} {f : Str} {v : V} (c : L2.Cls X.K C) (n : ∃ u, Con X.K C f v u) (he : PE X e (dE W te)) (hb : attributeBase e f X.env (eval e X.env) = eval e X.env := by rfl) : PE X (.Attribute e f pos) (dE W (sConO C f v te)) :=
  PE.by (pe_con he hb) fun z H Q ⟨S, Q', W', kw, ow, h, k⟩ => ⟨S, _, W', kw, ow, h, fun x S1 H1 o1 h1 => by
    obtain ⟨u, n⟩ := n
    split at h1
    · obtain ⟨dx, fs, h1, h2, h3⟩ := h1
      exact ⟨_, C, dx, fs, v, u, rfl, o1.at h1, c, n, h2, k _ _ _ o1 h3⟩
    · exact h1.elim⟩
def sSetO (C : Addr) (f : Str) (te tv : sE) : sS := fun D z S => tv D.ex z S fun y S1 => te D.ex z S1 fun x S2 => match x with
  | .ref p => ∃ i dx fs, S2.G[i]? = some (p, .ins C dx fs) ∧ fs.length < 1000 ∧ D.nx z (S2.put i p (.ins C dx (putF f y fs)))
  | _ => False
theorem hSetO {C : Addr} {f : Str} {value : Expr} {pos2 : Pos} (c : L2.Cls X.K C) (n : NoAttr X.K C f) (ho : PE X o (dE W te)) (hv : PE X value (dE W tv)) (hs : swapsWith value (some (.Attribute o f pos2)) pos.line X.env = pure false := by rfl) :
    PS X (.Assign [.Attribute o f pos2] value pos) (dS W (sSetO C f te tv)) :=
  PS.by (ps_fld ho hv hs) fun D z H ⟨S, D', ow, h, k⟩ => ⟨S, _, D'.ex, k.ex, ow, h, fun y S1 H1 o1 h1 => ⟨S1, _, D'.ex, k.ex, o1, h1, fun x S2 H2 o2 h2 => by
    split at h2
    · obtain ⟨i, dx, fs, q1, q2, q3⟩ := h2
      exact ⟨_, C, dx, fs, rfl, o2.g q1, c, n, q2, k.nx _ _ _ (o2.putU q1) q3⟩
    · exact h2.elim⟩⟩
variable {sp : Sp} {r : sWX → List V → L2.St → SH → (V → SH → Prop) → Prop} {k j : Nat}
/-- what a call that can't raise asks -/
theorem lift_no (c : Ctr sp r) {vs : List V} {z : L2.St} {S : SH} {H : Hp} {Q' : V → SH → Prop} {Q : VK} (ow : Own S H) (h : r (fun _ _ _ _ => False) vs z S Q') (k : Imp Q' Q) : sp vs H Q (fun _ _ _ => False) :=
  c.mono _ _ _ _ _ _ (fun v H' ⟨S', o', q⟩ => k v S' H' o' q) (fun _ _ _ ⟨_, _, q⟩ => q) (c.lift _ _ _ _ _ h H ow)
/-- a property, read; len of an own object -/
def sObjR (C : Addr) (r : sWX → List V → L2.St → SH → (V → SH → Prop) → Prop) (ok : V → Prop) (te : sE) : sE := fun W z S Q => te W z S fun x S1 => match x with
  | .ref p => ∃ dx fs, At S1 p (.ins C dx fs) ∧ r (fun _ _ _ _ => False) [.ref p] z S1 fun v S2 => ok v ∧ Q v S2
  | _ => False
abbrev sProO (C : Addr) (r : sWX → List V → L2.St → SH → (V → SH → Prop) → Prop) (te : sE) : sE := sObjR C r (fun _ => True) te
theorem gProO {C : Addr} {f : Str} (cr : Ctr sp r) (c : L2.Cls X.K C) (T : ProC X.prog X.w X.K X.mg X.base C f k sp) (hr : Room j X.A) (hj : k + 1 ≤ j) (he : PE X e (dE W te)) (hb : attributeBase e f X.env (eval e X.env) = eval e X.env := by rfl) :
    PE X (.Attribute e f pos) (dE W (sProO C r te)) := by
  obtain ⟨p, g, fd, hp, F, b⟩ := T.ex
  exact PE.by (pe_prop (ds := []) (dvs := []) he c hp F (hr.mono hj) b .nil (passF (X := X.nox)) hb) fun z H Q ⟨S, Q', W', kw, ow, h, k⟩ => ⟨S, _, W', kw, ow, h, fun x S1 H1 o1 h1 => by
    split at h1
    · obtain ⟨dx, fs, h1, h2⟩ := h1
      exact ⟨_, dx, fs, rfl, o1.at h1, lift_no cr o1 h2 fun v S2 H2 o2 q => k _ _ _ o2 q.2⟩
    · exact h1.elim⟩
def lenOk (v : V) : Prop := ∃ n : Nat, v = .int (n : Nat) ∧ n < 2 ^ 63
def rLenO (C : Addr) (sp : Sp) : List V → Hp → VK → Prop := fun xs H Q => ∃ (p dx : Addr) (fs : List (Str × V)), xs = [.ref p] ∧ H p = some (.ins C dx fs) ∧ sp [.ref p] H (fun v H' => lenOk v ∧ Q v H') fun _ _ _ => False
theorem cr_lenO {C f : Addr} {fd : FuncData} (hm : Meth X.K C "__len__" f) (F : FnOk X.prog X.w X.K X.mg X.base (L2.CX X.prog X.w) k f fd ["self"] sp) (b : Binds X.K fd ["self"] []) (hr : Room (k + 1) X.A) : CallR X (.builtin "len") (rLenO C sp) := by
  intro pins s z H xs us Q I rx h
  obtain ⟨p, dx, fs, rfl, hp, h⟩ := h
  obtain ⟨u, rfl, ru⟩ := vals1 rx
  obtain rfl : u = Value.ref p := ru
  obtain ⟨mA, J, _⟩ := ins_get I.hok hp
  obtain ⟨od, J, _⟩ := J.look
  obtain ⟨m, hF⟩ := I.fr
  refine PySem.W.len_K hF I.ok.mod.kin J hm.at_ hm.fn (wpAny_call (codeAny_mono (F.run X.A.in1 X.stack s H ⟨[.ref p], []⟩ [.ref p] [.ref p] _ _ hr.in1 I.env0.in1 ?_ (.cons rfl .nil) h) fun q s' hq => ?_))
  · have := b s [.ref p] I.kIn rfl
    simpa using this
  · cases q with
    | error er => exact (no_cx hq).elim
    | ok fl =>
      cases fl with
      | ret u =>
        obtain ⟨v, H', I3, rv, ⟨n, ev, hn⟩, q3⟩ := I.after hq
        subst ev
        obtain ⟨t, rfl⟩ := rv
        exact ⟨⟨Int.natCast_nonneg n, by omega⟩, ⟨.int (n : Nat), H', I3.tok _, ⟨_, rfl⟩, q3⟩⟩
      | next => exact False.elim hq
      | brk => exact False.elim hq
      | cont => exact False.elim hq
abbrev sLenO (C : Addr) (r : sWX → List V → L2.St → SH → (V → SH → Prop) → Prop) (te : sE) : sE := sObjR C r lenOk te
theorem gLenO {C : Addr} {p : Pos} (cr : Ctr sp r) (T : MetC X.prog X.w X.K X.mg X.base C "__len__" ["self"] k sp) (hr : Room j X.A) (hj : k + 1 ≤ j) (hg : Gl X "len") (hm : X.mg "len" = none) (he : PE X e (dE W te))
    (hs : starEach [e] X.env = (false, eval e X.env) :: starEach [] X.env := by rfl) :
    PE X (.Call (.Name "len" p) [e] [] pos) (dE W (sLenO C r te)) := by
  obtain ⟨f, fd, hM, F, b⟩ := T.ex
  exact PE.by (pe_callB (cr_lenO hM F b (hr.mono hj)) hg hm (by decide +kernel) (pa_cons he pa_nil hs) (by decide) (by decide) hs) fun z H Q ⟨S, Q', W', kw, ow, h, k⟩ => ⟨S, _, W', kw, ow, h, fun x S1 H1 o1 h1 => by
    split at h1
    · obtain ⟨dx, fs, h1, h2⟩ := h1
      exact ⟨_, dx, fs, rfl, o1.at h1, lift_no cr o1 h2 fun v S2 H2 o2 q => ⟨q.1, k _ _ _ o2 q.2⟩⟩
    · exact h1.elim⟩
/-- C(..), its __init__ can't raise here -/
def sMakO (C : Addr) (r : sWX → List V → L2.St → SH → (V → SH → Prop) → Prop) (t : sA) : sE := fun W z S Q => t W z S fun vs S1 => ∀ x dx, r (fun _ _ _ _ => False) (.ref x :: vs) z ((S1.new dx (.own x)).new x (.ins C dx [])) fun v S2 => v = .non ∧ Q (.ref x) S2
theorem gMakO {C : Addr} {x : Str} {p : Pos} {ps : List Str} (cr : Ctr sp r) (T : MakC X.prog X.w X.K X.mg X.base x C ps k sp) (hr : Room j X.A) (hj : k + 1 ≤ j) (hg : Gl X x) (ha : PA X (e :: es) (dA W tas))
    (hdb : (x == ("__debug__" : Str)) = false := by decide) (he : starEach (e :: es) X.env = (false, eval e X.env) :: starEach es X.env := by rfl) (hpl : (backTo pos (starEach es X.env)).any (·.1) = false := by rfl) :
    PE X (.Call (.Name x p) (e :: es) [] pos) (dE W (sMakO C r tas)) := by
  obtain ⟨f, fd, hm, M, F, b⟩ := T.ex
  exact PE.by (pe_make (ds := []) (dvs := []) M F (hr.mono hj) hg hm b .nil passF ha hdb he hpl) fun z H Q ⟨S, Q', W', kw, ow, h, k⟩ => ⟨S, _, W', kw, ow, h, fun vs S1 H1 o1 h1 x dx hx hdx ne => by
    have o2 : Own ((S1.new dx (.own x)).new x (.ins C dx [])) (upd (upd H1 dx (.own x)) x (.ins C dx [])) := (o1.newU hdx).newU (by rw [upd_ne (Ne.symm ne)]; exact hx)
    rw [List.append_nil]
    exact lift_no cr o2 (h1 x dx) fun v S2 H2 o3 q => ⟨q.1, k _ _ _ o3 q.2⟩⟩
end
section
variable {X : Cx} {W : WX} {a e o : Expr} {es : List Expr} {pos : Pos} {ta te ty td : sE} {tas : sA}
/-! ### all, str, join -/
def nAll (K : PySem.W.Frag) : sN := fun vs S Q => match vs with
  | [.ref p] => ∃ bs : List Bool, sL K S p (bs.map V.bl) ∧ Q (.bl (bs.all id)) S
  | _ => False
theorem lAll {K : PySem.W.Frag} : LiftN (nAll K) (rAll K) := by
  intro vs S Q' H Q o h k
  unfold nAll at h
  split at h
  · obtain ⟨bs, h1, h2⟩ := h
    exact ⟨_, bs, rfl, o.l h1, k _ _ _ o h2⟩
  · exact h.elim
def nStrI : sN := fun vs S Q => match vs with
  | [.int i] => i.natAbs.log2 < 1920 ∧ Q (.str (toString i)) S
  | _ => False
theorem lStrI : LiftN nStrI (fun xs H Q => ∃ i, xs = [.int i] ∧ i.natAbs.log2 < 1920 ∧ Q (.str (toString i)) H) := by
  intro vs S Q' H Q o h k
  unfold nStrI at h
  split at h
  · exact ⟨_, rfl, h.1, k _ _ _ o h.2⟩
  · exact h.elim
def mJoin (K : PySem.W.Frag) : sM := fun x vs S Q => match x, vs with
  | .str z, [.ref p] => ∃ ys : List Str, (sL K S p (ys.map V.str) ∨ sU K S p (ys.map V.str)) ∧ (ys.map (·.length)).sum + ys.length * z.length ≤ 16777216 ∧ Q (.str (Txt.join z ys)) S
  | _, _ => False
theorem lJoin {K : PySem.W.Frag} : LiftM (mJoin K) (fun x xs H Q => ∃ z p, ∃ ys : List Str, x = .str z ∧ xs = [.ref p] ∧ (SqL K H p (ys.map V.str) ∨ SqT K H p (ys.map V.str)) ∧ (ys.map (·.length)).sum + ys.length * z.length ≤ 16777216 ∧ Q (.str (Txt.join z ys)) H) := by
  intro x vs S Q' H Q o h k
  unfold mJoin at h
  split at h
  · obtain ⟨ys, h1, h2, h3⟩ := h
    exact ⟨_, _, ys, rfl, rfl, h1.elim (fun q => .inl (o.l q)) (fun q => .inr (o.u q)), h2, k _ _ _ o h3⟩
  · exact h.elim
/-! ### d[k] -/
def sDGet (td ty : sE) : sE := fun W z S Q => td W z S fun x S1 => ty W z S1 fun y S2 => match x with
  | .ref p => ∃ kvs k v, At S2 p (.dK kvs) ∧ y = kV k ∧ valV kvs k = some v ∧ Q v S2
  | _ => False
theorem gDGet {i : Expr} (hu : X.A.units + 1 < cLine) (ho : PE X o (dE W td)) (hi : PE X i (dE W ty)) (hs : NoSl i := by intro _ _; rfl) : PE X (.Subscript o i pos) (dE W (sDGet td ty)) :=
  PE.by (pe_dget hu ho hi hs) fun z H Q ⟨S, Q', W', kw, ow, h, k⟩ => ⟨S, _, W', kw, ow, h, fun x S1 H1 o1 h1 => ⟨S1, _, W', kw, o1, h1, fun y S2 H2 o2 h2 => by
    split at h2
    · obtain ⟨kvs, kk, v, q1, rfl, q3, q4⟩ := h2
      exact ⟨_, v, rfl, by rw [← q3]; exact DGet.k (o2.at q1), k _ _ _ o2 q4⟩
    · exact h2.elim⟩⟩
/-! ### walks over a text -/
def itS (x : Str) : SIt := ⟨x.cps.size, fun _ => True, fun i S k => ∀ c, x.cps[i]? = some c → k (.str ⟨#[c]⟩) S⟩
theorem itS_ok {x : Str} : SItOk (Its x) (itS x) :=
  ⟨fun S H i o h hi => hi, fun S H i o h hi => hi, fun S H i v H' k o h hi ⟨e, c, hc, ev⟩ q => by
    subst e
    subst ev
    exact ⟨S, o, q c hc⟩⟩
def siStr (tl : sE) : sI := fun W z S R => tl W z S fun x S1 => match x with
  | .str y => R (itS y) S1
  | _ => False
theorem iStrS {tg l : Expr} {tl : sE} (hl : PE X l (dE W tl)) : PI X tg l (dI W (siStr tl)) :=
  PI.by (pi_str hl) fun z H R ⟨S, R', W', kw, o, h, k⟩ => ⟨S, _, W', kw, o, h, fun x S1 H1 o1 h1 => by
    split at h1
    · exact ⟨_, rfl, k _ _ _ _ o1 itS_ok h1⟩
    · exact h1.elim⟩
/-- enumerate(text): each sign in a new pair -/
def ItsE (x : Str) : It := ⟨fun i _ => i < x.cps.size, fun i H v H' => ∃ T c, v = .ref T ∧ H T = none ∧ H' = upd H T (.tup [.int (i : Nat), .str ⟨#[c]⟩]) ∧ x.cps[i]? = some c, fun i _ => x.cps.size ≤ i⟩
theorem draws_str {prog : Program} {w : World} {A : Around} (hh : A.handled = none) (it : Addr) (x : Str) (t : Tok) {y : String} (hy : y = "str_ascii_iterator" ∨ y = "str_iterator") :
    Draws prog w A it [it] x.cps.size (fun i v => ∃ c u, x.cps[i]? = some c ∧ v = .str ⟨#[c]⟩ u) (fun i h => h.IsStrIter it y x t i) := by
  rcases hy with rfl | rfl
  · exact Draws.strAscii hh it x t
  · exact Draws.strWide hh it x t
theorem turn_enumS {P : Program} {w : World} {K : PySem.W.Frag} {elts : List Expr} {kk : Nat} {tpos : Pos} (en it : Addr) (x : Str) (t : Tok) {y : String} (hy : y = "str_ascii_iterator" ∨ y = "str_iterator") :
    Turn P w K (.Tuple elts kk tpos) (ItsE x) [en, it] en (fun i h => (∃ old, IsEnum h en it ((i : Nat) : Int) old) ∧ h.IsStrIter it y x t i ∧ en ≠ it ∧ i ≤ x.cps.size) where
  mem := List.mem_cons_self
  obj := fun i h st b hb => by
    obtain ⟨⟨old, he⟩, ⟨o, ho, _, hd⟩, _⟩ := st
    rcases List.mem_cons.mp hb with q | q
    · subst q
      exact ⟨_, he, fun v q => nomatch q⟩
    · rw [List.mem_singleton.mp q]
      exact ⟨o, ho, fun v q => by rw [hd] at q; cases q⟩
  keep := fun i h h' ⟨⟨old, he⟩, ⟨o, ho, rest⟩, hne⟩ kp => ⟨⟨old, kp en List.mem_cons_self _ he⟩, ⟨o, kp it (.tail _ (.head _)) o ho, rest⟩, hne⟩
  item := by
    intro X hP hw hK hc i pins s z H E I hf ⟨⟨old, he⟩, hit, hne, hle⟩ hg
    subst hP hw hK
    have hel : en < s.heap.objs.size := Heap.lt_size he
    have hil : it < s.heap.objs.size := hit.elim fun _ q => Heap.lt_size q.1
    refine wpAny_pyNext_enum_itemD (draws_str (A := X.A.in1) (I.ok.hd hc) it x t hy) he hit hg hne (fun q => hne (List.mem_singleton.mp q)) fun v h1 tk hv ho hit1 hT hsz hk => ⟨_, rfl, ?_⟩
    obtain ⟨c, u, hcx, rfl⟩ := hv
    refine wpAny_letOwnedTupleGo_enum (s := { s with heap := h1, toks := tk + 1 }) ho fun h2 he2 sb => ?_
    have hT2 := (sb.2 _ (Nat.ne_of_gt hel)).trans hT
    have new : ObjOk X.prog X.w (upd H s.heap.objs.size (.tup [.int (i : Nat), .str ⟨#[c]⟩])) h2 s.heap.objs.size (.tup [.int (i : Nat), .str ⟨#[c]⟩]) :=
      ⟨show 2 ≤ sizeLine by decide, [.int i tk, .str ⟨#[c]⟩ u], .cons ⟨_, rfl⟩ (.cons ⟨_, rfl⟩ .nil), ⟨_, hT2, rfl, _, rfl⟩⟩
    have off : ∀ b, b ∉ [en, it] → b ≠ en ∧ b ≠ it := fun b hb => ⟨fun q => hb (by rw [q]; exact List.mem_cons_self), fun q => hb (by rw [q]; exact .tail _ (.head _))⟩
    have I2 := I.turnedNew (t' := tk + 1) (fun b ob hb q => (sb.2 b (off b hb).1).trans (hk b ob (off b hb).1 (off b hb).2 q)) hf (Nat.le_refl _) new
    refine ⟨.ref s.heap.objs.size, _, I2, rfl, ⟨_, c, rfl, I.hok.fresh (Nat.le_refl _), rfl, hcx⟩, ⟨⟨.str ⟨#[c]⟩ u, ?_⟩, ?_, hne, hg⟩, fun b hb => ?_⟩
    · rw [show ((i + 1 : Nat) : Int) = (i : Int) + 1 by omega]
      exact he2
    · obtain ⟨o, ho2, rest⟩ := hit1
      exact ⟨o, (sb.2 it (Ne.symm hne)).trans ho2, rest⟩
    · have hb2 : b < s.heap.objs.size := by
        rcases List.mem_cons.mp hb with q | q
        · rw [q]
          exact hel
        · rw [List.mem_singleton.mp q]
          exact hil
      rw [upd_ne (Nat.ne_of_lt hb2)]
      exact (hf b hb).1
  done := by
    intro X hP hw hK hc i pins s z H E I hf ⟨⟨old, he⟩, hit, hne, hle⟩ hg
    subst hP hw hK
    have hi : i = x.cps.size := Nat.le_antisymm hle hg
    obtain ⟨f0, f1, f2, f3, f4, f5⟩ := hf it (.tail _ (.head _))
    subst hi
    exact wpAny_pyNext_enum_endD (draws_str (A := X.A.in1) (I.ok.hd hc) it x t hy) he hit fun h1 eb => ⟨rfl, I.turned (t' := s.toks) (fun b o hb q => eb b o hb q) f0 f1 f3 f4 f5⟩
  self := fun A i s Q E ⟨⟨_, he⟩, _⟩ h => wpAny_pyIter_enum he h
theorem iter_ty (x : Str) : strIterType x = "str_ascii_iterator" ∨ strIterType x = "str_iterator" := by
  unfold strIterType
  split
  · exact .inl rfl
  · exact .inr rfl
def iEnumS (ta : TA) : TI := fun z H R => ta z H fun vs H1 => ∃ x, vs = [.str x] ∧ R (ItsE x) H1
theorem pi_enumS {ta : TA} {p tpos : Pos} {elts : List Expr} {kk : Nat} (hg : Gl X "enumerate") (hm : X.mg "enumerate" = none) (ha : PA X [e] ta) (hs : starEach [e] X.env = [(false, eval e X.env)] := by rfl) :
    PI X (.Tuple elts kk tpos) (.Call (.Name "enumerate" p) [e] [] pos) (iEnumS ta) := by
  refine ⟨fun pins s z H R I h => Call_ (ld_blt I hg hm boot_enumerate (PyProof.Rows.callWith_type1 (thn (ha.run pos pins s z H _ I h) fun us s1 ⟨vs, H1, I1, r1, x, ev, q⟩ => ?_) hs rfl))⟩
  subst ev
  obtain ⟨u, rfl, t, rfl⟩ := vals1 r1
  refine call_enumerate_str fun h1 he hit hsz hk => wpAny_pyIter_enum he ?_
  have I2 : Inv X pins z H1 { s1 with heap := h1 } := I1.kept (t' := s1.toks) hk
  refine ⟨s1.heap.objs.size + 1, [s1.heap.objs.size + 1, s1.heap.objs.size], _, _, H1, rfl, I2, turn_enumS _ _ x t (iter_ty x), ⟨⟨.none, he⟩, hit, Nat.succ_ne_self _, Nat.zero_le _⟩, fun b hb => ?_, q⟩
  have hle : s1.heap.objs.size ≤ b := by
    rcases List.mem_cons.mp hb with q | q
    · rw [q]
      exact Nat.le_succ _
    · rw [List.mem_singleton.mp q]
      exact Nat.le_refl _
  exact I1.fpOk hle (I1.hok.fresh hle)
def itES (x : Str) : SIt := ⟨x.cps.size, fun _ => True, fun i S k => ∀ c, x.cps[i]? = some c → ∀ p, k (.ref p) (S.new p (.tup [.int (i : Nat), .str ⟨#[c]⟩]))⟩
theorem itES_ok {x : Str} : SItOk (ItsE x) (itES x) :=
  ⟨fun S H i o h hi => hi, fun S H i o h hi => hi, fun S H i v H' k o h hi ⟨T, c, e1, e2, e3, hc⟩ q => by
    subst e1
    subst e3
    exact ⟨_, o.newU e2, q c hc T⟩⟩
def siEnS (tl : sA) : sI := fun W z S R => tl W z S fun vs S1 => match vs with
  | [.str y] => R (itES y) S1
  | _ => False
theorem iEnS {tl : sA} {p tpos : Pos} {elts : List Expr} {kk : Nat} (hg : Gl X "enumerate") (hm : X.mg "enumerate" = none) (hl : PA X [e] (dA W tl)) (hs : starEach [e] X.env = [(false, eval e X.env)] := by rfl) :
    PI X (.Tuple elts kk tpos) (.Call (.Name "enumerate" p) [e] [] pos) (dI W (siEnS tl)) :=
  PI.by (pi_enumS hg hm hl hs) fun z H R ⟨S, R', W', kw, o, h, k⟩ => ⟨S, _, W', kw, o, h, fun vs S1 H1 o1 h1 => by
    split at h1
    · exact ⟨_, rfl, k _ _ _ _ o1 itES_ok h1⟩
    · exact h1.elim⟩
end
/-! ### sorted(rows): tuples that differ in their first item, an int -/
def RowAt (h : Heap) (v : Value) (k : Int) : Prop := ∃ (p : Addr) (ob : Obj) (its : Array Value) (n tk : Nat) (rest : List Value), v = .ref p ∧ h.get? p = some ob ∧ ob.cls = .type "tuple" ∧ ob.data = .seq its n ∧ its.toList = .int k tk :: rest
theorem RowAt.keep {h h2 : Heap} {v : Value} {k : Int} (r : RowAt h v k) (kp : ∀ b ob, h.get? b = some ob → ob.cls = .type "tuple" → h2.get? b = some ob) : RowAt h2 v k := by
  obtain ⟨p, ob, its, n, tk, rest, e, h1, h2, h3, h4⟩ := r
  exact ⟨p, ob, its, n, tk, rest, e, kp _ _ h1 h2, h2, h3, h4⟩
def ltR (k : Value → Int) (v u : Value) : Bool := decide (k v < k u)
theorem swo_ltR (k : Value → Int) : SrtO.Swo (ltR k) where
  asym := fun v u h => decide_eq_false (by have := of_decide_eq_true h; omega)
  tr := fun x y z h1 h2 => decide_eq_false (by
    have a1 := of_decide_eq_false h1
    have a2 := of_decide_eq_false h2
    omega)
section
variable {prog : Program} {w : World} {A : Around} {E : Value → Shared → Prop} {s : Shared}
theorem lex_same {b fin : Bool} {Q : Bool → Shared → Prop} (h : Q fin s) : ∀ (l : List Value) (i : Nat), PySem.W.KatLex prog w A b fin Q (l.zip l) i s
  | [], i => h
  | v :: l, i => by
    show PySem.W.KatLex prog w A b fin Q ((v, v) :: l.zip l) i s
    exact PySem.W.kat_cons (SeqAt.EqAt.same v prog w _ _ (PySem.W.kat_yes (lex_same h l (i + 1))))
theorem row_cmp {vs : List Value} {k : Value → Int} (hp : ∀ v ∈ vs, RowAt s.heap v (k v)) (inj : ∀ v ∈ vs, ∀ u ∈ vs, k v = k u → v = u) : SrtO.Cmp prog w A s (PyProof.Rows.tuples' true) (fun p => p.1 ∈ vs) (SrtO.lt2 (ltR k)) := by
  intro p q hm hm2
  show wpAny (model prog w) A (PyProof.Rows.keyLt' (PyProof.Rows.tuples' true) p.1 q.1) (fun r s2 => s2 = s ∧ r = ltR k p.1 q.1) (fun _ _ => False) s
  have e1 := hp _ hm
  have e2 := hp _ hm2
  have ei := inj _ hm _ hm2
  unfold ltR
  generalize p.1 = v at e1 ei
  generalize q.1 = u at e2 ei
  obtain ⟨x, ox, xs, nx, tx, rx, rfl, h1, h2, h3, h4⟩ := e1
  obtain ⟨y, oy, ys, ny, ty, ry, rfl, g1, g2, g3, g4⟩ := e2
  refine PySem.W.kat_lt h1 h3 g1 g3 ?_
  by_cases e : k (.ref x) = k (.ref y)
  · have exy := ei e
    cases exy
    rw [h1] at g1
    cases g1
    rw [h3] at g3
    cases g3
    exact lex_same ⟨rfl, by rw [decide_eq_false (Nat.lt_irrefl _), decide_eq_false (Int.lt_irrefl _)]⟩ _ _
  · rw [h4, g4]
    show PySem.W.KatLex prog w A true _ _ ((.int (k (.ref x)) tx, .int (k (.ref y)) ty) :: rx.zip ry) 0 s
    refine PySem.W.kat_cons (SeqAt.EqAt.int_int _ tx _ ty prog w _ _ ?_)
    have ne : (k (.ref x) == k (.ref y)) = false := beq_eq_false_iff_ne.mpr e
    rw [ne]
    exact PySem.W.kat_no (oneLt_int ⟨rfl, rfl⟩)
theorem row_firsts {h : Heap} {k : Value → Int} : ∀ (vs : List Value), (∀ v ∈ vs, RowAt h v (k v)) → ∃ fs : List Value, PySem.W.KatTups h vs fs ∧ fs.length = vs.length ∧ ∀ f ∈ fs, ∃ x t, f = Value.int x t
  | [], _ => ⟨[], PySem.W.KatTups.nil, rfl, fun f hf => nomatch hf⟩
  | v :: vs, hp => by
    obtain ⟨fs, a1, a2, a3⟩ := row_firsts vs fun u hu => hp u (.tail _ hu)
    obtain ⟨x, ox, xs, nx, tx, rx, e, h1, h2, h3, h4⟩ := hp v (.head _)
    rw [e]
    have hf : xs[0]? = some (.int (k v) tx) := by
      rw [← Array.getElem?_toList, h4]
      rfl
    refine ⟨.int (k v) tx :: fs, PySem.W.KatTups.cons h1 h2 h3 hf a1, congrArg (· + 1) a2, fun f hf => ?_⟩
    cases hf with
    | head => exact ⟨_, _, rfl⟩
    | tail _ hf => exact a3 f hf
theorem row_sortable {p : Addr} {vs : List Value} {k : Value → Int} (h0 : 0 < vs.length) (hp : ∀ v ∈ vs, RowAt s.heap v (k v)) (inj : ∀ v ∈ vs, ∀ u ∈ vs, k v = k u → v = u) (ha : ∀ ob, s.heap.get? p = some ob → ob.cls ≠ .type "tuple") : SrtO.SortableO prog w A s p vs (ltR k) := by
  intro h2 kp
  have hp2 : ∀ v ∈ vs, RowAt h2 v (k v) := fun v hv => (hp v hv).keep fun b ob e c => kp b ob (fun z => ha ob (by rw [← z]; exact e) c) e
  obtain ⟨fs, a1, a2, a3⟩ := row_firsts vs hp2
  refine ⟨PyProof.Rows.tuples' true, fun Q E hq => ?_, row_cmp (s := { s with heap := h2 }) hp2 inj⟩
  refine PySem.W.kat_kind (T := .type "int") a1 (by rw [a2]; exact h0) (fun f hf => ?_) rfl ?_
  · obtain ⟨x, t, rfl⟩ := a3 f hf
    exact PySem.W.Looks.now
  · rw [show (Value.type "int" != Value.type "tuple") = true by decide]
    exact hq
end
def rSortRow (K : PySem.W.Frag) : List V → Hp → VK → Prop := fun vs H Q => ∃ (p : Addr) (xs : List V) (k : V → Int), vs = [.ref p] ∧ SqL K H p xs ∧ (∀ x ∈ xs, ∃ t rest, x = .ref t ∧ H t = some (.tup (.int (k x) :: rest))) ∧ (∀ x ∈ xs, ∀ y ∈ xs, k x = k y → x = y) ∧
  ∀ ys q, ys.Perm xs → (ys.Pairwise fun x y => k x ≤ k y) → H q = none → Q (.ref q) (upd H q (.lst ys))
theorem cr_sortRow {X : Cx} : CallR X (.builtin "sorted") (rSortRow X.K) := by
  intro pins s z H vs us Q I r h
  obtain ⟨p, xs, k, rfl, hs, hx, inj, q⟩ := h
  obtain ⟨its, rv, hl, hz⟩ := I.list hs
  obtain ⟨u, rfl, ru⟩ := vals1 r
  obtain rfl : u = Value.ref p := ru
  have isr : ∀ x ∈ xs, ∃ t, x = V.ref t := fun x hm => (hx x hm).elim fun t ht => ⟨t, ht.elim fun _ y => y.1⟩
  obtain ⟨ex, eu⟩ := refs_back rv isr
  have rows : ∀ v ∈ its, RowAt s.heap v (k (backV v)) := fun v hv => by
    obtain ⟨t, rfl⟩ := eu v hv
    have hm : V.ref t ∈ xs := by
      rw [ex]
      exact List.mem_map.mpr ⟨_, hv, rfl⟩
    obtain ⟨t2, rest, et, ht⟩ := hx _ hm
    cases et
    obtain ⟨_, its2, rr, ob, ho, hc, n, hd⟩ := I.hok _ _ ht
    cases rr with
    | cons r0 rr =>
      obtain ⟨tk, rfl⟩ := r0
      exact ⟨t, ob, _, n, tk, _, rfl, ho, hc, hd, rfl⟩
  have inj2 : ∀ v ∈ its, ∀ u ∈ its, k (backV v) = k (backV u) → v = u := fun v hv u hu e => by
    obtain ⟨t, rfl⟩ := eu v hv
    obtain ⟨t2, rfl⟩ := eu u hu
    have m1 : V.ref t ∈ xs := by
      rw [ex]
      exact List.mem_map.mpr ⟨_, hv, rfl⟩
    have m2 : V.ref t2 ∈ xs := by
      rw [ex]
      exact List.mem_map.mpr ⟨_, hu, rfl⟩
    have := inj _ m1 _ m2 e
    cases this
    rfl
  refine SrtO.sorted_ord (swo_ltR fun u => k (backV u)) hl.isList (by rw [← rv.length]; exact hz) (fun h2 hp1 b hb kk => ?_) fun out o1 o2 => ?_
  · refine row_sortable (s := { s with heap := hp1 }) (by omega) (fun v hv => (rows v hv).keep fun b ob e _ => (kk b ob e).2) inj2 fun ob e c => ?_
    have e2 := Option.some.inj (e.symm.trans hb)
    rw [e2] at c
    exact absurd (Value.type.inj c) (by decide)
  · have a3 : ∀ u ∈ out, ∃ t, u = Value.ref t := fun u hu => eu u (o2.perm.mem_iff.mp hu)
    obtain ⟨n, hn⟩ := PyProof.Rows.sortedAll_at s.heap its out.toArray
    have pm : (out.map backV).Perm xs := by
      rw [ex]
      exact o2.perm.map _
    have srt : (out.map backV).Pairwise fun x y => k x ≤ k y := by
      refine List.pairwise_map.mpr (List.Pairwise.imp (fun {x y} hxy => ?_) o1)
      have hn : ¬ k (backV y) < k (backV x) := of_decide_eq_false hxy
      exact Int.not_lt.mp hn
    refine ⟨.ref (s.heap.objs.size + 1), upd H (s.heap.objs.size + 1) (.lst (out.map backV)), I.laid (t' := s.toks) (fun _ _ => PyProof.Rows.sortedAll_old) (Nat.le_succ _) ⟨?_, out, n, vals_back a3, hn⟩, rfl, q _ _ pm srt (I.hok.fresh (Nat.le_succ _))⟩
    rw [pm.length_eq]
    exact hz
def nSortRow (K : PySem.W.Frag) : sN := fun vs S Q => match vs with
  | [.ref p] => ∃ (xs : List V) (k : V → Int), sL K S p xs ∧ (∀ x ∈ xs, ∃ t rest, x = .ref t ∧ At S t (.tup (.int (k x) :: rest))) ∧ (∀ x ∈ xs, ∀ y ∈ xs, k x = k y → x = y) ∧
      ∀ ys q, ys.Perm xs → (ys.Pairwise fun x y => k x ≤ k y) → Q (.ref q) (S.new q (.lst ys))
  | _ => False
theorem lSortRow {K : PySem.W.Frag} : LiftN (nSortRow K) (rSortRow K) := by
  intro vs S Q' H Q o h k
  unfold nSortRow at h
  split at h
  · obtain ⟨xs, kk, h1, h2, h3, h4⟩ := h
    exact ⟨_, xs, kk, rfl, o.l h1, fun x hx => let ⟨t, rest, e, ht⟩ := h2 x hx; ⟨t, rest, e, o.at ht⟩, h3, fun ys q hp hs hq => k _ _ _ (o.newU hq) (h4 ys q hp hs)⟩
  · exact h.elim
section
variable {X : Cx} {W : WX} {a b e o : Expr} {pos : Pos} {ta tb te : sE}
/-! ### o.f as a target -/
def sgFld (C : Addr) (f : Str) (te : sE) : sG := fun W v z S Q => te W z S fun x S1 => match x with
  | .ref p => ∃ i dx fs, S1.G[i]? = some (p, .ins C dx fs) ∧ fs.length < 1000 ∧ Q z (S1.put i p (.ins C dx (putF f v fs)))
  | _ => False
def gFldT (K : PySem.W.Frag) (C : Addr) (f : Str) (t : TE) : TG := fun v z H Q => t z H fun x H1 => ∃ p dx fs, x = .ref p ∧ H1 p = some (.ins C dx fs) ∧ fs.length < 1000 ∧ Q z (upd H1 p (.ins C dx (putF f v fs)))
theorem pg_fldT {C : Addr} {f : Str} {t : TE} (c : L2.Cls X.K C) (n : NoAttr X.K C f) (ho : PE X o t) : PG X (.Attribute o f pos) (gFldT X.K C f t) := by
  refine ⟨fun pins s z H v u Q I r h => ?_⟩
  rw [arm_assign_Attribute]
  refine wpAny_bind (wpAny_holding (thn (ho.run pins s z H _ I h) fun ov s1 ⟨x, H1, I1, r1, p, dx, fs, ex, hp, hl, q⟩ => wpAny_bind (wpAny_standAt (wpAny_bind (wpAny_holding ?_)))))
  subst ex
  obtain rfl : ov = Value.ref p := r1
  exact setattr_ok I1 hp c n hl r fun s2 I2 => wpAny_release ⟨z, _, I2, q⟩
theorem ggFld {C : Addr} {f : Str} (c : L2.Cls X.K C) (n : NoAttr X.K C f) (ho : PE X o (dE W te)) : PG X (.Attribute o f pos) (dG W (sgFld C f te)) :=
  PG.by (pg_fldT c n ho) fun v z H Q ⟨S, Q', W', kw, ow, h, k⟩ => ⟨S, _, W', kw, ow, h, fun x S1 H1 o1 h1 => by
    split at h1
    · obtain ⟨i, dx, fs, q1, q2, q3⟩ := h1
      exact ⟨_, dx, fs, rfl, o1.g q1, q2, k _ _ _ (o1.putU q1) q3⟩
    · exact h1.elim⟩
/-! ### text * n -/
def oMulS : s2 := fun x y S Q => match x, y with
  | .str u, .int n => MulOk u n ∧ Q (.str (Txt.mul u n)) S
  | _, _ => False
theorem op_mulS : OpR X (binaryOp .Mult) (fun x y H Q => ∃ u n, x = .str u ∧ y = .int n ∧ MulOk u n ∧ Q (.str (Txt.mul u n)) H) := by
  intro pins s z H x y v u Q I rx ry h
  obtain ⟨t, n, rfl, rfl, hm, q⟩ := h
  obtain ⟨k1, rfl⟩ := rx
  obtain ⟨k2, rfl⟩ := ry
  exact SB.mul hm fun t2 k => ⟨.str (Txt.mul t n), H, I.tok _, ⟨_, rfl⟩, q⟩
theorem lMulS : Lift2 oMulS (fun x y H Q => ∃ u n, x = .str u ∧ y = .int n ∧ MulOk u n ∧ Q (.str (Txt.mul u n)) H) := by
  intro x y S Q' H Q o h k
  unfold oMulS at h
  split at h
  · exact ⟨_, _, rfl, rfl, h.1, k _ _ _ o h.2⟩
  · exact h.elim
theorem gMulS (ha : PE X a (dE W ta)) (hb : PE X b (dE W tb)) : PE X (.BinOp a .Mult b pos) (dE W (sOp oMulS ta tb)) := gOp op_mulS lMulS ha hb
/-! ### repr, where no repr is under way -/
def RprV (K : PySem.W.Frag) (H : Hp) (x : V) (z : Str) : Prop := match x with
  | .str u => (reprText u).length ≤ sizeLine ∧ z = reprText u
  | .int i => i.natAbs.log2 < 1920 ∧ z = toString i
  | .bl b => z = if b then ("True" : Str) else "False"
  | .non => z = "None"
  | .ref p => ∃ d, Dp K H (.ref p) d ∧ d.showable = true ∧ d.hasDict = false ∧ d.depth ≤ 60 ∧ d.shown.length ≤ sizeLine ∧ z = d.shown
  | _ => False
def rRepr (K : PySem.W.Frag) : List V → Hp → VK → Prop := fun xs H Q => ∃ x z, xs = [x] ∧ RprV K H x z ∧ Q (.str z) H
theorem cr_repr (hg : X.A.guards = some []) (hu : X.A.units + 64 < cLine) : CallR X (.builtin "repr") (rRepr X.K) := by
  intro pins s z H xs us Q I r h
  obtain ⟨x, y, rfl, hd, q⟩ := h
  obtain ⟨u, rfl, ru⟩ := vals1 r
  unfold RprV at hd
  split at hd
  · obtain ⟨h1, rfl⟩ := hd
    obtain ⟨t, rfl⟩ := ru
    exact P.repr_of_str ⟨.str _, H, I.tok _, ⟨_, rfl⟩, q⟩ h1
  · obtain ⟨h1, rfl⟩ := hd
    obtain ⟨t, rfl⟩ := ru
    exact P.repr_of_int h1 ⟨.str _, H, I.tok _, ⟨_, rfl⟩, q⟩
  · subst hd
    cases ru
    exact P.repr_of_bool ⟨.str _, H, I.tok _, ⟨_, rfl⟩, q⟩
  · subst hd
    cases ru
    exact P.repr_of_none ⟨.str _, H, I.tok _, ⟨_, rfl⟩, q⟩
  · obtain ⟨d, hd, h1, h2, h3, h4, rfl⟩ := hd
    obtain ⟨as, rd⟩ := Dp.reads I d _ u hd ru
    cases ru
    exact repr_of_reads' rd h1 (PyData.noDict_hsm h2) hg (by omega) (fun _ _ e => e) (fun h5 t tk hk => ⟨.str d.shown, H, I.kept (t' := tk) hk, ⟨_, rfl⟩, q⟩) h4
  · exact hd.elim
def nRepr (K : PySem.W.Frag) : sN := fun vs S Q => match vs with
  | [x] => ∃ z, (∀ H, Own S H → RprV K H x z) ∧ Q (.str z) S
  | _ => False
theorem lRepr {K : PySem.W.Frag} : LiftN (nRepr K) (rRepr K) := by
  intro vs S Q' H Q o h k
  unfold nRepr at h
  split at h
  · obtain ⟨z, h1, h2⟩ := h
    exact ⟨_, z, rfl, h1 H o, k _ _ _ o h2⟩
  · exact h.elim
end
end SY
namespace SY
open PySem PySem.Spec PyProof.Rows L2
/-! ### promises that ask that no repr is under way -/
structure FnG (P : Program) (w : World) (K : PySem.W.Frag) (mg : Str → Option Value) (base : Heap) (k : Nat) (f : Addr) (fd : FuncData) (ps : List Str) (sp : Sp) : Prop where
  len : ∀ vs H Q E, sp vs H Q E → vs.length = ps.length
  run : ∀ (A : Around) (outer : List PySem.Env) (s : Shared) (H : Hp) (args : Args) (us : List Value) (vs : List V) (Q : VK) (E : XK), A.guards = some [] → Room k A → Env0 P w K mg base A outer s H → BindsTo s fd args (ps.zip us) → Vals vs us → sp vs H Q E →
    codeAny (model P w) A (.call (.ref f) args) (CR (L2.CX P w) outer P w H s Q E) s
theorem FnG.mono {P : Program} {w : World} {K : PySem.W.Frag} {mg : Str → Option Value} {base : Heap} {j k : Nat} {f : Addr} {fd : FuncData} {ps : List Str} {sp : Sp} (F : FnG P w K mg base j f fd ps sp) (h : j ≤ k) : FnG P w K mg base k f fd ps sp :=
  ⟨F.len, fun A outer s H args us vs Q E hg hr => F.run A outer s H args us vs Q E hg (hr.mono h)⟩
/-- a def by its body -/
theorem fn_ofG {P : Program} {w : World} {K : PySem.W.Frag} {mg : Str → Option Value} {base : Heap} {k : Nat} {x qual : Str} {st : Stmt} {f : Addr} {fd : FuncData} {N ps : List Str} {sp : Sp} (F : Fun K x qual st f fd) (S : FnScope N ps (defScope st)) (len : ∀ vs H Q E, sp vs H Q E → vs.length = ps.length)
    (hb : ∀ (cdv : Value) (A : Around) (outer : List PySem.Env) (s : Shared) (H : Hp) (vs : List V) (Q : VK) (E : XK), A.guards = some [] → Room k (A.deeper (envOfC qual (defScope st) s.heap.objs.size f cdv)) → sp vs H Q E →
      ∃ t, PSs (cxOf (L2.CX P w) P w K mg base N qual (defScope st) f cdv A outer s H E) (defBody st) t ∧ t { nx := fun _ H2 => Q .non H2, rt := Q } (start N vs) H) : FnG P w K mg base (k + 1) f fd ps sp := by
  obtain ⟨oc, od, kV, doc, pm, an, cdv, ct, osl, rfl, lk, hcd⟩ := F.ex
  refine ⟨len, fun A outer s H args us vs Q E hg hr e0 bd rv hsp => ?_⟩
  have kp : ∀ b o, base.get? b = some o → s.heap.get? b = some o := fun b o e => (e0.bs b o e).1
  have KX : K.In s.heap := e0.mod.kin.keeps kp
  have kinds : ∀ y ∈ ps.zip us, (defScope st).names.lookup y.1 = some .local ∨ ((defScope st).names.lookup y.1 = some .cell ∧ ((cellsFrom (s.heap.objs.size + 1) (defScope st).names []).lookup y.1).isSome = true) := fun y hy =>
    (S.par y.1 (List.of_mem_zip (a := y.1) (b := y.2) hy).1).imp id fun q => ⟨q, PySem.W.cellsFrom_some _ _ _ (.inl q)⟩
  refine codeAny_call_function hr.depth (KX _ _ lk) rfl S.co S.gen rfl (PySem.W.codeRec_of KX hcd) (bd _ _ _ _ (wpAny_newFunctionEnv_cells S.kind kinds fun env he s1 ic => ?_))
  subst he
  obtain ⟨t, ht, hq⟩ := hb cdv A outer s H vs Q E hg (hr.deeper _) hsp
  refine ⟨(e0.mod.nolimit.keeps kp).keeps ic.toInCall.keep, codeAny_func (wpAny_mono (ht.run [] s1 (start N vs) H _ (inv_start S hr.hd e0 (len _ _ _ _ hsp) rv ic) hq) (fun fl s2 hs => ?_) fun e s2 hs => hs)⟩
  cases fl with
  | ret u =>
    obtain ⟨v, z, H2, J, ru, q⟩ := hs
    exact ⟨v, H2, J.os, J.bare, J.base, J.hok, ru, q⟩
  | next =>
    obtain ⟨z, H2, J, q⟩ := hs
    exact ⟨.non, H2, J.os, J.bare, J.base, J.hok, rfl, q⟩
  | brk => exact hs.elim fun _ y => y.elim fun _ y => y.2.elim
  | cont => exact hs.elim fun _ y => y.elim fun _ y => y.2.elim
structure DefG (P : Program) (w : World) (K : PySem.W.Frag) (mg : Str → Option Value) (base : Heap) (x : Str) (ps : List Str) (k : Nat) (sp : Sp) : Prop where
  ex : ∃ (f : Addr) (fd : FuncData), mg x = some (.ref f) ∧ PySem.W.keepIn K (.ref f) = true ∧ FnG P w K mg base k f fd ps sp ∧ Binds K fd ps []
section
variable {X : Cx} {W : WX} {e : Expr} {es : List Expr} {pos p : Pos} {tas : sA} {x : Str} {ps : List Str} {j k : Nat} {sp : Sp} {r : sWX → List V → L2.St → SH → (V → SH → Prop) → Prop}
theorem pe_callG {f : Addr} {fd : FuncData} {E : L2.St → XK} {t : TA} (F : FnG X.prog X.w X.K X.mg X.base k f fd ps sp) (hgd : X.A.guards = some []) (hr : Room k X.A) (hg : Gl X x) (hm : X.mg x = some (.ref f)) (hk : PySem.W.keepIn X.K (.ref f) = true) (hb : Binds X.K fd ps [])
    (hx : ∀ z, PassesAt (L2.CX X.prog X.w) X z (E z)) (ha : PA X (e :: es) t) (hdb : (x == ("__debug__" : Str)) = false) (he : starEach (e :: es) X.env = (false, eval e X.env) :: starEach es X.env) (hpl : (backTo pos (starEach es X.env)).any (·.1) = false) :
    PE X (.Call (.Name x p) (e :: es) [] pos) (fun z H Q => t z H fun vs H1 => sp vs H1 Q (E z)) := by
  refine ⟨fun pins s z H Q I h => wpAny_Call_Name_kw (ld_glob I hg hm (PySem.W.callWith_K (h₀ := X.base) I.ok.mod.kin hk (thn (ha.run pos pins s z H _ I h) fun us s1 ⟨vs, H1, I1, rv, q⟩ => ⟨I1.kIn, ?_⟩) he hpl) hdb)⟩
  have hl : us.length = ps.length := rv.length.symm.trans (F.len _ _ _ _ q)
  have b := hb s1 us I1.kIn (by rw [List.append_nil]; exact hl)
  rw [List.append_nil] at b
  refine wpAny_call (codeAny_mono (F.run X.A X.stack s1 H1 ⟨us, []⟩ us vs Q (E z) hgd hr I1.env0 b rv q) fun q s2 hq => ?_)
  match q, hq with
  | .error er, hq => exact hx z pins H1 s1 er s2 I1 hq
  | .ok (.ret u), hq => exact I1.after hq
theorem gCallG (c : Ctr sp r) (T : DefG X.prog X.w X.K X.mg X.base x ps k sp) (hgd : X.A.guards = some []) (hr : Room j X.A) (hj : k ≤ j) (hg : Gl X x) (tk : Takes X W) (ha : PA X (e :: es) (dA W tas))
    (hdb : (x == ("__debug__" : Str)) = false := by decide) (he : starEach (e :: es) X.env = (false, eval e X.env) :: starEach es X.env := by rfl) (hpl : (backTo pos (starEach es X.env)).any (·.1) = false := by rfl) :
    PE X (.Call (.Name x p) (e :: es) [] pos) (dE W (sCallD r [] tas)) := by
  obtain ⟨f, fd, hm, hk, F, hb⟩ := T.ex
  exact PE.by (pe_callG F hgd (hr.mono hj) hg hm hk hb (fun z => passAt tk z) ha hdb he hpl) fun z H Q ⟨S, Q', W', kw, o, h, k⟩ => ⟨S, _, W', kw, o, h, fun vs S1 H1 o1 h1 => by
    rw [List.append_nil] at h1
    exact lift_sp c.mono kw o1 (c.lift _ _ _ _ _ h1) k⟩
end
/-! ### the law's call -/
theorem law_callG {P : Program} {w : World} {K : PySem.W.Frag} {mg mb : Str → Option Value} {k : Nat} {fa a : Addr} {fd : FuncData} {x : Str} {sp : Sp} {s : Shared} {vs : List Value} {ns : List Int}
    (KX : K.In s.heap) (hns : s.heap.Ns mainGlobals mg) (hb : s.heap.Ns builtinsNs mb) (hbb : ∀ x : Str, x ≠ "__name__" → mb x = bootBuiltins x) (hlim : s.heap.NoLimit) (hg : s.gens = #[])
    (ha : s.heap.get? a = some { cls := .type "list", data := .seq vs.toArray }) (hi : IntsAre vs ns) (hl : ns.length ≤ sizeLine) (hr : Room k callerA)
    (F : ∀ base : Heap, K.In base → base.Ns mainGlobals mg → FnG P w K mg base k fa fd [x] sp) (bd : ∀ (s : Shared) (u : Value), BindsTo s fd ⟨[u], []⟩ [(x, u)])
    (hsp : ∀ H : Hp, SqL K H a (ns.map V.int) → sp [.ref a] H (fun v _ => v = .bl true) fun _ _ _ => False) :
    codeAny (model P w) callerA (.call (.ref fa) ⟨[.ref a], []⟩) (fun r s2 => r = .ok (.ret (.bool true)) ∧ OldK s.heap s2.heap ∧ s2.os = s.os ∧ AllBare s2.gens) s := by
  have rv := vals_ints hi
  obtain ⟨H, hS, hok, hA, hK⟩ : ∃ H : Hp, SqL K H a (ns.map V.int) ∧ HOk P w H s.heap ∧ (∀ b u, H b = some u → b = a ∧ u = .frz { cls := .type "list", data := .seq vs.toArray } (.lst (ns.map V.int))) ∧ (H a ≠ none → K.lookup a = none) := by
    by_cases e : K.lookup a = none
    · refine ⟨fun b => if b = a then some (.frz { cls := .type "list", data := .seq vs.toArray } (.lst (ns.map V.int))) else none, .inl (.inr ⟨_, if_pos rfl⟩), fun b u q => ?_, fun b u q => ?_, fun _ => e⟩
      · have q2 : (if b = a then _ else _) = some u := q
        split at q2
        · rename_i eb
          cases q2
          subst eb
          exact ⟨ha, by rw [List.length_map]; exact hl, vs, _, rv, ha⟩
        · cases q2
      · have q2 : (if b = a then _ else _) = some u := q
        split at q2
        · rename_i eb
          cases q2
          exact ⟨eb, rfl⟩
        · cases q2
    · obtain ⟨o, ho⟩ := Option.ne_none_iff_exists'.mp e
      have e2 := KX a o ho
      rw [ha] at e2
      cases e2
      exact ⟨fun _ => none, .inr ⟨_, vs.toArray, _, ho, rfl, rfl, rfl, by rw [List.size_toArray, hi.length]; exact hl, rv⟩, (fun b u q => by cases q), (fun b u q => by cases q), fun q => absurd rfl q⟩
  have free : ∀ {b : Addr} {o : Obj} {es : Array DictEntry} {ep : Nat}, s.heap.get? b = some o → o.data = .dict es ep → H b = none := fun {b o es ep} e d => by
    cases q : H b with
    | none => rfl
    | some u =>
      obtain ⟨eb, _⟩ := hA b u q
      subst eb
      rw [ha] at e
      cases e
      exact absurd d (by simp)
  have low : ∀ {b : Addr} {m : Str → Option Value}, s.heap.Ns b m → (hidT s.heap H).Ns b m := fun {b m} h => h.elim fun o h => h.elim fun es h => h.elim fun ep h => ⟨o, es, ep, hidT_get h.1 (free h.1 h.2.1), h.2⟩
  have hKb : K.In (hidT s.heap H) := fun b o e => hidT_get (KX b o e) (by
    cases q : H b with
    | none => rfl
    | some u =>
      obtain ⟨eb, _⟩ := hA b u q
      subst eb
      rw [hK (by rw [q]; exact fun z => nomatch z)] at e
      cases e)
  have e0 : Env0 P w K mg (hidT s.heap H) callerA [] s H := ⟨rfl, ⟨hKb, low hns, ⟨mb, low hb, hbb⟩, hlim.elim fun mc h => ⟨mc, low h.1, h.2⟩⟩, fun b o e => of_hidT e, Nat.le_of_eq (hidT_size _ _), trivial, (fun b hb => nomatch hb), hok, .of_eq hg⟩
  refine codeAny_mono ((F _ hKb (low hns)).run callerA [] s H ⟨[.ref a], []⟩ [.ref a] [.ref a] _ _ rfl hr e0 (bd s (.ref a)) (.cons rfl .nil) (hsp H hS)) fun q s2 h => ?_
  match q, h with
  | .error er, h => exact (no_cx h).elim
  | .ok (.ret u), ⟨v, H2, os, bare, un, hok2, ru, ev⟩ =>
    have ev : v = .bl true := ev
    subst ev
    obtain rfl : u = Value.bool true := ru
    refine ⟨rfl, OldK.of_keep fun b o e => ?_, os, bare⟩
    cases q : H b with
    | none => exact un.keep b o e q (fun z => nomatch z) (fun z => nomatch z)
    | some u =>
      obtain ⟨eb, eu⟩ := hA b u q
      subst eu
      have e2 := (hok2 b _ (un.frzs b _ _ q)).1
      rw [eb] at e e2 ⊢
      rw [ha] at e
      cases e
      exact e2
theorem walk_ofG {l : PySem.W.OpenLaw} {n k : Nat} {q : Program} {loose : List Str} {XP : (Str → Option Value) → Heap → Prop} {YP : World → Heap → Prop} {d : DefRec} {K : Params → PySem.W.Frag} {sp : World → Sp} {x : Str}
    (hn : l.most = some n) (hn2 : n ≤ sizeLine) (hdf : d.params.defaults = []) (hr : Room k callerA) (hY : ∀ (w : World) (h : Heap), YP w h → (K w.params).In h)
    (F : ∀ (w : World) (mg : Str → Option Value) (fa : Addr) (h : Heap), (K w.params).In h → h.Ns mainGlobals mg → mg d.name = some (.ref fa) →
      ∃ fd : FuncData, (∀ (s : Shared) (u : Value), BindsTo s fd ⟨[u], []⟩ [(x, u)]) ∧ ∀ base : Heap, (K w.params).In base → base.Ns mainGlobals mg → FnG l.prog w (K w.params) mg base k fa fd [x] (sp w))
    (hsp : ∀ (w : World) (H : Hp) (a : Addr) (ns : List Int), ns.length ≤ n → SqL (K w.params) H a (ns.map V.int) → sp w [.ref a] H (fun v _ => v = .bl true) fun _ _ _ => False) :
    PySem.W.WalkO q loose XP YP l.row.toRowW d [] (fun f vs => PySem.call f vs) :=
  Att.attach_call hn hdf fun w s0 s1 mg mb fa o pm cd doc a vs ns G Y ho hd hcd hmg hobj hints hlen hg => by
    have KX := hY w _ Y
    obtain ⟨fd, hb, hF⟩ := F w mg fa _ KX G.T.g hmg
    exact law_callG KX G.T.g G.T.b G.T.builtins G.T.nolimit hg hobj hints (Nat.le_trans hlen hn2) hr hF hb fun H hS => hsp w H a ns hlen hS
end SY
namespace SY
open PySem PySem.Spec PyProof.Rows L2
section
variable {K : PySem.W.Frag}
def isInt : V → Bool
  | .int _ => true
  | _ => false
def optV : Option Int → V
  | none => .non
  | some m => .int m
def nV (ns : List Nat) : List V := ns.map fun n => V.int (n : Nat)
def allV {α : Type} (R : V → α → Prop) : List V → List α → Prop
  | [], [] => True
  | v :: vs, x :: xs => R v x ∧ allV R vs xs
  | _, _ => False
theorem ext0 {H H' : Hp} (o : Own ⟨H, []⟩ H') : Ext H H' := fun a u e => o.fr a u e
theorem use_V {f : List V → Option Ot} {W : sWX} {σ : L2.St} {S : SH} {Q : V → SH → Prop} {vs : List V} (v : V) (e : f vs = some (.ok v)) (h : Q v S) : rV f W vs σ S Q := by
  unfold rV
  rw [e]
  exact h
theorem SqT.up {H H' : Hp} {p : Addr} {xs : List V} (e : Ext H H') (h : SqT K H p xs) : SqT K H' p xs := by
  rcases h with (h | ⟨o, h⟩) | h
  · exact .inl (.inl (e _ _ h))
  · exact .inl (.inr ⟨o, e _ _ h⟩)
  · exact .inr h
theorem SqL.up {H H' : Hp} {p : Addr} {xs : List V} (e : Ext H H') (h : SqL K H p xs) : SqL K H' p xs := by
  rcases h with (h | ⟨o, h⟩) | h
  · exact .inl (.inl (e _ _ h))
  · exact .inl (.inr ⟨o, e _ _ h⟩)
  · exact .inr h
theorem ixN_nat {n i : Nat} (h : i < n) : ixN n (i : Int) = some i := by
  unfold ixN
  rw [if_pos (by omega), if_pos (by omega), Int.toNat_natCast]
theorem atI_at {α : Type} {xs : List α} {i : Nat} {x : α} (h : xs[i]? = some x) : atI xs (i : Int) = some x := by
  unfold atI
  rw [ixN_nat (List.getElem?_eq_some_iff.mp h).1, Option.bind_some, h]
theorem modNat {x m : Int} (h : 0 < m) : ∃ r : Nat, x % m = (r : Int) ∧ (r : Int) < m :=
  ⟨(x % m).toNat, (Int.toNat_of_nonneg (Int.emod_nonneg _ (by omega))).symm, by rw [Int.toNat_of_nonneg (Int.emod_nonneg _ (by omega))]; exact Int.emod_lt_of_pos _ h⟩
theorem nV_len (ns : List Nat) : (nV ns).length = ns.length := List.length_map _
theorem nV_at {ns : List Nat} {i x : Nat} (h : ns[i]? = some x) : (nV ns)[i]? = some (.int (x : Nat)) := by
  unfold nV
  rw [List.getElem?_map, h]
  rfl
theorem nV_append (xs ys : List Nat) : nV (xs ++ ys) = nV xs ++ nV ys := List.map_append
theorem allV_len {α : Type} {R : V → α → Prop} : ∀ {vs : List V} {xs : List α}, allV R vs xs → vs.length = xs.length
  | [], [], _ => rfl
  | _ :: _, _ :: _, h => congrArg (· + 1) (allV_len h.2)
  | [], _ :: _, h => h.elim
  | _ :: _, [], h => h.elim
theorem allV_at {α : Type} {R : V → α → Prop} : ∀ {vs : List V} {xs : List α}, allV R vs xs → ∀ {i : Nat} {v : V}, vs[i]? = some v → ∃ x, xs[i]? = some x ∧ R v x
  | [], [], _, i, v, e => by cases e
  | v0 :: vs, x0 :: xs, h, 0, v, e => by
    cases e
    exact ⟨x0, rfl, h.1⟩
  | v0 :: vs, x0 :: xs, h, i + 1, v, e => allV_at h.2 (i := i) e
  | [], _ :: _, h, _, _, _ => h.elim
  | _ :: _, [], h, _, _, _ => h.elim
theorem allV_ex {α : Type} {R R' : V → α → Prop} (hr : ∀ v x, R v x → R' v x) : ∀ {vs : List V} {xs : List α}, allV R vs xs → allV R' vs xs
  | [], [], _ => trivial
  | _ :: _, _ :: _, h => ⟨hr _ _ h.1, allV_ex hr h.2⟩
  | [], _ :: _, h => h.elim
  | _ :: _, [], h => h.elim
theorem allV_snoc {α : Type} {R : V → α → Prop} {v : V} {x : α} (h2 : R v x) : ∀ {vs : List V} {xs : List α}, allV R vs xs → allV R (vs ++ [v]) (xs ++ [x])
  | [], [], _ => ⟨h2, trivial⟩
  | _ :: _, _ :: _, h => ⟨h.1, allV_snoc h2 h.2⟩
  | [], _ :: _, h => h.elim
  | _ :: _, [], h => h.elim
theorem take_more {α : Type} {xs : List α} {i : Nat} {x : α} (h : xs[i]? = some x) : xs.take (i + 1) = xs.take i ++ [x] := by
  rw [List.take_add_one, h]
  rfl
theorem nV_get {ns : List Nat} {i : Nat} {v : V} (h : (nV ns)[i]? = some v) : ∃ x : Nat, ns[i]? = some x ∧ v = .int (x : Nat) := by
  unfold nV at h
  rw [List.getElem?_map] at h
  cases e : ns[i]? with
  | none =>
    rw [e] at h
    cases h
  | some x =>
    rw [e] at h
    exact ⟨x, rfl, (Option.some.inj h).symm⟩
def mT (K : PySem.W.Frag) (F : Hp) (G : List (Addr × HO)) (p : Addr) (xs : List V) : Prop := (p, HO.tup xs) ∈ G ∨ SqT K F p xs
def mL (K : PySem.W.Frag) (F : Hp) (G : List (Addr × HO)) (p : Addr) (xs : List V) : Prop := (p, HO.lst xs) ∈ G ∨ SqL K F p xs
theorem mT.s {F : Hp} {G : List (Addr × HO)} {p : Addr} {xs : List V} (h : mT K F G p xs) {G' : List (Addr × HO)} (s : G ⊆ G') : sU K ⟨F, G'⟩ p xs := h.elim (fun h => .inl (List.mem_iff_getElem?.mp (s h))) .inr
theorem mL.s {F : Hp} {G : List (Addr × HO)} {p : Addr} {xs : List V} (h : mL K F G p xs) {G' : List (Addr × HO)} (s : G ⊆ G') : sL K ⟨F, G'⟩ p xs := h.elim (fun h => .inl (List.mem_iff_getElem?.mp (s h))) .inr
theorem mT.sub {F : Hp} {G G' : List (Addr × HO)} {p : Addr} {xs : List V} (h : mT K F G p xs) (s : G ⊆ G') : mT K F G' p xs := h.imp_left fun h => s h
theorem mL.sub {F : Hp} {G G' : List (Addr × HO)} {p : Addr} {xs : List V} (h : mL K F G p xs) (s : G ⊆ G') : mL K F G' p xs := h.imp_left fun h => s h
theorem mT.own {F H' : Hp} {G : List (Addr × HO)} {p : Addr} {xs : List V} (h : mT K F G p xs) (o : Own ⟨F, G⟩ H') : SqT K H' p xs := o.u (h.s (List.Subset.refl _))
theorem mL.own {F H' : Hp} {G : List (Addr × HO)} {p : Addr} {xs : List V} (h : mL K F G p xs) (o : Own ⟨F, G⟩ H') : SqL K H' p xs := o.l (h.s (List.Subset.refl _))
theorem at_mid {E G : List (Addr × HO)} {x : Addr × HO} : (E ++ x :: G)[E.length]? = some x := by
  rw [List.getElem?_append_right (Nat.le_refl _), Nat.sub_self]
  rfl
theorem set_mid {E G : List (Addr × HO)} {x y : Addr × HO} : (E ++ x :: G).set E.length y = E ++ y :: G := by
  rw [List.set_append_right _ _ (Nat.le_refl _), Nat.sub_self]
  rfl
theorem lc_put {P : SH → Prop} {F : Hp} {E G : List (Addr × HO)} {D : Addr} {acc : List V} {y : V} (ha : acc.length < sizeLine) (h : P ⟨F, E ++ (D, .lst (acc ++ [y])) :: G⟩) :
    ∃ k acc', (SH.mk F (E ++ (D, .lst acc) :: G)).G[k]? = some (D, .lst acc') ∧ acc'.length < sizeLine ∧ Wk P (SH.put ⟨F, E ++ (D, .lst acc) :: G⟩ k D (.lst (acc' ++ [y]))) := by
  refine ⟨E.length, acc, at_mid, ha, ⟨_, SLe.refl _, ?_⟩⟩
  show P ⟨F, (E ++ (D, .lst acc) :: G).set E.length (D, .lst (acc ++ [y]))⟩
  rw [set_mid]
  exact h
theorem sub_mid {E G : List (Addr × HO)} {x : Addr × HO} : (E ++ G) ⊆ (E ++ x :: G) := fun z hz => (List.mem_append.mp hz).elim (fun h => List.mem_append_left _ h) fun h => List.mem_append_right _ (.tail _ h)
theorem sub_right {E G : List (Addr × HO)} : G ⊆ E ++ G := fun z hz => List.mem_append_right _ hz
theorem sub_midr {E G : List (Addr × HO)} {x : Addr × HO} : G ⊆ (E ++ x :: G) := fun z hz => List.mem_append_right _ (.tail _ hz)
theorem small_of {n m : Nat} (h : n ≤ m) (hm : m < 16777216) : n < sizeLine := Nat.lt_of_le_of_lt h hm
theorem map_more {α β : Type} {f : α → β} {xs : List α} {i : Nat} {x : α} (h : xs[i]? = some x) : (xs.take (i + 1)).map f = (xs.take i).map f ++ [f x] := by
  rw [take_more h, List.map_append]
  rfl
theorem allV_append {α : Type} {R : V → α → Prop} : ∀ {vs ws : List V} {xs ys : List α}, allV R vs xs → allV R ws ys → allV R (vs ++ ws) (xs ++ ys)
  | [], _, [], _, _, h2 => h2
  | _ :: _, _, _ :: _, _, h, h2 => ⟨h.1, allV_append h.2 h2⟩
  | [], _, _ :: _, _, h, _ => h.elim
  | _ :: _, _, [], _, h, _ => h.elim
theorem yldR_go {lo : Int} {n i : Nat} {S : SH} {k : V → SH → Prop} (h : k (.int (lo + (i : Nat))) S) : (itR lo n).yld i S k := h
theorem nm_go {i : Nat} {W : sWX} {v : V} {σ : L2.St} {S : SH} {Q : L2.St → SH → Prop} (h : Q (σ.set i (some v)) S) : sgName i W v σ S Q := h
theorem seq_go {t u : sS} {D : sEnds} {σ : L2.St} {S : SH} (h : t { D with nx := u D } σ S) : sSeq t u D σ S := h
theorem set_go {te : sE} {i : Nat} {D : sEnds} {σ : L2.St} {S : SH} (h : te D.ex σ S fun x S1 => D.nx (σ.set i (some x)) S1) : sSet te i D σ S := h
theorem ret_go {te : sE} {D : sEnds} {σ : L2.St} {S : SH} (h : te D.ex σ S D.rt) : sRet te D σ S := h
theorem op_go {r : s2} {ta tb : sE} {W : sWX} {σ : L2.St} {S : SH} {Q : V → SH → Prop} (h : ta W σ S fun x S1 => tb W σ S1 fun y S2 => r x y S2 Q) : sOp r ta tb W σ S Q := h
theorem get_n {ns : List Nat} {i : Nat} (h : i < ns.length) : ns[i]? = some (ns.getD i 0) := by
  rw [List.getD_eq_getElem?_getD, List.getElem?_eq_getElem h]
  rfl
theorem range_more (f : Nat → Nat) (i : Nat) : nV ((List.range (i + 1)).map f) = nV ((List.range i).map f) ++ [.int (f i : Nat)] := by
  rw [List.range_succ, List.map_append, nV_append]
  rfl
theorem range_len (f : Nat → Nat) (i : Nat) : (nV ((List.range i).map f)).length = i := by
  rw [nV_len, List.length_map, List.length_range]
theorem flat_more {α β : Type} {f : α → List β} {xs : List α} {i : Nat} {x : α} (h : xs[i]? = some x) : (xs.take (i + 1)).flatMap f = (xs.take i).flatMap f ++ f x := by
  rw [take_more h, List.flatMap_append, List.flatMap_singleton]
theorem app_go {F : Hp} {E G : List (Addr × HO)} {D : Addr} {acc : List V} {y : V} {Q : V → SH → Prop} (ha : acc.length < sizeLine) (h : Q .non ⟨F, E ++ (D, .lst (acc ++ [y])) :: G⟩) : mAppend (.ref D) [y] ⟨F, E ++ (D, .lst acc) :: G⟩ Q := by
  refine ⟨E.length, acc, at_mid, ha, ?_⟩
  show Q .non ⟨F, (E ++ (D, .lst acc) :: G).set E.length (D, .lst (acc ++ [y]))⟩
  rw [set_mid]
  exact h
theorem cons_go {t : sE} {r : sA} {W : sWX} {σ : L2.St} {S : SH} {Q : List V → SH → Prop} (h : t W σ S fun x S1 => r W σ S1 fun xs S2 => Q (x :: xs) S2) : sCons t r W σ S Q := h
theorem nil_go {W : sWX} {σ : L2.St} {S : SH} {Q : List V → SH → Prop} (h : Q [] S) : sNil W σ S Q := h
theorem var_go {i : Nat} {v : V} {W : sWX} {σ : L2.St} {S : SH} {Q : V → SH → Prop} (e : σ[i]? = some (some v)) (h : Q v S) : sVar i W σ S Q := by
  unfold sVar
  rw [e]
  exact h
theorem seqI_go {tl : sE} {W : sWX} {σ : L2.St} {S : SH} {R : SIt → SH → Prop} (h : tl W σ S fun x S1 => match x with | .ref a => (∃ xs, sL K S1 a xs ∧ R (itL K a xs) S1) ∨ ∃ xs, sU K S1 a xs ∧ R (itU K a xs) S1 | _ => False) : siSeq K tl W σ S R := h
theorem lst_go {t : sA} {W : sWX} {σ : L2.St} {S : SH} {Q : V → SH → Prop} (h : t W σ S fun xs S1 => xs.length ≤ sizeLine ∧ ∀ p, Q (.ref p) (S1.new p (.lst xs))) : sLst t W σ S Q := h
theorem sub_app {E G G' : List (Addr × HO)} (h : G ⊆ G') : E ++ G ⊆ E ++ G' := fun z hz => (List.mem_append.mp hz).elim (fun q => List.mem_append_left _ q) fun q => List.mem_append_right _ (h q)
theorem drop_go {te : sE} {D : sEnds} {σ : L2.St} {S : SH} (h : te D.ex σ S fun _ S1 => D.nx σ S1) : sDrop te D σ S := h
theorem mt_go {T : String} {r : sM} {to : sE} {t : sA} {W : sWX} {σ : L2.St} {S : SH} {Q : V → SH → Prop} (h : to W σ S fun x S1 => sTy K T x S1 ∧ t W σ S1 fun vs S2 => r x vs S2 Q) : sMt K T r to t W σ S Q := h
theorem range_at {f : Nat → Nat} {n d : Nat} (h : d < n) : ((List.range n).map f)[d]? = some (f d) := by
  rw [List.getElem?_map, List.getElem?_range h]
  rfl
theorem asg_go {te : sE} {g : sG} {D : sEnds} {σ : L2.St} {S : SH} (h : te D.ex σ S fun x S1 => g D.ex x σ S1 D.nx) : sAsg te g D σ S := h
theorem sub_go {F : Hp} {E G : List (Addr × HO)} {D : Addr} {acc : List V} {v : V} {j : Nat} {σ : L2.St} {Q : L2.St → SH → Prop} (hj : j < acc.length) (h : Q σ ⟨F, E ++ (D, .lst (acc.set j v)) :: G⟩) :
    ∃ n xs j', (SH.mk F (E ++ (D, .lst acc) :: G)).G[n]? = some (D, .lst xs) ∧ ixN xs.length (j : Int) = some j' ∧ Q σ (SH.put ⟨F, E ++ (D, .lst acc) :: G⟩ n D (.lst (xs.set j' v))) := by
  refine ⟨E.length, acc, j, at_mid, ixN_nat hj, ?_⟩
  show Q σ ⟨F, (E ++ (D, .lst acc) :: G).set E.length (D, .lst (acc.set j v))⟩
  rw [set_mid]
  exact h
theorem app_eq {S : SH} {F : Hp} {E G : List (Addr × HO)} {D : Addr} {acc : List V} {y : V} {Q : V → SH → Prop} (e : S = ⟨F, E ++ (D, .lst acc) :: G⟩) (ha : acc.length < sizeLine) (h : Q .non ⟨F, E ++ (D, .lst (acc ++ [y])) :: G⟩) : mAppend (.ref D) [y] S Q := by
  subst e
  exact app_go ha h
/-! ### deep values: tuples of tuples -/
mutual
inductive MD (K : PySem.W.Frag) (F : Hp) (G : List (Addr × HO)) : V → PyData → Prop
  | non : MD K F G .non .none
  | bl (b : Bool) : MD K F G (.bl b) (.bool b)
  | int (i : Int) : MD K F G (.int i) (.int i)
  | str (x : Str) : MD K F G (.str x) (.str x)
  | tup {p : Addr} {xs : List V} {ds : List PyData} : mT K F G p xs → MDs K F G xs ds → MD K F G (.ref p) (.tuple ds)
inductive MDs (K : PySem.W.Frag) (F : Hp) (G : List (Addr × HO)) : List V → List PyData → Prop
  | nil : MDs K F G [] []
  | cons {v : V} {vs : List V} {d : PyData} {ds : List PyData} : MD K F G v d → MDs K F G vs ds → MDs K F G (v :: vs) (d :: ds)
end
section
variable {F F' H : Hp} {G G' : List (Addr × HO)}
mutual
theorem MD.mono (hT : ∀ p xs, mT K F G p xs → mT K F' G' p xs) : ∀ (d : PyData) (v : V), MD K F G v d → MD K F' G' v d
  | .none, _, h => by
    cases h
    exact .non
  | .bool _, _, h => by
    cases h
    exact .bl _
  | .int _, _, h => by
    cases h
    exact .int _
  | .str _, _, h => by
    cases h
    exact .str _
  | .list _, _, h => nomatch h
  | .tuple ds, _, h => by
    cases h with
    | tup h1 h2 => exact .tup (hT _ _ h1) (MDs.mono hT ds _ h2)
  | .dict _, _, h => nomatch h
theorem MDs.mono (hT : ∀ p xs, mT K F G p xs → mT K F' G' p xs) : ∀ (ds : List PyData) (vs : List V), MDs K F G vs ds → MDs K F' G' vs ds
  | [], _, h => by
    cases h
    exact .nil
  | d :: ds, _, h => by
    cases h with
    | cons h1 h2 => exact .cons (MD.mono hT d _ h1) (MDs.mono hT ds _ h2)
end
mutual
theorem MD.dp : ∀ (d : PyData) (v : V), MD K H [] v d → Dp K H v d
  | .none, _, h => by
    cases h
    exact .non
  | .bool _, _, h => by
    cases h
    exact .bl _
  | .int _, _, h => by
    cases h
    exact .int _
  | .str _, _, h => by
    cases h
    exact .str _
  | .list _, _, h => nomatch h
  | .tuple ds, _, h => by
    cases h with
    | tup h1 h2 => exact .tup (h1.elim (fun z => nomatch z) id) (MDs.dp ds _ h2)
  | .dict _, _, h => nomatch h
theorem MDs.dp : ∀ (ds : List PyData) (vs : List V), MDs K H [] vs ds → DpAll K H vs ds
  | [], _, h => by
    cases h
    exact .nil
  | d :: ds, _, h => by
    cases h with
    | cons h1 h2 => exact .cons (MD.dp d _ h1) (MDs.dp ds _ h2)
end
theorem MD.sub {v : V} {d : PyData} (h : MD K F G v d) (s : G ⊆ G') : MD K F G' v d := h.mono (fun _ _ z => z.sub s)
theorem MDs.sub {v : List V} {d : List PyData} (h : MDs K F G v d) (s : G ⊆ G') : MDs K F G' v d := h.mono (fun _ _ z => z.sub s)
theorem MD.own {v : V} {d : PyData} (h : MD K F G v d) (o : Own ⟨F, G⟩ H) : MD K H [] v d := h.mono (fun _ _ z => .inr (z.own o))
theorem MDs.own {v : List V} {d : List PyData} (h : MDs K F G v d) (o : Own ⟨F, G⟩ H) : MDs K H [] v d := h.mono (fun _ _ z => .inr (z.own o))
theorem mT.ext {p : Addr} {xs : List V} (h : mT K F G p xs) (e : Ext F F') : mT K F' G p xs := h.imp_right fun z => SqT.up e z
theorem mL.ext {p : Addr} {xs : List V} (h : mL K F G p xs) (e : Ext F F') : mL K F' G p xs := h.imp_right fun z => SqL.up e z
theorem MD.ext {v : V} {d : PyData} (h : MD K F G v d) (e : Ext F F') : MD K F' G v d := h.mono (fun _ _ z => z.ext e)
theorem MDs.ext {v : List V} {d : List PyData} (h : MDs K F G v d) (e : Ext F F') : MDs K F' G v d := h.mono (fun _ _ z => z.ext e)
/-- F has all of H but some plain lists -/
def KeepT (F H : Hp) : Prop := ∀ a o, H a = some o → (∀ xs, o ≠ .lst xs) → F a = some o
theorem mT.low {p : Addr} {xs : List V} (h : mT K H [] p xs) (k : KeepT F H) : mT K F G p xs := h.elim (fun z => nomatch z) fun z => by
  rcases z with (z | ⟨o, z⟩) | z
  · exact .inr (.inl (.inl (k _ _ z fun _ e => nomatch e)))
  · exact .inr (.inl (.inr ⟨o, k _ _ z fun _ e => nomatch e⟩))
  · exact .inr (.inr z)
theorem MD.low {v : V} {d : PyData} (h : MD K H [] v d) (k : KeepT F H) : MD K F G v d := h.mono (fun _ _ z => z.low k)
theorem MDs.low {v : List V} {d : List PyData} (h : MDs K H [] v d) (k : KeepT F H) : MDs K F G v d := h.mono (fun _ _ z => z.low k)
theorem MD.up {v : V} {d : PyData} (h : MD K F [] v d) : MD K F G v d := h.sub fun _ z => nomatch z
theorem MDs.up {v : List V} {d : List PyData} (h : MDs K F [] v d) : MDs K F G v d := h.sub fun _ z => nomatch z
theorem MD.sD {v : V} {d : PyData} (h : MD K F G v d) {G' : List (Addr × HO)} (s : G ⊆ G') : sD K ⟨F, G'⟩ v d := fun H o => MD.dp d v ((h.sub s).own o)
theorem MDs.len : ∀ {vs : List V} {ds : List PyData}, MDs K F G vs ds → vs.length = ds.length
  | [], _, h => by
    cases h
    rfl
  | v :: vs, _, h => by
    cases h with
    | cons h1 h2 => exact congrArg (· + 1) h2.len
theorem MDs.at : ∀ {vs : List V} {ds : List PyData}, MDs K F G vs ds → ∀ {i : Nat} {v : V}, vs[i]? = some v → ∃ d, ds[i]? = some d ∧ MD K F G v d
  | [], _, h, i, v, e => nomatch e
  | v :: vs, _, h, i, u, e => by
    cases h with
    | cons h1 h2 =>
      cases i with
      | zero =>
        cases e
        exact ⟨_, rfl, h1⟩
      | succ i => exact h2.at (i := i) e
theorem MDs.get {vs : List V} {ds : List PyData} (h : MDs K F G vs ds) {i : Nat} {d : PyData} (e : ds[i]? = some d) : ∃ v, vs[i]? = some v ∧ MD K F G v d := by
  have hl : i < vs.length := by
    rw [h.len]
    exact (List.getElem?_eq_some_iff.mp e).1
  obtain ⟨d2, e2, h2⟩ := h.at (List.getElem?_eq_getElem hl)
  rw [e] at e2
  cases e2
  exact ⟨_, List.getElem?_eq_getElem hl, h2⟩
theorem MDs.app : ∀ {vs ws : List V} {ds es : List PyData}, MDs K F G vs ds → MDs K F G ws es → MDs K F G (vs ++ ws) (ds ++ es)
  | [], _, _, _, h, h' => by
    cases h
    exact h'
  | v :: vs, _, _, _, h, h' => by
    cases h with
    | cons h1 h2 => exact .cons h1 (h2.app h')
theorem MDs.snoc {vs : List V} {v : V} {ds : List PyData} {d : PyData} (h : MDs K F G vs ds) (h' : MD K F G v d) : MDs K F G (vs ++ [v]) (ds ++ [d]) := h.app (.cons h' .nil)
theorem MDs.take : ∀ {vs : List V} {ds : List PyData} (_ : MDs K F G vs ds) (n : Nat), MDs K F G (vs.take n) (ds.take n)
  | _, _, _, 0 => .nil
  | [], _, h, n + 1 => by
    cases h
    exact .nil
  | v :: vs, _, h, n + 1 => by
    cases h with
    | cons h1 h2 => exact .cons h1 (h2.take n)
theorem MDs.drop : ∀ {vs : List V} {ds : List PyData} (_ : MDs K F G vs ds) (n : Nat), MDs K F G (vs.drop n) (ds.drop n)
  | _, _, h, 0 => h
  | [], _, h, n + 1 => by
    cases h
    exact .nil
  | v :: vs, _, h, n + 1 => by
    cases h with
    | cons h1 h2 => exact h2.drop n
theorem MD.tupI {v : V} {ds : List PyData} (h : MD K F G v (.tuple ds)) : ∃ p xs, v = .ref p ∧ mT K F G p xs ∧ MDs K F G xs ds := by
  cases h with
  | tup h1 h2 => exact ⟨_, _, rfl, h1, h2⟩
theorem MD.intI {v : V} {i : Int} (h : MD K F G v (.int i)) : v = .int i := by
  cases h
  rfl
theorem MD.strI {v : V} {i : Str} (h : MD K F G v (.str i)) : v = .str i := by
  cases h
  rfl
theorem MD.nonI {v : V} (h : MD K F G v .none) : v = .non := by
  cases h
  rfl
/-- ints -/
theorem MDs.ints : ∀ {vs : List V} {ns : List Nat}, MDs K F G vs (ns.map fun n => PyData.int (n : Nat)) → vs = nV ns
  | [], [], _ => rfl
  | [], _ :: _, h => nomatch h
  | _ :: _, [], h => nomatch h
  | v :: vs, n :: ns, h => by
    cases h with
    | cons h1 h2 =>
      rw [h1.intI, h2.ints]
      rfl
theorem MDs.of_ints : ∀ ns : List Nat, MDs K F G (nV ns) (ns.map fun n => PyData.int (n : Nat))
  | [] => .nil
  | n :: ns => .cons (.int _) (MDs.of_ints ns)
end
/-! ### a reading's single steps, more -/
theorem tup_go {t : sA} {W : sWX} {σ : L2.St} {S : SH} {Q : V → SH → Prop} (h : t W σ S fun xs S1 => xs.length ≤ sizeLine ∧ ∀ p, Q (.ref p) (S1.new p (.tup xs))) : sTup t W σ S Q := h
theorem ix_t {F : Hp} {G G' : List (Addr × HO)} {p : Addr} {xs : List V} {i : Nat} {v : V} {Q : V → SH → Prop} (h : mT K F G p xs) (s : G ⊆ G') (e : xs[i]? = some v) (q : Q v ⟨F, G'⟩) : oIx K (.ref p) (.int (i : Nat)) ⟨F, G'⟩ Q := ⟨xs, v, .inr (h.s s), atI_at e, q⟩
theorem ix_l {F : Hp} {G G' : List (Addr × HO)} {p : Addr} {xs : List V} {i : Nat} {v : V} {Q : V → SH → Prop} (h : mL K F G p xs) (s : G ⊆ G') (e : xs[i]? = some v) (q : Q v ⟨F, G'⟩) : oIx K (.ref p) (.int (i : Nat)) ⟨F, G'⟩ Q := ⟨xs, v, .inl (h.s s), atI_at e, q⟩
/-- a new object in front of what is kept -/
theorem own_front {F : Hp} {E : List (Addr × HO)} {H H' : Hp} {p : Addr} {o : HO} (h : Own ⟨F, E⟩ H) (hp : H p = none) (e : Ext H H') (hp' : H' p = some o) : Own ⟨F, (p, o) :: E⟩ H' := h.new hp e hp'
/-! ### a part of a tuple, the whole too -/
section
variable {X : Cx} {W : WX} {a : Expr} {pos : Pos} {ta : sE}
def oSlT (K : PySem.W.Frag) (x : V) (lo hi : Option Int) (S : SH) (Q : V → SH → Prop) : Prop := match x with
  | .ref p => ∃ xs, sU K S p xs ∧ (HT.sIx xs.length 0 lo = 0 ∧ HT.sIx xs.length xs.length hi = xs.length → Q (.ref p) S) ∧
      (¬ (HT.sIx xs.length 0 lo = 0 ∧ HT.sIx xs.length xs.length hi = xs.length) → ∀ r, Q (.ref r) (S.new r (.tup (cutV xs lo hi))))
  | _ => False
def sSlT (K : PySem.W.Frag) (te : sE) (tl th : sO) : sE := fun W z S Q => te W z S fun x S1 => tl W z S1 fun l S2 => th W z S2 fun u S3 => oSlT K x l u S3 Q
theorem gSlT {lo hi : Option Expr} {tl th : sO} {p2 : Pos} (he : PE X a (dE W ta)) (hl : PO X lo (dO W tl)) (hu : PO X hi (dO W th)) : PE X (.Subscript a (.Slice lo hi none p2) pos) (dE W (sSlT X.K ta tl th)) :=
  PE.by (pe_slice sl_tupA he hl hu) fun z H Q ⟨S, Q', W', kw, o, h, k⟩ => ⟨S, _, W', kw, o, h, fun x S1 H1 o1 h1 => ⟨S1, _, W', kw, o1, h1, fun l S2 H2 o2 h2 => ⟨S2, _, W', kw, o2, h2, fun u S3 H3 o3 h3 => by
    unfold oSlT at h3
    split at h3
    · obtain ⟨xs, h3, h4, h5⟩ := h3
      exact ⟨_, xs, rfl, o3.u h3, fun c => k _ _ _ o3 (h4 c), fun c r hr => k _ _ _ (o3.newU hr) (h5 c r)⟩
    · exact h3.elim⟩⟩⟩
end
/-! ### the box -/
structure Bx where
  g : Addr
  gs : List Int
  ms : List Int
  st : Int
def boxG (b m : Addr) (x : Bx) : List (Addr × HO) := [(b, .lst [.ref x.g, .ref m, .int x.st]), (x.g, .lst (x.gs.map V.int)), (m, .lst (x.ms.map V.int))]
structure BoxAt (b m : Addr) (x : Bx) (H : Hp) : Prop where
  pb : H b = some (.lst [.ref x.g, .ref m, .int x.st])
  pg : H x.g = some (.lst (x.gs.map V.int))
  pm : H m = some (.lst (x.ms.map V.int))
  bg : b ≠ x.g
  bm : b ≠ m
  gm : x.g ≠ m
def wo (H : Hp) (b m : Addr) (x : Bx) : Hp := fun c => if c = b ∨ c = x.g ∨ c = m then none else H c
theorem wo_in {H : Hp} {b m : Addr} {x : Bx} {c : Addr} (h : c = b ∨ c = x.g ∨ c = m) : wo H b m x c = none := if_pos h
theorem wo_out {H : Hp} {b m : Addr} {x : Bx} {c : Addr} (h : ¬ (c = b ∨ c = x.g ∨ c = m)) : wo H b m x c = H c := if_neg h
theorem wo_some {H : Hp} {b m : Addr} {x : Bx} {c : Addr} {o : HO} (h : wo H b m x c = some o) : H c = some o ∧ ¬ (c = b ∨ c = x.g ∨ c = m) := by
  by_cases q : c = b ∨ c = x.g ∨ c = m
  · rw [wo_in q] at h
    cases h
  · exact ⟨(wo_out q).symm.trans h, q⟩
theorem BoxAt.keepT {b m : Addr} {x : Bx} {H : Hp} (h : BoxAt b m x H) : KeepT (wo H b m x) H := fun c o e n => by
  have q : ¬ (c = b ∨ c = x.g ∨ c = m) := fun q => by
    rcases q with rfl | rfl | rfl
    · rw [h.pb] at e
      cases e
      exact n _ rfl
    · rw [h.pg] at e
      cases e
      exact n _ rfl
    · rw [h.pm] at e
      cases e
      exact n _ rfl
  exact (wo_out q).trans e
theorem box_of {F : Hp} {E : List (Addr × HO)} {b m : Addr} {x : Bx} {H : Hp} (o : Own ⟨F, E ++ boxG b m x⟩ H) : BoxAt b m x H ∧ Own ⟨F, E⟩ (wo H b m x) := by
  have nd : (E.map (·.1) ++ [b, x.g, m]).Nodup := by
    have := o.nd
    rw [List.map_append] at this
    exact this
  obtain ⟨n1, n2, n3⟩ := List.nodup_append.mp nd
  have mem : ∀ q ∈ boxG b m x, q ∈ E ++ boxG b m x := fun q hq => List.mem_append_right _ hq
  have h1 := o.gs _ (mem (b, .lst [.ref x.g, .ref m, .int x.st]) (.head _))
  have h2 := o.gs _ (mem (x.g, .lst (x.gs.map V.int)) (.tail _ (.head _)))
  have h3 := o.gs _ (mem (m, .lst (x.ms.map V.int)) (.tail _ (.tail _ (.head _))))
  simp only [List.nodup_cons, List.mem_cons, List.not_mem_nil, or_false, not_or, List.nodup_nil, not_false_eq_true, and_true] at n2
  refine ⟨⟨h1.1, h2.1, h3.1, n2.1.1, n2.1.2, n2.2⟩, fun c u e => ?_, fun q hq => ?_, n1⟩
  · have ne : ¬ (c = b ∨ c = x.g ∨ c = m) := fun q => by
      have e : F c = some u := e
      rcases q with rfl | rfl | rfl
      · have := h1.2
        rw [show F c = none from this] at e
        cases e
      · have := h2.2
        rw [show F _ = none from this] at e
        cases e
      · have := h3.2
        rw [show F c = none from this] at e
        cases e
    exact (wo_out ne).trans (o.fr c u e)
  · have hh := o.gs q (List.mem_append_left _ hq)
    have hm : q.1 ∈ E.map (·.1) := List.mem_map.mpr ⟨q, hq, rfl⟩
    have ne : ¬ (q.1 = b ∨ q.1 = x.g ∨ q.1 = m) := fun z => by
      rcases z with z | z | z
      · exact n3 _ hm b (.head _) z
      · exact n3 _ hm x.g (.tail _ (.head _)) z
      · exact n3 _ hm m (.tail _ (.tail _ (.head _))) z
    exact ⟨(wo_out ne).trans hh.1, hh.2⟩
theorem box_join {F : Hp} {E : List (Addr × HO)} {b m : Addr} {x : Bx} {H : Hp} (h : BoxAt b m x H) (o : Own ⟨F, E⟩ (wo H b m x)) : Own ⟨F, E ++ boxG b m x⟩ H := by
  have fn : ∀ c, (c = b ∨ c = x.g ∨ c = m) → F c = none := fun c hc => o.f_none (wo_in hc)
  refine ⟨fun c u e => (wo_some (o.fr c u e)).1, fun q hq => ?_, ?_⟩
  · rcases List.mem_append.mp hq with hq | hq
    · exact ⟨(wo_some (o.gs q hq).1).1, (o.gs q hq).2⟩
    · cases hq with
      | head => exact ⟨h.pb, fn _ (.inl rfl)⟩
      | tail _ hq =>
        cases hq with
        | head => exact ⟨h.pg, fn _ (.inr (.inl rfl))⟩
        | tail _ hq =>
          cases hq with
          | head => exact ⟨h.pm, fn _ (.inr (.inr rfl))⟩
          | tail _ hq => nomatch hq
  · show ((E ++ boxG b m x).map (·.1)).Nodup
    rw [List.map_append]
    refine List.nodup_append.mpr ⟨o.nd, ?_, fun c hc d hd e => ?_⟩
    · show [b, x.g, m].Nodup
      simp only [List.nodup_cons, List.mem_cons, List.not_mem_nil, or_false, not_or, List.nodup_nil, not_false_eq_true, and_true]
      exact ⟨⟨h.bg, h.bm⟩, h.gm⟩
    · obtain ⟨q, hq, rfl⟩ := List.mem_map.mp hc
      have := (wo_some (o.gs q hq).1).2
      refine this ?_
      rw [e]
      cases hd with
      | head => exact .inl rfl
      | tail _ hd =>
        cases hd with
        | head => exact .inr (.inl rfl)
        | tail _ hd =>
          cases hd with
          | head => exact .inr (.inr rfl)
          | tail _ hd => nomatch hd
/-- a def that draws from the box -/
def ct_box {α : Type} (args : α → List V) (res : α → Hp → V → Hp → Prop) (ok : α → Hp → Prop) : Ct (Addr × Addr × Bx × α) where
  pre g vs H := vs = .ref g.1 :: args g.2.2.2 ∧ BoxAt g.1 g.2.1 g.2.2.1 H ∧ g.2.2.1.ms ≠ [] ∧ ok g.2.2.2 (wo H g.1 g.2.1 g.2.2.1)
  post g H v H' := ∃ y, BoxAt g.1 g.2.1 y H' ∧ y.ms ≠ [] ∧ Ext (wo H g.1 g.2.1 g.2.2.1) (wo H' g.1 g.2.1 y) ∧ res g.2.2.2 (wo H g.1 g.2.1 g.2.2.1) v (wo H' g.1 g.2.1 y)
section
variable {α : Type} {args : α → List V} {res : α → Hp → V → Hp → Prop} {ok : α → Hp → Prop}
theorem use_box {W : sWX} {vs : List V} {σ : L2.St} {F : Hp} {E : List (Addr × HO)} {b m : Addr} {x : Bx} {Q : V → SH → Prop} (g : α) (e : vs = .ref b :: args g) (hx : x.ms ≠ []) (hg : ∀ H, Own ⟨F, E⟩ H → ok g H)
    (k : ∀ y H1 v H2, y.ms ≠ [] → Own ⟨F, E⟩ H1 → Own ⟨F, E⟩ H2 → Ext H1 H2 → res g H1 v H2 → ∃ F' E', Own ⟨F', E'⟩ H2 ∧ Q v ⟨F', E' ++ boxG b m y⟩) : rC (ct_box args res ok) W vs σ ⟨F, E ++ boxG b m x⟩ Q := by
  refine ⟨(b, m, x, g), fun H o => ?_, fun H v H' o q => ?_, fun _ _ _ _ _ q => q.elim⟩
  · obtain ⟨h1, h2⟩ := box_of o
    exact ⟨e, h1, hx, hg _ h2⟩
  · obtain ⟨h1, h2⟩ := box_of o
    obtain ⟨y, q1, q2, q3, q4⟩ := q
    obtain ⟨F', E', o', q'⟩ := k y _ v _ q2 h2 (h2.ex q3) q3 q4
    exact ⟨_, box_join q1 o', q'⟩
theorem body_box {vs : List V} {H : Hp} {t : sS} {z : L2.St} (gg : Addr × Addr × Bx × α) (h : (ct_box args res ok).pre gg vs H)
    (k : ∀ (b m : Addr) (x : Bx) (g : α) (F : Hp), gg = (b, m, x, g) → F = wo H b m x → x.ms ≠ [] → ok g F → vs = .ref b :: args g → t (endsC (ct_box args res ok) gg H) z ⟨F, boxG b m x⟩) : ∃ S, Own S H ∧ t (endsC (ct_box args res ok) gg H) z S := by
  obtain ⟨b, m, x, g⟩ := gg
  obtain ⟨e, h1, h2, h3⟩ := h
  exact ⟨_, box_join (E := []) h1 (Own.base _), k b m x g _ rfl rfl h2 h3 e⟩
/-- the end of such a def -/
theorem end_box {H H' : Hp} {b m : Addr} {x y : Bx} {g : α} {E : List (Addr × HO)} {v : V} (o : Own ⟨wo H b m x, E ++ boxG b m y⟩ H') (hy : y.ms ≠ []) (hr : ∀ H2, Own ⟨wo H b m x, E⟩ H2 → res g (wo H b m x) v H2) : (ct_box args res ok).post (b, m, x, g) H v H' := by
  obtain ⟨h1, h2⟩ := box_of o
  exact ⟨y, h1, hy, fun c u e => h2.fr c u e, hr _ h2⟩
end
end
end SY
namespace SY
open PySem PySem.Spec PyProof.Rows L2
section
variable {X : Cx} {W : WX} {i o k v : Expr} {pos : Pos} {ty td tk tv : sE}
/-! ### key in dict; a dict of one entry -/
def sDInT (neg : Bool) (ty td : sE) : sT := fun W z S Q => ty W z S fun y S1 => td W z S1 fun x S2 => match x with
  | .ref p => ∃ kvs k, At S2 p (.dK kvs) ∧ y = kV k ∧ Q (if neg then !(valV kvs k).isSome else (valV kvs k).isSome) S2
  | _ => False
theorem gTDIn (hu : X.A.units + 1 < cLine) (hi : PE X i (dE W ty)) (ho : PE X o (dE W td)) (hm : behindInMarks .In o = false := by rfl) : PT X (.Compare i [.In] [o] pos) (dT W (sDInT false ty td)) :=
  PT.by (pt_cmp (pc_din hu hi ho) hm) fun z H Q ⟨S, Q', W', kw, ow, h, kk⟩ => ⟨S, _, W', kw, ow, h, fun y S1 H1 o1 h1 => ⟨S1, _, W', kw, o1, h1, fun x S2 H2 o2 h2 => by
    split at h2
    · obtain ⟨kvs, k, q1, rfl, q2⟩ := h2
      exact ⟨_, _, rfl, .inl ⟨kvs, k, .inl (o2.at q1), rfl, rfl⟩, ⟨_, rfl, kk _ _ _ o2 q2⟩⟩
    · exact h2.elim⟩⟩
theorem gTDNotIn (hu : X.A.units + 1 < cLine) (hi : PE X i (dE W ty)) (ho : PE X o (dE W td)) (hm : behindInMarks .NotIn o = false := by rfl) : PT X (.Compare i [.NotIn] [o] pos) (dT W (sDInT true ty td)) :=
  PT.by (pt_cmp (pc_dnotin hu hi ho) hm) fun z H Q ⟨S, Q', W', kw, ow, h, kk⟩ => ⟨S, _, W', kw, ow, h, fun y S1 H1 o1 h1 => ⟨S1, _, W', kw, o1, h1, fun x S2 H2 o2 h2 => by
    split at h2
    · obtain ⟨kvs, k, q1, rfl, q2⟩ := h2
      exact ⟨_, _, rfl, .inl ⟨kvs, k, .inl (o2.at q1), rfl, rfl⟩, ⟨_, rfl, kk _ _ _ o2 q2⟩⟩
    · exact h2.elim⟩⟩
def sDis1 (tk tv : sE) : sE := fun W z S Q => ∀ p, tk W z (S.new p (.dK [])) fun x S1 => tv W z S1 fun y S2 => ∃ n k, S2.G[n]? = some (p, .dK []) ∧ x = kV k ∧ Q (.ref p) (S2.put n p (.dK (putK [] k y)))
theorem gDis1 (hk : PE X k (dE W tk)) (hv : PE X v (dE W tv)) : PE X (.Dict [some k] [v] pos) (dE W (sDis1 tk tv)) :=
  PE.by (pe_disp (pps_cons hk hv pps_nil) (by rfl) (by rfl) (fun z => by cases z) (Nat.le_of_ble_eq_true rfl)) fun z H Q ⟨S, Q', W', kw, ow, h, kk⟩ => fun p hp => ⟨_, _, W', kw, ow.newU hp, h p, fun x S1 H1 o1 h1 => ⟨S1, _, W', kw, o1, h1, fun y S2 H2 o2 h2 => by
    obtain ⟨n, kx, q1, rfl, q2⟩ := h2
    exact ⟨o2.g q1, [(kx, y)], rfl, Nat.le_of_ble_eq_true rfl, kk _ _ _ (o2.putU q1) q2⟩⟩⟩
/-! ### list(x), x a text -/
def sgV (z : Str) : List V := z.cps.toList.map fun c => V.str ⟨#[c]⟩
theorem cr_listS (hc : X.calm = true) : CallR X (.type "list") (fun xs H Q => ∃ z, xs = [.str z] ∧ z.cps.size ≤ sizeLine ∧ ∀ l, H l = none → Q (.ref l) (upd H l (.lst (sgV z)))) := by
  intro pins s z0 H xs us Q I r h
  obtain ⟨z, rfl, hz, q⟩ := h
  obtain ⟨u, rfl, rx⟩ := vals1 r
  obtain ⟨t, rfl⟩ := rx
  refine PySem.call_list_str (I.ok.hd hc) z t (fun h2 tk acc c2 kp e hi => ?_) hz
  refine ⟨.ref s.heap.objs.size, _, I.laid (t' := tk) kp (Nat.le_refl _) (show ObjOk X.prog X.w _ h2 _ (.lst (sgV z)) from ⟨?_, acc.toList, c2, ?_, ?_⟩), rfl, q _ (I.hok.fresh (Nat.le_refl _))⟩
  · unfold sgV
    rw [List.length_map, Array.length_toList]
    exact hz
  · refine vals_of_at (by unfold sgV; rw [List.length_map, Array.length_toList, Array.length_toList]; exact hi.1.symm) fun j x w h1 h3 => ?_
    obtain ⟨c, k, hc2, hw⟩ := hi.2 j w (by rw [← Array.getElem?_toList]; exact h3)
    unfold sgV at h1
    rw [List.getElem?_map, Array.getElem?_toList, hc2] at h1
    have h1 : V.str ⟨#[c]⟩ = x := Option.some.inj h1
    rw [← h1]
    exact ⟨k, hw⟩
  · rw [Array.toArray_toList]
    exact e
def nListS : sN := fun vs S Q => match vs with
  | [.str z] => z.cps.size ≤ sizeLine ∧ ∀ q, Q (.ref q) (S.new q (.lst (sgV z)))
  | _ => False
theorem lListS : LiftN nListS (fun xs H Q => ∃ z, xs = [.str z] ∧ z.cps.size ≤ sizeLine ∧ ∀ l, H l = none → Q (.ref l) (upd H l (.lst (sgV z)))) := by
  intro vs S Q' H Q o h k
  unfold nListS at h
  split at h
  · exact ⟨_, rfl, h.1, fun q hq => k _ _ _ (o.newU hq) (h.2 q)⟩
  · exact h.elim
end
end SY
namespace SY
open PySem PySem.Spec PyProof.Rows L2
section
variable {X : Cx} {W : WX} {i o e value : Expr} {pos : Pos} {ty td te tv : sE}
/-! ### dicts whose keys are tuples -/
def sDctT : sE := fun _ _ S Q => ∀ p, Q (.ref p) (S.new p (.dT []))
theorem gDctT : PE X (.Dict [] [] pos) (dE W sDctT) := PE.by pe_dnewT fun z H Q ⟨S, Q', W', kw, o, h, k⟩ => fun p hp => k _ _ _ (o.newU hp) (h p)
def sDPutT (td ty tv : sE) : sS := fun D z S => tv D.ex z S fun v S1 => td D.ex z S1 fun x S2 => ty D.ex z S2 fun y S3 => match x, y with
  | .ref p, .ref b => ∃ i kvs k, S3.G[i]? = some (p, .dT kvs) ∧ At S3 b (.tup (k.map kV)) ∧ kvs.length < sizeLine ∧ D.nx z (S3.put i p (.dT (putK kvs k v)))
  | _, _ => False
theorem hDPutT {pos2 : Pos} (hu : X.A.units + 1 < cLine) (ho : PE X o (dE W td)) (hi : PE X i (dE W ty)) (hv : PE X value (dE W tv)) (hs : swapsWith value (some (.Subscript o i pos2)) pos.line X.env = pure false := by rfl) :
    PS X (.Assign [.Subscript o i pos2] value pos) (dS W (sDPutT td ty tv)) :=
  PS.by (ps_dput hu ho hi hv hs) fun D z H ⟨S, D', ow, h, k⟩ => ⟨S, _, D'.ex, k.ex, ow, h, fun v S1 H1 o1 h1 => ⟨S1, _, D'.ex, k.ex, o1, h1, fun x S2 H2 o2 h2 => ⟨S2, _, D'.ex, k.ex, o2, h2, fun y S3 H3 o3 h3 => by
    split at h3
    · obtain ⟨n, kvs, kk, q1, q2, q3, q4⟩ := h3
      exact ⟨_, _, rfl, DPut.t (o3.g q1) (o3.at q2) q3, k.nx _ _ _ (o3.putU q1) q4⟩
    · exact h3.elim⟩⟩⟩
def sDGetT (td ty : sE) : sE := fun W z S Q => td W z S fun x S1 => ty W z S1 fun y S2 => match x, y with
  | .ref p, .ref b => ∃ kvs k v, At S2 p (.dT kvs) ∧ At S2 b (.tup (k.map kV)) ∧ valV kvs k = some v ∧ Q v S2
  | _, _ => False
theorem gDGetT (hu : X.A.units + 1 < cLine) (ho : PE X o (dE W td)) (hi : PE X i (dE W ty)) (hs : NoSl i := by intro _ _; rfl) : PE X (.Subscript o i pos) (dE W (sDGetT td ty)) :=
  PE.by (pe_dget hu ho hi hs) fun z H Q ⟨S, Q', W', kw, ow, h, k⟩ => ⟨S, _, W', kw, ow, h, fun x S1 H1 o1 h1 => ⟨S1, _, W', kw, o1, h1, fun y S2 H2 o2 h2 => by
    split at h2
    · obtain ⟨kvs, kk, v, q1, q2, q3, q4⟩ := h2
      exact ⟨_, v, rfl, by rw [← q3]; exact DGet.t (o2.at q1) (o2.at q2), k _ _ _ o2 q4⟩
    · exact h2.elim⟩⟩
/-! ### a list backwards -/
def sRevL (K : PySem.W.Frag) (te : sE) : sE := fun W z S Q => te W z S fun x S1 => match x with
  | .ref a => ∃ xs, sL K S1 a xs ∧ ∀ p, Q (.ref p) (S1.new p (.lst xs.reverse))
  | _ => False
theorem gRevL {k : Nat} {p1 p2 p3 : Pos} (he : PE X e (dE W te)) : PE X (.Subscript e (.Slice none none (some (.UnaryOp .USub (.Constant (.int 1) k p1) p2)) p3) pos) (dE W (sRevL X.K te)) :=
  PE.by (pe_revL he) fun z H Q ⟨S, Q', W', kw, ow, h, k⟩ => ⟨S, _, W', kw, ow, h, fun x S1 H1 o1 h1 => by
    split at h1
    · obtain ⟨xs, q1, q2⟩ := h1
      exact ⟨_, xs, rfl, o1.l q1, fun p hp => k _ _ _ (o1.newU hp) (q2 p)⟩
    · exact h1.elim⟩
end
/-! ### a box of lists, of any shape -/
def woL (H : Hp) (L : List (Addr × HO)) : Hp := fun c => if c ∈ L.map (·.1) then none else H c
structure LAt (L : List (Addr × HO)) (H : Hp) : Prop where
  at_ : ∀ q ∈ L, H q.1 = some q.2
  nd : (L.map (·.1)).Nodup
theorem woL_in {H : Hp} {L : List (Addr × HO)} {c : Addr} (h : c ∈ L.map (·.1)) : woL H L c = none := if_pos h
theorem woL_out {H : Hp} {L : List (Addr × HO)} {c : Addr} (h : c ∉ L.map (·.1)) : woL H L c = H c := if_neg h
theorem woL_some {H : Hp} {L : List (Addr × HO)} {c : Addr} {o : HO} (h : woL H L c = some o) : H c = some o ∧ c ∉ L.map (·.1) := by
  by_cases q : c ∈ L.map (·.1)
  · rw [woL_in q] at h
    cases h
  · exact ⟨(woL_out q).symm.trans h, q⟩
theorem lbox_of {F : Hp} {E L : List (Addr × HO)} {H : Hp} (o : Own ⟨F, E ++ L⟩ H) : LAt L H ∧ Own ⟨F, E⟩ (woL H L) := by
  have nd : (E.map (·.1) ++ L.map (·.1)).Nodup := by
    have := o.nd
    rw [List.map_append] at this
    exact this
  obtain ⟨n1, n2, n3⟩ := List.nodup_append.mp nd
  have mem : ∀ q ∈ L, q ∈ E ++ L := fun q hq => List.mem_append_right _ hq
  refine ⟨⟨fun q hq => (o.gs q (mem q hq)).1, n2⟩, fun c u e => ?_, fun q hq => ?_, n1⟩
  · have e : F c = some u := e
    have ne : c ∉ L.map (·.1) := fun z => by
      obtain ⟨q, hq, rfl⟩ := List.mem_map.mp z
      have : F q.1 = none := (o.gs q (mem q hq)).2
      rw [this] at e
      cases e
    exact (woL_out ne).trans (o.fr c u e)
  · have hh := o.gs q (List.mem_append_left _ hq)
    have hm : q.1 ∈ E.map (·.1) := List.mem_map.mpr ⟨q, hq, rfl⟩
    exact ⟨(woL_out fun z => n3 _ hm _ z rfl).trans hh.1, hh.2⟩
theorem lbox_join {F : Hp} {E L : List (Addr × HO)} {H : Hp} (h : LAt L H) (o : Own ⟨F, E⟩ (woL H L)) : Own ⟨F, E ++ L⟩ H := by
  have fn : ∀ c, c ∈ L.map (·.1) → F c = none := fun c hc => o.f_none (woL_in hc)
  refine ⟨fun c u e => (woL_some (o.fr c u e)).1, fun q hq => ?_, ?_⟩
  · rcases List.mem_append.mp hq with hq | hq
    · exact ⟨(woL_some (o.gs q hq).1).1, (o.gs q hq).2⟩
    · exact ⟨h.at_ q hq, fn _ (List.mem_map.mpr ⟨q, hq, rfl⟩)⟩
  · show ((E ++ L).map (·.1)).Nodup
    rw [List.map_append]
    refine List.nodup_append.mpr ⟨o.nd, h.nd, fun c hc d hd e => ?_⟩
    obtain ⟨q, hq, rfl⟩ := List.mem_map.mp hc
    exact (woL_some (o.gs q hq).1).2 (e ▸ hd)
/-- a def that draws from such a box: bg, what stands of it; inv, what is true of it -/
structure BoxK (β : Type) where
  bg : Addr → β → List (Addr × HO)
  inv : β → Prop
def ct_lbox {α β : Type} (B : BoxK β) (args : α → List V) (res : α → Hp → V → Hp → Prop) (ok : α → Hp → Prop) : Ct (Addr × β × α) where
  pre g vs H := vs = .ref g.1 :: args g.2.2 ∧ LAt (B.bg g.1 g.2.1) H ∧ B.inv g.2.1 ∧ ok g.2.2 (woL H (B.bg g.1 g.2.1))
  post g H v H' := ∃ y, LAt (B.bg g.1 y) H' ∧ B.inv y ∧ Ext (woL H (B.bg g.1 g.2.1)) (woL H' (B.bg g.1 y)) ∧ res g.2.2 (woL H (B.bg g.1 g.2.1)) v (woL H' (B.bg g.1 y))
section
variable {α β : Type} {B : BoxK β} {args : α → List V} {res : α → Hp → V → Hp → Prop} {ok : α → Hp → Prop}
theorem use_lbox {W : sWX} {vs : List V} {σ : L2.St} {F : Hp} {E : List (Addr × HO)} {b : Addr} {x : β} {Q : V → SH → Prop} (g : α) (e : vs = .ref b :: args g) (hx : B.inv x) (hg : ∀ H, Own ⟨F, E⟩ H → ok g H)
    (k : ∀ y H1 v H2, B.inv y → Own ⟨F, E⟩ H1 → Own ⟨F, E⟩ H2 → Ext H1 H2 → res g H1 v H2 → ∃ F' E', Own ⟨F', E'⟩ H2 ∧ Q v ⟨F', E' ++ B.bg b y⟩) : rC (ct_lbox B args res ok) W vs σ ⟨F, E ++ B.bg b x⟩ Q := by
  refine ⟨(b, x, g), fun H o => ?_, fun H v H' o q => ?_, fun _ _ _ _ _ q => q.elim⟩
  · obtain ⟨h1, h2⟩ := lbox_of o
    exact ⟨e, h1, hx, hg _ h2⟩
  · obtain ⟨h1, h2⟩ := lbox_of o
    obtain ⟨y, q1, q2, q3, q4⟩ := q
    obtain ⟨F', E', o', q'⟩ := k y _ v _ q2 h2 (h2.ex q3) q3 q4
    exact ⟨_, lbox_join q1 o', q'⟩
theorem body_lbox {vs : List V} {H : Hp} {t : sS} {z : L2.St} (gg : Addr × β × α) (h : (ct_lbox B args res ok).pre gg vs H)
    (k : ∀ (b : Addr) (x : β) (g : α) (F : Hp), gg = (b, x, g) → F = woL H (B.bg b x) → B.inv x → ok g F → vs = .ref b :: args g → t (endsC (ct_lbox B args res ok) gg H) z ⟨F, B.bg b x⟩) : ∃ S, Own S H ∧ t (endsC (ct_lbox B args res ok) gg H) z S := by
  obtain ⟨b, x, g⟩ := gg
  obtain ⟨e, h1, h2, h3⟩ := h
  exact ⟨_, lbox_join (E := []) h1 (Own.base _), k b x g _ rfl rfl h2 h3 e⟩
theorem end_lbox {H H' : Hp} {b : Addr} {x y : β} {g : α} {E : List (Addr × HO)} {v : V} (o : Own ⟨woL H (B.bg b x), E ++ B.bg b y⟩ H') (hy : B.inv y) (hr : ∀ H2, Own ⟨woL H (B.bg b x), E⟩ H2 → res g (woL H (B.bg b x)) v H2) : (ct_lbox B args res ok).post (b, x, g) H v H' := by
  obtain ⟨h1, h2⟩ := lbox_of o
  exact ⟨y, h1, hy, fun c u e => h2.fr c u e, hr _ h2⟩
end
/-! ### the heap without these objects -/
def hid (G : List (Addr × HO)) (H : Hp) : Hp := fun c => if c ∈ G.map (·.1) then none else H c
def Lists (G : List (Addr × HO)) : Prop := ∀ q ∈ G, ∃ xs, q.2 = .lst xs
theorem own_le {F F' : Hp} {G : List (Addr × HO)} {H : Hp} (e : Ext F F') (o : Own ⟨F', G⟩ H) : Own ⟨F, G⟩ H := by
  refine ⟨fun c u h => o.fr c u (e c u h), fun q hq => ⟨(o.gs q hq).1, ?_⟩, o.nd⟩
  have h2 : F' q.1 = none := (o.gs q hq).2
  show F q.1 = none
  cases h : F q.1 with
  | none => rfl
  | some u =>
    rw [e _ _ h] at h2
    cases h2
theorem own_hid {F : Hp} {G : List (Addr × HO)} {H H' : Hp} (o : Own ⟨F, G⟩ H) (e : Ext H H') (hl : Lists G) : Own ⟨hid G H', G⟩ H' ∧ Ext F (hid G H') ∧ KeepT (hid G H') H' := by
  refine ⟨⟨fun c u h => ?_, fun q hq => ⟨e _ _ (o.gs q hq).1, ?_⟩, o.nd⟩, fun c u h => ?_, fun c u h n => ?_⟩
  · have h : (if c ∈ G.map (·.1) then none else H' c) = some u := h
    split at h
    · cases h
    · exact h
  · show (if q.1 ∈ G.map (·.1) then none else H' q.1) = none
    rw [if_pos (List.mem_map.mpr ⟨q, hq, rfl⟩)]
  · have ne : c ∉ G.map (·.1) := fun z => by
      obtain ⟨q, hq, rfl⟩ := List.mem_map.mp z
      have : F q.1 = none := (o.gs q hq).2
      rw [this] at h
      cases h
    show (if c ∈ G.map (·.1) then none else H' c) = some u
    rw [if_neg ne]
    exact e _ _ (o.fr c u h)
  · have ne : c ∉ G.map (·.1) := fun z => by
      obtain ⟨q, hq, rfl⟩ := List.mem_map.mp z
      obtain ⟨xs, ex⟩ := hl q hq
      have h1 := e _ _ (o.gs q hq).1
      rw [h1] at h
      exact n xs (by rw [← Option.some.inj h]; exact ex)
    show (if c ∈ G.map (·.1) then none else H' c) = some u
    rw [if_neg ne]
    exact h
theorem own_hid2 {F : Hp} {G : List (Addr × HO)} {H H' : Hp} {p : Addr} {xs : List V} (o : Own ⟨F, G⟩ H) (e : Ext H H') (hl : Lists G) (hp : H p = none) (hp' : H' p = some (.lst xs)) : Own ⟨hid ((p, .lst xs) :: G) H', (p, .lst xs) :: G⟩ H' ∧ Ext F (hid ((p, .lst xs) :: G) H') ∧ KeepT (hid ((p, .lst xs) :: G) H') H' := by
  have o1 : Own ⟨F, (p, .lst xs) :: G⟩ H' := o.new hp e hp'
  exact own_hid o1 (Ext.refl _) fun q hq => by
    cases hq with
    | head => exact ⟨_, rfl⟩
    | tail _ hq => exact hl q hq
theorem lists_cons {G : List (Addr × HO)} {p : Addr} {xs : List V} (h : Lists G) : Lists ((p, .lst xs) :: G) := fun q hq => by
  cases hq with
  | head => exact ⟨_, rfl⟩
  | tail _ hq => exact h q hq
theorem lists_nil : Lists [] := fun _ z => nomatch z
theorem lists_one {p : Addr} {xs : List V} : Lists [(p, .lst xs)] := lists_cons lists_nil
theorem lists_app {G G' : List (Addr × HO)} (h : Lists G) (h' : Lists G') : Lists (G ++ G') := fun q hq => (List.mem_append.mp hq).elim (h q) (h' q)
theorem own_F {F : Hp} {G : List (Addr × HO)} {H : Hp} (o : Own ⟨F, G⟩ H) : Ext F H := fun c u e => o.fr c u e
/-! ### single steps, more -/
section
variable {K : PySem.W.Frag}
theorem c_go {v : V} {W : sWX} {σ : L2.St} {S : SH} {Q : V → SH → Prop} (h : Q v S) : sC v W σ S Q := h
theorem ne_s {x y : Str} {c : Bool} {S : SH} {Q : V → SH → Prop} (e : decide (V.str x = V.str y) = !c) (h : Q (.bl c) S) : oNe K (.str x) (.str y) S Q := by
  show Q (.bl (!decide (V.str x = V.str y))) S
  rw [e, Bool.not_not]
  exact h
theorem eq_s {x y : Str} {c : Bool} {S : SH} {Q : V → SH → Prop} (e : decide (V.str x = V.str y) = c) (h : Q (.bl c) S) : oEq K (.str x) (.str y) S Q := by
  show Q (.bl (decide (V.str x = V.str y))) S
  rw [e]
  exact h
theorem dec_int (x y : Int) : decide (V.int x = V.int y) = decide (x = y) := decide_eq_decide.mpr ⟨V.int.inj, congrArg V.int⟩
theorem ne_i {x y : Int} {c : Bool} {S : SH} {Q : V → SH → Prop} (e : decide (x = y) = !c) (h : Q (.bl c) S) : oNe K (.int x) (.int y) S Q := by
  show Q (.bl (!decide (V.int x = V.int y))) S
  rw [dec_int, e, Bool.not_not]
  exact h
theorem eq_i {x y : Int} {c : Bool} {S : SH} {Q : V → SH → Prop} (e : decide (x = y) = c) (h : Q (.bl c) S) : oEq K (.int x) (.int y) S Q := by
  show Q (.bl (decide (V.int x = V.int y))) S
  rw [dec_int, e]
  exact h
theorem gt_i {x y : Int} {c : Bool} {S : SH} {Q : V → SH → Prop} (e : decide (y < x) = c) (h : Q (.bl c) S) : oGt (.int x) (.int y) S Q := by
  show Q (.bl (decide (y < x))) S
  rw [e]
  exact h
theorem lt_i {x y : Int} {c : Bool} {S : SH} {Q : V → SH → Prop} (e : decide (x < y) = c) (h : Q (.bl c) S) : oLt (.int x) (.int y) S Q := by
  show Q (.bl (decide (x < y))) S
  rw [e]
  exact h
theorem le_i {x y : Int} {c : Bool} {S : SH} {Q : V → SH → Prop} (e : decide (x ≤ y) = c) (h : Q (.bl c) S) : oLe (.int x) (.int y) S Q := by
  show Q (.bl (decide (x ≤ y))) S
  rw [e]
  exact h
theorem ge_i {x y : Int} {c : Bool} {S : SH} {Q : V → SH → Prop} (e : decide (y ≤ x) = c) (h : Q (.bl c) S) : oGe (.int x) (.int y) S Q := by
  show Q (.bl (decide (y ≤ x))) S
  rw [e]
  exact h
theorem rgA_set {α : Type} {g : Nat → α} {n f : Nat} {v : α} : ((List.range n).map g).set f v = (List.range n).map fun x => if x = f then v else g x := by
  refine List.ext_getElem? fun k => ?_
  rw [List.getElem?_map]
  by_cases h : f = k
  · subst h
    by_cases hl : f < n
    · rw [List.getElem?_set_self (by rw [List.length_map, List.length_range]; exact hl), List.getElem?_range hl]
      exact congrArg some (if_pos rfl).symm
    · rw [List.getElem?_eq_none (by rw [List.length_set, List.length_map, List.length_range]; omega), List.getElem?_eq_none (by rw [List.length_range]; omega)]
      rfl
  · rw [List.getElem?_set_ne h, List.getElem?_map]
    cases e : (List.range n)[k]? with
    | none => rfl
    | some x =>
      have : x = k := by
        obtain ⟨h1, h2⟩ := List.getElem?_eq_some_iff.mp e
        rw [List.getElem_range] at h2
        exact h2.symm
      subst this
      exact congrArg some (if_neg (fun z => h z.symm)).symm
theorem rgA_congr {α : Type} {g g' : Nat → α} {n : Nat} (h : ∀ x, x < n → g x = g' x) : (List.range n).map g = (List.range n).map g' := List.map_congr_left fun x hx => h x (List.mem_range.mp hx)
theorem rgA_at {α : Type} {f : Nat → α} {n d : Nat} (h : d < n) : ((List.range n).map f)[d]? = some (f d) := by
  rw [List.getElem?_map, List.getElem?_range h]
  rfl
theorem rgA_more {α : Type} (f : Nat → α) (i : Nat) : (List.range (i + 1)).map f = (List.range i).map f ++ [f i] := by
  rw [List.range_succ, List.map_append]
  rfl
theorem filter_more {p : Nat → Bool} {i : Nat} : (List.range (i + 1)).filter p = (List.range i).filter p ++ if p i then [i] else [] := by
  rw [List.range_succ, List.filter_append]
  congr 1
  rw [List.filter_cons]
  rfl
theorem filter_take {α : Type} {p : α → Bool} {l : List α} {i : Nat} {x : α} (h : l[i]? = some x) : (l.take (i + 1)).filter p = (l.take i).filter p ++ if p x then [x] else [] := by
  rw [take_more h, List.filter_append]
  congr 1
  rw [List.filter_cons]
  rfl
end
end SY
namespace SY
open PySem PySem.Spec PyProof.Rows L2
/-! ### own errors with two fields -/
def spErr2 (C : Addr) (f g : Str) : Sp := fun vs H Q _ => ∃ a v u, vs = [.ref a, v, u] ∧ H a = some (exo a C none) ∧ ∀ dx, H dx = none → dx ≠ a → Q .non (upd (upd (upd H dx (exd dx [(f, v)])) a (exo a C (some dx))) dx (exd dx [(g, u), (f, v)]))
structure ErrC2 (P : Program) (w : World) (K : PySem.W.Frag) (mg : Str → Option Value) (base : Heap) (x f g : Str) (C : Addr) : Prop where
  oex : OexC K C
  xf : XfC K C
  isc : ExcC K C
  no : PySem.W.findIn K (.ref C) f = some none
  no2 : PySem.W.findIn K (.ref C) g = some none
  gC : mg x = some (.ref C)
  ini : ∃ fI fd, PySem.W.findIn K (.ref C) "__init__" = some (some (.ref fI)) ∧ PySem.W.typeIn K (.ref fI) = some (.type "function") ∧ FnOk P w K mg base (L2.CX P w) 1 fI fd ["self", f, g] (spErr2 C f g) ∧ Binds K fd ["self", f, g] []
def sRaise2 (C : Addr) (f g : Str) (ta tb : sE) : sS := fun D σ S => ta D.ex σ S fun v S1 => tb D.ex σ S1 fun u S2 => ∀ d, D.ex (.ref C) (some d) σ (S2.new d (.xd [(g, u), (f, v)]))
theorem hRaise2 {X : Cx} {W : WX} {x f g : Str} {C : Addr} {a b : Expr} {ta tb : sE} {p pos pos2 : Pos} {k : Nat} (hc : X.calm = true) (tk : Takes X W) (T : ErrC2 X.prog X.w X.K X.mg X.base x f g C) (hr : Room (k + 2) X.A) (hg : Gl X x) (ha : PE X a (dE W ta)) (hb2 : PE X b (dE W tb))
    (hdb : (x == ("__debug__" : Str)) = false := by decide) (hs : starEach (a :: [b]) X.env = (false, eval a X.env) :: starEach [b] X.env := by rfl) (hs2 : starEach (b :: []) X.env = (false, eval b X.env) :: starEach [] X.env := by rfl) (hpl : (backTo pos (starEach [b] X.env)).any (·.1) = false := by rfl) :
    PS X (.Raise (some (.Call (.Name x p) [a, b] [] pos)) none pos2) (dS W (sRaise2 C f g ta tb)) := by
  obtain ⟨fI, fd, h1, h2, F, hb⟩ := T.ini
  refine PS.by (ps_raise hc tk (pmk_oex T.oex h1 h2 F (hr.mono (by omega)) hb .nil passL hg T.gC (pa_cons ha (pa_cons hb2 pa_nil hs2) hs) hdb hs hpl)) fun D σ H ⟨S, D', o, h, k⟩ => ⟨S, _, D'.ex, k.ex, o, h, fun v S1 H1 o1 h1 => ⟨S1, _, D'.ex, k.ex, o1, h1, fun u S2 H2 o2 h2 => ?_⟩⟩
  refine ⟨by simp, fun e he => ⟨e, v, u, rfl, upd_same, fun dx hdx hne => ⟨rfl, dx, [(g, u), (f, v)], ?_, upd_same, ?_, ?_⟩⟩⟩
  · rw [upd_ne hne.symm, upd_same]
  · rw [upd_ne hne] at hdx
    exact hdx
  · rw [upd_ne hne] at hdx
    refine k.ex _ _ _ _ _ (o2.new hdx (fun b u hb => ?_) upd_same) (h2 dx)
    have n1 : b ≠ e := ne_of_none hb he
    have n2 : b ≠ dx := ne_of_none hb hdx
    rw [upd_ne n2, del_ne n1, upd_ne n2, upd_ne n1, upd_ne n2, upd_ne n1]
    exact hb
end SY
namespace SY
open PySem PySem.Spec PyProof.Rows L2
/-! ### a written dict of the module with text keys: d[k] -/
def sIxW (kvs : List (Str × V)) (ty : sE) : sE := fun W z S Q => ty W z S fun y S1 => match y with
  | .str s => ∃ v, kvs.lookup s = some v ∧ Q v S1
  | _ => False
/-- what stands at a -/
def WriD (K : PySem.W.Frag) (w : World) (a : Addr) (kvs : List (Str × V)) : Prop := ∀ s v, kvs.lookup s = some v → KDct K w a s v
theorem gIxW {X : Cx} {W : WX} {x : Str} {a : Addr} {kvs : List (Str × V)} {i : Expr} {p pos : Pos} {ty : sE} (hg : Gl X x) (hm : X.mg x = some (.ref a)) (hd : WriD X.K X.w a kvs) (hi : PE X i (dE W ty)) (hs : PlainIx i := by intro _ _; rfl) (hdb : (x == ("__debug__" : Str)) = false := by decide) :
    PE X (.Subscript (.Name x p) i pos) (dE W (sIxW kvs ty)) :=
  PE.by (pe_ix ix_kdict (gClV (W := W) hg hm hdb) hi hs) fun z H Q ⟨S, Q', W', kw, o, h, k⟩ => ⟨S, fun x S1 => x = .ref a ∧ S1 = S, W', kw, o, ⟨rfl, rfl⟩, fun x S1 H1 o1 h1 => by
    obtain ⟨e1, e2⟩ := h1
    subst e1
    subst e2
    exact ⟨_, _, W', kw, o1, h, fun y S2 H2 o2 h2 => by
      split at h2
      · obtain ⟨v, q1, q2⟩ := h2
        exact ⟨a, _, v, rfl, rfl, hd _ _ q1, k _ _ _ o2 q2⟩
      · exact h2.elim⟩⟩
/-- the facts of a written dict -/
theorem wriD_of {K : PySem.W.Frag} {w : World} {a : Addr} {kvs : List (Str × V)} {es : Array DictEntry} {n : Nat} (h1 : K.lookup a = some ⟨.type "dict", none, .dict es n, #[]⟩) (h2 : PySem.W.KeysLit w.params es.toList) (h : ∀ q ∈ kvs, ∃ u, PySem.W.nsIn K a q.1 = some (some u) ∧ RelV q.2 u) : WriD K w a kvs := by
  intro s v e
  have m : (s, v) ∈ kvs := by
    clear h
    induction kvs with
    | nil => cases e
    | cons q kvs ih =>
      obtain ⟨k, u⟩ := q
      rw [List.lookup_cons] at e
      split at e
      · rename_i hb
        have hk : s = k := eq_of_beq hb
        subst hk
        rw [← Option.some.inj e]
        exact .head _
      · exact .tail _ (ih e)
  obtain ⟨u, q1, q2⟩ := h _ m
  exact ⟨es, n, u, h1, h2, q1, q2⟩
/-! ### single steps, by shape -/
section
variable {K : PySem.W.Frag} {t u : sT} {ta tb te : sE} {p q : sS} {D : sEnds} {W : sWX} {σ : L2.St} {S : SH} {Q : Bool → SH → Prop} {R : V → SH → Prop}
theorem ifT_go (h : t D.ex σ S fun c S1 => match c with
    | true => p D σ S1
    | false => q D σ S1) : sIfS t p q D σ S := h
theorem and_go (h : t W σ S fun c S1 => match c with
    | true => u W σ S1 Q
    | false => Q false S1) : sAnd t u W σ S Q := h
theorem or_go (h : t W σ S fun c S1 => match c with
    | true => Q true S1
    | false => u W σ S1 Q) : sOr t u W σ S Q := h
theorem not_go (h : t W σ S fun c S1 => Q (!c) S1) : sNot t W σ S Q := h
theorem tst_go (h : te W σ S fun x S1 => match x with
    | .bl b => Q b S1
    | _ => False) : sTst te W σ S Q := h
theorem tru_go (h : te W σ S fun x S1 => oTru K x S1 Q) : sTru K te W σ S Q := h
theorem ifE_go (h : t W σ S fun c S1 => match c with
    | true => ta W σ S1 R
    | false => tb W σ S1 R) : sIf t ta tb W σ S R := h
theorem calld_go {r : sWX → List V → L2.St → SH → (V → SH → Prop) → Prop} {ts : sA} (h : ts W σ S fun vs S1 => r W (vs ++ []) σ S1 R) : sCallD r [] ts W σ S R := h
theorem call1_go {r : sN} {ts : sA} (h : ts W σ S fun vs S1 => r vs S1 R) : sCall1 r ts W σ S R := h
theorem nx_go (h : D.nx σ S) : sNext D σ S := h
theorem sub_g {x y : Int} (h : R (.int (x - y)) S) : oSub (.int x) (.int y) S R := h
theorem add_g {x y : Int} (h : R (.int (x + y)) S) : oAdd (.int x) (.int y) S R := h
theorem orV_go (h : ta W σ S fun x S1 => match x with
    | .bl false => tb W σ S1 R
    | .bl true => R (.bl true) S1
    | _ => False) : sOrV ta tb W σ S R := h
theorem andV_go (h : ta W σ S fun x S1 => match x with
    | .bl true => tb W σ S1 R
    | .bl false => R (.bl false) S1
    | _ => False) : sAndV ta tb W σ S R := h
theorem cut_go (M : L2.St → SH → Prop) (h1 : p { D with nx := fun σ' => Wk (M σ') } σ S) (h2 : ∀ σ' S', M σ' S' → q D σ' S') : sCut p q D σ S := ⟨M, h1, h2⟩
end
end SY
namespace SY
open PySem PySem.Spec PyProof.Rows L2
/-! ### dict comprehensions -/
def sDc (i : sI) (g : sG) (tt : sT) (tk tv : sE) (vs : List Nat) : sE := fun W σ S Q => i W σ S fun s S1 => ∀ D, ∃ P : Nat → SH → Prop, P 0 (S1.new D (.dK [])) ∧ (∀ i S, i ≤ s.n → P i S → s.ok S) ∧
  (∀ i S, i < s.n → P i S → s.yld i S fun v S' => g noW v (wipe σ vs) S' fun σ2 S2 => wipe σ2 vs = wipe σ vs ∧ tt noW σ2 S2 fun b S3 =>
    match b with
    | true => tk noW σ2 S3 fun y S4 => tv noW σ2 S4 fun z S5 => ∃ n kvs k, y = kV k ∧ S5.G[n]? = some (D, .dK kvs) ∧ kvs.length < sizeLine ∧ Wk (P (i + 1)) (S5.put n D (.dK (putK kvs k z)))
    | false => Wk (P (i + 1)) S3) ∧ ∀ S, P s.n S → Q (.ref D) S
section
variable {X : Cx} {W : WX}
theorem lift_dc {ti : sI} {g : sG} {tt : sT} {tk tv : sE} {vs : List Nat} : ∀ σ H Q, dE W (sDc ti g tt tk tv vs) σ H Q → tDc (dI W ti) (dG NoW g) (dT NoW tt) (dE NoW tk) (dE NoW tv) vs σ H Q := fun σ H Q ⟨S, Q', W', kw, o, h, k⟩ =>
  ⟨S, _, W', kw, o, h, fun s S1 H1 J o1 j h1 => by
    intro D hD
    obtain ⟨P, h0, hok, hs, hd⟩ := h1 D
    refine ⟨fun i m H => m = s.n - i ∧ i ≤ s.n ∧ ∃ S, Own S H ∧ P i S, ⟨s.n, by simp, Nat.zero_le _, _, o1.newU hD, h0⟩, ?_⟩
    rintro i m H ⟨rfl, hi, S2, o2, p⟩
    by_cases hlt : i < s.n
    · refine .inr ⟨j.go S2 H i o2 (hok i S2 hi p) hlt, fun H' => ∃ S', Own S' H' ∧ P (i + 1) S', fun H' p' => ⟨s.n - (i + 1), by omega, rfl, hlt, p'⟩, fun x H' y => ?_⟩
      obtain ⟨S', o', q⟩ := j.yld S2 H i x H' _ o2 (hok i S2 hi p) hlt y (hs i S2 hlt p)
      refine ⟨S', _, noW, noW_imp, o', q, fun σ2 S3 H3 o3 q3 => ⟨q3.1, S3, _, noW, noW_imp, o3, q3.2, fun b S4 H4 o4 q4 => ?_⟩⟩
      cases b with
      | false =>
        obtain ⟨S0, le, q4⟩ := q4
        exact ⟨S0, le _ o4, q4⟩
      | true =>
        refine ⟨S4, _, noW, noW_imp, o4, q4, fun y S5 H5 o5 q5 => ⟨S5, _, noW, noW_imp, o5, q5, fun z S6 H6 o6 q6 => ?_⟩⟩
        obtain ⟨n, kvs, kk, z0, z1, z2, S0, le, z3⟩ := q6
        exact ⟨kvs, kk, z0, o6.g z1, z2, _, le _ (o6.putU z1), z3⟩
    · have e : i = s.n := by omega
      subst e
      exact .inl ⟨j.stop S2 H _ o2 (hok _ S2 hi p) (Nat.le_refl _), k _ _ _ o2 (hd S2 p)⟩⟩
theorem gDc {kx vx tg iter : Expr} {ifs : List Expr} {scope : Scope} {own : List (Str × Nat)} {pos : Pos} {ti : sI} {g : sG} {tt : sT} {tk tv : sE} (hc : X.calm = true) (hN : X.N.Nodup) (hi : PI X tg iter (dI W ti)) (ok : BlkOk X.N X.env.scope scope own)
    (hg : ∀ (s : Shared) (H : Hp) (C : Addr) (cl : List (Str × Addr)) (fp : List Addr), PG (X.blk s H scope (compEnvC scope cl C X.env) fp) tg (dG NoW g)) (ht : ∀ (s : Shared) (H : Hp) (C : Addr) (cl : List (Str × Addr)) (fp : List Addr), sTs (X.blk s H scope (compEnvC scope cl C X.env) fp) NoW ifs tt)
    (hk : ∀ (s : Shared) (H : Hp) (C : Addr) (cl : List (Str × Addr)) (fp : List Addr), PE (X.blk s H scope (compEnvC scope cl C X.env) fp) kx (dE NoW tk))
    (he : ∀ (s : Shared) (H : Hp) (C : Addr) (cl : List (Str × Addr)) (fp : List Addr), PE (X.blk s H scope (compEnvC scope cl C X.env) fp) vx (dE NoW tv)) (hs : ∀ x, foldedSetIterable iter X.env x = pure x := by intro _; rfl) :
    PE X (.DictComp kx vx [⟨tg, iter, ifs, 0⟩] scope pos) (dE W (sDc ti g tt tk tv (own.map (·.2)))) :=
  PE.by (pe_dc hc hN hi ok hg (fun s H C cl fp => (ht s H C cl fp).to) hk he hs) lift_dc
end
/-! ### single steps, more -/
section
variable {K : PySem.W.Frag} {S : SH} {Q : Bool → SH → Prop} {R : V → SH → Prop}
theorem otb_go {b : Bool} (h : Q b S) : oTru K (.bl b) S Q := h
theorem yesg_go {W : sWX} {σ : L2.St} (h : Q true S) : sYes W σ S Q := h
theorem ne_b {x y c : Bool} (e : decide (V.bl x = V.bl y) = !c) (h : R (.bl c) S) : oNe K (.bl x) (.bl y) S R := by
  show R (.bl (!decide (V.bl x = V.bl y))) S
  rw [e, Bool.not_not]
  exact h
end
end SY
namespace SY
open PySem PySem.Spec PyProof.Rows L2
/-! ### min of two ints -/
def nMin2 : sN := fun vs S Q => match vs with
  | [.int i, .int j] => Q (.int (if j < i then j else i)) S
  | _ => False
theorem lMin2 : LiftN nMin2 (fun xs H Q => ∃ i j, xs = [.int i, .int j] ∧ Q (.int (if j < i then j else i)) H) := by
  intro vs S Q' H Q o h k
  unfold nMin2 at h
  split at h
  · exact ⟨_, _, rfl, k _ _ _ o h⟩
  · exact h.elim
/-! ### a method of an own object, called with arguments; it can't raise here -/
section
variable {X : Cx} {W : WX} {e o : Expr} {es : List Expr} {pos apos : Pos} {te : sE} {tas : sA}
variable {sp : Sp} {r : sWX → List V → L2.St → SH → (V → SH → Prop) → Prop} {k j : Nat}
def sMetO (C : Addr) (m : Str) (r : sWX → List V → L2.St → SH → (V → SH → Prop) → Prop) (te : sE) (tas : sA) : sE := fun W z S Q => te W z S fun x S1 => match x with
  | .ref p => ∃ dx fs, At S1 p (.ins C dx fs) ∧ fs.lookup m = none ∧ tas W z S1 fun vs S2 => r (fun _ _ _ _ => False) (.ref p :: vs) z S2 Q
  | _ => False
theorem gMetO {C : Addr} {m : Str} {ps : List Str} {pl : Sem Bool} (cr : Ctr sp r) (c : L2.Cls X.K C) (T : MetC X.prog X.w X.K X.mg X.base C m ps k sp) (hr : Room j X.A) (hj : k + 1 ≤ j) (he : PE X o (dE W te)) (ha : PA X (e :: es) (dA W tas))
    (hst : starEach (e :: es) X.env = (false, eval e X.env) :: starEach es X.env := by rfl) (hpl : (backTo pos (starEach es X.env)).any (·.1) = false := by rfl)
    (ht : eval (.Call (.Attribute o m apos) (e :: es) [] pos) X.env = (do
      let ov ← eval o X.env
      standAt apos.atName
      let (f, first) ← holding [ov] (getMethod ov m pl)
      callWith pos f first (backTo pos (starEach (e :: es) X.env)) (backToKw pos (keywordEach [] X.env))) := by rfl) :
    PE X (.Call (.Attribute o m apos) (e :: es) [] pos) (dE W (sMetO C m r te tas)) := by
  obtain ⟨f, fd, hm, F, b⟩ := T.ex
  exact PE.by (pe_meth (ds := []) (dvs := []) he c hm F (hr.mono (Nat.le_of_succ_le hj)) b .nil passF ha hst hpl ht) fun z H Q ⟨S, Q', W', kw, ow, h, k⟩ => ⟨S, _, W', kw, ow, h, fun x S1 H1 o1 h1 => by
    split at h1
    · obtain ⟨dx, fs, h1, h2, h3⟩ := h1
      exact ⟨_, dx, fs, rfl, o1.at h1, h2, S1, _, W', kw, o1, h3, fun vs S2 H2 o2 q => by show sp (.ref _ :: (vs ++ [])) H2 Q _; rw [List.append_nil]; exact lift_no cr o2 q fun v S3 H3 o3 q => k _ _ _ o3 q⟩
    · exact h1.elim⟩
end
end SY
namespace SY
open PySem PySem.Spec PyProof.Rows L2
/-! ### {t: v}, t a tuple of ints and texts -/
def tDispT1 (tk tv : TE) : TE := fun σ H Q => ∀ p, H p = none → tk σ (upd H p (.dT [])) fun x H1 => tv σ H1 fun y H2 => H2 p = some (.dT []) ∧ ∃ b k, x = .ref b ∧ H2 b = some (.tup (k.map kV)) ∧ Q (.ref p) (upd H2 p (.dT (putK [] k y)))
section
variable {X : Cx} {W : WX} {k v i o : Expr} {es : List Expr} {pos : Pos}
theorem pe_dispT1 {tk tv : TE} (hu : X.A.units + 1 < cLine) (hk : PE X k tk) (hv : PE X v tv) : PE X (.Dict [some k] [v] pos) (tDispT1 tk tv) := by
  refine ⟨fun pins s σ H Q I q => ?_⟩
  have hn := I.hok.fresh (Nat.le_refl s.heap.objs.size)
  have I1 := I.laid (a := s.heap.objs.size) (o := .dT []) (h' := s.heap.push { cls := .type "dict", data := .dict #[] }) (t' := s.toks) (fun _ _ q => Heap.get?_push_of_some _ q) (Nat.le_refl _) (dt_empty s.heap I.big)
  rw [arm_eval_Dict, zip_pairTrees [some k] [v] X.env pos rfl rfl, dictDisplay_pairs (pairTrees [some k] [v] X.env pos) (fun z => nomatch z) (show 1 < 17 from by decide)]
  refine wpAny_bind (wpAny_standAt (wpAny_bind (wpAny_subDictH (knd := tupleKind (mixKind X.prog X.w)) (Q := fun d s' => wpAny (model X.prog X.w) X.A (pure (Value.ref d)) (EP X pins σ Q) X.xe s') (Nat.lt_of_succ_lt hu) (show 1 ≤ 15 from by decide) ?_)))
  refine wpAny_mono ((pps_cons hk hv pps_nil).run pins _ σ _ (fun ps H2 => match ps with
    | [(x, y)] => H2 s.heap.objs.size = some (.dT []) ∧ ∃ b k, x = .ref b ∧ H2 b = some (.tup (k.map kV)) ∧ Q (.ref s.heap.objs.size) (upd H2 s.heap.objs.size (.dT (putK [] k y)))
    | _ => False) I1 (q _ hn)) (fun ws s2 hw => ?_) fun _ _ e => e
  obtain ⟨ps, H2, I2, rel, hq⟩ := hw
  split at hq
  · rename_i x y
    obtain ⟨e, b, kk, rfl, eb, q2⟩ := hq
    cases rel with
    | @cons a b2 as bs h t =>
      cases t
      obtain ⟨u, w⟩ := b2
      obtain ⟨r1, r2⟩ := h
      have e1 : u = Value.ref b := r1
      subst e1
      obtain ⟨z, hd, xs, rel0, dd⟩ := dt_of I2.hok e
      cases rel0
      refine ⟨[(kk, b, w)], ⟨rfl, rfl, key_of I2.hok eb, trivial⟩, dd, fun h' tk dd' hs => wpAny_pure ?_⟩
      obtain ⟨q, es, ep, hq, h2, h3, h4, _, h5⟩ := dd'
      have hl : (putK [] kk y).length ≤ sizeLine := Nat.le_trans (length_putK [] kk y) (by decide)
      have new : ObjOk X.prog X.w (upd H2 s.heap.objs.size (.dT (putK [] kk y))) h' s.heap.objs.size (.dT (putK [] kk y)) := ⟨hl, hd, _, (KT.put (H := H2) (kvs := []) (xs := []) .nil kk eb r2).keeps fun c ys ec => by
        rw [upd_ne (ne_of ec e (fun z => nomatch z))]
        exact ec, q, es, ep, hq, h2, h3, h4, h5⟩
      exact ⟨.ref s.heap.objs.size, _, d_write I2 (by rw [e]; exact True.intro) hs ⟨q, hq⟩ new, rfl, q2⟩
  · exact hq.elim
def sDisT1 (tk tv : sE) : sE := fun W z S Q => ∀ p, tk W z (S.new p (.dT [])) fun x S1 => tv W z S1 fun y S2 => match x with
  | .ref b => ∃ n k, S2.G[n]? = some (p, .dT []) ∧ At S2 b (.tup (k.map kV)) ∧ Q (.ref p) (S2.put n p (.dT (putK [] k y)))
  | _ => False
theorem gDisT1 {tk tv : sE} (hu : X.A.units + 1 < cLine) (hk : PE X k (dE W tk)) (hv : PE X v (dE W tv)) : PE X (.Dict [some k] [v] pos) (dE W (sDisT1 tk tv)) :=
  PE.by (pe_dispT1 hu hk hv) fun z H Q ⟨S, Q', W', kw, ow, h, kk⟩ => fun p hp => ⟨_, _, W', kw, ow.newU hp, h p, fun x S1 H1 o1 h1 => ⟨S1, _, W', kw, o1, h1, fun y S2 H2 o2 h2 => by
    split at h2
    · obtain ⟨n, kx, q1, q2, q3⟩ := h2
      exact ⟨o2.g q1, _, kx, rfl, o2.at q2, kk _ _ _ (o2.putU q1) q3⟩
    · exact h2.elim⟩⟩
/-! ### d.update(e), both with tuples as keys -/
def mergeT (kvs more : List (List Key × V)) : List (List Key × V) := more.foldl (fun acc kv => putK acc kv.1 kv.2) kvs
theorem KT.merge {H : Hp} : ∀ {more kvs : List (List Key × V)} {ys xs : List (List Key × Addr × Value)}, KT H more ys → KT H kvs xs → KT H (mergeT kvs more) (storedAllH xs ys) := by
  intro more kvs ys xs r
  induction r generalizing kvs xs with
  | nil => intro q; exact q
  | @cons p q ps qs h t ih =>
    intro r0
    have e : KT H (putK kvs p.1 p.2) (storedH xs q.1 q.2.1 q.2.2) := by
      have := KT.put r0 p.1 h.2.1 h.2.2
      rw [← h.1]; exact this
    exact ih e
theorem length_mergeT : ∀ (more kvs : List (List Key × V)), (mergeT kvs more).length ≤ kvs.length + more.length
  | [], kvs => by show kvs.length ≤ kvs.length + 0; omega
  | p :: r, kvs => by
    have h1 := length_mergeT r (putK kvs p.1 p.2)
    have h2 := length_putK kvs p.1 p.2
    show (mergeT (putK kvs p.1 p.2) r).length ≤ _
    rw [List.length_cons]; omega
theorem valV_merge (j : List Key) : ∀ (more kvs : List (List Key × V)), (more.map (·.1)).Nodup → valV (mergeT kvs more) j = (valV more j).or (valV kvs j)
  | [], kvs, _ => rfl
  | p :: r, kvs, nd => by
    have nd := List.nodup_cons.mp (by rw [List.map_cons] at nd; exact nd)
    show valV (mergeT (putK kvs p.1 p.2) r) j = _
    rw [valV_merge j r _ nd.2, valV_put]
    by_cases e : p.1 = j
    · rw [valV_pos e, if_pos e.symm]
      have : valV r j = none := by
        cases q : valV r j with
        | none => rfl
        | some x =>
          unfold valV at q
          obtain ⟨y, hy, _⟩ := Option.map_eq_some_iff.mp q
          have h1 := List.find?_some hy
          have h2 := List.mem_of_find?_eq_some hy
          exact absurd (List.mem_map.mpr ⟨y, h2, (of_decide_eq_true h1).trans e.symm⟩) nd.1
      rw [this]
      rfl
    · rw [valV_neg e, if_neg (fun z => e z.symm)]
theorem putK_nd {kvs : List (List Key × V)} {k : List Key} {v : V} (h : (kvs.map (·.1)).Nodup) : ((putK kvs k v).map (·.1)).Nodup := by
  unfold putK
  split
  · rw [List.map_map]
    have : ((fun x : List Key × V => x.1) ∘ fun kv => if kv.1 = k then (kv.1, v) else kv) = fun x => x.1 := by
      funext x
      show (if x.1 = k then (x.1, v) else x).1 = x.1
      split <;> rfl
    rw [this]
    exact h
  · rename_i ne
    rw [List.map_append]
    refine List.nodup_append.mpr ⟨h, by simp, fun a ha b hb e => ne ?_⟩
    subst e
    obtain ⟨x, hx, ex⟩ := List.mem_map.mp ha
    have hb : a = k := List.mem_singleton.mp hb
    exact List.any_eq_true.mpr ⟨x, hx, decide_eq_true (ex.trans hb)⟩
theorem mergeT_nd : ∀ (more kvs : List (List Key × V)), (kvs.map (·.1)).Nodup → ((mergeT kvs more).map (·.1)).Nodup
  | [], kvs, h => h
  | p :: r, kvs, h => mergeT_nd r _ (putK_nd h)
def rUpdT : V → List V → Hp → VK → Prop := fun x vs H Q => ∃ (a b : Addr) (kvs more : List (List Key × V)), x = .ref a ∧ vs = [.ref b] ∧ a ≠ b ∧ H a = some (.dT kvs) ∧ Rd H b (.dT more) ∧ kvs ≠ [] ∧ kvs.length + more.length ≤ sizeLine ∧ Q .non (upd H a (.dT (mergeT kvs more)))
theorem mt_updT (hu : X.A.units + 1 < cLine) : MtR X "dict.update" rUpdT := by
  intro pins s σ H x xs v us Q I rx rxs h
  obtain ⟨a, b, kvs, more, rfl, rfl, ne, hA, hB, hk, hz, q⟩ := h
  cases rx
  obtain ⟨u, rfl, ru⟩ := vals1 rxs
  cases ru
  obtain ⟨z1, hd1, x1, r1, d1⟩ := dt_of I.hok hA
  obtain ⟨z2, hd2, x2, r2, d2⟩ := dt_rd I.hok hB
  have hx1 : x1 ≠ [] := fun e => by
    subst e
    cases r1
    exact hk rfl
  refine call_update_dictH (knd := tupleKind (mixKind X.prog X.w)) (tupleKind_room_in1 hu) ne hd2 d1 d2 (.inl hx1) (by rw [← Paired.length r1, ← Paired.length r2]; exact hz) fun h' dd' _ hs => ?_
  obtain ⟨p, es, ep, hp, h2, h3, h4, _, h5⟩ := dd'
  have hl : (mergeT kvs more).length ≤ sizeLine := Nat.le_trans (length_mergeT more kvs) hz
  have new : ObjOk X.prog X.w (upd H a (.dT (mergeT kvs more))) h' a (.dT (mergeT kvs more)) := ⟨hl, hd1, _, (KT.merge r2 r1).keeps fun c ys ec => by
    rw [upd_ne (ne_of ec hA (fun z => nomatch z))]
    exact ec, p, es, ep, hp, h2, h3, h4, h5⟩
  exact ⟨.non, _, d_write (t' := s.toks) I (by rw [hA]; exact True.intro) hs ⟨p, hp⟩ new, rfl, q⟩
def mUpdT : sM := fun x vs S Q => match x, vs with
  | .ref p, [.ref b] => ∃ i kvs more, S.G[i]? = some (p, .dT kvs) ∧ S.F b = some (.dT more) ∧ kvs ≠ [] ∧ kvs.length + more.length ≤ sizeLine ∧ Q .non (S.put i p (.dT (mergeT kvs more)))
  | _, _ => False
theorem lUpdT : LiftM mUpdT rUpdT := by
  intro x vs S Q' H Q o h k
  unfold mUpdT at h
  split at h
  · obtain ⟨i, kvs, more, h1, h2, h3, h4, h5⟩ := h
    refine ⟨_, _, kvs, more, rfl, rfl, fun e => ?_, o.g h1, .inl (o.fr _ _ h2), h3, h4, k _ _ _ (o.putU h1) h5⟩
    subst e
    have := (o.gs _ (List.mem_of_getElem? h1)).2
    rw [show S.F _ = none from this] at h2
    cases h2
  · exact h.elim
/-! ### t in d, t a tuple -/
def sDInP (neg : Bool) (ty td : sE) : sT := fun W z S Q => ty W z S fun y S1 => td W z S1 fun x S2 => match x, y with
  | .ref p, .ref b => ∃ kvs k, At S2 p (.dT kvs) ∧ At S2 b (.tup (k.map kV)) ∧ Q (if neg then !(valV kvs k).isSome else (valV kvs k).isSome) S2
  | _, _ => False
theorem gTDInP {ty td : sE} (hu : X.A.units + 1 < cLine) (hi : PE X i (dE W ty)) (ho : PE X o (dE W td)) (hm : behindInMarks .In o = false := by rfl) : PT X (.Compare i [.In] [o] pos) (dT W (sDInP false ty td)) :=
  PT.by (pt_cmp (pc_din hu hi ho) hm) fun z H Q ⟨S, Q', W', kw, ow, h, kk⟩ => ⟨S, _, W', kw, ow, h, fun y S1 H1 o1 h1 => ⟨S1, _, W', kw, o1, h1, fun x S2 H2 o2 h2 => by
    split at h2
    · obtain ⟨kvs, k, q1, q2, q3⟩ := h2
      exact ⟨_, _, rfl, DGet.t (o2.at q1) (o2.at q2), ⟨_, rfl, kk _ _ _ o2 q3⟩⟩
    · exact h2.elim⟩⟩
theorem gTDNotInP {ty td : sE} (hu : X.A.units + 1 < cLine) (hi : PE X i (dE W ty)) (ho : PE X o (dE W td)) (hm : behindInMarks .NotIn o = false := by rfl) : PT X (.Compare i [.NotIn] [o] pos) (dT W (sDInP true ty td)) :=
  PT.by (pt_cmp (pc_dnotin hu hi ho) hm) fun z H Q ⟨S, Q', W', kw, ow, h, kk⟩ => ⟨S, _, W', kw, ow, h, fun y S1 H1 o1 h1 => ⟨S1, _, W', kw, o1, h1, fun x S2 H2 o2 h2 => by
    split at h2
    · obtain ⟨kvs, k, q1, q2, q3⟩ := h2
      exact ⟨_, _, rfl, DGet.t (o2.at q1) (o2.at q2), ⟨_, rfl, kk _ _ _ o2 q3⟩⟩
    · exact h2.elim⟩⟩
/-! ### a def called without arguments; it can't raise here -/
def sCall0 (r : sWX → List V → L2.St → SH → (V → SH → Prop) → Prop) : sE := fun W z S Q => r (fun _ _ _ _ => False) [] z S Q
theorem gCall0 {sp : Sp} {r : sWX → List V → L2.St → SH → (V → SH → Prop) → Prop} {x : Str} {p : Pos} {lv j : Nat} (c : Ctr sp r) (T : DefC X.prog X.w X.K X.mg X.base x [] lv [] sp) (hr : Room j X.A) (hj : lv ≤ j) (hg : Gl X x) (hdb : (x == ("__debug__" : Str)) = false := by decide) :
    PE X (.Call (.Name x p) [] [] pos) (dE W (sCall0 r)) := by
  obtain ⟨f, fd, dus, hm, hk, F, hd, hb⟩ := T.ex
  cases hd
  exact PE.by (pe_call0 (ds := []) (dvs := []) F (hr.mono hj) hg hm hk hb .nil passF hdb) fun z H Q ⟨S, Q', W', kw, ow, h, k⟩ => lift_no c ow h fun v S3 H3 o3 q => k _ _ _ o3 q
/-! ### a, b = x, y: stored from the right -/
def sPar (i j : Nat) (ta : sA) : sS := fun D z S => ta D.ex z S fun vs S1 => match vs with
  | [v, w] => D.nx ((z.set i (some v)).set j (some w)) S1
  | _ => False
theorem hPar {i j : Nat} {x y : Str} {a b : Expr} {ta : sA} {px py pt : Pos} {kt k2 pt2} (hc : X.calm = true) (hN : X.N.Nodup) (hi : X.N[i]? = some x) (hj : X.N[j]? = some y) (hij : i ≠ j)
    (hx : X.env.scope.names.lookup x = some .local) (hy : X.env.scope.names.lookup y = some .local) (ha : PA X [a, b] (dA W ta))
    (hw : swappedStores [.Tuple [.Name x px, .Name y py] kt pt] (.Tuple [a, b] k2 pt2) X.env = pure (some [x, y]) := by rfl)
    (hs : swapsWithSole [.Tuple [.Name x px, .Name y py] kt pt] (.Tuple [a, b] k2 pt2) pos.line X.env = pure false := by rfl) :
    PS X (.Assign [.Tuple [.Name x px, .Name y py] kt pt] (.Tuple [a, b] k2 pt2) pos) (dS W (sPar i j ta)) :=
  PS.by (ps_par hc hN hi hj hij hx hy ha hw hs) fun D z H ⟨S, D', ow, h, k⟩ => ⟨S, _, D'.ex, k.ex, ow, h, fun vs S1 H1 o1 h1 => by
    split at h1
    · exact ⟨_, _, rfl, k.nx _ _ _ o1 h1⟩
    · exact h1.elim⟩
/-! ### x.upper() -/
def mUpper : sM := fun x vs S Q => match x, vs with
  | .str a, [] => a.length ≤ 5592405 ∧ Q (.str (Txt.upper a)) S
  | _, _ => False
theorem lUpper : LiftM mUpper (fun x xs H Q => ∃ a, x = .str a ∧ xs = [] ∧ a.length ≤ 5592405 ∧ Q (.str (Txt.upper a)) H) := by
  intro x vs S Q' H Q o h k
  unfold mUpper at h
  split at h
  · exact ⟨_, rfl, rfl, h.1, k _ _ _ o h.2⟩
  · exact h.elim
/-! ### isinstance(e, (c1, c2, ..)), e the error that the suite holds -/
def rIsYT (K : PySem.W.Frag) (a : Addr) (cls : Value) (d : Option Addr) : List V → Hp → VK → Prop := fun xs H Q => ∃ (D dd tp : Addr) (cs : List V) (us : List Value) (b : Bool) (fs : List (Str × V)), cls = .ref D ∧ d = some dd ∧ ExcC K D ∧ xs = [.ref a, .ref tp] ∧ H dd = some (.xd fs) ∧ H tp = some (.tup cs) ∧ Paired ClsV cs us ∧
  PySem.W.kitAny K (.ref D) us = some b ∧ Q (.bl b) H
theorem call_isYT {a : Addr} {cls : Value} {d : Option Addr} {oe : Obj} {pn : List (Addr × Obj)} (hz : Zc cls d oe) (hf : ∃ vs, oe.data = .fields vs) : CallR (X.suite a ((a, oe) :: pn)) (.builtin "isinstance") (rIsYT X.K a cls d) := by
  intro pins s σ H xs us Q I r h
  obtain ⟨D, dd, tp, cs, ws, b, fs, rfl, rfl, C, rfl, hd, hT, k, e, q⟩ := h
  obtain ⟨u1, u2, rfl, r1, r2⟩ := vals2 r
  cases (show u1 = Value.ref a from r1)
  cases (show u2 = Value.ref tp from r2)
  obtain ⟨hget, _⟩ := I.pin (a, oe) (List.mem_append.mpr (.inl List.mem_cons_self))
  obtain ⟨vs, hv⟩ := hf
  have hx : ObjOk X.prog X.w H s.heap dd (.xd fs) := I.hok dd _ hd
  obtain ⟨mA, hns, hr⟩ := hx
  obtain ⟨od, ho, hl⟩ := lookIn_ns hns
  have J : PySem.W.InstAt s.heap a oe D (some od) := ⟨hget, hz.1, by unfold PySem.W.notCls; rw [hv] <;> rfl, by rw [hz.2]; exact ho⟩
  obtain ⟨_, its, rv, o, h1, h2, n, h3⟩ := (show ObjOk X.prog X.w H s.heap tp (.tup cs) from I.hok tp _ hT)
  have e3 := ClsV.all k rv
  subst e3
  obtain ⟨oc, od2, dt, sl⟩ := o
  simp only at h2 h3
  subst h2 h3
  exact PySem.W.kia_tup (PySem.W.sy_kitx C.hg C.hk C.hs C.hd C.ha C.hn C.ht C.hm) I.kIn J h1 e (fun z => nomatch z) fun tk => ⟨.bl b, H, I.kept (t' := tk) fun _ _ z => z, rfl, q⟩
def nIsYT (K : PySem.W.Frag) (a : Addr) (cls : Value) (d : Option Addr) : sN := fun vs S Q => match vs with
  | [.ref p, .ref tp] => p = a ∧ ∃ (D dd : Addr) (cs : List V) (us : List Value) (b : Bool) (fs : List (Str × V)), cls = .ref D ∧ d = some dd ∧ ExcC K D ∧ At S dd (.xd fs) ∧ At S tp (.tup cs) ∧ Paired ClsV cs us ∧ PySem.W.kitAny K (.ref D) us = some b ∧ Q (.bl b) S
  | _ => False
theorem lIsYT {K : PySem.W.Frag} {a : Addr} {cls : Value} {d : Option Addr} : LiftN (nIsYT K a cls d) (rIsYT K a cls d) := by
  intro vs S Q' H Q o h k
  unfold nIsYT at h
  split at h
  · obtain ⟨rfl, D, dd, cs, us, b, fs, h1, h2, h3, h4, h5, h6, h7, h8⟩ := h
    exact ⟨D, dd, _, cs, us, b, fs, h1, h2, h3, rfl, o.at h4, o.at h5, h6, h7, k _ _ _ o h8⟩
  · exact h.elim
theorem gIsYT {a : Addr} {cls : Value} {d : Option Addr} {oe : Obj} {pn : List (Addr × Obj)} (hz : Zc cls d oe) (hf : ∃ vs, oe.data = .fields vs) {x : Expr} {p : Pos} {tas : sA} (hg : Gl (X.suite a ((a, oe) :: pn)) "isinstance") (hm : X.mg "isinstance" = none) (ha : PA (X.suite a ((a, oe) :: pn)) (x :: es) (dA W tas))
    (he : starEach (x :: es) X.env = (false, eval x X.env) :: starEach es X.env := by rfl) (hpl : (backTo pos (starEach es X.env)).any (·.1) = false := by rfl) :
    PE (X.suite a ((a, oe) :: pn)) (.Call (.Name "isinstance" p) (x :: es) [] pos) (dE W (sCall1 (nIsYT X.K a cls d) tas)) := gB (X := X.suite a ((a, oe) :: pn)) (call_isYT hz hf) lIsYT hg hm (by decide +kernel) ha (by decide) (by decide) he hpl
end
end SY
/-! generators that sleep stay as they are while others run: a run over sleeping generators that cannot be woken is a run over the true ones -/
namespace GL
open PySem
open Sem (wp)

def FNo (fs : List Frame) : Prop := splitAtGen fs = none
theorem FNo.nil : FNo [] := rfl
theorem FNo.tail {F : Frame} {fs : List Frame} (h : FNo (F :: fs)) : FNo fs := by
  cases F with
  | ret => 
    unfold FNo splitAtGen at h
    cases e : splitAtGen fs with
    | none => exact e
    | some x => rw [e] at h; cases h
  | gen => cases h
theorem FNo.ret {k : Result → Sem PySem.Fin} {h : Option Value} {g : Bool} {l : List Value} {c : Code} {p : Pos} {kp : List Value} {fs : List Frame} (q : FNo fs) : FNo (.ret k h g l c p kp :: fs) := by
  unfold FNo splitAtGen
  rw [show splitAtGen fs = none from q]
  rfl
theorem FNo.append : ∀ {fs gs : List Frame}, FNo fs → FNo gs → FNo (fs ++ gs)
  | [], _, _, h => h
  | .ret .. :: fs, gs, h, q => FNo.ret (FNo.append (fs := fs) h.tail q)
  | .gen .. :: _, _, h, _ => nomatch h
theorem FNo.gen {g : Nat} {k : GenResult → Sem PySem.Fin} {l : List Value} {c : Code} {p : Pos} {fs : List Frame} (h : FNo (.gen g k l c p :: fs)) : False := nomatch h

def GNo : GenState → Prop
  | .suspended _ _ _ _ fs _ => FNo fs
  | _ => True
def ENo : End → Prop
  | .susp _ _ _ _ _ _ fs => FNo fs
  | .ret _ => True
theorem ENo.genState {e : End} (h : ENo e) : GNo e.genState := by
  cases e with
  | ret => trivial
  | susp => exact h
def Stuck : GenState → Prop
  | .suspended k _ _ _ fs _ => FNo fs ∧ ∀ r, ∃ t, k r = .unsupported t
  | _ => False

structure OkG (T : Nat → Option GenState) (s : Shared) : Prop where
  no : ∀ (i : Nat) (x : GenState), s.gens[i]? = some x → GNo x
  at' : ∀ (i : Nat) (st : GenState), T i = some st → ∃ x, s.gens[i]? = some x ∧ Stuck x ∧ x.seen = st.seen

def lift (T : Nat → Option GenState) (s : Shared) : Shared := { s with gens := s.gens.mapIdx fun i x => (T i).getD x }

section
variable {T : Nat → Option GenState} {s : Shared}
theorem lift_gens (g : Nat) : (lift T s).gens[g]? = s.gens[g]?.map fun x => (T g).getD x := by
  show (s.gens.mapIdx _)[g]? = _
  rw [Array.getElem?_mapIdx]
theorem lift_size : (lift T s).gens.size = s.gens.size := by
  show (s.gens.mapIdx _).size = _
  rw [Array.size_mapIdx]
theorem lift_none {g : Nat} {st : GenState} (h : s.gens[g]? = some st) (hT : T g = none) : (lift T s).gens[g]? = some st := by
  rw [lift_gens, h, hT]; rfl
theorem OkG.lt (ok : OkG T s) : T s.gens.size = none := by
  cases e : T s.gens.size with
  | none => rfl
  | some st =>
    obtain ⟨x, h, _⟩ := ok.at' _ st e
    rw [Array.getElem?_eq_none (Nat.le_refl _)] at h
    cases h
theorem OkG.none_of (ok : OkG T s) {g : Nat} {st : GenState} (h : s.gens[g]? = some st) (hs : ¬ Stuck st) : T g = none := by
  cases e : T g with
  | none => rfl
  | some st' =>
    obtain ⟨x, h', q, _⟩ := ok.at' _ st' e
    rw [h] at h'; cases h'
    exact (hs q).elim
theorem lift_set {g : Nat} {x : GenState} (hT : T g = none) : lift T (s.setGen g x) = (lift T s).setGen g x := by
  show ({ s with gens := (s.gens.setIfInBounds g x).mapIdx _ } : Shared) = { s with gens := (s.gens.mapIdx _).setIfInBounds g x }
  rw [Array.mapIdx_setIfInBounds, hT]
  rfl
theorem OkG.set (ok : OkG T s) {g : Nat} {x : GenState} (hT : T g = none) (hx : GNo x) : OkG T (s.setGen g x) := by
  have e : ∀ (i : Nat) (y : GenState), (s.setGen g x).gens[i]? = some y → s.gens[i]? = some y ∨ y = x := fun i y h => by
    have h : (s.gens.setIfInBounds g x)[i]? = some y := h
    by_cases z : g = i
    · subst z
      by_cases hl : g < s.gens.size
      · rw [Array.getElem?_setIfInBounds_self_of_lt hl] at h
        cases h; exact .inr rfl
      · rw [Array.getElem?_eq_none (by simp; omega)] at h
        cases h
    · rw [Array.getElem?_setIfInBounds_ne z] at h
      exact .inl h
  refine ⟨fun i y h => ?_, fun i st h => ?_⟩
  · rcases e i y h with h | rfl
    · exact ok.no i y h
    · exact hx
  · obtain ⟨y, h1, h2⟩ := ok.at' i st h
    refine ⟨y, ?_, h2⟩
    show (s.gens.setIfInBounds g x)[i]? = _
    rw [Array.getElem?_setIfInBounds_ne (fun z => by rw [← z, hT] at h; cases h)]
    exact h1
theorem lift_push (ok : OkG T s) {x : GenState} : lift T { s with gens := s.gens.push x } = { lift T s with gens := (lift T s).gens.push x } := by
  show ({ s with gens := (s.gens.push x).mapIdx _ } : Shared) = { s with gens := (s.gens.mapIdx _).push x }
  rw [Array.mapIdx_push, ok.lt]
  rfl
theorem OkG.push (ok : OkG T s) {x : GenState} (hx : GNo x) : OkG T { s with gens := s.gens.push x } := by
  refine ⟨fun i y h => ?_, fun i st h => ?_⟩
  · have h : (s.gens.push x)[i]? = some y := h
    rw [Array.getElem?_push] at h
    split at h
    · cases h; exact hx
    · exact ok.no i y h
  · obtain ⟨y, h1, h2⟩ := ok.at' i st h
    refine ⟨y, ?_, h2⟩
    show (s.gens.push x)[i]? = _
    rw [Array.getElem?_push, if_neg (fun z => by rw [z, Array.getElem?_eq_none (Nat.le_refl _)] at h1; cases h1)]
    exact h1
theorem lift_seen (ok : OkG T s) {g : Nat} {st : GenState} (hg : s.gens[g]? = some st) : ∃ st', (lift T s).gens[g]? = some st' ∧ st'.seen = st.seen := by
  cases hT : T g with
  | none => exact ⟨st, lift_none hg hT, rfl⟩
  | some st' =>
    obtain ⟨x, h1, _, h3⟩ := ok.at' g st' hT
    rw [hg] at h1; cases h1
    exact ⟨st', by rw [lift_gens, hg, hT]; rfl, h3.symm⟩
/-- the same generators -/
theorem OkG.of (ok : OkG T s) {s' : Shared} (h : s'.gens = s.gens) : OkG T s' := ⟨by rw [h]; exact ok.no, by rw [h]; exact ok.at'⟩
end

theorem no_unsup {M : Model} {Γ : Ctx} {p : Pos} {t : Sem PySem.Fin} {fs : List Frame} {s s' : Shared} {e : End} (h : Runs M Γ p t fs s e s') : ∀ tag, t ≠ .unsupported tag := by
  induction h with
  | segRet _ _ ih _ => exact ih
  | segGen _ _ ih _ => exact ih
  | segSuspOut _ _ ih => exact ih
  | segSuspGen _ _ _ _ ih _ => exact ih
  | _ => intro tag z; cases z

theorem stuck_no {M : Model} {Γ : Ctx} {p : Pos} {k : Resume → Sem PySem.Fin} {l : List Value} {c : Code} {p0 : Pos} {fs0 : List Frame} {cl : Bool} {r : Resume} {fs : List Frame} {s s' : Shared} {e : End} (hs : Stuck (.suspended k l c p0 fs0 cl)) (h : Runs M Γ p (k r) fs s e s') : False := by
  obtain ⟨t, ht⟩ := hs.2 r
  exact no_unsup h t ht

theorem runs_lift {M : Model} {T : Nat → Option GenState} {Γ : Ctx} {p : Pos} {t : Sem PySem.Fin} {fs : List Frame} {s s' : Shared} {e : End} (h : Runs M Γ p t fs s e s') : FNo fs → OkG T s → Runs M Γ p t fs (lift T s) e (lift T s') ∧ OkG T s' ∧ ENo e := by
  induction h with
  | done => exact fun _ ok => ⟨.done, ok, trivial⟩
  | raise => exact fun _ ok => ⟨.raise, ok, trivial⟩
  | again hq _ ih => exact fun hf ok => ⟨.again hq (ih hf ok).1, (ih hf ok).2⟩
  | rule _ ih => exact fun hf ok => ⟨.rule (ih hf ok).1, (ih hf ok).2⟩
  | «at» _ ih => exact fun hf ok => ⟨.at (ih hf ok).1, (ih hf ok).2⟩
  | load ho _ ih => exact fun hf ok => ⟨.load ho (ih hf ok).1, (ih hf ok).2⟩
  | update ho _ ih => exact fun hf ok => ⟨.update ho (ih hf (ok.of rfl)).1, (ih hf (ok.of rfl)).2⟩
  | loadIfAlive _ ih => exact fun hf ok => ⟨.loadIfAlive (ih hf ok).1, (ih hf ok).2⟩
  | point _ ih => exact fun hf ok => ⟨.point (ih hf ok).1, (ih hf ok).2⟩
  | alloc _ ih => exact fun hf ok => ⟨.alloc (ih hf (ok.of rfl)).1, (ih hf (ok.of rfl)).2⟩
  | fresh _ ih => exact fun hf ok => ⟨.fresh (ih hf (ok.of rfl)).1, (ih hf (ok.of rfl)).2⟩
  | ask _ ih => exact fun hf ok => ⟨.ask (ih hf ok).1, (ih hf ok).2⟩
  | choose hn _ ih => exact fun hf ok => ⟨.choose hn (ih hf (ok.of rfl)).1, (ih hf (ok.of rfl)).2⟩
  | os _ ih => exact fun hf ok => ⟨.os (ih hf (ok.of rfl)).1, (ih hf (ok.of rfl)).2⟩
  | handled _ ih => exact fun hf ok => ⟨.handled (ih hf ok).1, (ih hf ok).2⟩
  | genState hg _ ih =>
    intro hf ok
    obtain ⟨st', h1, h2⟩ := lift_seen ok hg
    refine ⟨.genState h1 ?_, (ih hf ok).2⟩
    rw [h2]
    exact (ih hf ok).1
  | stack _ ih => exact fun hf ok => ⟨.stack (ih hf ok).1, (ih hf ok).2⟩
  | thread _ ih => exact fun hf ok => ⟨.thread (ih hf ok).1, (ih hf ok).2⟩
  | newGen _ ih =>
    intro hf ok
    have q := ih hf (ok.push trivial)
    refine ⟨.newGen ?_, q.2⟩
    have q1 := q.1
    rw [lift_push ok] at q1
    rw [lift_size]
    exact q1
  | call _ _ ih1 ih2 =>
    intro hf ok
    have q1 := ih1 .nil ok
    have q2 := ih2 hf q1.2.1
    exact ⟨.call q1.1 q2.1, q2.2⟩
  | callSusp _ ih1 =>
    intro hf ok
    have q1 := ih1 .nil ok
    exact ⟨.callSusp q1.1, q1.2.1, FNo.append q1.2.2 (.ret .nil)⟩
  | yield => exact fun hf ok => ⟨.yield, ok, FNo.nil⟩
  | @resumeFresh Γ p g l k s c e₁ s₁ e s' hg _ hq _ ih1 ih2 =>
    intro hf ok
    have hT := ok.none_of hg id
    have q1 := ih1 .nil (ok.set hT trivial)
    have q2 := ih2 hf (q1.2.1.set hT q1.2.2.genState)
    rw [lift_set hT] at q1 q2
    exact ⟨.resumeFresh (lift_none hg hT) q1.1 hq q2.1, q2.2⟩
  | @resumeSuspended Γ p g r l k s k₀ l₀ c₀ p₀ fs cl e₁ s₁ e s' hg hr hq _ ih1 ih2 =>
    intro hf ok
    have hT := ok.none_of hg fun hs => stuck_no hs hr
    have q1 := ih1 (ok.no g _ hg) (ok.set hT trivial)
    have q2 := ih2 hf (q1.2.1.set hT q1.2.2.genState)
    rw [lift_set hT] at q1 q2
    exact ⟨.resumeSuspended (lift_none hg hT) q1.1 hq q2.1, q2.2⟩
  | resumeJustStarted hg hv _ ih =>
    intro hf ok
    have hT := ok.none_of hg id
    exact ⟨.resumeJustStarted (lift_none hg hT) hv (ih hf ok).1, (ih hf ok).2⟩
  | resumeThrowFresh hg _ ih =>
    intro hf ok
    have hT := ok.none_of hg id
    have q := ih hf (ok.set hT trivial)
    rw [lift_set hT] at q
    exact ⟨.resumeThrowFresh (lift_none hg hT) q.1, q.2⟩
  | resumeRunning hg _ ih =>
    intro hf ok
    have hT := ok.none_of hg id
    exact ⟨.resumeRunning (lift_none hg hT) (ih hf ok).1, (ih hf ok).2⟩
  | resumeFinished hg _ ih =>
    intro hf ok
    have hT := ok.none_of hg id
    exact ⟨.resumeFinished (lift_none hg hT) (ih hf ok).1, (ih hf ok).2⟩
  | segRet _ _ ih1 ih2 =>
    intro hf ok
    have q1 := ih1 .nil ok
    have q2 := ih2 hf.tail q1.2.1
    exact ⟨.segRet q1.1 q2.1, q2.2⟩
  | segGen => exact fun hf _ => hf.gen.elim
  | segSuspOut hs _ ih1 =>
    intro hf ok
    have q1 := ih1 .nil ok
    exact ⟨.segSuspOut hs q1.1, q1.2.1, FNo.append q1.2.2 hf⟩
  | segSuspGen hs => exact fun hf _ => by rw [show splitAtGen _ = none from hf] at hs; cases hs

theorem wakes_lift {M : Model} {T : Nat → Option GenState} {Γ : Ctx} {p : Pos} {g : Nat} {r : Resume} {s s' : Shared} {res : GenResult} (h : Wakes M Γ p g r s res s') (ok : OkG T s) : Wakes M Γ p g r (lift T s) res (lift T s') ∧ OkG T s' := by
  unfold Wakes at h
  split at h
  · exact h.elim
  · rename_i c hg
    have hT := ok.none_of hg id
    unfold Wakes
    rw [lift_none hg hT]
    split at h
    · obtain ⟨e₁, s₁, hr, hq, rfl, rfl⟩ := h
      have q1 := runs_lift hr .nil (ok.set hT trivial)
      rw [lift_set hT] at q1
      exact ⟨⟨e₁, _, q1.1, hq, rfl, lift_set hT⟩, q1.2.1.set hT q1.2.2.genState⟩
    · rename_i v hv
      obtain ⟨h1, rfl⟩ := h
      refine ⟨?_, ok⟩
      cases v <;> first | exact ⟨h1, rfl⟩ | exact (hv rfl).elim
    · obtain ⟨h1, rfl⟩ := h
      exact ⟨⟨h1, lift_set hT⟩, ok.set hT trivial⟩
  · rename_i k₀ l₀ c₀ p₀ fs cl hg
    obtain ⟨e₁, s₁, hr, hq, rfl, rfl⟩ := h
    have hT := ok.none_of hg fun hs => stuck_no hs hr
    unfold Wakes
    rw [lift_none hg hT]
    have q1 := runs_lift hr (ok.no g _ hg) (ok.set hT trivial)
    rw [lift_set hT] at q1
    exact ⟨⟨e₁, _, q1.1, hq, rfl, lift_set hT⟩, q1.2.1.set hT q1.2.2.genState⟩
  · rename_i hg
    obtain ⟨h1, rfl⟩ := h
    have hT := ok.none_of hg id
    unfold Wakes
    rw [lift_none hg hT]
    exact ⟨⟨h1, rfl⟩, ok⟩
  · rename_i hg
    obtain ⟨h1, rfl⟩ := h
    have hT := ok.none_of hg id
    unfold Wakes
    rw [lift_none hg hT]
    exact ⟨⟨h1, rfl⟩, ok⟩

theorem wp_lift {α : Type} (M : Model) (T : Nat → Option GenState) (Γ : Ctx) (t : Sem α) : ∀ (Q : α → Pos → Shared → Prop) (E : Value → Pos → Shared → Prop) (p : Pos) (s : Shared), OkG T s → wp M Γ t Q E p s →
    wp M Γ t (fun a p' s' => ∃ s0, OkG T s0 ∧ s' = lift T s0 ∧ Q a p' s0) (fun e p' s' => ∃ s0, OkG T s0 ∧ s' = lift T s0 ∧ E e p' s0) p (lift T s) := by
  induction t with
  | pure a => intro Q E p s ok h; exact ⟨s, ok, rfl, h⟩
  | raise e => intro Q E p s ok h; exact ⟨s, ok, rfl, h⟩
  | unsupported _ => intro Q E p s _ h; exact h
  | finish _ => intro Q E p s _ h; exact h
  | rule _ k ih => intro Q E p s ok h; exact ih () Q E p s ok h
  | «at» p' k ih => intro Q E p s ok h; exact ih () Q E p' s ok h
  | load a _ k ih => intro Q E p s ok h; obtain ⟨o, ho, h⟩ := h; exact ⟨o, ho, ih o Q E p s ok h⟩
  | update a _ f k ih => intro Q E p s ok h; exact ⟨h.1, ih () Q E p { s with heap := s.heap.update a f } ⟨ok.no, ok.at'⟩ h.2⟩
  | loadIfAlive a k ih => intro Q E p s ok h; exact ih _ Q E p s ok h
  | point _ k ih => intro Q E p s ok h; exact ih () Q E p s ok h
  | register _ _ => intro Q E p s _ h; exact h
  | alloc o k ih => intro Q E p s ok h; exact ih _ Q E p { s with heap := s.heap.push o } ⟨ok.no, ok.at'⟩ h
  | fresh k ih => intro Q E p s ok h; exact ih _ Q E p { s with toks := s.toks + 1 } ⟨ok.no, ok.at'⟩ h
  | ask k ih => intro Q E p s ok h; exact ih _ Q E p s ok h
  | choose src m k ih => intro Q E p s ok h; exact ⟨h.1, ih _ Q E p { s with drawn := s.drawn.bump src } ⟨ok.no, ok.at'⟩ h.2⟩
  | os q _ k ih => intro Q E p s ok h; exact ih _ Q E p { s with os := (Os.step s.os q).1 } ⟨ok.no, ok.at'⟩ h
  | call c hd _ _ k ih =>
    intro Q E p s ok h
    obtain ⟨r, s', hr, h⟩ := h
    have q := runs_lift (show Runs M _ p _ [] s (.ret r) s' from hr) .nil ok
    exact ⟨r, _, q.1, ih r Q E p s' q.2.1 h⟩
  | handled own k ih => intro Q E p s ok h; exact ih _ Q E p s ok h
  | genState g k ih =>
    intro Q E p s ok h
    obtain ⟨st, hg, h⟩ := h
    obtain ⟨st', h1, h2⟩ := lift_seen ok hg
    refine ⟨st', h1, ?_⟩
    rw [h2]
    exact ih _ Q E p s ok h
  | newGen c k ih =>
    intro Q E p s ok h
    have q := ih _ Q E p _ (ok.push (x := .fresh c) trivial) h
    rw [lift_push ok] at q
    show wp M Γ (k (lift T s).gens.size) _ _ p _
    rw [lift_size]
    exact q
  | resume g r _ k ih =>
    intro Q E p s ok h
    obtain ⟨res, s', hw, h⟩ := h
    have q := wakes_lift hw ok
    exact ⟨res, _, q.1, ih res Q E p s' q.2 h⟩
  | yield _ _ _ _ => intro Q E p s _ h; exact h
  | stack k ih => intro Q E p s ok h; exact ih _ Q E p s ok h
  | fork _ _ => intro Q E p s _ h; exact h
  | thread k ih => intro Q E p s ok h; exact ih _ Q E p s ok h
  | await _ _ _ _ _ => intro Q E p s _ h; exact h

theorem wpAny_lift {α : Type} {M : Model} {A : Around} {s : Shared} {t : Sem α} {Q : α → Shared → Prop} {E : Value → Shared → Prop} (T : Nat → Option GenState) (ok : OkG T s) (h : wpAny M A t Q E s) :
    wpAny M A t (fun a s' => ∃ s0, OkG T s0 ∧ s' = lift T s0 ∧ Q a s0) (fun e s' => ∃ s0, OkG T s0 ∧ s' = lift T s0 ∧ E e s0) (lift T s) :=
  fun Γ p hΓ => wp_lift M T Γ t _ _ p s ok (h Γ p hΓ)

/-! ### all generators that sleep now -/
def stk : GenState → GenState
  | .suspended _ l c p fs cl => .suspended (fun _ => .unsupported "asleep") l c p (fs.map fun F => .ret (fun _ => .unsupported "asleep") none false [] F.where_.1 F.where_.2 []) cl
  | x => x
def slp (s : Shared) : Nat → Option GenState := fun i => match s.gens[i]? with
  | some (.suspended k l c p fs cl) => some (.suspended k l c p fs cl)
  | _ => none
def still (s : Shared) : Shared := { s with gens := s.gens.map stk }
theorem FNo.rets (fs : List Frame) : FNo (fs.map fun F => .ret (fun _ => .unsupported "asleep") none false [] F.where_.1 F.where_.2 []) := by
  induction fs with
  | nil => rfl
  | cons F fs ih => exact FNo.ret ih
theorem stk_seen (x : GenState) : (stk x).seen = x.seen := by
  cases x with
  | suspended k l c p fs cl =>
    show (GenStatus.suspended, some ((c, p) :: (fs.map _).map Frame.where_)) = (GenStatus.suspended, some ((c, p) :: fs.map Frame.where_))
    rw [List.map_map]
    rfl
  | _ => rfl
theorem stk_stuck {k : Resume → Sem PySem.Fin} {l : List Value} {c : Code} {p : Pos} {fs : List Frame} {cl : Bool} : Stuck (stk (.suspended k l c p fs cl)) := ⟨FNo.rets fs, fun r => ⟨_, rfl⟩⟩
theorem still_gens {s : Shared} (i : Nat) : (still s).gens[i]? = s.gens[i]?.map stk := by
  show (s.gens.map stk)[i]? = _
  rw [Array.getElem?_map]
theorem still_ok (s : Shared) : OkG (slp s) (still s) := by
  refine ⟨fun i x h => ?_, fun i st h => ?_⟩
  · rw [still_gens] at h
    cases e : s.gens[i]? with
    | none => rw [e] at h; cases h
    | some y =>
      rw [e] at h
      cases h
      cases y with
      | suspended k l c p fs cl => exact FNo.rets fs
      | _ => trivial
  · unfold slp at h
    split at h
    · rename_i e
      cases h
      exact ⟨_, by rw [still_gens, e]; rfl, stk_stuck, stk_seen _⟩
    · cases h
theorem lift_still (s : Shared) : lift (slp s) (still s) = s := by
  obtain ⟨hp, g, d, t, o⟩ := s
  show (⟨hp, (g.map stk).mapIdx _, d, t, o⟩ : Shared) = _
  congr 1
  apply Array.ext_getElem?
  intro i
  rw [Array.getElem?_mapIdx, Array.getElem?_map]
  cases e : g[i]? with
  | none => rfl
  | some x =>
    show some ((slp ⟨hp, g, d, t, o⟩ i).getD (stk x)) = some x
    unfold slp
    show some ((match g[i]? with | some (.suspended k l c p fs cl) => some (.suspended k l c p fs cl) | _ => none : Option GenState).getD (stk x)) = some x
    rw [e]
    cases x <;> rfl
theorem slp_at {s : Shared} {g : Nat} {k : Resume → Sem PySem.Fin} {l : List Value} {c : Code} {p : Pos} {fs : List Frame} {cl : Bool} (h : s.gens[g]? = some (.suspended k l c p fs cl)) : slp s g = some (.suspended k l c p fs cl) := by
  unfold slp
  rw [h]
theorem still_bare {s : Shared} (h : PyProof.Rows.AllBare s.gens) : PyProof.Rows.AllBare (still s).gens := by
  intro y hy
  obtain ⟨x, hx, e⟩ := Array.mem_map.mp (show y ∈ s.gens.map stk from hy)
  subst e
  have := h x hx
  cases x <;> exact this
theorem lift_bare {s s0 : Shared} (h : PyProof.Rows.AllBare s.gens) (h0 : PyProof.Rows.AllBare s0.gens) : PyProof.Rows.AllBare (lift (slp s) s0).gens := by
  intro y hy
  obtain ⟨i, hi, e⟩ := Array.mem_iff_getElem.mp hy
  have q : (lift (slp s) s0).gens[i]? = some y := by rw [Array.getElem?_eq_getElem hi, e]
  rw [lift_gens] at q
  cases e0 : s0.gens[i]? with
  | none => rw [e0] at q; cases q
  | some x =>
    rw [e0] at q
    cases q
    cases e1 : slp s i with
    | none => exact h0 x (Array.mem_of_getElem? e0)
    | some st =>
      show st.bare = true
      unfold slp at e1
      split at e1
      · rename_i e2
        cases e1
        exact h _ (Array.mem_of_getElem? e2)
      · cases e1

/-- a run that holds of a state whatever its sleeping generators are: they stay -/
theorem wpAny_sleep {α : Type} {M : Model} {A : Around} {s : Shared} {t : Sem α} {Q : α → Shared → Prop} {E : Value → Shared → Prop} (h : wpAny M A t Q E (still s)) :
    wpAny M A t (fun a s' => ∃ s0, OkG (slp s) s0 ∧ s' = lift (slp s) s0 ∧ Q a s0) (fun e s' => ∃ s0, OkG (slp s) s0 ∧ s' = lift (slp s) s0 ∧ E e s0) s := by
  have q := wpAny_lift (slp s) (still_ok s) h
  rw [lift_still] at q
  exact q
/-- a generator that slept sleeps on -/
theorem slept_on {s s0 : Shared} {g : Nat} {k : Resume → Sem PySem.Fin} {l : List Value} {c : Code} {p : Pos} {fs : List Frame} {cl : Bool} (h : s.gens[g]? = some (.suspended k l c p fs cl)) (ok : OkG (slp s) s0) :
    (lift (slp s) s0).gens[g]? = some (.suspended k l c p fs cl) := by
  obtain ⟨x, h1, _⟩ := ok.at' g _ (slp_at h)
  rw [lift_gens, h1, slp_at h]
  rfl
end GL
/-! a for over a generator whose body is `if last: yield from self.a / else: yield from self.b` -/
namespace GL
open PySem PySem.Spec PyProof.Rows L2 GenW
/-- all but the iterator is kept -/
structure Kp (it : Addr) (s₀ s : Shared) : Prop where
  os : s.os = s₀.os
  gens : s.gens = s₀.gens
  keep : ∀ b o, b ≠ it → s₀.heap.get? b = some o → s.heap.get? b = some o
theorem Kp.refl {it : Addr} {s : Shared} : Kp it s s := ⟨rfl, rfl, fun _ _ _ h => h⟩
theorem Kp.step {it : Addr} {s₀ s : Shared} {h : Heap} {tk : Nat} (k : Kp it s₀ s) (hk : ∀ b o, b ≠ it → s.heap.get? b = some o → h.get? b = some o) : Kp it s₀ { s with heap := h, toks := tk } :=
  ⟨k.os, k.gens, fun b o n e => hk b o n (k.keep b o n e)⟩
def TupV (h : Heap) (t : Addr) (xs : List V) : Prop := ∃ its : List Value, Vals xs its ∧ IsTup h t its.toArray
theorem TupV.keeps {h h' : Heap} {t : Addr} {xs : List V} (x : TupV h t xs) (hk : ∀ b o, h.get? b = some o → h'.get? b = some o) : TupV h' t xs := let ⟨its, r, q⟩ := x; ⟨its, r, q.keeps hk⟩
def YW (it t : Addr) (xs : List V) : Protocol := fun n s₀ v s kap => ∃ j x, n + 1 + j = xs.length ∧ xs[j]? = some x ∧ RelV x v ∧ Kp it s₀ s ∧ IsTupIter s.heap it t (j + 1) ∧ TupV s.heap t xs ∧
  ∀ s', IsTupIter s'.heap it t (j + 1) → TupV s'.heap t xs → kap (.send .none) s'
def RW (it : Addr) : GenEnd := fun n s₀ r s => ((r = .ok (.ret .none) ∨ r = .ok .next) ∧ (n = 0 ∧ Kp it s₀ s)) ∨ ∃ e, r = .error e ∧ False
section
variable {P : Program} {w : World} {A : Around} {fs : List Frame} {it t : Addr} {xs : List V}
theorem den_yfc {v : Value} : (model P w).den (.builtin "proto.yield_from" ⟨[v, .bool false, .none], []⟩) = Builtin.«proto.yield_from» ⟨[v, .bool false, .none], []⟩ := by
  show (match entryFor table "proto.yield_from" with | some b => b ⟨[v, .bool false, .none], []⟩ | none => unsupported ((withoutEnding? "proto.yield_from" "#data").getD "proto.yield_from")) = _
  rw [entry_yf]
theorem seg_yfT (ho : (A.over (.builtin "proto.yield_from" ⟨[.ref it, .bool false, .none], []⟩) fs).handled = none) (hsp : splitAtGen fs = none) (hgd : fs.any Frame.guarded = false) (hne : t ≠ it)
    (hend : ∀ (s₀ s : Shared), Kp it s₀ s → Seg (model P w) A (RW it) (YW it t xs) 0 s₀ (.builtin "proto.yield_from" ⟨[.ref it, .bool false, .none], []⟩) (.pure (.done (.ret .none))) fs s) :
    ∀ (r j : Nat) (s₀ s : Shared), j + r = xs.length → Kp it s₀ s → IsTupIter s.heap it t j → TupV s.heap t xs →
      Seg (model P w) A (RW it) (YW it t xs) r s₀ (.builtin "proto.yield_from" ⟨[.ref it, .bool false, .none], []⟩) ((model P w).den (.builtin "proto.yield_from" ⟨[.ref it, .bool false, .none], []⟩)) fs s := by
  intro r
  induction r with
  | zero =>
    intro j s₀ s hj hk hst ht
    rw [den_yfc]
    unfold Builtin.«proto.yield_from»
    try dsimp only
    refine seg_bind (wpAny_pure ?_)
    try dsimp only
    refine seg_bind (wpAny_attempt (wpAny_holding ?_))
    rw [if_neg Bool.false_ne_true, if_pos (show (Value.none == Value.none) = true from rfl)]
    refine wpAny_bind (wpAny_rule (wpAny_bind ?_))
    obtain ⟨its, rits, ht⟩ := ht
    have hle := rits.length
    refine special_tup_end ho hst ht (Array.getElem?_eq_none (by simp; omega)) fun e h' hS hx => ?_
    obtain ⟨a, o, vs, rfl, hoa, hcls, hdat, h5⟩ := hS
    try dsimp only
    refine seg_bind (wpAny_endsTurn hoa hcls ?_)
    try dsimp only
    rw [if_pos rfl]
    first
      | refine seg_bind (wpAny_rule ?_)
      | (rw [if_neg Bool.false_ne_true]; refine seg_bind (wpAny_rule ?_))
      | (rw [if_neg Bool.false_ne_true]; refine seg_bind (wpAny_pure ?_); refine seg_bind (wpAny_rule ?_))
    refine seg_bind (wpAny_field hoa hdat h5 ?_)
    exact hend s₀ _ (hk.step (tk := s.toks) fun b o n e => hx b o n e)
  | succ r ih =>
    intro j s₀ s hj hk hst ht
    have hjl : j < xs.length := by omega
    obtain ⟨x, hx⟩ : ∃ x, xs[j]? = some x := ⟨xs[j], List.getElem?_eq_getElem hjl⟩
    obtain ⟨its, rits, ht⟩ := ht
    obtain ⟨v, hv, rv⟩ := rits.get hx
    rw [den_yfc]
    unfold Builtin.«proto.yield_from»
    try dsimp only
    refine seg_bind (wpAny_pure ?_)
    try dsimp only
    refine seg_bind (wpAny_attempt (wpAny_holding ?_))
    rw [if_neg Bool.false_ne_true, if_pos (show (Value.none == Value.none) = true from rfl)]
    refine wpAny_bind (wpAny_rule (wpAny_bind ?_))
    refine special_tup_item hst ht (x := v) (by simpa using hv) fun h' hst' hs => ?_
    have ht' : TupV h' t xs := ⟨its, rits, ht.extBut hs.extBut hne⟩
    have hk' : Kp it s₀ { s with heap := h' } := hk.step (tk := s.toks) fun b o n e => hs.extBut b o n e
    obtain ⟨oi, hoi, hoc, _⟩ := id hst'
    have hng : (Value.type "tuple_iterator" != Value.type "generator") = true := by decide
    refine wpAny_pure ?_
    try dsimp only
    refine seg_bind (wpAny_typeOf (T := "tuple_iterator") ⟨oi, hoi, hoc⟩ ?_)
    try dsimp only
    first
      | (refine seg_bind (wpAny_of_eq close_tup ?_); refine seg_bind (wpAny_pure ?_))
      | refine seg_bind (wpAny_bind (wpAny_of_eq close_tup (wpAny_pure ?_)))
      | refine seg_bind (wpAny_of_eq close_tup ?_)
    try dsimp only
    refine seg_bind (wpAny_sleptOver hoi hoc hng ?_)
    refine seg_yield hsp rfl hgd ?_
    refine ⟨j, x, by omega, hx, rv, hk', hst', ht', fun s'' z1 z2 => ?_⟩
    obtain ⟨oj, hoj, hojc, _⟩ := id z1
    show Seg _ _ _ _ r s'' _ (Builtin.Generator.sleptOver (.ref it) false >>= fun _ => _) fs s''
    refine seg_bind (wpAny_sleptOver hoj hojc hng ?_)
    try dsimp only
    refine seg_bind (wpAny_pure ?_)
    exact seg_again (plainId_quiet plain_yf _) (ih (j + 1) s'' s'' (by omega) .refl z1 z2)

/-- `yield from x.f`: x.f is a tuple -/
theorem seg_from {env : Env} {e : Expr} {yp pos : Pos} {c : Code} {K : Flow → Sem PySem.Fin} {J : Value → Sem PySem.Fin} {gd : Bool → Bool} {lv : List Value → List Value} {s₀ s : Shared} {tk : Nat}
    (hi : interactive env = false) (hh : (A.over c fs).handled = none) (hsp : splitAtGen fs = none) (hfg : fs.any Frame.guarded = false) (hgd : gd false = false)
    (he : ∀ (Q : Value → Shared → Prop) (E : Value → Shared → Prop), Q (.ref t) { s with toks := tk } → wpAny (model P w) (A.over c fs) (eval e env) Q E s)
    (ht : TupV s.heap t xs) (hk : Kp s.heap.objs.size s₀ s)
    (hend : ∀ (s₀ s' : Shared), Kp s.heap.objs.size s₀ s' → Seg (model P w) A (RW s.heap.objs.size) (YW s.heap.objs.size t xs) 0 s₀ c (K .next) fs s') :
    Seg (model P w) A (RW s.heap.objs.size) (YW s.heap.objs.size t xs) xs.length s₀ c ((exec (.Expr (.YieldFrom e yp) pos) env).wrap K J gd lv) fs s := by
  rw [exec_Expr env _ pos hi rfl]
  show Seg _ _ _ _ _ s₀ c (.at pos fun _ => ((eval e env >>= fun v => (standAt yp >>= fun _ => yieldFrom env v)) >>= fun x => dropValue (.YieldFrom e yp) pos x).wrap K J gd lv) fs s
  refine seg_at ?_
  refine segw_bind2 ?_
  refine he _ _ ?_
  obtain ⟨its, rits, ht⟩ := ht
  have ht1 : IsTup ({ s with toks := tk } : Shared).heap t its.toArray := ht
  have hne' : ¬ ((Value.type "tuple" == Value.type "coroutine") = true) := by decide
  refine seg_at ?_
  show Seg _ _ _ _ _ s₀ c ((yieldFrom env (.ref t)).wrap (fun b => (dropValue (.YieldFrom e yp) pos b).wrap K J gd lv) J gd lv) fs _
  unfold yieldFrom
  refine seg_bind_wrap (wpAny_typeOf ht1.typeIs ?_)
  rw [if_neg hne']
  refine seg_bind_wrap (wpAny_holding ?_)
  refine iter_tuple ht1 ?_
  refine seg_call fun p => ?_
  have hlt : t < s.heap.objs.size := ht.lt
  refine seg_yfT (it := s.heap.objs.size) (t := t) (xs := xs) ?_ ?_ ?_ (Nat.ne_of_lt hlt) (fun s₀' s' hk' => ?_) xs.length 0 s₀ _ (Nat.zero_add _) ?_ ⟨_, Heap.get?_push_size _ rfl, rfl, rfl⟩ ⟨its, rits, ht.push _⟩
  · exact hh
  · show (splitAtGen fs).map _ = none
    rw [hsp]; rfl
  · show (gd false || fs.any Frame.guarded) = false
    rw [hgd, hfg]; rfl
  · refine seg_leaf (.ok (.ret .none)) ?_
    exact hend s₀' s' hk'
  · exact ⟨hk.os, hk.gens, fun b o n e => Heap.get?_push_of_some _ (hk.keep b o n e)⟩
end
end GL
namespace GL
open PySem PySem.Spec PyProof.Rows L2 GenW
def wkBody (fa fb : Str) (p1 p2 p3 p4 p5 p6 p7 p8 p9 p10 : Pos) : List Stmt :=
  [.If (.Name "last" p1) [.Expr (.YieldFrom (.Attribute (.Name "self" p2) fa p3) p4) p5] [.Expr (.YieldFrom (.Attribute (.Name "self" p6) fb p7) p8) p9] p10]
section
variable {P : Program} {w : World} {A : Around} {t : Addr} {xs : List V}
theorem seg_walk {K : PySem.W.Frag} {env : Env} {fa fb f : Str} {p1 p2 p3 p4 p5 p6 p7 p8 p9 p10 : Pos} {s : Shared} {m mA : Str → Option Value} {x dx C : Addr} {b : Bool} (hh : A.handled = none) (hk : env.scope.kind = .function) (hi : interactive env = false)
    (hs : env.kindOf "self" = some .local) (hl : env.kindOf "last" = some .local) (hn : s.heap.Ns env.locals m) (ms : m "self" = some (.ref x)) (ml : m "last" = some (.bool b)) (kin : K.In s.heap) (O : ObjM s.heap x dx C mA)
    (hg : PySem.W.plainGet K C f = true) (hd : PySem.W.hasDictIn K C = true) (hna : PySem.W.findIn K (.ref C) f = some none) (hf : f = if b then fa else fb) (hmf : mA f = some (.ref t)) (hhd : PySem.W.handedIn (.ref t) = true) (ht : TupV s.heap t xs) :
    Seg (model P w) A (RW s.heap.objs.size) (YW s.heap.objs.size t xs) xs.length s (.func (wkBody fa fb p1 p2 p3 p4 p5 p6 p7 p8 p9 p10) env) ((model P w).den (.func (wkBody fa fb p1 p2 p3 p4 p5 p6 p7 p8 p9 p10) env)) [] s := by
  have hA : (A.over (.func (wkBody fa fb p1 p2 p3 p4 p5 p6 p7 p8 p9 p10) env) []).handled = none := by rw [over_func]; exact hh
  have ev : ∀ {q q' : Pos} (Q : Value → Shared → Prop) (E : Value → Shared → Prop), Q (.ref t) { s with toks := s.toks + 1 } → wpAny (model P w) (A.over (.func (wkBody fa fb p1 p2 p3 p4 p5 p6 p7 p8 p9 p10) env) []) (eval (.Attribute (.Name "self" q) f q') env) Q E s := fun Q E h => by
    refine attr_of (by rfl) (wpAny_Name (wpAny_loadName_local hk hs hn ms ?_))
    exact get_map kin O hg hd hna hmf hhd h
  have fin : ∀ {q q' q'' q3 : Pos}, Seg (model P w) A (RW s.heap.objs.size) (YW s.heap.objs.size t xs) xs.length s (.func (wkBody fa fb p1 p2 p3 p4 p5 p6 p7 p8 p9 p10) env)
      ((execs [.Expr (.YieldFrom (.Attribute (.Name "self" q) f q') q'') q3] env).wrap (fun g => match g with
        | .next => (execs [] env).wrap (fun g => .pure (.done (.ret (match g with | .ret v => v | _ => .none)))) (fun e => (leaving env e).wrap (fun _ => .raise e) .raise id id) id id
        | g => .pure (.done (.ret (match g with | .ret v => v | _ => .none)))) (fun e => (leaving env e).wrap (fun _ => .raise e) .raise id id) id id) [] s := fun {q q' q'' q3} => by
    refine seg_execs_cons ?_
    refine seg_from hi hA rfl rfl rfl ev ht .refl fun s₀ s' hk' => ?_
    try dsimp only
    refine seg_execs_nil ?_
    try dsimp only
    refine seg_execs_nil ?_
    exact seg_end (.ok (.ret .none)) (.inl ⟨.inl rfl, rfl, hk'⟩)
  refine seg_func ?_
  refine seg_execs_cons ?_
  rw [exec_If]
  show Seg _ _ _ _ _ s _ (.at p10 fun _ => ((isTrue (.Name "last" p1) env (eval (.Name "last" p1) env) >>= fun b => if b = true then _ else _)).wrap _ _ _ _) [] s
  refine seg_at ?_
  refine seg_bind_wrap ?_
  refine wpAny_isTrue_value (wpAny_Name (wpAny_loadName_local hk hl hn ml ?_))
  refine wpAny_pure ?_
  cases b with
  | true =>
    rw [if_pos rfl] at hf ⊢
    subst hf
    exact fin
  | false =>
    rw [if_neg Bool.false_ne_true] at hf ⊢
    subst hf
    exact fin
end
end GL

namespace GL
open PySem PySem.Spec PyProof.Rows L2 GenW
theorem wpAny_resumeS {M : Model} {A : Around} {R : GenEnd} {Y : Protocol} {n : Nat} {E : Value → Shared → Prop} {s : Shared} {g : Nat} {gs : GenState}
    {r : Resume} {l : List Value} {α : Type} {k : GenResult → Sem α} {Q : α → Shared → Prop} (hg : s.gens[g]? = some gs)
    (hgo : gs.Goes M A R Y n r (s.setGen g .running))
    (hR : ∀ x s₁, R n (s.setGen g .running) x s₁ → wpAny M A (k (End.ret x).result) Q E (s₁.setGen g .finished))
    (hY : ∀ v s₁ k' l' c' p' fs', Y (n - 1) (s.setGen g .running) v s₁ (fun r' s'' => match n with | 0 => False | m + 1 => (GenState.suspended k' l' c' p' fs' false).Goes M A R Y m r' s'') →
      wpAny M A (k (.yielded v)) Q E (s₁.setGen g (.suspended k' l' c' p' fs' false))) :
    wpAny M A (.resume g r l k) Q E s := by
  intro Γ p hΓ
  rw [Sem.wp_resume]
  have hB : ∀ c, (Γ.wake c p).Woken A := fun c => hΓ.wake c p
  have fin : ∀ e₁ s₁, SegEnd R Y n (Seg.next M A R Y n) (s.setGen g .running) e₁ s₁ →
      Sem.wp M Γ (k e₁.result) (fun a _ s' => Q a s') (fun e _ s' => E e s') p (s₁.setGen g e₁.genState) := by
    intro e₁ s₁ he
    cases e₁ with
    | ret x => exact hR x s₁ he Γ p hΓ
    | susp v g₀ l₀ k₀ c₀ p₀ fs₀ =>
      have hq : (g₀ || fs₀.any Frame.guarded) = false := by
        have h := he.1
        simpa [End.quiet] using h
      have hc : (End.susp v g₀ l₀ k₀ c₀ p₀ fs₀).genState = .suspended k₀ l₀ c₀ p₀ fs₀ false := by
        show GenState.suspended k₀ l₀ c₀ p₀ fs₀ (g₀ || fs₀.any Frame.guarded) = _
        rw [hq]
      rw [hc]
      refine hY v s₁ k₀ l₀ c₀ p₀ fs₀ ?_ Γ p hΓ
      cases n with
      | zero => exact he.2
      | succ m => exact he.2
  have hqt : ∀ e₁ s₁, SegEnd R Y n (Seg.next M A R Y n) (s.setGen g .running) e₁ s₁ → e₁.quiet = true := by
    intro e₁ s₁ he
    cases e₁ with
    | ret x => rfl
    | susp v g₀ l₀ k₀ c₀ p₀ fs₀ => exact he.1
  cases gs with
  | fresh c =>
    obtain ⟨rfl, hs⟩ := hgo
    obtain ⟨e₁, s₁, hr, he⟩ := seg_iff.mp hs (Γ.wake c p) p rfl (hB c)
    exact ⟨_, _, by unfold Wakes; rw [hg]; exact ⟨e₁, s₁, hr, hqt e₁ s₁ he, rfl, rfl⟩, fin e₁ s₁ he⟩
  | suspended k₀ l₀ c₀ p₀ fs₀ cl =>
    obtain ⟨e₁, s₁, hr, he⟩ := seg_iff.mp hgo (Γ.wake c₀ p) p₀ rfl (hB c₀)
    exact ⟨_, _, by unfold Wakes; rw [hg]; exact ⟨e₁, s₁, hr, hqt e₁ s₁ he, rfl, rfl⟩, fin e₁ s₁ he⟩
  | running => exact hgo.elim
  | finished => exact hgo.elim
section
variable {P : Program} {w : World} {A : Around} {E : Value → Shared → Prop} {s : Shared} {it t : Addr} {xs : List V}
/-- next(g) where turn i is due -/
theorem next_W {a : Addr} {g i : Nat} {gs : GenState} {Q : Option Value → Shared → Prop} (hh : A.handled = none) (hl : s.heap.NoLimit) (hroom : A.depth < recursionLimit) (hg : s.heap.IsGen a g) (hgs : s.gens[g]? = some gs) (hi : i ≤ xs.length)
    (hgo : gs.Goes (model P w) A.in1 (RW it) (YW it t xs) (xs.length - i) (.send .none) (s.setGen g .running))
    (hY : ∀ x v s₁ k' l' c' p' fs', i < xs.length → xs[i]? = some x → RelV x v → Kp it (s.setGen g .running) s₁ → IsTupIter s₁.heap it t (i + 1) → TupV s₁.heap t xs →
      (∀ s', IsTupIter s'.heap it t (i + 1) → TupV s'.heap t xs → (GenState.suspended k' l' c' p' fs' false).Goes (model P w) A.in1 (RW it) (YW it t xs) (xs.length - (i + 1)) (.send .none) s') → Q (some v) (s₁.setGen g (.suspended k' l' c' p' fs' false)))
    (hP : ∀ s₁, i = xs.length → Kp it (s.setGen g .running) s₁ → ∀ h', (∀ b o, s₁.heap.get? b = some o → h'.get? b = some o) → Q none { s₁.setGen g .finished with heap := h' }) :
    wpAny (model P w) A (pyNext (.ref a)) Q E s := by
  unfold pyNext
  refine wpAny_bind (wpAny_attempt (wpAny_callSpecial?_slot (name := Str.ofString "__next__") hg.typeIs slot_gen_next
    (wpAny_call_entry slot_gen_next hg.typeIs entry_gen_next ?_ (args_gen_next _))))
  show wpAny _ A.in1 (Builtin.Generator.genWake (.ref a) (.send .none)) _ _ s
  unfold Builtin.Generator.genWake
  refine wpAny_bind (wpAny_holding (wpAny_genNumber hg (wpAny_bind (wpAny_genState hgs ?_))))
  cases gs with
  | running => exact hgo.elim
  | finished => exact hgo.elim
  | _ =>
    refine wpAny_bind (wpAny_roomToWake hl hroom ?_)
    show wpAny _ A.in1 (.resume g (.send .none) [] _) _ _ s
    refine wpAny_resumeS hgs hgo (fun x s₁ hx => ?_) (fun v s₁ k' l' c' p' fs' hv => ?_)
    · rcases hx with ⟨hr, hn, hp⟩ | ⟨e, _, he⟩
      · have hres : End.result (.ret x) = .returned .none := by
          rcases hr with hr | hr <;> rw [hr] <;> rfl
        first | rw [hres] | simp only [hres]
        show wpAny _ A.in1 (newExc (.type "StopIteration") [] >>= _) _ _ _
        refine wpAny_bind ?_
        simp only [newExc, newTuple]
        refine wpAny_bind (wpAny_newObj_type ?_ (by size_fits))
        refine wpAny_bind (m := firstArgMember _ _) (wpAny_of_eq (a := Value.none) (by first | rfl | (simp only [firstArgMember]; rfl)) ?_)
        refine wpAny_newObj_type ?_ (by size_fits)
        simp only [raiseNew]
        refine wpAny_bind (wpAny_bind (wpAny_handled ?_))
        first | rw [show A.in1.handled = none from hh] | rw [hh]
        refine wpAny_throw ?_
        refine wpAny_bind (wpAny_isInstance (T := "StopIteration") (b := true) ⟨_, Heap.get?_push_size _ rfl, rfl⟩ isSubtype_stop ?_)
        exact wpAny_pure (hP s₁ (by omega) hp _ fun b o hb => Heap.get?_push_of_some _ (Heap.get?_push_of_some _ hb))
      · exact he.elim
    · obtain ⟨j, x, hj, hx, rv, hk, h1, h2, h3⟩ := hv
      refine wpAny_pure ⟨v, rfl, wpAny_pure ?_⟩
      by_cases hlt : i < xs.length
      · have e : j = i := by omega
        subst e
        refine hY x v s₁ k' l' c' p' fs' hlt hx rv hk h1 h2 fun s' z1 z2 => ?_
        have h4 := h3 s' z1 z2
        have e2 : xs.length - j = (xs.length - (j + 1)) + 1 := by omega
        rw [e2] at h4
        exact h4
      · have e2 : xs.length - i = 0 := by omega
        have h4 := h3 s₁ h1 h2
        rw [e2] at h4
        exact h4.elim
end
end GL
namespace GL
open PySem PySem.Spec PyProof.Rows L2 GenW
/-- an exception's wish says nothing of generators that sleep -/
def LiftE (E : Value → Shared → Prop) : Prop := ∀ (T : Nat → Option GenState) (e : Value) (s : Shared), (∀ i st, T i = some st → st.bare = true) → OkG T s → E e s → E e (lift T s)
theorem slp_bare {s : Shared} (h : AllBare s.gens) : ∀ i st, slp s i = some st → st.bare = true := fun i st e => by
  unfold slp at e
  split at e
  · rename_i e2
    cases e
    exact h _ (Array.mem_of_getElem? e2)
  · cases e
theorem liftT_bare {T : Nat → Option GenState} {s0 : Shared} (h : ∀ i st, T i = some st → st.bare = true) (h0 : AllBare s0.gens) : AllBare (lift T s0).gens := by
  intro y hy
  obtain ⟨i, hi, e⟩ := Array.mem_iff_getElem.mp hy
  have q : (lift T s0).gens[i]? = some y := by rw [Array.getElem?_eq_getElem hi, e]
  rw [lift_gens] at q
  cases e0 : s0.gens[i]? with
  | none => rw [e0] at q; cases q
  | some x =>
    rw [e0] at q
    cases q
    cases e1 : T i with
    | none => exact h0 x (Array.mem_of_getElem? e0)
    | some st => exact h i st e1
theorem wpAny_sleepE {α : Type} {M : Model} {A : Around} {s : Shared} {t : Sem α} {Q : α → Shared → Prop} {E : Value → Shared → Prop} (hE : LiftE E) (hb : AllBare s.gens) (h : wpAny M A t Q E (still s)) :
    wpAny M A t (fun a s' => ∃ s0, OkG (slp s) s0 ∧ s' = lift (slp s) s0 ∧ Q a s0) E s :=
  wpAny_mono (wpAny_sleep h) (fun _ _ x => x) fun e s' ⟨s0, ok, es, hx⟩ => by
    subst es
    exact hE _ e s0 (slp_bare hb) ok hx
section
variable {X : Cx} {pins : List (Addr × Obj)} {σ : L2.St} {H : Hp} {s s' : Shared}
theorem _root_.L2.Inv.same (I : Inv X pins σ H s) (hh : s'.heap = s.heap) (ho : s'.os = s.os) (hb : AllBare s'.gens) : Inv X pins σ H s' := by
  obtain ⟨h, g, d, t, o⟩ := s'
  have hh : h = s.heap := hh
  have ho : o = s.os := ho
  subst hh ho
  exact ⟨I.ok, I.os, hb, I.base, I.loc, I.cell, I.free, I.freeC, I.pin, I.hok, I.len⟩
theorem _root_.L2.Inv.awake {s0 : Shared} (I : Inv X pins σ H s0) (hb : AllBare s.gens) : Inv X pins σ H (lift (slp s) s0) := I.same rfl rfl (lift_bare hb I.bare)
theorem _root_.L2.Inv.asleep (I : Inv X pins σ H s) : Inv X pins σ H (still s) := I.same rfl rfl (still_bare I.bare)

/-- an expression whose value is a walk that has not begun -/
abbrev TWk := L2.St → Hp → (Addr → List V → Hp → Prop) → Prop
structure PW (X : Cx) (iter : Expr) (tw : TWk) : Prop where
  run : ∀ (pins : List (Addr × Obj)) (s : Shared) (σ : L2.St) (H : Hp) (cont : Addr → List V → Hp → Prop), Inv X pins σ H s → tw σ H cont → wpAny (model X.prog X.w) X.A (eval iter X.env)
    (fun u s' => ∃ a g t xs c H', u = .ref a ∧ Inv X pins σ H' s' ∧ s'.heap.IsGen a g ∧ s'.gens[g]? = some (.fresh c) ∧ FpOk X pins H' a ∧
      Seg (model X.prog X.w) X.A.in1 (RW s'.heap.objs.size) (YW s'.heap.objs.size t xs) xs.length (s'.setGen g .running) c ((model X.prog X.w).den c) [] (s'.setGen g .running) ∧ cont t xs H') X.xe s
def tForW (K : PySem.W.Frag) (tw : TWk) (g : TG) (tb : TS) : TS := fun D σ H => tw σ H fun t xs H1 => ∃ W : Nat → L2.St → Hp → Prop, W 0 σ H1 ∧ ∀ i σ H, i ≤ xs.length → W i σ H →
  SqT K H t xs ∧ (i = xs.length → D.nx σ H) ∧ ∀ x, xs[i]? = some x → g x σ H fun σ2 H2 => tb { D with nx := W (i + 1), ct := W (i + 1), bk := D.nx } σ2 H2
theorem ps_forW {tg iter : Expr} {body : List Stmt} {pos : Pos} {tw : TWk} {g : TG} {tb : TS} (hp : PassesOwn (model X.prog X.w) X.A X.env X.xe) (hc : X.calm = true) (hx : LiftE X.xe) (hdp : X.A.depth < recursionLimit) (hi : PW X iter tw) (hg : PG X tg g) (hb : PSs X body tb)
    (hs : ∀ x, foldedSetIterable iter X.env x = pure x := by intro _; rfl) : PS X (.For tg iter body [] pos) (tForW X.K tw g tb) := by
  refine ⟨fun pins s σ H D I h => ?_⟩
  refine wpAny_For (thn (hi.run pins s σ H _ I h) fun u s1 h1 => ?_) hs
  obtain ⟨a, gn, t, xs, c, H1, rfl, I1, hgen, hgs, fa, seg, W, w0, turn⟩ := h1
  refine wpAny_pyIter_gen hgen ?_
  refine codeAny_forLoop_any (fun n s' => ∃ (i : Nat) (it : Addr) (gs : GenState) (σ' : L2.St) (H' : Hp), n = xs.length - i ∧ i ≤ xs.length ∧ Inv X pins σ' H' s' ∧ s'.heap.IsGen a gn ∧ s'.gens[gn]? = some gs ∧
    gs.Goes (model X.prog X.w) X.A.in1 (RW it) (YW it t xs) (xs.length - i) (.send .none) (s'.setGen gn .running) ∧ FpOk X pins H' a ∧ FpOk X pins H' it ∧ it ≠ a ∧ W i σ' H') ?_ xs.length
    ⟨0, s1.heap.objs.size, _, σ, H1, rfl, Nat.zero_le _, I1, hgen, hgs, ⟨rfl, seg⟩, fa, I1.fpOk (Nat.le_refl _) (I1.hok.fresh (Nat.le_refl _)), ?_, w0⟩
  · rintro n s3 ⟨i, it, gs, σ3, H3, rfl, hle, I3, hgen3, hgs3, go3, fa3, fi3, hne3, w3⟩
    obtain ⟨sq3, end3, step3⟩ := turn i σ3 H3 hle w3
    have hlt : gn < s3.gens.size := (Array.getElem?_eq_some_iff.mp hgs3).1
    -- behind next: the iterator may have turned
    have nxt : ∀ (s₁ s4 : Shared), Kp it (s3.setGen gn .running) s₁ → (∀ b o, s₁.heap.get? b = some o → s4.heap.get? b = some o) → s4.os = s₁.os → (∃ x, x.bare = true ∧ s4.gens = s₁.gens.setIfInBounds gn x) → Inv X pins σ3 H3 s4 := fun s₁ s4 hk hh ho hgg => by
      obtain ⟨f0, f1, f2, f3, f4, f5⟩ := fi3
      have I4 : Inv X pins σ3 H3 { s3 with heap := s4.heap, toks := s3.toks } := I3.turned (it := it) (fun b o n e => hh b o (hk.keep b o n e)) f0 f1 f3 f4 f5
      refine I4.same rfl (ho.trans hk.os) ?_
      obtain ⟨x, hx, e⟩ := hgg
      rw [e, hk.gens]
      exact allBare_setGen (s := s3.setGen gn .running) (allBare_setGen I3.bare rfl) hx
    refine next_W (i := i) (I3.ok.hd hc) I3.nolimit hdp hgen3 hgs3 hle go3 (fun x v s₁ k' l' c' p' fs' hi' hx' rv hk h1 h2 go => ?_) fun s₁ hi' hk h' hh' => ?_
    · have I5 := nxt s₁ (s₁.setGen gn (.suspended k' l' c' p' fs' false)) hk (fun _ _ e => e) rfl ⟨_, rfl, rfl⟩
      obtain ⟨oa, nm, qn, ha1, ha2, ha3, ha4⟩ := id hgen3
      have ea : (s₁.setGen gn (.suspended k' l' c' p' fs' false)).heap.get? a = some oa := hk.keep a oa (Ne.symm hne3) ha1
      obtain ⟨oi, hi1, hi2, hi3⟩ := id h1
      have ei : (s₁.setGen gn (.suspended k' l' c' p' fs' false)).heap.get? it = some oi := hi1
      have hgs5 : (s₁.setGen gn (.suspended k' l' c' p' fs' false)).gens[gn]? = some (.suspended k' l' c' p' fs' false) := by
        refine setGen_at ?_
        rw [hk.gens, setGen_size]
        exact hlt
      generalize s₁.setGen gn (.suspended k' l' c' p' fs' false) = s5 at I5 ea ei hgs5 ⊢
      try dsimp only
      refine go_of (n := "generator") ea ha2 ha3 (by decide) ?_
      have I5' : Inv X (pins ++ pinsAt [a, it] s5.heap) σ3 H3 s5 := I5.pinned (fp := [a, it]) (fun b hb => by
        rcases List.mem_cons.mp hb with e | hb
        · rw [e]; exact fa3
        · rw [List.mem_singleton.mp hb]; exact fi3) fun b hb => by
        rcases List.mem_cons.mp hb with e | hb
        · rw [e]; exact ⟨oa, ea, fun v z => by rw [ha3] at z; cases z⟩
        · rw [List.mem_singleton.mp hb]; exact ⟨oi, ei, fun v z => by rw [hi3] at z; cases z⟩
      refine wpAny_passesOwn hp (thn (wpAny_sleepE hx I5.bare (hg.run _ (still s5) σ3 H3 x v _ I5'.asleep rv (step3 x hx'))) fun _ s6 h6 => ?_)
      obtain ⟨s6', ok6, rfl, σ6, H6, I6, q6⟩ := h6
      have I6' := I6.awake I5.bare
      have hgs6 := slept_on hgs5 ok6
      generalize lift (slp s5) s6' = s6 at I6' hgs6 ⊢
      refine wpAny_passesOwn hp (thn (wpAny_sleepE hx I6'.bare (hb.run _ (still s6) σ6 H6 _ I6'.asleep q6)) fun f s7 q7 => ?_)
      obtain ⟨s7', ok7, rfl, q7⟩ := q7
      have hgs7 := slept_on hgs6 ok7
      have again : ∀ {σ7 : L2.St} {H7 : Hp}, Inv X (pins ++ pinsAt [a, it] s5.heap) σ7 H7 s7' → W (i + 1) σ7 H7 → ∃ m, m < xs.length - i ∧ ∃ (i : Nat) (it : Addr) (gs : GenState) (σ' : L2.St) (H' : Hp), m = xs.length - i ∧ i ≤ xs.length ∧ Inv X pins σ' H' (lift (slp s6) s7') ∧ (lift (slp s6) s7').heap.IsGen a gn ∧ (lift (slp s6) s7').gens[gn]? = some gs ∧
          gs.Goes (model X.prog X.w) X.A.in1 (RW it) (YW it t xs) (xs.length - i) (.send .none) ((lift (slp s6) s7').setGen gn .running) ∧ FpOk X pins H' a ∧ FpOk X pins H' it ∧ it ≠ a ∧ W i σ' H' := fun {σ7 H7} I7 w7 => by
        have pa := I7.pin (a, oa) (List.mem_append_right _ (List.mem_append_right _ (mem_pinsAt (by simp) ea)))
        have pi := I7.pin (it, oi) (List.mem_append_right _ (List.mem_append_right _ (mem_pinsAt (by simp) ei)))
        have I7' := I7.awake I6'.bare
        obtain ⟨sq7, _, _⟩ := turn (i + 1) σ7 H7 hi' w7
        obtain ⟨its, rits, ht, _⟩ := I7.tuple sq7
        exact ⟨xs.length - (i + 1), by omega, i + 1, it, _, σ7, H7, rfl, hi', I7'.unpinned, ⟨oa, nm, qn, pa.1, ha2, ha3, ha4⟩, hgs7, go _ ⟨oi, pi.1, hi2, hi3⟩ ⟨its, rits, ht⟩, ⟨pa.2.1, fa3.2⟩, ⟨pi.2.1, fi3.2⟩, hne3, w7⟩
      cases f with
      | next => obtain ⟨σ7, H7, I7, n7⟩ := q7; exact again I7 n7
      | cont => obtain ⟨σ7, H7, I7, n7⟩ := q7; exact again I7 n7
      | brk => obtain ⟨σ7, H7, I7, q7⟩ := q7; exact ⟨σ7, H7, (I7.awake I6'.bare).unpinned, q7⟩
      | ret v => obtain ⟨x7, σ7, H7, I7, r7, q7⟩ := q7; exact ⟨x7, σ7, H7, (I7.awake I6'.bare).unpinned, r7, q7⟩
    · have I4 := nxt s₁ { s₁.setGen gn .finished with heap := h' } hk hh' rfl ⟨_, rfl, rfl⟩
      exact wpAny_execs_nil ⟨σ3, H3, I4, end3 hi'⟩
  · obtain ⟨oa, _, _, ha1, _⟩ := hgen
    exact Ne.symm (Nat.ne_of_lt (Heap.lt_size ha1))
end
end GL
namespace GL
open PySem PySem.Spec PyProof.Rows L2 GenW
def wkArgs (d : Bool) (x v : Value) : Args := ⟨[x], if d then [] else [("last", v)]⟩
/-- the def of a walk over self.fa or self.fb; d: called without `last` -/
def WlkC (K : PySem.W.Frag) (C : Addr) (fa fb : Str) (d : Bool) : Prop := ∃ (f : Addr) (name qual : Str) (params : Arguments) (p1 p2 p3 p4 p5 p6 p7 p8 p9 p10 : Pos) (scope : Scope) (dV kV doc pm cdv ct oc : Value) (an od : Option Addr) (osl : Array (Option Value)),
  Meth K C "walk" f ∧ K.lookup f = some ⟨oc, od, .func (PySem.W.fnOf name qual params (wkBody fa fb p1 p2 p3 p4 p5 p6 p7 p8 p9 p10) scope dV kV doc pm an cdv ct), osl⟩ ∧ PySem.W.codeIn K cdv qual = true ∧
  (scope.kind = .function ∧ scope.isCoroutine = false ∧ scope.isGenerator = true ∧ scope.names.lookup ("self" : Str) = some .local ∧ scope.names.lookup ("last" : Str) = some .local) ∧
  ∀ (s : Shared) (x : Value) (b : Bool), K.In s.heap → (d = true → b = false) → BindsTo s (PySem.W.fnOf name qual params (wkBody fa fb p1 p2 p3 p4 p5 p6 p7 p8 p9 p10) scope dV kV doc pm an cdv ct) (wkArgs d x (.bool b)) [("self", x), ("last", .bool b)]
section
variable {X : Cx} {k : Nat} {C : Addr} {fa fb f : Str} {o : Expr} {ta : TE} {apos pos' kpos : Pos} {b d : Bool}
def tWalkM (K : PySem.W.Frag) (C : Addr) (f : Str) (ta : TE) : TWk := fun σ H cont => ta σ H fun v H1 => ∃ x dx fs t xs, v = .ref x ∧ H1 x = some (.ins C dx fs) ∧ fs.lookup ("walk" : Str) = none ∧ fs.lookup f = some (.ref t) ∧ SqT K H1 t xs ∧ cont t xs H1
theorem call_walk {pins : List (Addr × Obj)} {s : Shared} {σ : L2.St} {H : Hp} {x dx t : Addr} {fs : List (Str × V)} {xs : List V} {E : Value → Shared → Prop} {Q : Value → Shared → Prop} {g : Addr} {name qual : Str} {params : Arguments} {p1 p2 p3 p4 p5 p6 p7 p8 p9 p10 : Pos} {scope : Scope} {dV kV doc pm cdv ct oc : Value} {an od : Option Addr} {osl : Array (Option Value)}
    (hc : X.calm = true) (hdp : X.A.depth < recursionLimit) (cl : L2.Cls X.K C) (na : NoAttr X.K C f) (hf : f = if b then fa else fb) (hd : d = true → b = false)
    (lk : X.K.lookup g = some ⟨oc, od, .func (PySem.W.fnOf name qual params (wkBody fa fb p1 p2 p3 p4 p5 p6 p7 p8 p9 p10) scope dV kV doc pm an cdv ct), osl⟩) (cd : PySem.W.codeIn X.K cdv qual = true)
    (sc : scope.kind = .function ∧ scope.isCoroutine = false ∧ scope.isGenerator = true ∧ scope.names.lookup ("self" : Str) = some .local ∧ scope.names.lookup ("last" : Str) = some .local)
    (bd : ∀ (s : Shared) (x : Value) (b : Bool), X.K.In s.heap → (d = true → b = false) → BindsTo s (PySem.W.fnOf name qual params (wkBody fa fb p1 p2 p3 p4 p5 p6 p7 p8 p9 p10) scope dV kV doc pm an cdv ct) (wkArgs d x (.bool b)) [("self", x), ("last", .bool b)])
    (I : Inv X pins σ H s) (e : H x = some (.ins C dx fs)) (l : fs.lookup f = some (.ref t)) (sq : SqT X.K H t xs)
    (hQ : ∀ a n s' c, Inv X pins σ H s' → s'.heap.IsGen a n → s'.gens[n]? = some (.fresh c) → FpOk X pins H a →
      Seg (model X.prog X.w) X.A.in1 (RW s'.heap.objs.size) (YW s'.heap.objs.size t xs) xs.length (s'.setGen n .running) c ((model X.prog X.w).den c) [] (s'.setGen n .running) → Q (.ref a) s') :
    wpAny (model X.prog X.w) X.A (call (.ref g) [.ref x] (wkArgs d (.ref x) (.bool b)).kw) Q E s := by
  obtain ⟨k1, k2, k3, k4, k5⟩ := sc
  refine wpAny_call ?_
  refine codeAny_call_generator hdp (I.kIn _ _ lk) rfl k2 k3 rfl (PySem.W.codeRec_of I.kIn cd) (bd s (.ref x) b I.kIn hd _ _ _ _ ?_)
  have hkind : ∀ y ∈ [(("self" : Str), Value.ref x), ("last", Value.bool b)], scope.names.lookup y.1 = some .local ∨ (scope.names.lookup y.1 = some .cell ∧ ((cellsFrom (s.heap.objs.size + 1) scope.names []).lookup y.1).isSome = true) := fun y hy => by
    rcases List.mem_cons.mp hy with e | hy
    · rw [e]; exact .inl k4
    · rw [List.mem_singleton.mp hy]; exact .inl k5
  refine wpAny_newFunctionEnv_cells k1 hkind fun env he s1 xc => ?_
  have lim1 : s1.heap.NoLimit := I.nolimit.keeps xc.toInCall.keep
  refine ⟨lim1, ?_⟩
  obtain ⟨h1, tk, es1, hk1⟩ := xc.done
  have os1 : s1.os = s.os := by rw [es1]
  have gen1 : s1.gens = s.gens := by rw [es1]
  have kp1 : ∀ b o, s.heap.get? b = some o → s1.heap.get? b = some o := xc.toInCall.keep
  have lt1 : env.locals < s1.heap.objs.size := xc.toInCall.ns.lt
  have el : env.locals = s.heap.objs.size := by rw [he]; rfl
  have kl : env.kindOf "self" = some .local := by rw [he]; exact k4
  have kk : env.kindOf "last" = some .local := by rw [he]; exact k5
  have ek : env.scope.kind = .function := by rw [he]; exact k1
  have ei : interactive env = false := by
    unfold interactive
    rw [ek]
    rfl
  have nd : [("self" : Str), "last"].Nodup := by decide
  have ms : bindL env.kindOf [("self", Value.ref x), ("last", Value.bool b)] (fun _ => none) "self" = some (.ref x) := bindL_get (P := ["self", "last"]) (vs := [.ref x, .bool b]) (i := 0) nd rfl rfl kl
  have ml : bindL env.kindOf [("self", Value.ref x), ("last", Value.bool b)] (fun _ => none) "last" = some (.bool b) := bindL_get (P := ["self", "last"]) (vs := [.ref x, .bool b]) (i := 1) nd rfl rfl kk
  have main : ∀ (go : Obj) (nm qn : Value) (tk2 : Nat), go.cls = .type "generator" → go.data = .fields #[.int s1.gens.size 0, nm, qn] → go.slots = #[] → (∀ h : Heap, (h.push go).get? h.objs.size = some go) →
      Q (.ref s1.heap.objs.size) { s1 with gens := s1.gens.push (.fresh (.func (wkBody fa fb p1 p2 p3 p4 p5 p6 p7 p8 p9 p10) env)), toks := tk2, heap := s1.heap.push go } := by
    intro go nm qn tk2 hgc hgd0 hgs hgp
    have kp2 : ∀ b o, s1.heap.get? b = some o → (s1.heap.push go).get? b = some o := fun b o e => Heap.get?_push_of_some _ e
    have kp3 : ∀ b o, s.heap.get? b = some o → (s1.heap.push go).get? b = some o := fun b o e => kp2 b o (kp1 b o e)
    have I' : Inv X pins σ H { s1 with gens := s1.gens.push (.fresh (.func (wkBody fa fb p1 p2 p3 p4 p5 p6 p7 p8 p9 p10) env)), toks := tk2, heap := s1.heap.push go } := by
      refine (I.kept (t' := tk2) kp3).same rfl os1 ?_
      exact AllBare.push (by rw [gen1]; exact I.bare) rfl
    have hsz : s.heap.objs.size ≤ s1.heap.objs.size := by rw [← el]; exact Nat.le_of_lt lt1
    refine hQ s1.heap.objs.size s1.gens.size _ _ I' ⟨go, nm, qn, hgp _, hgc, hgd0, hgs⟩ (Array.getElem?_push_size ..) (I.fpOk hsz (I.hok.fresh hsz)) ?_
    obtain ⟨mA, O, r, _, _, _⟩ := ins_get I'.hok e
    obtain ⟨u, hu, ru⟩ := RelO.some_of (v := .ref t) (o := mA f) (by rw [← l]; exact r f)
    obtain rfl : u = Value.ref t := ru
    obtain ⟨its, rits, ht, _⟩ := I'.tuple sq
    exact seg_walk (P := X.prog) (w := X.w) (A := X.A.in1) (K := X.K) (env := env) (f := f) (b := b) (C := C) (s := Shared.setGen { s1 with gens := s1.gens.push (.fresh (.func (wkBody fa fb p1 p2 p3 p4 p5 p6 p7 p8 p9 p10) env)), toks := tk2, heap := s1.heap.push go } s1.gens.size .running)
      (show X.A.handled = none from I.ok.hd hc) ek ei kl kk (xc.toInCall.ns.keeps kp2) ms ml I'.kIn O (cl.get f) cl.hd na hf hu rfl ⟨its, rits, ht⟩
  exact main _ _ _ _ rfl rfl rfl fun h => Heap.get?_push_size _ rfl
end
end GL
namespace GL
open PySem PySem.Spec PyProof.Rows L2 GenW
section
variable {X : Cx} {k : Nat} {C : Addr} {fa fb f : Str} {o e : Expr} {ta te : TE} {apos pos' kpos : Pos} {b : Bool}
/-- o.walk(last=b) -/
theorem pw_walkK {pl : Sem Bool} (hc : X.calm = true) (hr : Room k X.A) (he : PE X o ta) (cl : L2.Cls X.K C) (na : NoAttr X.K C f) (wk : WlkC X.K C fa fb false) (hf : f = if b then fa else fb) (hv : PE X e (tC (.bl b)))
    (ht : eval (.Call (.Attribute o "walk" apos) [] [⟨some "last", e, kpos⟩] pos') X.env = (do
      let ov ← eval o X.env
      standAt apos.atName
      let (f, first) ← holding [ov] (getMethod ov "walk" pl)
      callWith pos' f first (backTo pos' (starEach [] X.env)) (backToKw pos' (keywordEach [⟨some "last", e, kpos⟩] X.env))) := by rfl) :
    PW X (.Call (.Attribute o "walk" apos) [] [⟨some "last", e, kpos⟩] pos') (tWalkM X.K C f ta) := by
  refine ⟨fun pins s σ H cont I h => ?_⟩
  refine PySem.W.methodCall_KW (pl := pl) (thn (he.run pins s σ H _ I h) fun u s1 ⟨v, H1, I1, rx, x, dx, fs, t, xs, ev, ea, l1, l2, sq, q⟩ => ?_) ht
  subst ev
  obtain rfl : u = Value.ref x := rx
  obtain ⟨g, name, qual, params, p1, p2, p3, p4, p5, p6, p7, p8, p9, p10, scope, dV, kV, doc, pm, cdv, ct, oc, an, od, osl, hm, lk, cd, sc, bd⟩ := wk
  refine getmeth_ok I1 ea cl hm l1 ?_
  refine PySem.W.callWith_of (P := X.K.In) (by rfl) (PySem.W.keeps_K hm.kp) ?_
  refine evalArgs_kw_nil (by rfl) ?_
  refine thn ((pk_cons (nm := some "last") (kpos := kpos) hv pk_nil).run pos' pins s1 σ H1 (fun zs H2 => zs = [.bl b] ∧ H2 = H1) I1 ⟨rfl, rfl⟩) fun ws s2 ⟨zs, H2, I2, rz, ez, eh⟩ => ⟨I2.kIn, ?_⟩
  subst ez eh
  have ew : ws = [Value.bool b] := by
    cases rz with
    | cons r rr =>
      cases rr
      have r' : _ = Value.bool b := r
      rw [r']
  subst ew
  have hdp : X.A.depth < recursionLimit := by have := hr.dp; omega
  exact call_walk (d := false) hc hdp cl na hf (fun z => nomatch z) lk cd sc bd I2 ea l2 sq fun a n s' c I' h1 h2 h3 h4 => ⟨a, n, t, xs, c, H2, rfl, I', h1, h2, h3, h4, q⟩
/-- o.walk() -/
theorem pw_walk0 {pl : Sem Bool} (hc : X.calm = true) (hr : Room k X.A) (he : PE X o ta) (cl : L2.Cls X.K C) (na : NoAttr X.K C fb) (wk : WlkC X.K C fa fb true)
    (ht : eval (.Call (.Attribute o "walk" apos) [] [] pos') X.env = (do
      let ov ← eval o X.env
      standAt apos.atName
      let (f, first) ← holding [ov] (getMethod ov "walk" pl)
      callWith pos' f first (backTo pos' (starEach [] X.env)) (backToKw pos' (keywordEach [] X.env))) := by rfl) :
    PW X (.Call (.Attribute o "walk" apos) [] [] pos') (tWalkM X.K C fb ta) := by
  refine ⟨fun pins s σ H cont I h => ?_⟩
  refine PySem.W.methodCall_KW (pl := pl) (thn (he.run pins s σ H _ I h) fun u s1 ⟨v, H1, I1, rx, x, dx, fs, t, xs, ev, ea, l1, l2, sq, q⟩ => ?_) ht
  subst ev
  obtain rfl : u = Value.ref x := rx
  obtain ⟨g, name, qual, params, p1, p2, p3, p4, p5, p6, p7, p8, p9, p10, scope, dV, kV, doc, pm, cdv, ct, oc, an, od, osl, hm, lk, cd, sc, bd⟩ := wk
  refine getmeth_ok I1 ea cl hm l1 ?_
  have hdp : X.A.depth < recursionLimit := by have := hr.dp; omega
  refine PySem.W.callWith_K0 (first := [.ref x]) I1.kIn hm.kp ?_
  exact call_walk (d := true) (b := false) hc hdp cl na rfl (fun _ => rfl) lk cd sc bd I1 ea l2 sq fun a n s' c I' h1 h2 h3 h4 => ⟨a, n, t, xs, c, H1, rfl, I', h1, h2, h3, h4, q⟩
theorem lifts_cx {P : Program} {w : World} {K : PySem.W.Frag} {mg : Str → Option Value} {base : Heap} {N : List Str} {qual : Str} {scope : Scope} {f : Addr} {cd : Value} {A : Around} {outer : List PySem.Env} {s : Shared} {H : Hp} {E : XK} :
    LiftE (cxOf (L2.CX P w) P w K mg base N qual scope f cd A outer s H E).xe := fun T e s1 hT ok h => by
  have lf : ∀ {u : Value} {s0 : Shared}, L2.CX P w outer H s E u s0 → L2.CX P w outer H s E u (lift T s0) := fun {u s0} c => by
    obtain ⟨a, B, H', cls, d, z1, fl, z2, ub, z3, z4, z5, z6⟩ := c
    exact ⟨a, B, H', cls, d, z1, fl, z2, ub, z3, z4, liftT_bare hT z5, z6⟩
  exact wpAny_mono (wpAny_lift T ok (show wpAny (model P w) _ (leaving _ e) (fun _ s'' => L2.CX P w outer H s E e s'') (fun e' s'' => L2.CX P w outer H s E e' s'') s1 from h)) (fun _ s'' ⟨s0, ok0, es, c⟩ => es ▸ lf c) fun _ s'' ⟨s0, ok0, es, c⟩ => es ▸ lf c
end
end GL
namespace SY
open PySem PySem.Spec PyProof.Rows L2 GL
section
variable {X : Cx} {W : WX} {k : Nat} {C : Addr} {fa fb f : Str} {o e tg : Expr} {te : sE} {apos pos pos' kpos : Pos} {b : Bool} {body : List Stmt} {g : sG} {tb : sS}
def sForW (K : PySem.W.Frag) (C : Addr) (f : Str) (te : sE) (g : sG) (tb : sS) : sS := fun D z S => te D.ex z S fun v S1 => match v with
  | .ref x => ∃ dx fs t xs, At S1 x (.ins C dx fs) ∧ fs.lookup ("walk" : Str) = none ∧ fs.lookup f = some (.ref t) ∧ sU K S1 t xs ∧ ∃ P : Nat → L2.St → SH → Prop, P 0 z S1 ∧ (∀ i z S, i ≤ xs.length → P i z S → sU K S t xs) ∧
    (∀ i x z S, xs[i]? = some x → P i z S → g D.ex x z S fun z2 S2 => tb { D with nx := fun z' => Wk (P (i + 1) z'), ct := fun z' => Wk (P (i + 1) z'), bk := D.nx } z2 S2) ∧ ∀ z S, P xs.length z S → D.nx z S
  | _ => False
theorem hForW_of {iter : Expr} (hp : PassesOwn (model X.prog X.w) X.A X.env X.xe) (hc : X.calm = true) (hx : LiftE X.xe) (hr : Room k X.A) (hi : PW X iter (tWalkM X.K C f (dE W te))) (hg : PG X tg (dG W g)) (hb : PSs X body (dS W tb)) (hs : ∀ x, foldedSetIterable iter X.env x = pure x := by intro _; rfl) :
    PS X (.For tg iter body [] pos) (dS W (sForW X.K C f te g tb)) :=
  PS.by (ps_forW hp hc hx (by have := hr.dp; omega) hi hg hb hs) fun D z H ⟨S, D', ow, h, k⟩ => ⟨S, _, D'.ex, k.ex, ow, h, fun v S1 H1 o1 h1 => by
    split at h1
    · obtain ⟨dx, fs, t, xs, h1, h2, h3, hu, P, h0, hok, hs, hd⟩ := h1
      refine ⟨_, dx, fs, t, xs, rfl, o1.at h1, h2, h3, o1.u hu, fun i z H => ∃ S, Own S H ∧ P i z S, ⟨S1, o1, h0⟩, ?_⟩
      rintro i z H hi ⟨S2, o2, p⟩
      refine ⟨o2.u (hok i z S2 hi p), fun e => k.nx _ _ _ o2 (hd z S2 (e ▸ p)), fun x hx => ?_⟩
      exact ⟨S2, _, D'.ex, k.ex, o2, hs i x z S2 hx p, fun z2 S3 H3 o3 q3 => ⟨S3, _, o3, q3, ⟨fun z4 S4 H4 o4 ⟨S0, le, q4⟩ => ⟨S0, le _ o4, q4⟩, k.rt, k.nx, fun z4 S4 H4 o4 ⟨S0, le, q4⟩ => ⟨S0, le _ o4, q4⟩, k.ex⟩⟩⟩
    · exact h1.elim⟩
theorem hForWK (hp : PassesOwn (model X.prog X.w) X.A X.env X.xe) (hc : X.calm = true) (hx : LiftE X.xe) (hr : Room k X.A) (cl : L2.Cls X.K C) (na : NoAttr X.K C f) (wk : WlkC X.K C fa fb false) (hf : f = if b then fa else fb) {pl : Sem Bool} (ho : PE X o (dE W te)) (hv : PE X e (tC (.bl b))) (hg : PG X tg (dG W g)) (hb : PSs X body (dS W tb))
    (ht : eval (.Call (.Attribute o "walk" apos) [] [⟨some "last", e, kpos⟩] pos') X.env = (do
      let ov ← eval o X.env
      standAt apos.atName
      let (f, first) ← holding [ov] (getMethod ov "walk" pl)
      callWith pos' f first (backTo pos' (starEach [] X.env)) (backToKw pos' (keywordEach [⟨some "last", e, kpos⟩] X.env))) := by rfl)
    (hs : ∀ x, foldedSetIterable (.Call (.Attribute o "walk" apos) [] [⟨some "last", e, kpos⟩] pos') X.env x = pure x := by intro _; rfl) :
    PS X (.For tg (.Call (.Attribute o "walk" apos) [] [⟨some "last", e, kpos⟩] pos') body [] pos) (dS W (sForW X.K C f te g tb)) :=
  hForW_of hp hc hx hr (pw_walkK hc hr ho cl na wk hf hv ht) hg hb hs
theorem hForW0 (hp : PassesOwn (model X.prog X.w) X.A X.env X.xe) (hc : X.calm = true) (hx : LiftE X.xe) (hr : Room k X.A) (cl : L2.Cls X.K C) (na : NoAttr X.K C fb) (wk : WlkC X.K C fa fb true) {pl : Sem Bool} (ho : PE X o (dE W te)) (hg : PG X tg (dG W g)) (hb : PSs X body (dS W tb))
    (ht : eval (.Call (.Attribute o "walk" apos) [] [] pos') X.env = (do
      let ov ← eval o X.env
      standAt apos.atName
      let (f, first) ← holding [ov] (getMethod ov "walk" pl)
      callWith pos' f first (backTo pos' (starEach [] X.env)) (backToKw pos' (keywordEach [] X.env))) := by rfl)
    (hs : ∀ x, foldedSetIterable (.Call (.Attribute o "walk" apos) [] [] pos') X.env x = pure x := by intro _; rfl) :
    PS X (.For tg (.Call (.Attribute o "walk" apos) [] [] pos') body [] pos) (dS W (sForW X.K C fb te g tb)) :=
  hForW_of hp hc hx hr (pw_walk0 hc hr ho cl na wk ht) hg hb hs
end
end SY

namespace SY
open PySem PySem.Spec PyProof.Rows L2
section
variable {X : Cx} {W : WX} {a b : Expr} {pos : Pos} {ta tb : sE}
/-- max(i, j) -/
def nMax2 : sN := fun vs S Q => match vs with
  | [.int i, .int j] => Q (.int (if j > i then j else i)) S
  | _ => False
theorem lMax2 : LiftN nMax2 (fun xs H Q => ∃ i j, xs = [.int i, .int j] ∧ Q (.int (if j > i then j else i)) H) := by
  intro vs S Q' H Q o h k
  unfold nMax2 at h
  split at h
  · exact ⟨_, _, rfl, k _ _ _ o h⟩
  · exact h.elim
/-- max of a list of ints -/
def nMaxL (K : PySem.W.Frag) : sN := fun vs S Q => match vs with
  | [.ref p] => ∃ ns : List Int, sL K S p (ns.map V.int) ∧ 0 < ns.length ∧ ∀ m, m ∈ ns → (∀ y, y ∈ ns → y ≤ m) → Q (.int m) S
  | _ => False
theorem lMaxL {K : PySem.W.Frag} : LiftN (nMaxL K) (rMax K) := by
  intro vs S Q' H Q o h k
  unfold nMaxL at h
  split at h
  · obtain ⟨ns, h1, h2, h3⟩ := h
    exact ⟨_, ns, rfl, o.l h1, h2, fun m hm hy => k _ _ _ o (h3 m hm hy)⟩
  · exact h.elim
def oShl : s2 := oI CPow fun i j => .int (i * 2 ^ j.toNat)
theorem gShl (ha : PE X a (dE W ta)) (hb : PE X b (dE W tb)) : PE X (.BinOp a .LShift b pos) (dE W (sOp oShl ta tb)) := gOp op_shl lI ha hb
end
end SY
/-! more readings, as later laws ask for them -/
namespace SY
open PySem PySem.Spec PyProof.Rows L2
section
variable {X : Cx}
/-- len(d), d a dict with plain keys -/
def rLenD : List V → Hp → VK → Prop := fun xs H Q => ∃ p kvs, xs = [.ref p] ∧ H p = some (.dK kvs) ∧ Q (.int kvs.length) H
theorem cr_lenD : CallR X (.builtin "len") rLenD := by
  intro pins s σ H vs us Q I r h
  obtain ⟨p, kvs, rfl, h1, h2⟩ := h
  obtain ⟨u, rfl, rx⟩ := vals1 r
  cases rx
  exact d_len I (.inl h1) fun t s' I' => ⟨.int kvs.length, H, I', ⟨t, rfl⟩, h2⟩
def nLenD : sN := fun vs S Q => match vs with
  | [.ref p] => ∃ kvs, At S p (.dK kvs) ∧ Q (.int kvs.length) S
  | _ => False
theorem lLenD : LiftN nLenD rLenD := by
  intro vs S Q' H Q o h k
  unfold nLenD at h
  split at h
  · obtain ⟨kvs, h1, h2⟩ := h
    exact ⟨_, kvs, rfl, o.at h1, k _ _ _ o h2⟩
  · exact h.elim
end
end SY
namespace LW
/-! ### trees of slots -/
inductive TR where
  | leaf
  | node (l r : TR)
namespace TR
def nS : TR → Nat
  | leaf => 1
  | node l r => nS l + nS r
theorem nS_pos : ∀ b : TR, 1 ≤ nS b
  | leaf => Nat.le_refl 1
  | node l r => Nat.le_trans (nS_pos l) (Nat.le_add_right _ _)
/-- the ways from the root, slot by slot; o: the first slot -/
def wayB : TR → Nat → List (List (Nat × Bool))
  | leaf, _ => [[]]
  | node l r, o => (wayB l o).map ((o + nS l - 1, true) :: ·) ++ (wayB r (o + nS l)).map ((o + nS l - 1, false) :: ·)
theorem wayB_len : ∀ (b : TR) (o : Nat), (wayB b o).length = nS b
  | leaf, _ => rfl
  | node l r, o => by
    show ((wayB l o).map _ ++ (wayB r (o + nS l)).map _).length = nS l + nS r
    rw [List.length_append, List.length_map, List.length_map, wayB_len l, wayB_len r]
def txt : TR → List Nat
  | leaf => [46]
  | node l r => 40 :: (txt l ++ (txt r ++ [41]))
theorem txt_len : ∀ b : TR, (txt b).length + 2 = 3 * nS b
  | leaf => rfl
  | node l r => by
    have h1 := txt_len l
    have h2 := txt_len r
    show (40 :: (txt l ++ (txt r ++ [41]))).length + 2 = 3 * (nS l + nS r)
    rw [List.length_cons, List.length_append, List.length_append, List.length_singleton]
    omega
/-- a node's kind (1: slot, 2: fork) and number -/
def ndB : TR → Nat → Nat × Nat
  | leaf, o => (1, o)
  | node l _, o => (2, o + nS l - 1)
/-- .. with its first and last slot and where it begins -/
abbrev PN := Nat × Nat × Nat × Nat × Nat
def pnB : TR → Nat → Nat → PN
  | leaf, o, p => (1, o, o, o, p)
  | node l r, o, p => (2, o + nS l - 1, o, o + nS l + nS r - 1, p)
abbrev Row := Nat × (Nat × Nat) × (Nat × Nat) × (Nat × Nat) × (Nat × Nat)
def rowsB : TR → Nat → Nat → List Row
  | leaf, _, _ => []
  | node l r, o, p => rowsB l o (p + 1) ++ (rowsB r (o + nS l) (p + 1 + (txt l).length) ++ [(o + nS l - 1, ndB l o, ndB r (o + nS l), (o, o + nS l + nS r - 1), (p, p + (txt (node l r)).length))])
theorem rowsB_len : ∀ (b : TR) (o p : Nat), (rowsB b o p).length + 1 = nS b
  | leaf, _, _ => rfl
  | node l r, o, p => by
    have h1 := rowsB_len l o (p + 1)
    have h2 := rowsB_len r (o + nS l) (p + 1 + (txt l).length)
    show (rowsB l o (p + 1) ++ (rowsB r (o + nS l) (p + 1 + (txt l).length) ++ [_])).length + 1 = nS l + nS r
    rw [List.length_append, List.length_append, List.length_singleton]
    omega
/-! ### the reading with a stack -/
abbrev PS := List PN × List Row × Nat
def endsF (st : List PN) : Bool := ((st.drop (st.length - 3)).map fun n => n.1 == 0) == [true, false, false]
def joinP (st : List PN) (rows : List Row) (n p : Nat) : Option PS := match st.reverse with
  | r :: l :: o :: rest => some (rest.reverse ++ [(2, l.2.2.2.1, l.2.2.1, r.2.2.2.1, o.2.2.2.2)], rows ++ [(l.2.2.2.1, (l.1, l.2.1), (r.1, r.2.1), (l.2.2.1, r.2.2.2.1), (o.2.2.2.2, p + 1))], n)
  | _ => none
def stepP (s : PS) (p c : Nat) : Option PS :=
  if c = 40 then some (s.1 ++ [(0, 0, 0, 0, p)], s.2.1, s.2.2)
  else if c = 46 then some (s.1 ++ [(1, s.2.2, s.2.2, s.2.2, p)], s.2.1, s.2.2 + 1)
  else if c = 41 ∧ endsF s.1 = true then joinP s.1 s.2.1 s.2.2 p
  else none
def runP : List Nat → Nat → PS → Option PS
  | [], _, s => some s
  | c :: cs, p, s => (stepP s p c).bind fun s2 => runP cs (p + 1) s2
theorem runP_app : ∀ (xs ys : List Nat) (p : Nat) (s : PS), runP (xs ++ ys) p s = (runP xs p s).bind fun s2 => runP ys (p + xs.length) s2
  | [], ys, p, s => rfl
  | c :: xs, ys, p, s => by
    show (stepP s p c).bind (fun s2 => runP (xs ++ ys) (p + 1) s2) = ((stepP s p c).bind fun s2 => runP xs (p + 1) s2).bind fun s2 => runP ys (p + (xs.length + 1)) s2
    cases stepP s p c with
    | none => rfl
    | some s2 =>
      show runP (xs ++ ys) (p + 1) s2 = (runP xs (p + 1) s2).bind fun s2 => runP ys (p + (xs.length + 1)) s2
      rw [runP_app xs ys (p + 1) s2]
      congr 1
      funext s3
      congr 1
      omega
theorem pn_kind : ∀ (b : TR) (o p : Nat), ((pnB b o p).1 == 0) = false
  | leaf, _, _ => rfl
  | node _ _, _, _ => rfl
theorem pn_nd : ∀ (b : TR) (o p : Nat), ((pnB b o p).1, (pnB b o p).2.1) = ndB b o
  | leaf, _, _ => rfl
  | node _ _, _, _ => rfl
theorem pn_first : ∀ (b : TR) (o p : Nat), (pnB b o p).2.2.1 = o
  | leaf, _, _ => rfl
  | node _ _, _, _ => rfl
theorem pn_last : ∀ (b : TR) (o p : Nat), (pnB b o p).2.2.2.1 = o + nS b - 1
  | leaf, o, _ => by
    show o = o + 1 - 1
    omega
  | node l r, o, _ => by
    show o + nS l + nS r - 1 = o + (nS l + nS r) - 1
    omega
theorem endsF_three (st : List PN) {o l r : PN} (ho : (o.1 == 0) = true) (hl : (l.1 == 0) = false) (hr : (r.1 == 0) = false) : endsF (st ++ [o, l, r]) = true := by
  unfold endsF
  have e : (st ++ [o, l, r]).drop ((st ++ [o, l, r]).length - 3) = [o, l, r] := by
    rw [List.length_append]
    show (st ++ [o, l, r]).drop (st.length + 3 - 3) = _
    rw [Nat.add_sub_cancel, List.drop_left]
  rw [e]
  show ([o.1 == 0, l.1 == 0, r.1 == 0] == [true, false, false]) = true
  rw [ho, hl, hr]
  rfl
theorem parse_ok : ∀ (b : TR) (o p : Nat) (st : List PN) (rows : List Row), runP (txt b) p (st, rows, o) = some (st ++ [pnB b o p], rows ++ rowsB b o p, o + nS b)
  | leaf, o, p, st, rows => by
    show some (st ++ [(1, o, o, o, p)], rows, o + 1) = some (st ++ [(1, o, o, o, p)], rows ++ [], o + 1)
    rw [List.append_nil]
  | node l r, o, p, st, rows => by
    show runP (40 :: (txt l ++ (txt r ++ [41]))) p (st, rows, o) = _
    show runP (txt l ++ (txt r ++ [41])) (p + 1) (st ++ [(0, 0, 0, 0, p)], rows, o) = _
    rw [runP_app, parse_ok l]
    show runP (txt r ++ [41]) (p + 1 + (txt l).length) (st ++ [(0, 0, 0, 0, p)] ++ [pnB l o (p + 1)], rows ++ rowsB l o (p + 1), o + nS l) = _
    rw [runP_app, parse_ok r]
    have pl := nS_pos l
    have pr := nS_pos r
    generalize hL : pnB l o (p + 1) = L
    generalize hR : pnB r (o + nS l) (p + 1 + (txt l).length) = R
    have kL : (L.1 == 0) = false := by rw [← hL]; exact pn_kind l _ _
    have kR : (R.1 == 0) = false := by rw [← hR]; exact pn_kind r _ _
    have e : st ++ [(0, 0, 0, 0, p)] ++ [L] ++ [R] = st ++ [(0, 0, 0, 0, p), L, R] := by
      rw [List.append_assoc, List.append_assoc]
      rfl
    show ((stepP (st ++ [(0, 0, 0, 0, p)] ++ [L] ++ [R], rows ++ rowsB l o (p + 1) ++ rowsB r (o + nS l) (p + 1 + (txt l).length), o + nS l + nS r) (p + 1 + (txt l).length + (txt r).length) 41).bind fun s2 => some s2) = _
    rw [e]
    have es : stepP (st ++ [(0, 0, 0, 0, p), L, R], rows ++ rowsB l o (p + 1) ++ rowsB r (o + nS l) (p + 1 + (txt l).length), o + nS l + nS r) (p + 1 + (txt l).length + (txt r).length) 41 = joinP (st ++ [(0, 0, 0, 0, p), L, R]) (rows ++ rowsB l o (p + 1) ++ rowsB r (o + nS l) (p + 1 + (txt l).length)) (o + nS l + nS r) (p + 1 + (txt l).length + (txt r).length) := by
      unfold stepP
      rw [if_neg (by decide), if_neg (by decide), if_pos ⟨rfl, endsF_three st rfl kL kR⟩]
    rw [es]
    unfold joinP
    have er : (st ++ [((0, 0, 0, 0, p) : PN), L, R]).reverse = R :: L :: (0, 0, 0, 0, p) :: st.reverse := by
      rw [List.reverse_append]
      rfl
    rw [er]
    show some _ = some _
    have h1 : L.2.2.2.1 = o + nS l - 1 := by rw [← hL]; exact pn_last l _ _
    have h2 : L.2.2.1 = o := by rw [← hL]; exact pn_first l _ _
    have h3 : R.2.2.2.1 = o + nS l + nS r - 1 := by rw [← hR]; exact pn_last r _ _
    have h4 : (L.1, L.2.1) = ndB l o := by rw [← hL]; exact pn_nd l _ _
    have h5 : (R.1, R.2.1) = ndB r (o + nS l) := by rw [← hR]; exact pn_nd r _ _
    have h6 : p + 1 + (txt l).length + (txt r).length + 1 = p + (txt (node l r)).length := by
      show _ = p + (40 :: (txt l ++ (txt r ++ [41]))).length
      rw [List.length_cons, List.length_append, List.length_append, List.length_singleton]
      omega
    rw [h1, h2, h3, h4, h5, List.reverse_reverse]
    show some (st ++ [(2, o + nS l - 1, o, o + nS l + nS r - 1, p)], rows ++ rowsB l o (p + 1) ++ rowsB r (o + nS l) (p + 1 + (txt l).length) ++ [(o + nS l - 1, ndB l o, ndB r (o + nS l), (o, o + nS l + nS r - 1), (p, p + 1 + (txt l).length + (txt r).length + 1))], o + nS l + nS r) = _
    rw [h6]
    show _ = some (st ++ [(2, o + nS l - 1, o, o + nS l + nS r - 1, p)], rows ++ (rowsB l o (p + 1) ++ (rowsB r (o + nS l) (p + 1 + (txt l).length) ++ [_])), o + (nS l + nS r))
    simp only [List.append_assoc, Nat.add_assoc]
end TR
namespace TR
/-! ### trails -/
abbrev Way := List (Nat × Bool)
def trF (m : Nat × Bool → Bool) : Way → List Nat × Option Nat
  | [] => ([], none)
  | s :: w => match trF m w with
    | (p, some h) => (p, some h)
    | (p, none) => if m s then (s.1 :: p, none) else (p, some s.1)
theorem trF_all (m : Nat × Bool → Bool) : ∀ w : Way, (∀ s ∈ w, m s = true) → trF m w = (w.map Prod.fst, none)
  | [], _ => rfl
  | s :: w, h => by
    unfold trF
    rw [trF_all m w fun x hx => h x (.tail _ hx)]
    show (if m s then _ else _) = _
    rw [if_pos (h s (.head _))]
    rfl
theorem trF_pre (m : Nat × Bool → Bool) {w : Way} {p : List Nat} {f : Nat} (e : trF m w = (p, some f)) : ∀ u : Way, trF m (u ++ w) = (p, some f)
  | [] => e
  | s :: u => by
    show trF m (s :: (u ++ w)) = _
    unfold trF
    rw [trF_pre m e u]
theorem trF_stop (m : Nat × Bool → Bool) {u w : Way} {s : Nat × Bool} (hs : m s = false) (h : ∀ x ∈ w, m x = true) : trF m (u ++ s :: w) = (w.map Prod.fst, some s.1) := by
  refine trF_pre m ?_ u
  show trF m (s :: w) = _
  unfold trF
  rw [trF_all m w h]
  show (if m s then _ else _) = _
  rw [if_neg (by rw [hs]; exact Bool.false_ne_true)]
/-- as the loops make it: all from the k-th step on fit, and the step before does not -/
theorem trF_at (m : Nat × Bool → Bool) {w : Way} {k : Nat} {s : Nat × Bool} (hk : w[k]? = some s) (hs : m s = false) (h : ∀ x ∈ w.drop (k + 1), m x = true) : trF m w = ((w.drop (k + 1)).map Prod.fst, some s.1) := by
  obtain ⟨hl, e⟩ := List.getElem?_eq_some_iff.mp hk
  have e2 : w = w.take k ++ s :: w.drop (k + 1) := by
    rw [← e, List.getElem_cons_drop, List.take_append_drop]
  have := trF_stop m (u := w.take k) (w := w.drop (k + 1)) hs h
  rw [← e2] at this
  exact this
theorem trF_hang (m : Nat × Bool → Bool) : ∀ (w : Way) (p : List Nat) (f : Nat), trF m w = (p, some f) → ∃ s ∈ w, s.1 = f
  | [], p, f, e => by cases e
  | s :: w, p, f, e => by
    unfold trF at e
    split at e
    · rename_i p2 h2 e2
      cases e
      obtain ⟨x, hx, e3⟩ := trF_hang m w p f e2
      exact ⟨x, .tail _ hx, e3⟩
    · rename_i p2 e2
      split at e
      · cases e
      · cases e
        exact ⟨s, .head _, rfl⟩
theorem trF_passed (m : Nat × Bool → Bool) : ∀ (w : Way) (x : Nat), x ∈ (trF m w).1 → ∃ s ∈ w, s.1 = x
  | [], x, h => nomatch h
  | s :: w, x, h => by
    unfold trF at h
    split at h
    · rename_i p2 h2 e2
      obtain ⟨y, hy, e3⟩ := trF_passed m w x (by rw [e2]; exact h)
      exact ⟨y, .tail _ hy, e3⟩
    · rename_i p2 e2
      split at h
      · cases h with
        | head => exact ⟨s, .head _, rfl⟩
        | tail _ h =>
          obtain ⟨y, hy, e3⟩ := trF_passed m w x (by rw [e2]; exact h)
          exact ⟨y, .tail _ hy, e3⟩
      · obtain ⟨y, hy, e3⟩ := trF_passed m w x (by rw [e2]; exact h)
        exact ⟨y, .tail _ hy, e3⟩
abbrev Tr := List Nat × Option Nat
def stpT (c : Bool) (f : Nat) : Tr → Tr
  | (p, some h) => (p, some h)
  | (p, none) => if c then (f :: p, none) else (p, some f)
theorem trF_cons (m : Nat × Bool → Bool) (s : Nat × Bool) (w : Way) : trF m (s :: w) = stpT (m s) s.1 (trF m w) := by
  show (match trF m w with | (p, some h) => (p, some h) | (p, none) => if m s then (s.1 :: p, none) else (p, some s.1)) = _
  rcases trF m w with ⟨p, _ | h⟩ <;> rfl
def open_ (L : List Tr) : Nat := L.countP fun t => t.2.isNone
theorem stp_false (f : Nat) : ∀ L : List Tr, (L.map (stpT false f)).flatMap Prod.fst = L.flatMap Prod.fst ∧ open_ (L.map (stpT false f)) = 0
  | [] => ⟨rfl, rfl⟩
  | t :: L => by
    obtain ⟨h1, h2⟩ := stp_false f L
    rcases t with ⟨p, _ | h⟩
    · exact ⟨congrArg (p ++ ·) h1, by show List.countP _ ((p, some f) :: _) = 0; rw [List.countP_cons_of_neg (by simp)]; exact h2⟩
    · exact ⟨congrArg (p ++ ·) h1, by show List.countP _ ((p, some h) :: _) = 0; rw [List.countP_cons_of_neg (by simp)]; exact h2⟩
theorem stp_none (f : Nat) : ∀ L : List Tr, open_ L = 0 → L.map (stpT true f) = L
  | [], _ => rfl
  | (p, none) :: L, h => by
    have : open_ ((p, none) :: L) = open_ L + 1 := List.countP_cons_of_pos rfl
    omega
  | (p, some x) :: L, h => by
    have : open_ ((p, some x) :: L) = open_ L := List.countP_cons_of_neg (by simp)
    show (p, some x) :: L.map (stpT true f) = _
    rw [stp_none f L (by omega)]
theorem stp_true (f : Nat) : ∀ L : List Tr, open_ L = 1 → ((L.map (stpT true f)).flatMap Prod.fst).Perm (f :: L.flatMap Prod.fst) ∧ open_ (L.map (stpT true f)) = 1
  | [], h => nomatch h
  | (p, none) :: L, h => by
    have e : open_ ((p, none) :: L) = open_ L + 1 := List.countP_cons_of_pos rfl
    have e0 : open_ L = 0 := by omega
    have em := stp_none f L e0
    constructor
    · show ((f :: p) ++ (L.map (stpT true f)).flatMap Prod.fst).Perm (f :: (p ++ L.flatMap Prod.fst))
      rw [em]
      exact .refl _
    · show open_ ((f :: p, none) :: L.map (stpT true f)) = 1
      rw [em]
      exact (List.countP_cons_of_pos rfl).trans (by show open_ L + 1 = 1; rw [e0])
  | (p, some x) :: L, h => by
    have e : open_ ((p, some x) :: L) = open_ L := List.countP_cons_of_neg (by simp)
    obtain ⟨h1, h2⟩ := stp_true f L (by omega)
    constructor
    · show (p ++ (L.map (stpT true f)).flatMap Prod.fst).Perm (f :: (p ++ L.flatMap Prod.fst))
      exact (h1.append_left p).trans List.perm_middle
    · exact (List.countP_cons_of_neg (by show ¬ (some x).isNone = true; simp)).trans h2
theorem open_append (A B : List Tr) : open_ (A ++ B) = open_ A + open_ B := List.countP_append
/-- each fork is on one trail, and one way fits wholly -/
theorem trails_all (m : Nat × Bool → Bool) (hm : ∀ f, m (f, true) = !m (f, false)) : ∀ (b : TR) (o : Nat), (((wayB b o).map (trF m)).flatMap Prod.fst).Perm (List.range' o (nS b - 1)) ∧ open_ ((wayB b o).map (trF m)) = 1
  | leaf, o => ⟨.refl _, rfl⟩
  | node l r, o => by
    obtain ⟨l1, l2⟩ := trails_all m hm l o
    obtain ⟨r1, r2⟩ := trails_all m hm r (o + nS l)
    have pl := nS_pos l
    have pr := nS_pos r
    have e : ((wayB (node l r) o).map (trF m)) = ((wayB l o).map (trF m)).map (stpT (m (o + nS l - 1, true)) (o + nS l - 1)) ++ ((wayB r (o + nS l)).map (trF m)).map (stpT (m (o + nS l - 1, false)) (o + nS l - 1)) := by
      show List.map _ (_ ++ _) = _
      rw [List.map_append, List.map_map, List.map_map, List.map_map, List.map_map]
      exact congr (congrArg HAppend.hAppend (List.map_congr_left fun w _ => trF_cons m _ w)) (List.map_congr_left fun w _ => trF_cons m _ w)
    have er : List.range' o (nS (node l r) - 1) = List.range' o (nS l - 1) ++ (o + nS l - 1) :: List.range' (o + nS l) (nS r - 1) := by
      rw [show nS (node l r) - 1 = (nS l - 1) + (nS r - 1 + 1) by (show nS l + nS r - 1 = _; omega), ← List.range'_append_1, show o + (nS l - 1) = o + nS l - 1 by omega, List.range'_succ, show o + nS l - 1 + 1 = o + nS l by omega]
    rw [e, er]
    generalize hL : (wayB l o).map (trF m) = L at l1 l2
    generalize hR : (wayB r (o + nS l)).map (trF m) = R at r1 r2
    generalize o + nS l - 1 = f
    generalize hLL : List.range' o (nS l - 1) = LL at l1
    generalize hRR : List.range' (o + nS l) (nS r - 1) = RR at r1
    rw [List.flatMap_append, open_append, hm f]
    cases m (f, false) with
    | false =>
      obtain ⟨a1, a2⟩ := stp_true f L l2
      obtain ⟨b1, b2⟩ := stp_false f R
      show ((L.map (stpT true f)).flatMap Prod.fst ++ (R.map (stpT false f)).flatMap Prod.fst).Perm _ ∧ open_ (L.map (stpT true f)) + open_ (R.map (stpT false f)) = 1
      rw [a2, b1, b2]
      refine ⟨(a1.append r1).trans ?_, rfl⟩
      show (f :: (L.flatMap Prod.fst ++ RR)).Perm _
      exact (((l1.append (.refl RR)).cons f)).trans List.perm_middle.symm
    | true =>
      obtain ⟨a1, a2⟩ := stp_false f L
      obtain ⟨b1, b2⟩ := stp_true f R r2
      show ((L.map (stpT false f)).flatMap Prod.fst ++ (R.map (stpT true f)).flatMap Prod.fst).Perm _ ∧ open_ (L.map (stpT false f)) + open_ (R.map (stpT true f)) = 1
      rw [a1, a2, b2]
      exact ⟨l1.append (b1.trans (r1.cons f)), rfl⟩
theorem way_small : ∀ (b : TR) (o : Nat), ∀ w ∈ wayB b o, ∀ s ∈ w, o ≤ s.1 ∧ s.1 + 1 < o + nS b
  | leaf, o, w, hw, s, hs => by
    cases hw with
    | head => nomatch hs
    | tail _ h => nomatch h
  | node l r, o, w, hw, s, hs => by
    have pl := nS_pos l
    have pr := nS_pos r
    show _ ∧ _ < o + (nS l + nS r)
    rcases List.mem_append.mp hw with h | h
    · obtain ⟨w2, h2, rfl⟩ := List.mem_map.mp h
      cases hs with
      | head => exact ⟨by show o ≤ o + nS l - 1; omega, by show o + nS l - 1 + 1 < _; omega⟩
      | tail _ hs =>
        have := way_small l o w2 h2 s hs
        omega
    · obtain ⟨w2, h2, rfl⟩ := List.mem_map.mp h
      cases hs with
      | head => exact ⟨by show o ≤ o + nS l - 1; omega, by show o + nS l - 1 + 1 < _; omega⟩
      | tail _ hs =>
        have := way_small r (o + nS l) w2 h2 s hs
        omega
theorem way_len : ∀ (b : TR) (o : Nat), ∀ w ∈ wayB b o, w.length < nS b
  | leaf, o, w, hw => by
    cases hw with
    | head => exact Nat.one_pos
    | tail _ h => nomatch h
  | node l r, o, w, hw => by
    have pl := nS_pos l
    have pr := nS_pos r
    show _ < nS l + nS r
    rcases List.mem_append.mp hw with h | h
    · obtain ⟨w2, h2, rfl⟩ := List.mem_map.mp h
      have := way_len l o w2 h2
      show w2.length + 1 < _
      omega
    · obtain ⟨w2, h2, rfl⟩ := List.mem_map.mp h
      have := way_len r (o + nS l) w2 h2
      show w2.length + 1 < _
      omega
/-- the step fits the flags -/
def okF (fl : List Bool) (s : Nat × Bool) : Bool := (fl[s.1]?.getD false) == s.2
theorem okF_not (fl : List Bool) (f : Nat) : okF fl (f, true) = !okF fl (f, false) := by
  unfold okF
  show ((fl[f]?.getD false) == true) = !((fl[f]?.getD false) == false)
  cases fl[f]?.getD false <;> rfl
/-- the trails of a tree -/
def trB (b : TR) (fl : List Bool) : List Tr := (wayB b 0).map (trF (okF fl))
theorem trB_len (b : TR) (fl : List Bool) : (trB b fl).length = nS b := by
  unfold trB
  rw [List.length_map, wayB_len]
theorem trB_perm (b : TR) (fl : List Bool) : ((trB b fl).flatMap Prod.fst).Perm (List.range (nS b - 1)) := by
  rw [List.range_eq_range']
  exact (trails_all (okF fl) (okF_not fl) b 0).1
/-- the slot whose trail holds f: the first -/
def ownB (L : List Tr) (f : Nat) : Option Nat := L.findIdx? fun t => t.1.contains f
theorem own_some {b : TR} {fl : List Bool} {f : Nat} (h : f + 1 < nS b) : ∃ i t, ownB (trB b fl) f = some i ∧ (trB b fl)[i]? = some t ∧ f ∈ t.1 := by
  have hm : f ∈ (trB b fl).flatMap Prod.fst := (trB_perm b fl).mem_iff.mpr (List.mem_range.mpr (by omega))
  obtain ⟨t, ht, hf⟩ := List.mem_flatMap.mp hm
  cases e : ownB (trB b fl) f with
  | none =>
    have := List.findIdx?_eq_none_iff.mp e t ht
    rw [List.contains_iff_mem.mpr hf] at this
    cases this
  | some i =>
    obtain ⟨hi, h1, _⟩ := List.findIdx?_eq_some_iff_getElem.mp e
    exact ⟨i, (trB b fl)[i], rfl, List.getElem?_eq_getElem hi, List.contains_iff_mem.mp h1⟩
theorem nodup_flat {L : List Tr} (h : (L.flatMap Prod.fst).Nodup) : ∀ {i j : Nat} {t u : Tr} {f : Nat}, L[i]? = some t → L[j]? = some u → f ∈ t.1 → f ∈ u.1 → i = j := by
  induction L with
  | nil => exact fun e => nomatch e
  | cons a L ih =>
    intro i j t u f hi hj ht hu
    have h0 : (a.1 ++ L.flatMap Prod.fst).Nodup := h
    rw [List.nodup_append] at h0
    obtain ⟨_, h2, h3⟩ := h0
    cases i with
    | zero =>
      cases j with
      | zero => rfl
      | succ j =>
        cases hi
        exact absurd rfl (h3 f ht f (List.mem_flatMap.mpr ⟨u, List.mem_of_getElem? hj, hu⟩))
    | succ i =>
      cases j with
      | zero =>
        cases hj
        exact absurd rfl (h3 f hu f (List.mem_flatMap.mpr ⟨t, List.mem_of_getElem? hi, ht⟩))
      | succ j => exact congrArg (· + 1) (ih h2 hi hj ht hu)
theorem trB_one {b : TR} {fl : List Bool} {i j : Nat} {t u : Tr} {f : Nat} (hi : (trB b fl)[i]? = some t) (hj : (trB b fl)[j]? = some u) (ht : f ∈ t.1) (hu : f ∈ u.1) : i = j :=
  nodup_flat ((trB_perm b fl).nodup_iff.mpr List.nodup_range) hi hj ht hu
theorem own_at {b : TR} {fl : List Bool} {i : Nat} {t : Tr} {f : Nat} (hi : (trB b fl)[i]? = some t) (ht : f ∈ t.1) : ownB (trB b fl) f = some i := by
  have hs : f + 1 < nS b := by
    have hm : f ∈ (trB b fl).flatMap Prod.fst := List.mem_flatMap.mpr ⟨t, List.mem_of_getElem? hi, ht⟩
    have := List.mem_range.mp ((trB_perm b fl).mem_iff.mp hm)
    omega
  obtain ⟨j, u, e1, e2, e3⟩ := own_some (fl := fl) hs
  rw [e1, trB_one hi e2 ht e3]
theorem hang_small {b : TR} {fl : List Bool} {i : Nat} {p : List Nat} {h : Nat} (hi : (trB b fl)[i]? = some (p, some h)) : h + 1 < nS b := by
  unfold trB at hi
  rw [List.getElem?_map] at hi
  cases e : (wayB b 0)[i]? with
  | none =>
    rw [e] at hi
    cases hi
  | some w =>
    rw [e] at hi
    obtain ⟨s, hs, rfl⟩ := trF_hang _ w p h (Option.some.inj hi)
    have := way_small b 0 w (List.mem_of_getElem? e) s hs
    omega
/-! ### the laying of the ways -/
abbrev Job := TR × Nat × Way
def jobW (j : Job) : List Way := (wayB j.1 j.2.1).map (j.2.2 ++ ·)
def jobS (js : List Job) : Nat := (js.map fun j => 2 * nS j.1 - 1).sum
theorem jobW_leaf (o : Nat) (w : Way) : jobW (leaf, o, w) = [w] := by
  show [w ++ []] = [w]
  rw [List.append_nil]
theorem jobW_node (l r : TR) (o : Nat) (w : Way) : jobW (node l r, o, w) = jobW (l, o, w ++ [(o + nS l - 1, true)]) ++ jobW (r, o + nS l, w ++ [(o + nS l - 1, false)]) := by
  show ((wayB l o).map _ ++ (wayB r (o + nS l)).map _).map (w ++ ·) = (wayB l o).map _ ++ (wayB r (o + nS l)).map _
  rw [List.map_append, List.map_map, List.map_map]
  congr 1
  · refine List.map_congr_left fun u _ => ?_
    show w ++ (_ :: u) = w ++ [_] ++ u
    rw [List.append_assoc]
    rfl
  · refine List.map_congr_left fun u _ => ?_
    show w ++ (_ :: u) = w ++ [_] ++ u
    rw [List.append_assoc]
    rfl
def Fits : TR → Nat → List (Nat × Nat) → List (Nat × Nat) → Prop
  | leaf, _, _, _ => True
  | node l r, o, L, R => L[o + nS l - 1]? = some (ndB l o) ∧ R[o + nS l - 1]? = some (ndB r (o + nS l)) ∧ Fits l o L R ∧ Fits r (o + nS l) L R
theorem fits_of : ∀ (b : TR) (o p : Nat) (L R : List (Nat × Nat)), (∀ row ∈ rowsB b o p, L[row.1]? = some row.2.1 ∧ R[row.1]? = some row.2.2.1) → Fits b o L R
  | leaf, _, _, _, _, _ => trivial
  | node l r, o, p, L, R, h => by
    have h0 := h (o + nS l - 1, ndB l o, ndB r (o + nS l), (o, o + nS l + nS r - 1), (p, p + (txt (node l r)).length)) (List.mem_append_right _ (List.mem_append_right _ (.head _)))
    exact ⟨h0.1, h0.2, fits_of l o (p + 1) L R fun row hr => h row (List.mem_append_left _ hr), fits_of r (o + nS l) _ L R fun row hr => h row (List.mem_append_right _ (List.mem_append_left _ hr))⟩
theorem rows_keys : ∀ (b : TR) (o p : Nat), ((rowsB b o p).map Prod.fst).Perm (List.range' o (nS b - 1))
  | leaf, _, _ => .refl _
  | node l r, o, p => by
    have h1 := rows_keys l o (p + 1)
    have h2 := rows_keys r (o + nS l) (p + 1 + (txt l).length)
    have pl := nS_pos l
    have pr := nS_pos r
    have er : List.range' o (nS (node l r) - 1) = List.range' o (nS l - 1) ++ (o + nS l - 1) :: List.range' (o + nS l) (nS r - 1) := by
      rw [show nS (node l r) - 1 = (nS l - 1) + (nS r - 1 + 1) by (show nS l + nS r - 1 = _; omega), ← List.range'_append_1, show o + (nS l - 1) = o + nS l - 1 by omega, List.range'_succ, show o + nS l - 1 + 1 = o + nS l by omega]
    rw [er]
    show (List.map Prod.fst (rowsB l o (p + 1) ++ (rowsB r (o + nS l) (p + 1 + (txt l).length) ++ [_]))).Perm _
    rw [List.map_append, List.map_append]
    exact h1.append (List.perm_append_comm.trans (h2.cons _))
/-- sorted by their forks: each row at the place of its fork -/
theorem rows_sorted {b : TR} {ys : List Row} (hp : ys.Perm (rowsB b 0 0)) (hs : ys.Pairwise fun x y => x.1 ≤ y.1) : ∀ row ∈ rowsB b 0 0, ys[row.1]? = some row := by
  have hk : (ys.map Prod.fst).Perm (List.range (nS b - 1)) := by
    rw [List.range_eq_range']
    exact (hp.map _).trans (rows_keys b 0 0)
  have e : ys.map Prod.fst = List.range (nS b - 1) := by
    refine List.Perm.eq_of_pairwise (le := fun x y => decide (x ≤ y)) (fun a c _ _ h1 h2 => ?_) ?_ ?_ hk
    · have := of_decide_eq_true h1
      have := of_decide_eq_true h2
      omega
    · exact List.pairwise_map.mpr (hs.imp fun h => decide_eq_true h)
    · exact List.pairwise_le_range.imp fun h => decide_eq_true h
  intro row hr
  obtain ⟨i, hi⟩ := List.mem_iff_getElem?.mp (hp.mem_iff.mpr hr)
  have : (ys.map Prod.fst)[i]? = some row.1 := by
    rw [List.getElem?_map, hi]
    rfl
  rw [e] at this
  obtain ⟨h1, h2⟩ := List.getElem?_eq_some_iff.mp this
  rw [List.getElem_range] at h2
  rw [← h2]
  exact hi
theorem rows_inj {b : TR} : ∀ x ∈ rowsB b 0 0, ∀ y ∈ rowsB b 0 0, x.1 = y.1 → x = y := by
  have hn : ((rowsB b 0 0).map Prod.fst).Nodup := (rows_keys b 0 0).nodup_iff.mpr (by rw [← List.range_eq_range']; exact List.nodup_range)
  generalize rowsB b 0 0 = L at hn
  induction L with
  | nil => exact fun x hx => nomatch hx
  | cons a L ih =>
    have hn : (a.1 :: L.map Prod.fst).Nodup := hn
    obtain ⟨h1, h2⟩ := List.nodup_cons.mp hn
    intro x hx y hy e
    cases hx with
    | head =>
      cases hy with
      | head => rfl
      | tail _ hy => exact absurd (by rw [e]; exact List.mem_map.mpr ⟨y, hy, rfl⟩) h1
    | tail _ hx =>
      cases hy with
      | head => exact absurd (by rw [← e]; exact List.mem_map.mpr ⟨x, hx, rfl⟩) h1
      | tail _ hy => exact ih h2 x hx y hy e
/-! ### the law's tree: a row of trees -/
def pcs : List TR → Nat → List (TR × Nat)
  | [], _ => []
  | t :: ts, o => (t, o) :: pcs ts (o + nS t)
def szs (ts : List TR) : Nat := (ts.map nS).sum
def fw : List TR → Nat → List Way
  | [], _ => []
  | t :: ts, o => wayB t o ++ fw ts (o + nS t)
theorem pcs_len : ∀ (ts : List TR) (o : Nat), (pcs ts o).length = ts.length
  | [], _ => rfl
  | t :: ts, o => congrArg (· + 1) (pcs_len ts _)
theorem fw_len : ∀ (ts : List TR) (o : Nat), (fw ts o).length = szs ts
  | [], _ => rfl
  | t :: ts, o => by
    show (wayB t o ++ fw ts _).length = nS t + szs ts
    rw [List.length_append, wayB_len, fw_len]
theorem pcs_app : ∀ (A B : List TR) (o : Nat), pcs (A ++ B) o = pcs A o ++ pcs B (o + szs A)
  | [], B, o => rfl
  | t :: A, B, o => by
    show (t, o) :: pcs (A ++ B) (o + nS t) = (t, o) :: (pcs A (o + nS t) ++ pcs B (o + (nS t + szs A)))
    rw [pcs_app A B, Nat.add_assoc]
theorem fw_app : ∀ (A B : List TR) (o : Nat), fw (A ++ B) o = fw A o ++ fw B (o + szs A)
  | [], B, o => rfl
  | t :: A, B, o => by
    show wayB t o ++ fw (A ++ B) (o + nS t) = wayB t o ++ fw A (o + nS t) ++ fw B (o + (nS t + szs A))
    rw [fw_app A B, Nat.add_assoc, List.append_assoc]
theorem szs_app (A B : List TR) : szs (A ++ B) = szs A + szs B := by
  unfold szs
  rw [List.map_append, List.sum_append]
theorem szs_len : ∀ ts : List TR, ts.length ≤ szs ts
  | [] => Nat.le_refl 0
  | t :: ts => by
    have := szs_len ts
    have := nS_pos t
    show ts.length + 1 ≤ nS t + szs ts
    omega
/-- a row of trees, parted at two neighbours -/
theorem at_two {ts : List TR} {i : Nat} (h : i + 1 < ts.length) : ∃ A l r B, ts = A ++ l :: r :: B ∧ A.length = i := by
  refine ⟨ts.take i, ts[i], ts[i + 1], ts.drop (i + 2), ?_, by rw [List.length_take]; omega⟩
  rw [List.getElem_cons_drop, List.getElem_cons_drop, List.take_append_drop]
/-- the ways while the two are joined: k of their slots are done -/
def midW (l r : TR) (o k : Nat) : List Way := ((wayB (node l r) o).take k) ++ ((wayB l o ++ wayB r (o + nS l)).drop k)
theorem mid_get {l r : TR} {o k : Nat} {w : Way} (h : (wayB l o ++ wayB r (o + nS l))[k]? = some w) : (wayB (node l r) o)[k]? = some ((o + nS l - 1, decide (k < nS l)) :: w) := by
  show ((wayB l o).map _ ++ (wayB r (o + nS l)).map _)[k]? = _
  by_cases hk : k < nS l
  · rw [List.getElem?_append_left (by rw [wayB_len]; exact hk)] at h
    rw [List.getElem?_append_left (by rw [List.length_map, wayB_len]; exact hk), List.getElem?_map, h, decide_eq_true hk]
    rfl
  · rw [List.getElem?_append_right (by rw [wayB_len]; omega), wayB_len] at h
    rw [List.getElem?_append_right (by rw [List.length_map, wayB_len]; omega), List.length_map, wayB_len, List.getElem?_map, h, decide_eq_false hk]
    rfl
end TR
/-! ### lists of numbers as polynomials -/
namespace TR
def addAt (c : List Int) (p : Nat) (y : Int) : List Int := c.set p ((c[p]?).getD 0 + y)
def adr : List Int → Nat → List Int → List Int
  | c, _, [] => c
  | c, p, y :: ys => adr (addAt c p y) (p + 1) ys
def mulB (c : List Int) (p : Nat) (b : List Int) : List Int → List Int
  | [] => c
  | x :: xs => mulB (adr c p (b.map (x * ·))) (p + 1) b xs
def zer (n : Nat) : List Int := List.replicate n 0
def pprod (a b : List Int) : List Int := mulB (zer (a.length + b.length - 1)) 0 b a
def psum (a b : List Int) : List Int := adr (adr (zer (max a.length b.length)) 0 a) 0 b
def dec1 : List Int → List Int
  | [] => []
  | x :: xs => (x - 1) :: xs
def shut (l : List Int) : List Int := if l = [1] then [1] else 1 :: dec1 l
def trl (n : Nat) (h : List Int) : List Int := if n = 0 then [1] else 1 :: dec1 (h.map (· * 2 ^ n))
theorem addAt_len (c : List Int) (p : Nat) (y : Int) : (addAt c p y).length = c.length := by
  unfold addAt
  rw [List.length_set]
theorem adr_len : ∀ (ys c : List Int) (p : Nat), (adr c p ys).length = c.length
  | [], c, p => rfl
  | y :: ys, c, p => by
    show (adr (addAt c p y) (p + 1) ys).length = _
    rw [adr_len ys, addAt_len]
theorem mulB_len : ∀ (xs c : List Int) (p : Nat) (b : List Int), (mulB c p b xs).length = c.length
  | [], c, p, b => rfl
  | x :: xs, c, p, b => by
    show (mulB (adr c p (b.map (x * ·))) (p + 1) b xs).length = _
    rw [mulB_len xs, adr_len]
theorem pprod_len (a b : List Int) : (pprod a b).length = a.length + b.length - 1 := by
  unfold pprod
  rw [mulB_len]
  exact List.length_replicate
theorem psum_len (a b : List Int) : (psum a b).length = max a.length b.length := by
  unfold psum
  rw [adr_len, adr_len]
  exact List.length_replicate
/-! the sum -/
theorem set_sum : ∀ (c : List Int) (p : Nat) (y : Int), p < c.length → (c.set p ((c[p]?).getD 0 + y)).sum = c.sum + y
  | [], p, y, h => absurd h (Nat.not_lt_zero _)
  | x :: xs, 0, y, _ => by
    show (x + y) + xs.sum = x + xs.sum + y
    omega
  | x :: xs, p + 1, y, h => by
    have := set_sum xs p y (Nat.lt_of_succ_lt_succ h)
    show x + (xs.set p ((xs[p]?).getD 0 + y)).sum = x + xs.sum + y
    omega
theorem adr_sum : ∀ (ys c : List Int) (p : Nat), p + ys.length ≤ c.length → (adr c p ys).sum = c.sum + ys.sum
  | [], c, p, _ => by
    show c.sum = c.sum + 0
    omega
  | y :: ys, c, p, h => by
    have h : p + (ys.length + 1) ≤ c.length := h
    have h1 := set_sum c p y (by omega)
    have h2 := adr_sum ys (addAt c p y) (p + 1) (by rw [addAt_len]; omega)
    show (adr (addAt c p y) (p + 1) ys).sum = c.sum + (y + ys.sum)
    rw [h2]
    show (c.set p ((c[p]?).getD 0 + y)).sum + ys.sum = _
    omega
theorem sum_mul (x : Int) : ∀ b : List Int, (b.map (x * ·)).sum = x * b.sum
  | [] => by
    show (0 : Int) = x * 0
    rw [Int.mul_zero]
  | y :: b => by
    show x * y + (b.map (x * ·)).sum = x * (y + b.sum)
    rw [sum_mul x b, Int.mul_add]
theorem mulB_sum : ∀ (xs c : List Int) (p : Nat) (b : List Int), p + xs.length + b.length ≤ c.length + 1 → 1 ≤ b.length → (mulB c p b xs).sum = c.sum + xs.sum * b.sum
  | [], c, p, b, _, _ => by
    show c.sum = c.sum + 0 * b.sum
    rw [Int.zero_mul]
    omega
  | x :: xs, c, p, b, h, hb => by
    have h : p + (xs.length + 1) + b.length ≤ c.length + 1 := h
    have h1 := adr_sum (b.map (x * ·)) c p (by rw [List.length_map]; omega)
    have h2 := mulB_sum xs (adr c p (b.map (x * ·))) (p + 1) b (by rw [adr_len]; omega) hb
    show (mulB (adr c p (b.map (x * ·))) (p + 1) b xs).sum = c.sum + (x + xs.sum) * b.sum
    rw [h2, h1, sum_mul, Int.add_mul]
    omega
theorem zer_sum : ∀ n : Nat, (zer n).sum = 0
  | 0 => rfl
  | n + 1 => by
    show (0 : Int) + (zer n).sum = 0
    rw [zer_sum n]
    rfl
theorem pprod_sum (a b : List Int) (ha : 1 ≤ a.length) (hb : 1 ≤ b.length) : (pprod a b).sum = a.sum * b.sum := by
  unfold pprod
  have hz : (zer (a.length + b.length - 1)).length = a.length + b.length - 1 := List.length_replicate
  rw [mulB_sum a _ 0 b (by rw [hz]; omega) hb, zer_sum]
  omega
theorem psum_sum (a b : List Int) : (psum a b).sum = a.sum + b.sum := by
  unfold psum
  have hz : (zer (max a.length b.length)).length = max a.length b.length := List.length_replicate
  rw [adr_sum b _ 0 (by rw [adr_len, hz]; omega), adr_sum a _ 0 (by rw [hz]; omega), zer_sum]
  omega
theorem dec1_sum (l : List Int) (h : 1 ≤ l.length) : (dec1 l).sum = l.sum - 1 := by
  cases l with
  | nil => exact absurd h (by decide)
  | cons x xs =>
    show (x - 1) + xs.sum = x + xs.sum - 1
    omega
theorem dec1_len (l : List Int) : (dec1 l).length = l.length := by cases l <;> rfl
theorem shut_sum (l : List Int) (h : 1 ≤ l.length) : (shut l).sum = l.sum := by
  unfold shut
  split
  · rename_i e
    rw [e]
  · show 1 + (dec1 l).sum = _
    rw [dec1_sum l h]
    omega
theorem shut_len (l : List Int) : (shut l).length = if l = [1] then 1 else l.length + 1 := by
  unfold shut
  split
  · rfl
  · show (dec1 l).length + 1 = _
    rw [dec1_len]
theorem shut_pos (l : List Int) : 1 ≤ (shut l).length := by
  rw [shut_len]
  split <;> omega
/-! scaling -/
theorem set_map (s : Int) (c : List Int) (p : Nat) (y : Int) : addAt (c.map (· * s)) p (y * s) = (addAt c p y).map (· * s) := by
  unfold addAt
  rw [List.map_set, List.getElem?_map]
  congr 1
  cases c[p]? with
  | none =>
    show (0 : Int) + y * s = (0 + y) * s
    rw [Int.add_mul, Int.zero_mul]
  | some x =>
    show x * s + y * s = (x + y) * s
    rw [Int.add_mul]
theorem adr_map (s : Int) : ∀ (ys c : List Int) (p : Nat), adr (c.map (· * s)) p (ys.map (· * s)) = (adr c p ys).map (· * s)
  | [], c, p => rfl
  | y :: ys, c, p => by
    show adr (addAt (c.map (· * s)) p (y * s)) (p + 1) (ys.map (· * s)) = (adr (addAt c p y) (p + 1) ys).map (· * s)
    rw [set_map, adr_map s ys]
theorem mulB_map (s : Int) : ∀ (xs c : List Int) (p : Nat) (b : List Int), mulB (c.map (· * s)) p b (xs.map (· * s)) = (mulB c p b xs).map (· * s)
  | [], c, p, b => rfl
  | x :: xs, c, p, b => by
    show mulB (adr (c.map (· * s)) p (b.map (x * s * ·))) (p + 1) b (xs.map (· * s)) = (mulB (adr c p (b.map (x * ·))) (p + 1) b xs).map (· * s)
    have e : b.map (x * s * ·) = (b.map (x * ·)).map (· * s) := by
      rw [List.map_map]
      refine List.map_congr_left fun y _ => ?_
      show x * s * y = x * y * s
      rw [Int.mul_assoc, Int.mul_comm s y, ← Int.mul_assoc]
    rw [e, adr_map, mulB_map s xs]
theorem zer_map (s : Int) (n : Nat) : (zer n).map (· * s) = zer n := by
  unfold zer
  rw [List.map_replicate, Int.zero_mul]
theorem pprod_map (s : Int) (a b : List Int) : pprod (a.map (· * s)) b = (pprod a b).map (· * s) := by
  unfold pprod
  rw [List.length_map, ← mulB_map, zer_map]
/-! entries -/
structure Good (l : List Int) : Prop where
  nn : ∀ x ∈ l, 0 ≤ x
  hd : ∃ x xs, l = x :: xs ∧ 1 ≤ x
theorem Good.len {l : List Int} (g : Good l) : 1 ≤ l.length := by
  obtain ⟨x, xs, e, _⟩ := g.hd
  rw [e]
  exact Nat.le_add_left _ _
theorem nn_set {c : List Int} (h : ∀ x ∈ c, 0 ≤ x) (p : Nat) {y : Int} (hy : 0 ≤ y) : ∀ x ∈ addAt c p y, 0 ≤ x := fun x hx => by
  unfold addAt at hx
  rcases List.mem_or_eq_of_mem_set hx with hx | e
  · exact h x hx
  · rw [e]
    cases q : c[p]? with
    | none =>
      show (0 : Int) ≤ 0 + y
      omega
    | some z =>
      have := h z (List.mem_of_getElem? q)
      show 0 ≤ z + y
      omega
theorem nn_adr : ∀ (ys c : List Int) (p : Nat), (∀ x ∈ c, 0 ≤ x) → (∀ y ∈ ys, 0 ≤ y) → ∀ x ∈ adr c p ys, 0 ≤ x
  | [], _, _, hc, _ => hc
  | y :: ys, c, p, hc, hy => nn_adr ys (addAt c p y) (p + 1) (nn_set hc p (hy y List.mem_cons_self)) fun z hz => hy z (List.mem_cons_of_mem _ hz)
theorem nn_mulB : ∀ (xs c : List Int) (p : Nat) (b : List Int), (∀ x ∈ c, 0 ≤ x) → (∀ y ∈ b, 0 ≤ y) → (∀ y ∈ xs, 0 ≤ y) → ∀ x ∈ mulB c p b xs, 0 ≤ x
  | [], _, _, _, hc, _, _ => hc
  | x :: xs, c, p, b, hc, hb, hx => nn_mulB xs _ (p + 1) b (nn_adr _ c p hc fun y hy => by
      obtain ⟨z, hz, e⟩ := List.mem_map.mp hy
      rw [← e]
      exact Int.mul_nonneg (hx x List.mem_cons_self) (hb z hz)) hb fun z hz => hx z (List.mem_cons_of_mem _ hz)
theorem nn_zer (n : Nat) : ∀ x ∈ zer n, 0 ≤ x := fun x hx => by
  rw [(List.mem_replicate.mp hx).2]
  exact Int.le_refl 0
/-- what lies behind keeps the first number -/
theorem adr_head : ∀ (ys c : List Int) (p : Nat), (adr c (p + 1) ys)[0]? = c[0]?
  | [], _, _ => rfl
  | y :: ys, c, p => by
    show (adr (addAt c (p + 1) y) (p + 1 + 1) ys)[0]? = _
    rw [adr_head ys]
    unfold addAt
    rw [List.getElem?_set_ne (by omega)]
theorem mulB_head : ∀ (xs c : List Int) (p : Nat) (b : List Int), (mulB c (p + 1) b xs)[0]? = c[0]?
  | [], _, _, _ => rfl
  | x :: xs, c, p, b => by
    show (mulB (adr c (p + 1) (b.map (x * ·))) (p + 1 + 1) b xs)[0]? = _
    rw [mulB_head xs, adr_head]
theorem good_of_head {l : List Int} (h : ∀ x ∈ l, 0 ≤ x) {x : Int} (e : l[0]? = some x) (hx : 1 ≤ x) : Good l := by
  cases l with
  | nil => cases e
  | cons y ys =>
    cases e
    exact ⟨h, _, ys, rfl, hx⟩
theorem good_pprod {a b : List Int} (ga : Good a) (gb : Good b) : Good (pprod a b) := by
  obtain ⟨x, xs, ea, hx⟩ := ga.hd
  obtain ⟨y, ys, eb, hy⟩ := gb.hd
  refine good_of_head (x := x * y) (nn_mulB a _ 0 b (nn_zer _) gb.nn ga.nn) ?_ ?_
  · unfold pprod
    rw [ea]
    show (mulB (adr (zer (xs.length + 1 + b.length - 1)) 0 (b.map (x * ·))) (0 + 1) b xs)[0]? = _
    rw [mulB_head, eb]
    show (adr (addAt (zer (xs.length + 1 + (ys.length + 1) - 1)) 0 (x * y)) (0 + 1) (ys.map (x * ·)))[0]? = _
    rw [adr_head]
    show (((zer (xs.length + 1 + (ys.length + 1) - 1)).set 0 _)[0]?) = _
    rw [show xs.length + 1 + (ys.length + 1) - 1 = (xs.length + ys.length) + 1 by omega]
    show some (0 + x * y) = some (x * y)
    rw [Int.zero_add]
  · have := Int.mul_le_mul hx hy (by decide) (by omega)
    omega
theorem good_shut {l : List Int} (g : Good l) : Good (shut l) := by
  unfold shut
  split
  · exact ⟨fun x hx => by rw [List.mem_singleton.mp hx]; decide, 1, [], rfl, Int.le_refl 1⟩
  · obtain ⟨x, xs, e, hx⟩ := g.hd
    refine ⟨fun z hz => ?_, 1, _, rfl, Int.le_refl 1⟩
    rcases List.mem_cons.mp hz with h | h
    · rw [h]; decide
    · rw [e] at h
      rcases List.mem_cons.mp (show z ∈ (x - 1) :: xs from h) with h | h
      · rw [h]; omega
      · exact g.nn z (by rw [e]; exact List.mem_cons_of_mem _ h)
theorem good_psum {a b : List Int} (ga : Good a) (gb : Good b) : Good (psum a b) := by
  obtain ⟨x, xs, ea, hx⟩ := ga.hd
  obtain ⟨y, ys, eb, hy⟩ := gb.hd
  refine good_of_head (x := x + y) (nn_adr b _ 0 (nn_adr a _ 0 (nn_zer _) ga.nn) gb.nn) ?_ (by omega)
  unfold psum
  have e1 : (adr (zer (max a.length b.length)) 0 a)[0]? = some x := by
    rw [ea]
    show (adr (addAt (zer (max (xs.length + 1) b.length)) 0 x) (0 + 1) xs)[0]? = _
    rw [adr_head]
    obtain ⟨m, hm⟩ : ∃ m, max (xs.length + 1) b.length = m + 1 := ⟨max (xs.length + 1) b.length - 1, by omega⟩
    rw [hm]
    show some (0 + x) = some x
    rw [Int.zero_add]
  generalize adr (zer (max a.length b.length)) 0 a = c at e1 ⊢
  rw [eb]
  show (adr (addAt c 0 y) (0 + 1) ys)[0]? = _
  rw [adr_head]
  cases c with
  | nil => cases e1
  | cons z zs =>
    cases e1
    rfl
theorem good_scale {l : List Int} (g : Good l) {s : Int} (hs : 1 ≤ s) : Good (l.map (· * s)) := by
  obtain ⟨x, xs, e, hx⟩ := g.hd
  refine ⟨fun z hz => ?_, x * s, xs.map (· * s), by rw [e]; rfl, ?_⟩
  · obtain ⟨y, hy, ez⟩ := List.mem_map.mp hz
    rw [← ez]
    exact Int.mul_nonneg (g.nn y hy) (by omega)
  · have := Int.mul_le_mul hx hs (by decide) (by omega)
    omega
theorem le_sum : ∀ {l : List Int}, (∀ x ∈ l, 0 ≤ x) → ∀ x ∈ l, x ≤ l.sum
  | [], _, x, hx => by cases hx
  | y :: ys, h, x, hx => by
    have h1 : ∀ z ∈ ys, 0 ≤ z := fun z hz => h z (List.mem_cons_of_mem _ hz)
    have h2 : 0 ≤ ys.sum := by
      clear hx
      induction ys with
      | nil => exact Int.le_refl 0
      | cons z zs ih =>
        have a1 := h1 z List.mem_cons_self
        have a2 := ih (fun w hw => h w (by rcases List.mem_cons.mp hw with e | hw; exact e ▸ List.mem_cons_self; exact List.mem_cons_of_mem _ (List.mem_cons_of_mem _ hw))) fun w hw => h1 w (List.mem_cons_of_mem _ hw)
        show 0 ≤ z + zs.sum
        omega
    have h3 := h y List.mem_cons_self
    show x ≤ y + ys.sum
    rcases List.mem_cons.mp hx with e | hx
    · omega
    · have := le_sum h1 x hx
      omega
end TR
/-! ### the two spreads of a tree -/
namespace TR
def isLf : TR → Nat
  | leaf => 1
  | node _ _ => 0
/-- how deep the shown slot lies -/
def lenT (m : Nat → Bool) : TR → Nat → Nat
  | leaf, _ => 0
  | node l r, o => (if m (o + nS l - 1) then lenT m l o else lenT m r (o + nS l)) + 1
def hanT (m : Nat → Bool) : TR → Nat → List Int
  | leaf, _ => [1]
  | node l r, o => if m (o + nS l - 1) then pprod (hanT m l o) (trl (lenT m r (o + nS l)) (hanT m r (o + nS l))) else pprod (hanT m r (o + nS l)) (trl (lenT m l o) (hanT m l o))
def intT (m : Nat → Bool) : TR → Nat → List Int
  | leaf, _ => [1]
  | node l r, o => (if m (o + nS l - 1) then pprod (intT m l o) (shut (intT m r (o + nS l))) else pprod (intT m r (o + nS l)) (shut (intT m l o))).map (2 * ·)
def outT : TR → List Int
  | leaf => [1]
  | node l r => psum (pprod (outT l) (shut (outT r))) (pprod (outT r) (shut (outT l)))
def widT : TR → Nat
  | leaf => 0
  | node l r => widT l + widT r + max (isLf l) (isLf r)
theorem isLf_le : ∀ b : TR, isLf b ≤ 1
  | leaf => Nat.le_refl 1
  | node _ _ => Nat.zero_le 1
theorem wid0 : ∀ b : TR, isLf b = 1 → widT b = 0
  | leaf, _ => rfl
  | node _ _, h => absurd h (fun z => by cases z)
theorem len_leaf (m : Nat → Bool) {b : TR} {o : Nat} (h : lenT m b o = 0) : b = leaf := by
  cases b with
  | leaf => rfl
  | node l r => exact absurd h (Nat.succ_ne_zero _)
theorem ne_one_even {l : List Int} (n : Nat) : (l.map (· * 2 ^ (n + 1))) ≠ [1] := fun h => by
  cases l with
  | nil => cases h
  | cons x xs =>
    have e : x * 2 ^ (n + 1) = 1 := (List.cons.inj h).1
    rw [Int.pow_succ, ← Int.mul_assoc] at e
    omega
theorem scale_two (l : List Int) (n : Nat) : (l.map (· * 2 ^ n)).map (2 * ·) = l.map (· * (2 : Int) ^ (n + 1)) := by
  rw [List.map_map]
  refine List.map_congr_left fun x _ => ?_
  show 2 * (x * 2 ^ n) = x * 2 ^ (n + 1)
  rw [Int.pow_succ, Int.mul_comm 2 (x * 2 ^ n), Int.mul_assoc]
theorem trl_shut (m : Nat → Bool) {b : TR} {o : Nat} (h : intT m b o = (hanT m b o).map (· * 2 ^ lenT m b o)) : trl (lenT m b o) (hanT m b o) = shut (intT m b o) := by
  rw [h]
  unfold trl shut
  cases e : lenT m b o with
  | zero =>
    have := len_leaf m e
    subst this
    rfl
  | succ n =>
    rw [if_neg (Nat.succ_ne_zero n), if_neg (ne_one_even n)]
theorem int_han (m : Nat → Bool) : ∀ (b : TR) (o : Nat), intT m b o = (hanT m b o).map (· * 2 ^ lenT m b o)
  | leaf, _ => rfl
  | node l r, o => by
    have hl := int_han m l o
    have hr := int_han m r (o + nS l)
    have tl := trl_shut m hl
    have tr := trl_shut m hr
    show (if m (o + nS l - 1) then pprod (intT m l o) (shut (intT m r (o + nS l))) else pprod (intT m r (o + nS l)) (shut (intT m l o))).map (2 * ·) = (if m (o + nS l - 1) then pprod (hanT m l o) (trl (lenT m r (o + nS l)) (hanT m r (o + nS l))) else pprod (hanT m r (o + nS l)) (trl (lenT m l o) (hanT m l o))).map (· * 2 ^ ((if m (o + nS l - 1) then lenT m l o else lenT m r (o + nS l)) + 1))
    rw [tl, tr]
    cases m (o + nS l - 1) with
    | true =>
      rw [if_pos rfl, if_pos rfl, if_pos rfl, hl, pprod_map, scale_two]
    | false =>
      rw [if_neg Bool.false_ne_true, if_neg Bool.false_ne_true, if_neg Bool.false_ne_true, hr, pprod_map, scale_two]
/-- what spread_to returns -/
theorem to_law (m : Nat → Bool) (b : TR) (o : Nat) : trl (lenT m b o) (hanT m b o) = shut (intT m b o) := trl_shut m (int_han m b o)
theorem good_one : Good [1] := ⟨fun x hx => by rw [List.mem_singleton.mp hx]; decide, 1, [], rfl, Int.le_refl 1⟩
theorem good_int (m : Nat → Bool) : ∀ (b : TR) (o : Nat), Good (intT m b o)
  | leaf, _ => good_one
  | node l r, o => by
    have hl := good_int m l o
    have hr := good_int m r (o + nS l)
    have e : ∀ z : List Int, z.map (2 * ·) = z.map (· * (2 : Int)) := fun z => List.map_congr_left fun x _ => Int.mul_comm 2 x
    show Good ((if m (o + nS l - 1) then pprod (intT m l o) (shut (intT m r (o + nS l))) else pprod (intT m r (o + nS l)) (shut (intT m l o))).map (2 * ·))
    rw [e]
    refine good_scale ?_ (by decide)
    split
    · exact good_pprod hl (good_shut hr)
    · exact good_pprod hr (good_shut hl)
theorem good_han (m : Nat → Bool) : ∀ (b : TR) (o : Nat), Good (hanT m b o)
  | leaf, _ => good_one
  | node l r, o => by
    have hl := good_han m l o
    have hr := good_han m r (o + nS l)
    have tl := to_law m l o
    have tr := to_law m r (o + nS l)
    show Good (if m (o + nS l - 1) then pprod (hanT m l o) (trl (lenT m r (o + nS l)) (hanT m r (o + nS l))) else pprod (hanT m r (o + nS l)) (trl (lenT m l o) (hanT m l o)))
    rw [tl, tr]
    split
    · exact good_pprod hl (good_shut (good_int m r _))
    · exact good_pprod hr (good_shut (good_int m l _))
theorem good_out : ∀ b : TR, Good (outT b)
  | leaf => good_one
  | node l r => good_psum (good_pprod (good_out l) (good_shut (good_out r))) (good_pprod (good_out r) (good_shut (good_out l)))
theorem pow_nS (l r : TR) : (2 : Int) * (2 ^ (nS l - 1) * 2 ^ (nS r - 1)) = 2 ^ (nS (node l r) - 1) := by
  have h1 := nS_pos l
  have h2 := nS_pos r
  show _ = (2 : Int) ^ (nS l + nS r - 1)
  rw [show nS l + nS r - 1 = (nS l - 1) + (nS r - 1) + 1 by omega, Int.pow_succ, Int.pow_add, Int.mul_comm]
theorem sum_int (m : Nat → Bool) : ∀ (b : TR) (o : Nat), (intT m b o).sum = 2 ^ (nS b - 1)
  | leaf, _ => rfl
  | node l r, o => by
    have hl := sum_int m l o
    have hr := sum_int m r (o + nS l)
    have gl := (good_int m l o).len
    have gr := (good_int m r (o + nS l)).len
    show ((if m (o + nS l - 1) then pprod (intT m l o) (shut (intT m r (o + nS l))) else pprod (intT m r (o + nS l)) (shut (intT m l o))).map (2 * ·)).sum = _
    rw [sum_mul, ← pow_nS l r]
    congr 1
    split
    · rw [pprod_sum _ _ gl (shut_pos _), shut_sum _ gr, hl, hr]
    · rw [pprod_sum _ _ gr (shut_pos _), shut_sum _ gl, hl, hr, Int.mul_comm]
theorem sum_out : ∀ b : TR, (outT b).sum = 2 ^ (nS b - 1)
  | leaf => rfl
  | node l r => by
    have hl := sum_out l
    have hr := sum_out r
    have gl := (good_out l).len
    have gr := (good_out r).len
    show (psum (pprod (outT l) (shut (outT r))) (pprod (outT r) (shut (outT l)))).sum = _
    rw [psum_sum, pprod_sum _ _ gl (shut_pos _), pprod_sum _ _ gr (shut_pos _), shut_sum _ gr, shut_sum _ gl, hl, hr, ← pow_nS l r, Int.mul_comm (2 ^ (nS r - 1)) (2 ^ (nS l - 1))]
    omega
theorem ne_one_sum {l r : TR} {x : List Int} (h : x.sum = 2 ^ (nS (node l r) - 1)) : x ≠ [1] := fun e => by
  rw [e, ← pow_nS l r] at h
  have h : (1 : Int) + 0 = 2 * (2 ^ (nS l - 1) * 2 ^ (nS r - 1)) := h
  omega
theorem out_len : ∀ b : TR, (outT b).length = widT b + isLf b ∧ (shut (outT b)).length = widT b + 1
  | leaf => ⟨rfl, rfl⟩
  | node l r => by
    obtain ⟨l1, l2⟩ := out_len l
    obtain ⟨r1, r2⟩ := out_len r
    have hs : (outT (node l r)).length = widT (node l r) + isLf (node l r) := by
      show (psum (pprod (outT l) (shut (outT r))) (pprod (outT r) (shut (outT l)))).length = widT l + widT r + max (isLf l) (isLf r) + 0
      rw [psum_len, pprod_len, pprod_len, l1, l2, r1, r2]
      have hl : isLf l ≤ 1 := isLf_le l
      have hr : isLf r ≤ 1 := isLf_le r
      have wl : isLf l = 1 → widT l = 0 := wid0 l
      have wr : isLf r = 1 → widT r = 0 := wid0 r
      omega
    refine ⟨hs, ?_⟩
    rw [shut_len, if_neg (ne_one_sum (sum_out (node l r))), hs]
    rfl
theorem int_len (m : Nat → Bool) : ∀ (b : TR) (o : Nat), (intT m b o).length ≤ widT b + isLf b ∧ (shut (intT m b o)).length ≤ widT b + 1
  | leaf, _ => ⟨Nat.le_refl _, Nat.le_refl _⟩
  | node l r, o => by
    obtain ⟨l1, l2⟩ := int_len m l o
    obtain ⟨r1, r2⟩ := int_len m r (o + nS l)
    have hl : isLf l ≤ 1 := isLf_le l
    have hr : isLf r ≤ 1 := isLf_le r
    have hs : (intT m (node l r) o).length ≤ widT (node l r) + isLf (node l r) := by
      show ((if m (o + nS l - 1) then pprod (intT m l o) (shut (intT m r (o + nS l))) else pprod (intT m r (o + nS l)) (shut (intT m l o))).map (2 * ·)).length ≤ widT l + widT r + max (isLf l) (isLf r) + 0
      rw [List.length_map]
      split
      · rw [pprod_len]
        omega
      · rw [pprod_len]
        omega
    refine ⟨hs, ?_⟩
    rw [shut_len, if_neg (ne_one_sum (sum_int m (node l r) o))]
    have : isLf (node l r) = 0 := rfl
    omega
/-- entries lie below 2 ^ 64 -/
theorem small_of {l : List Int} {b : TR} (g : Good l) (h : l.sum ≤ 2 ^ (nS b - 1)) (hb : nS b ≤ 64) : ∀ x ∈ l, 0 ≤ x ∧ x ≤ 2 ^ 63 := fun x hx => by
  refine ⟨g.nn x hx, Int.le_trans (le_sum g.nn x hx) (Int.le_trans h ?_)⟩
  have h1 : (2 : Nat) ^ (nS b - 1) ≤ 2 ^ 63 := Nat.pow_le_pow_right (by decide) (by omega)
  have h2 : ((2 ^ (nS b - 1) : Nat) : Int) ≤ ((2 ^ 63 : Nat) : Int) := Int.ofNat_le.mpr h1
  rw [Int.natCast_pow, Int.natCast_pow] at h2
  exact h2
theorem small_int (m : Nat → Bool) {b : TR} {o : Nat} (hb : nS b ≤ 64) : ∀ x ∈ intT m b o, 0 ≤ x ∧ x ≤ 2 ^ 63 := small_of (good_int m b o) (Int.le_of_eq (sum_int m b o)) hb
theorem small_out {b : TR} (hb : nS b ≤ 64) : ∀ x ∈ outT b, 0 ≤ x ∧ x ≤ 2 ^ 63 := small_of (good_out b) (Int.le_of_eq (sum_out b)) hb
theorem small_shut {l : List Int} {b : TR} (g : Good l) (h : l.sum = 2 ^ (nS b - 1)) (hb : nS b ≤ 64) : ∀ x ∈ shut l, 0 ≤ x ∧ x ≤ 2 ^ 63 := small_of (good_shut g) (by rw [shut_sum _ g.len]; exact Int.le_of_eq h) hb
theorem small_han (m : Nat → Bool) {b : TR} {o : Nat} (hb : nS b ≤ 64) : ∀ x ∈ hanT m b o, 0 ≤ x ∧ x ≤ 2 ^ 63 := fun x hx => by
  have h0 := (good_han m b o).nn x hx
  have h1 : x * 2 ^ lenT m b o ∈ intT m b o := by
    rw [int_han]
    exact List.mem_map.mpr ⟨x, hx, rfl⟩
  have h2 := (small_int m hb _ h1).2
  have h3 : (1 : Int) ≤ 2 ^ lenT m b o := by
    have : (1 : Nat) ≤ 2 ^ lenT m b o := Nat.one_le_two_pow
    have h4 := Int.ofNat_le.mpr this
    rw [Int.natCast_pow] at h4
    exact h4
  have h5 : x * 1 ≤ x * 2 ^ lenT m b o := Int.mul_le_mul_of_nonneg_left h3 h0
  exact ⟨h0, by omega⟩
theorem lenT_lt (m : Nat → Bool) : ∀ (b : TR) (o : Nat), lenT m b o + 1 ≤ nS b
  | leaf, _ => Nat.le_refl _
  | node l r, o => by
    have h1 := lenT_lt m l o
    have h2 := lenT_lt m r (o + nS l)
    have h3 := nS_pos l
    have h4 := nS_pos r
    show (if m (o + nS l - 1) then lenT m l o else lenT m r (o + nS l)) + 1 + 1 ≤ nS l + nS r
    split <;> omega
end TR
/-! ### the levels of a search -/
namespace TR
section
variable {S : Type} [DecidableEq S]
def expL : List S → List S × List S → List S × List S
  | [], q => q
  | x :: xs, q => expL xs (if x ∈ q.1 then q else (q.1 ++ [x], q.2 ++ [x]))
def nexL (step : S → List S) : List S → List S × List S → List S × List S
  | [], q => q
  | y :: ys, q => nexL step ys (expL (step y) q)
def lvlL (step : S → List S) : Nat → List S → List S → List Nat
  | 0, _, _ => []
  | n + 1, seen, level => match level with
    | [] => []
    | y :: ys => (y :: ys).length :: lvlL step n (nexL step (y :: ys) (seen, [])).1 (nexL step (y :: ys) (seen, [])).2
end
section
variable {S T : Type} [DecidableEq S] [DecidableEq T] {f : S → T} {P : S → Prop}
theorem expL_map (hf : ∀ x y, P x → P y → f x = f y → x = y) : ∀ (xs : List S) (q : List S × List S), (∀ x ∈ xs, P x) → (∀ x ∈ q.1, P x) → (∀ x ∈ q.2, P x) →
    expL (xs.map f) (q.1.map f, q.2.map f) = ((expL xs q).1.map f, (expL xs q).2.map f) ∧ (∀ x ∈ (expL xs q).1, P x) ∧ ∀ x ∈ (expL xs q).2, P x
  | [], q, _, h1, h2 => ⟨rfl, h1, h2⟩
  | x :: xs, q, h0, h1, h2 => by
    have hx := h0 x List.mem_cons_self
    have h0 := fun z hz => h0 z (List.mem_cons_of_mem _ hz)
    have e : f x ∈ q.1.map f ↔ x ∈ q.1 := ⟨fun h => by
      obtain ⟨y, hy, e⟩ := List.mem_map.mp h
      rw [← hf y x (h1 y hy) hx e]
      exact hy, fun h => List.mem_map.mpr ⟨x, h, rfl⟩⟩
    show expL (xs.map f) (if f x ∈ q.1.map f then (q.1.map f, q.2.map f) else (q.1.map f ++ [f x], q.2.map f ++ [f x])) = ((expL xs (if x ∈ q.1 then q else (q.1 ++ [x], q.2 ++ [x]))).1.map f, (expL xs (if x ∈ q.1 then q else (q.1 ++ [x], q.2 ++ [x]))).2.map f) ∧
      (∀ z ∈ (expL xs (if x ∈ q.1 then q else (q.1 ++ [x], q.2 ++ [x]))).1, P z) ∧ ∀ z ∈ (expL xs (if x ∈ q.1 then q else (q.1 ++ [x], q.2 ++ [x]))).2, P z
    by_cases h : x ∈ q.1
    · rw [if_pos h, if_pos (e.mpr h)]
      exact expL_map hf xs q h0 h1 h2
    · rw [if_neg h, if_neg (fun z => h (e.mp z))]
      have := expL_map hf xs (q.1 ++ [x], q.2 ++ [x]) h0 (fun z hz => by
        rcases List.mem_append.mp hz with hz | hz
        · exact h1 z hz
        · rw [List.mem_singleton.mp hz]; exact hx) fun z hz => by
        rcases List.mem_append.mp hz with hz | hz
        · exact h2 z hz
        · rw [List.mem_singleton.mp hz]; exact hx
      rw [List.map_append, List.map_append] at this
      exact this
theorem nexL_map (hf : ∀ x y, P x → P y → f x = f y → x = y) {step : S → List S} {step' : T → List T} (hs : ∀ x, P x → step' (f x) = (step x).map f ∧ ∀ y ∈ step x, P y) : ∀ (ys : List S) (q : List S × List S), (∀ x ∈ ys, P x) → (∀ x ∈ q.1, P x) → (∀ x ∈ q.2, P x) →
    nexL step' (ys.map f) (q.1.map f, q.2.map f) = ((nexL step ys q).1.map f, (nexL step ys q).2.map f) ∧ (∀ x ∈ (nexL step ys q).1, P x) ∧ ∀ x ∈ (nexL step ys q).2, P x
  | [], q, _, h1, h2 => ⟨rfl, h1, h2⟩
  | y :: ys, q, h0, h1, h2 => by
    obtain ⟨e, hy⟩ := hs y (h0 y List.mem_cons_self)
    obtain ⟨e1, a1, a2⟩ := expL_map hf (step y) q hy h1 h2
    show nexL step' (ys.map f) (expL (step' (f y)) (q.1.map f, q.2.map f)) = _ ∧ _
    rw [e, e1]
    exact nexL_map hf hs ys (expL (step y) q) (fun z hz => h0 z (List.mem_cons_of_mem _ hz)) a1 a2
theorem lvlL_map (hf : ∀ x y, P x → P y → f x = f y → x = y) {step : S → List S} {step' : T → List T} (hs : ∀ x, P x → step' (f x) = (step x).map f ∧ ∀ y ∈ step x, P y) : ∀ (n : Nat) (seen level : List S), (∀ x ∈ seen, P x) → (∀ x ∈ level, P x) →
    lvlL step' n (seen.map f) (level.map f) = lvlL step n seen level
  | 0, _, _, _, _ => rfl
  | n + 1, seen, [], _, _ => rfl
  | n + 1, seen, y :: ys, h1, h2 => by
    obtain ⟨e1, a1, a2⟩ := nexL_map hf hs (y :: ys) (seen, []) h2 h1 (fun z hz => by cases hz)
    have e1 : nexL step' ((y :: ys).map f) (seen.map f, []) = ((nexL step (y :: ys) (seen, [])).1.map f, (nexL step (y :: ys) (seen, [])).2.map f) := e1
    show ((y :: ys).map f).length :: lvlL step' n (nexL step' ((y :: ys).map f) (seen.map f, [])).1 (nexL step' ((y :: ys).map f) (seen.map f, [])).2 = (y :: ys).length :: lvlL step n (nexL step (y :: ys) (seen, [])).1 (nexL step (y :: ys) (seen, [])).2
    rw [e1, List.length_map]
    congr 1
    exact lvlL_map hf hs n _ _ a1 a2
end
/-! numbers: what was seen as a mask -/
/-- a number, reckoned out ahead of its use -/
def force {T : Type} (n : Nat) (f : Nat → T) : T := Nat.casesOn (motive := fun _ => T) (n + 1) (f 0) f
theorem force_eq {T : Type} (n : Nat) (f : Nat → T) : force n f = f n := rfl
def expM : List Nat → Nat → List Nat → Nat × List Nat
  | [], m, l => (m, l)
  | x :: xs, m, l => force x fun x => bif m.testBit x then expM xs m l else force (m ||| 2 ^ x) fun m2 => expM xs m2 (x :: l)
def nexM (step : Nat → List Nat) : List Nat → Nat → List Nat → Nat × List Nat
  | [], m, l => (m, l)
  | y :: ys, m, l => match expM (step y) m l with
    | (m2, l2) => nexM step ys m2 l2
def lvlM (step : Nat → List Nat) : Nat → Nat → List Nat → List Nat
  | 0, _, _ => []
  | n + 1, m, level => match level with
    | [] => []
    | y :: ys => (y :: ys).length :: match nexM step (y :: ys) m [] with
      | (m2, l2) => lvlM step n m2 l2.reverse
def mskOk (m : Nat) (l : List Nat) : Prop := ∀ x, m.testBit x = decide (x ∈ l)
theorem msk_put {m : Nat} {l : List Nat} (h : mskOk m l) (x : Nat) : mskOk (m ||| 2 ^ x) (l ++ [x]) := fun y => by
  rw [Nat.testBit_or, h y, Nat.testBit_two_pow]
  by_cases e : x = y
  · subst e
    simp
  · have e2 : ¬ y = x := fun z => e z.symm
    simp [e, e2]
theorem expM_ok : ∀ (xs : List Nat) (m : Nat) (q : List Nat × List Nat), mskOk m q.1 → (expM xs m q.2.reverse).2 = (expL xs q).2.reverse ∧ mskOk (expM xs m q.2.reverse).1 (expL xs q).1
  | [], m, q, h => ⟨rfl, h⟩
  | x :: xs, m, q, h => by
    show (bif m.testBit x then expM xs m q.2.reverse else expM xs (m ||| 2 ^ x) (x :: q.2.reverse)).2 = (expL xs (if x ∈ q.1 then q else (q.1 ++ [x], q.2 ++ [x]))).2.reverse ∧ mskOk (bif m.testBit x then expM xs m q.2.reverse else expM xs (m ||| 2 ^ x) (x :: q.2.reverse)).1 (expL xs (if x ∈ q.1 then q else (q.1 ++ [x], q.2 ++ [x]))).1
    rw [h x]
    by_cases e : x ∈ q.1
    · rw [if_pos e, decide_eq_true e]
      exact expM_ok xs m q h
    · rw [if_neg e, decide_eq_false e]
      have := expM_ok xs (m ||| 2 ^ x) (q.1 ++ [x], q.2 ++ [x]) (msk_put h x)
      rw [show (q.1 ++ [x], q.2 ++ [x]).2.reverse = x :: q.2.reverse by simp] at this
      exact this
theorem nexM_ok (step : Nat → List Nat) : ∀ (ys : List Nat) (m : Nat) (q : List Nat × List Nat), mskOk m q.1 → (nexM step ys m q.2.reverse).2 = (nexL step ys q).2.reverse ∧ mskOk (nexM step ys m q.2.reverse).1 (nexL step ys q).1
  | [], m, q, h => ⟨rfl, h⟩
  | y :: ys, m, q, h => by
    obtain ⟨e1, e2⟩ := expM_ok (step y) m q h
    show (match expM (step y) m q.2.reverse with | (m2, l2) => nexM step ys m2 l2).2 = _ ∧ mskOk (match expM (step y) m q.2.reverse with | (m2, l2) => nexM step ys m2 l2).1 _
    cases e : expM (step y) m q.2.reverse with
    | mk m2 l2 =>
      rw [e] at e1 e2
      have e1 : l2 = _ := e1
      subst e1
      exact nexM_ok step ys m2 (expL (step y) q) e2
theorem lvlM_ok (step : Nat → List Nat) : ∀ (n m : Nat) (seen level : List Nat), mskOk m seen → lvlM step n m level = lvlL step n seen level
  | 0, _, _, _, _ => rfl
  | n + 1, m, seen, [], _ => rfl
  | n + 1, m, seen, y :: ys, h => by
    obtain ⟨e1, e2⟩ := nexM_ok step (y :: ys) m (seen, []) h
    have e1 : (nexM step (y :: ys) m []).2 = _ := e1
    have e2 : mskOk (nexM step (y :: ys) m []).1 _ := e2
    show (y :: ys).length :: (match nexM step (y :: ys) m [] with | (m2, l2) => lvlM step n m2 l2.reverse) = (y :: ys).length :: lvlL step n (nexL step (y :: ys) (seen, [])).1 (nexL step (y :: ys) (seen, [])).2
    congr 1
    cases e : nexM step (y :: ys) m [] with
    | mk m2 l2 =>
      rw [e] at e1 e2
      have e1 : l2 = _ := e1
      subst e1
      show lvlM step n m2 (List.reverse (List.reverse _)) = _
      rw [List.reverse_reverse]
      exact lvlM_ok step n m2 _ _ e2
/-! flags as numbers: bit f is set for R -/
def setN (c : Nat) (t : Nat × Bool) : Nat := bif t.2 then (c ||| 2 ^ t.1) ^^^ 2 ^ t.1 else c ||| 2 ^ t.1
def hitN (c : Nat) : List (Nat × Bool) → Nat
  | [] => c
  | t :: w => hitN (setN c t) w
def stepN (ws : List (List (Nat × Bool))) (c : Nat) : List Nat := ws.map (hitN c)
def backN (k : Nat) (ks : List (List (Nat × Bool))) (c : Nat) : List Nat := (List.range (2 ^ k)).flatMap fun r => (stepN ks r).filterMap fun a => bif Nat.beq a c then some r else none
def toI (l : List Nat) : List Int := l.map Int.ofNat
def chk1 (k : Nat) (b : TR) (ks : List (List (Nat × Bool))) (o : List Int) (c : Nat) : Bool :=
  decide (toI (lvlM (stepN ks) (2 ^ k + 1) (2 ^ c) [c]) = o) && decide (toI (lvlM (backN k ks) (2 ^ k + 1) (2 ^ c) [c]) = shut (intT (fun f => !c.testBit f) b 0))
def chk (k : Nat) (b : TR) : Bool := (List.range (2 ^ k)).all (chk1 k b (wayB b 0) (shut (outT b)))
def allF : Nat → Nat → List TR
  | 0, _ => []
  | f + 1, n => if n = 1 then [leaf] else (List.range (n - 1)).flatMap fun i => (allF f (i + 1)).flatMap fun l => (allF f (n - 1 - i)).map (node l ·)
end TR
namespace TR
theorem chk_low : ([1, 2, 3, 4, 5].all fun n => (allF 6 n).all (chk (n - 1))) = true := by decide +kernel
theorem c6_0 : chk 5 ((allF 6 6)[0]?.getD leaf) = true := by decide +kernel
theorem c6_1 : chk 5 ((allF 6 6)[1]?.getD leaf) = true := by decide +kernel
theorem c6_2 : chk 5 ((allF 6 6)[2]?.getD leaf) = true := by decide +kernel
theorem c6_3 : chk 5 ((allF 6 6)[3]?.getD leaf) = true := by decide +kernel
theorem c6_4 : chk 5 ((allF 6 6)[4]?.getD leaf) = true := by decide +kernel
theorem c6_5 : chk 5 ((allF 6 6)[5]?.getD leaf) = true := by decide +kernel
theorem c6_6 : chk 5 ((allF 6 6)[6]?.getD leaf) = true := by decide +kernel
theorem c6_7 : chk 5 ((allF 6 6)[7]?.getD leaf) = true := by decide +kernel
theorem c6_8 : chk 5 ((allF 6 6)[8]?.getD leaf) = true := by decide +kernel
theorem c6_9 : chk 5 ((allF 6 6)[9]?.getD leaf) = true := by decide +kernel
theorem c6_10 : chk 5 ((allF 6 6)[10]?.getD leaf) = true := by decide +kernel
theorem c6_11 : chk 5 ((allF 6 6)[11]?.getD leaf) = true := by decide +kernel
theorem c6_12 : chk 5 ((allF 6 6)[12]?.getD leaf) = true := by decide +kernel
theorem c6_13 : chk 5 ((allF 6 6)[13]?.getD leaf) = true := by decide +kernel
theorem c6_14 : chk 5 ((allF 6 6)[14]?.getD leaf) = true := by decide +kernel
theorem c6_15 : chk 5 ((allF 6 6)[15]?.getD leaf) = true := by decide +kernel
theorem c6_16 : chk 5 ((allF 6 6)[16]?.getD leaf) = true := by decide +kernel
theorem c6_17 : chk 5 ((allF 6 6)[17]?.getD leaf) = true := by decide +kernel
theorem c6_18 : chk 5 ((allF 6 6)[18]?.getD leaf) = true := by decide +kernel
theorem c6_19 : chk 5 ((allF 6 6)[19]?.getD leaf) = true := by decide +kernel
theorem c6_20 : chk 5 ((allF 6 6)[20]?.getD leaf) = true := by decide +kernel
theorem c6_21 : chk 5 ((allF 6 6)[21]?.getD leaf) = true := by decide +kernel
theorem c6_22 : chk 5 ((allF 6 6)[22]?.getD leaf) = true := by decide +kernel
theorem c6_23 : chk 5 ((allF 6 6)[23]?.getD leaf) = true := by decide +kernel
theorem c6_24 : chk 5 ((allF 6 6)[24]?.getD leaf) = true := by decide +kernel
theorem c6_25 : chk 5 ((allF 6 6)[25]?.getD leaf) = true := by decide +kernel
theorem c6_26 : chk 5 ((allF 6 6)[26]?.getD leaf) = true := by decide +kernel
theorem c6_27 : chk 5 ((allF 6 6)[27]?.getD leaf) = true := by decide +kernel
theorem c6_28 : chk 5 ((allF 6 6)[28]?.getD leaf) = true := by decide +kernel
theorem c6_29 : chk 5 ((allF 6 6)[29]?.getD leaf) = true := by decide +kernel
theorem c6_30 : chk 5 ((allF 6 6)[30]?.getD leaf) = true := by decide +kernel
theorem c6_31 : chk 5 ((allF 6 6)[31]?.getD leaf) = true := by decide +kernel
theorem c6_32 : chk 5 ((allF 6 6)[32]?.getD leaf) = true := by decide +kernel
theorem c6_33 : chk 5 ((allF 6 6)[33]?.getD leaf) = true := by decide +kernel
theorem c6_34 : chk 5 ((allF 6 6)[34]?.getD leaf) = true := by decide +kernel
theorem c6_35 : chk 5 ((allF 6 6)[35]?.getD leaf) = true := by decide +kernel
theorem c6_36 : chk 5 ((allF 6 6)[36]?.getD leaf) = true := by decide +kernel
theorem c6_37 : chk 5 ((allF 6 6)[37]?.getD leaf) = true := by decide +kernel
theorem c6_38 : chk 5 ((allF 6 6)[38]?.getD leaf) = true := by decide +kernel
theorem c6_39 : chk 5 ((allF 6 6)[39]?.getD leaf) = true := by decide +kernel
theorem c6_40 : chk 5 ((allF 6 6)[40]?.getD leaf) = true := by decide +kernel
theorem c6_41 : chk 5 ((allF 6 6)[41]?.getD leaf) = true := by decide +kernel
theorem len_six : (allF 6 6).length = 42 := by decide +kernel
theorem chk_six : ∀ i, i < 42 → chk 5 ((allF 6 6)[i]?.getD leaf) = true
  | 0, _ => c6_0
  | 1, _ => c6_1
  | 2, _ => c6_2
  | 3, _ => c6_3
  | 4, _ => c6_4
  | 5, _ => c6_5
  | 6, _ => c6_6
  | 7, _ => c6_7
  | 8, _ => c6_8
  | 9, _ => c6_9
  | 10, _ => c6_10
  | 11, _ => c6_11
  | 12, _ => c6_12
  | 13, _ => c6_13
  | 14, _ => c6_14
  | 15, _ => c6_15
  | 16, _ => c6_16
  | 17, _ => c6_17
  | 18, _ => c6_18
  | 19, _ => c6_19
  | 20, _ => c6_20
  | 21, _ => c6_21
  | 22, _ => c6_22
  | 23, _ => c6_23
  | 24, _ => c6_24
  | 25, _ => c6_25
  | 26, _ => c6_26
  | 27, _ => c6_27
  | 28, _ => c6_28
  | 29, _ => c6_29
  | 30, _ => c6_30
  | 31, _ => c6_31
  | 32, _ => c6_32
  | 33, _ => c6_33
  | 34, _ => c6_34
  | 35, _ => c6_35
  | 36, _ => c6_36
  | 37, _ => c6_37
  | 38, _ => c6_38
  | 39, _ => c6_39
  | 40, _ => c6_40
  | 41, _ => c6_41
  | n + 42, h => absurd h (by omega)
theorem chk_all : ([1, 2, 3, 4, 5, 6].all fun n => (allF 6 n).all (chk (n - 1))) = true := by
  have h := chk_low
  simp only [List.all_cons, List.all_nil, Bool.and_true, Bool.and_eq_true] at h ⊢
  refine ⟨h.1, h.2.1, h.2.2.1, h.2.2.2.1, h.2.2.2.2, ?_⟩
  refine List.all_eq_true.mpr fun b hb => ?_
  obtain ⟨i, hi, e⟩ := List.mem_iff_getElem.mp hb
  have := chk_six i (by rw [← len_six]; exact hi)
  rw [List.getElem?_eq_getElem hi, e] at this
  exact this
end TR
namespace TR
def cdB (b : Bool) : Nat := if b then 76 else 82
theorem cdB_inj {c d : Bool} (h : cdB c = cdB d) : c = d := by
  cases c <;> cases d <;> first | rfl | cases h
def hitL (s : List Nat) (w : Way) : List Nat := w.foldl (fun s t => s.set t.1 (cdB t.2)) s
theorem hitL_len : ∀ (w : Way) (s : List Nat), (hitL s w).length = s.length
  | [], _ => rfl
  | t :: w, s => by
    show (hitL (s.set t.1 (cdB t.2)) w).length = _
    rw [hitL_len w, List.length_set]
theorem way_forks : ∀ (b : TR) (o : Nat), ∀ w ∈ wayB b o, (w.map Prod.fst).Nodup
  | leaf, o, w, h => by
    rw [List.mem_singleton.mp (show w ∈ [[]] from h)]
    exact List.nodup_nil
  | node l r, o, w, h => by
    have p1 := nS_pos l
    rcases List.mem_append.mp h with h | h
    · obtain ⟨u, hu, rfl⟩ := List.mem_map.mp h
      refine List.nodup_cons.mpr ⟨fun hm => ?_, way_forks l o u hu⟩
      obtain ⟨t, ht, e⟩ := List.mem_map.mp hm
      have := way_small l o u hu t ht
      have e : t.1 = o + nS l - 1 := e
      omega
    · obtain ⟨u, hu, rfl⟩ := List.mem_map.mp h
      refine List.nodup_cons.mpr ⟨fun hm => ?_, way_forks r _ u hu⟩
      obtain ⟨t, ht, e⟩ := List.mem_map.mp hm
      have := way_small r _ u hu t ht
      have e : t.1 = o + nS l - 1 := e
      omega
def spnF : TR → Nat → Nat → Nat × Nat
  | leaf, o, _ => (o, o)
  | node l r, o, h => if h = o + nS l - 1 then (o, o + nS l + nS r - 1) else if h < o + nS l - 1 then spnF l o h else spnF r (o + nS l) h
theorem spn_node {l r : TR} {o h : Nat} : spnF (node l r) o h = if h = o + nS l - 1 then (o, o + nS l + nS r - 1) else if h < o + nS l - 1 then spnF l o h else spnF r (o + nS l) h := rfl
theorem spn_l {l r : TR} {o h : Nat} (e : h + 1 < o + nS l) : spnF (node l r) o h = spnF l o h := by rw [spn_node, if_neg (by omega), if_pos (by omega)]
theorem spn_r {l r : TR} {o h : Nat} (e : o + nS l ≤ h) : spnF (node l r) o h = spnF r (o + nS l) h := by
  have := nS_pos l
  rw [spn_node, if_neg (by omega), if_neg (by omega)]
theorem rows_spans : ∀ (b : TR) (o p : Nat), ∀ row ∈ rowsB b o p, row.2.2.2.1 = spnF b o row.1
  | leaf, _, _, row, h => nomatch h
  | node l r, o, p, row, h => by
    have pl := nS_pos l
    have kl : ∀ row ∈ rowsB l o (p + 1), o ≤ row.1 ∧ row.1 + 1 < o + nS l := fun row hr => by
      have := (rows_keys l o (p + 1)).mem_iff.mp (List.mem_map.mpr ⟨row, hr, rfl⟩)
      have := List.mem_range'_1.mp this
      omega
    have kr : ∀ row ∈ rowsB r (o + nS l) (p + 1 + (txt l).length), o + nS l ≤ row.1 := fun row hr => by
      have := (rows_keys r _ _).mem_iff.mp (List.mem_map.mpr ⟨row, hr, rfl⟩)
      have := List.mem_range'_1.mp this
      omega
    rcases List.mem_append.mp h with h | h
    · rw [spn_l (kl row h).2]
      exact rows_spans l o _ row h
    · rcases List.mem_append.mp h with h | h
      · rw [spn_r (kr row h)]
        exact rows_spans r _ _ row h
      · rw [List.mem_singleton.mp h]
        show (o, o + nS l + nS r - 1) = spnF (node l r) o (o + nS l - 1)
        rw [spn_node, if_pos rfl]
/-! flags as texts and as numbers -/
def enc : List Nat → Nat
  | [] => 0
  | c :: cs => (if c = 82 then 1 else 0) + 2 * enc cs
def FlT (k : Nat) (s : List Nat) : Prop := s.length = k ∧ ∀ c ∈ s, c = 76 ∨ c = 82
theorem enc_bit : ∀ (s : List Nat) (f : Nat), (enc s).testBit f = decide (s[f]? = some 82)
  | [], f => by
    show Nat.testBit 0 f = _
    rw [Nat.zero_testBit]
    rfl
  | c :: cs, 0 => by
    show Nat.testBit ((if c = 82 then 1 else 0) + 2 * enc cs) 0 = decide (some c = some 82)
    rw [Nat.testBit_zero]
    by_cases h : c = 82
    · rw [if_pos h, h]
      simp
    · rw [if_neg h]
      simp [h]
  | c :: cs, f + 1 => by
    show Nat.testBit ((if c = 82 then 1 else 0) + 2 * enc cs) (f + 1) = decide (cs[f]? = some 82)
    rw [Nat.testBit_succ, ← enc_bit cs f]
    congr 1
    split <;> omega
theorem enc_inj {k : Nat} {s t : List Nat} (hs : FlT k s) (ht : FlT k t) (h : enc s = enc t) : s = t := by
  apply List.ext_getElem?
  intro f
  have h1 := enc_bit s f
  have h2 := enc_bit t f
  rw [h, h2] at h1
  have h1 := decide_eq_decide.mp h1
  by_cases hf : f < k
  · have a1 := hs.2 _ (List.getElem_mem (by rw [hs.1]; exact hf : f < s.length))
    have a2 := ht.2 _ (List.getElem_mem (by rw [ht.1]; exact hf : f < t.length))
    have es := List.getElem?_eq_getElem (l := s) (i := f) (by rw [hs.1]; exact hf)
    have et := List.getElem?_eq_getElem (l := t) (i := f) (by rw [ht.1]; exact hf)
    rw [es, et] at h1 ⊢
    rcases a1 with a1 | a1 <;> rcases a2 with a2 | a2 <;> rw [a1, a2] at h1 ⊢ <;> simp at h1
  · rw [List.getElem?_eq_none (by rw [hs.1]; omega), List.getElem?_eq_none (by rw [ht.1]; omega)]
theorem enc_set {k : Nat} {s : List Nat} (hs : FlT k s) {t : Nat × Bool} (ht : t.1 < k) : enc (s.set t.1 (cdB t.2)) = setN (enc s) t ∧ FlT k (s.set t.1 (cdB t.2)) := by
  refine ⟨?_, by rw [List.length_set]; exact hs.1, fun c hc => ?_⟩
  · apply Nat.eq_of_testBit_eq
    intro f
    rw [enc_bit]
    unfold setN
    obtain ⟨p, b⟩ := t
    have ht : p < k := ht
    by_cases e : p = f
    · subst e
      rw [List.getElem?_set_self (by rw [hs.1]; exact ht)]
      cases b with
      | true => simp [cdB, Nat.testBit_xor, Nat.testBit_or, Nat.testBit_two_pow]
      | false => simp [cdB, Nat.testBit_or, Nat.testBit_two_pow]
    · rw [List.getElem?_set_ne e]
      cases b with
      | true => simp [cdB, Nat.testBit_xor, Nat.testBit_or, Nat.testBit_two_pow, enc_bit, e]
      | false => simp [cdB, Nat.testBit_or, Nat.testBit_two_pow, enc_bit, e]
  · rcases List.mem_or_eq_of_mem_set hc with hc | hc
    · exact hs.2 c hc
    · rw [hc]
      cases t.2
      · exact .inr rfl
      · exact .inl rfl
theorem enc_hit {k : Nat} : ∀ (w : Way) (s : List Nat), FlT k s → (∀ t ∈ w, t.1 < k) → enc (hitL s w) = hitN (enc s) w ∧ FlT k (hitL s w)
  | [], s, hs, _ => ⟨rfl, hs⟩
  | t :: w, s, hs, h => by
    obtain ⟨e1, e2⟩ := enc_set hs (h t List.mem_cons_self)
    have := enc_hit w (s.set t.1 (cdB t.2)) e2 fun u hu => h u (List.mem_cons_of_mem _ hu)
    show enc (hitL (s.set t.1 (cdB t.2)) w) = hitN (setN (enc s) t) w ∧ _
    rw [← e1]
    exact this
theorem enc_snoc : ∀ (s : List Nat) (c : Nat), enc (s ++ [c]) = enc s + (if c = 82 then 2 ^ s.length else 0)
  | [], c => by
    show (if c = 82 then 1 else 0) + 2 * 0 = 0 + (if c = 82 then 2 ^ 0 else 0)
    split <;> rfl
  | x :: s, c => by
    show (if x = 82 then 1 else 0) + 2 * enc (s ++ [c]) = (if x = 82 then 1 else 0) + 2 * enc s + (if c = 82 then 2 ^ (s.length + 1) else 0)
    rw [enc_snoc s c]
    split <;> split <;> first | omega | (rw [Nat.pow_succ]; omega)
/-- all flags of k forks, in the law's order -/
def eacL : Nat → List (List Nat)
  | 0 => [[]]
  | k + 1 => (eacL k).map (· ++ [76]) ++ (eacL k).map (· ++ [82])
theorem eac_flt : ∀ (k : Nat), ∀ s ∈ eacL k, FlT k s
  | 0, s, hs => by
    rw [List.mem_singleton.mp hs]
    exact ⟨rfl, fun c hc => by cases hc⟩
  | k + 1, s, hs => by
    rcases List.mem_append.mp hs with hs | hs
    · obtain ⟨t, ht, e⟩ := List.mem_map.mp hs
      obtain ⟨h1, h2⟩ := eac_flt k t ht
      rw [← e]
      refine ⟨by rw [List.length_append, h1]; rfl, fun c hc => ?_⟩
      rcases List.mem_append.mp hc with hc | hc
      · exact h2 c hc
      · exact .inl (List.mem_singleton.mp hc)
    · obtain ⟨t, ht, e⟩ := List.mem_map.mp hs
      obtain ⟨h1, h2⟩ := eac_flt k t ht
      rw [← e]
      refine ⟨by rw [List.length_append, h1]; rfl, fun c hc => ?_⟩
      rcases List.mem_append.mp hc with hc | hc
      · exact h2 c hc
      · exact .inr (List.mem_singleton.mp hc)
theorem eac_enc : ∀ k : Nat, (eacL k).map enc = List.range (2 ^ k)
  | 0 => rfl
  | k + 1 => by
    have h1 : ((eacL k).map (· ++ [76])).map enc = List.range (2 ^ k) := by
      rw [List.map_map, ← eac_enc k]
      refine List.map_congr_left fun s _ => ?_
      show enc (s ++ [76]) = enc s
      rw [enc_snoc, if_neg (by decide)]
      rfl
    have h2 : ((eacL k).map (· ++ [82])).map enc = (List.range (2 ^ k)).map (2 ^ k + ·) := by
      rw [List.map_map, ← eac_enc k, List.map_map]
      refine List.map_congr_left fun s hs => ?_
      show enc (s ++ [82]) = 2 ^ k + enc s
      rw [enc_snoc, if_pos rfl, (eac_flt k s hs).1, Nat.add_comm]
    show ((eacL k).map (· ++ [76]) ++ (eacL k).map (· ++ [82])).map enc = _
    rw [List.map_append, h1, h2, Nat.pow_succ, Nat.mul_two, List.range_add]
theorem eac_len (k : Nat) : (eacL k).length = 2 ^ k := by
  rw [← List.length_map (f := enc), eac_enc, List.length_range]
theorem eac_mem {k : Nat} {s : List Nat} (h : FlT k s) : s ∈ eacL k := by
  have hl : enc s < 2 ^ k := by
    have : ∀ (s : List Nat), enc s < 2 ^ s.length := by
      intro s
      induction s with
      | nil => exact Nat.one_pos
      | cons c cs ih =>
        show (if c = 82 then 1 else 0) + 2 * enc cs < 2 ^ (cs.length + 1)
        rw [Nat.pow_succ]
        split <;> omega
    have := this s
    rw [h.1] at this
    exact this
  have : enc s ∈ (eacL k).map enc := by
    rw [eac_enc]
    exact List.mem_range.mpr hl
  obtain ⟨t, ht, e⟩ := List.mem_map.mp this
  rw [← enc_inj (eac_flt k t ht) h e]
  exact ht
theorem eac_nodup (k : Nat) : (eacL k).Nodup := by
  have : ((eacL k).map enc).Nodup := by
    rw [eac_enc]
    exact List.nodup_range
  exact (List.pairwise_map.mp this).imp fun h e => h (congrArg enc e)
theorem fm_congr {S T : Type} {f g : S → Option T} : ∀ l : List S, (∀ x ∈ l, f x = g x) → l.filterMap f = l.filterMap g
  | [], _ => rfl
  | x :: xs, h => by rw [List.filterMap_cons, List.filterMap_cons, h x List.mem_cons_self, fm_congr xs fun y hy => h y (List.mem_cons_of_mem _ hy)]
/-! the two ways through the hits -/
def stF (b : TR) (s : List Nat) : List (List Nat) := (wayB b 0).map (hitL s)
def stB (k : Nat) (b : TR) (s : List Nat) : List (List Nat) := (eacL k).flatMap fun r => (stF b r).filterMap fun a => if a = s then some r else none
theorem way_k {b : TR} {k : Nat} (hk : k + 1 = nS b) : ∀ w ∈ wayB b 0, ∀ t ∈ w, t.1 < k := fun w hw t ht => by
  have := way_small b 0 w hw t ht
  omega
theorem stF_enc {b : TR} {k : Nat} (hk : k + 1 = nS b) {s : List Nat} (hs : FlT k s) : stepN (wayB b 0) (enc s) = (stF b s).map enc ∧ ∀ t ∈ stF b s, FlT k t := by
  refine ⟨?_, fun t ht => ?_⟩
  · unfold stepN stF
    rw [List.map_map]
    exact List.map_congr_left fun w hw => (enc_hit w s hs (way_k hk w hw)).1.symm
  · obtain ⟨w, hw, e⟩ := List.mem_map.mp ht
    rw [← e]
    exact (enc_hit w s hs (way_k hk w hw)).2
theorem stB_enc {b : TR} {k : Nat} (hk : k + 1 = nS b) {s : List Nat} (hs : FlT k s) : backN k (wayB b 0) (enc s) = (stB k b s).map enc ∧ ∀ t ∈ stB k b s, FlT k t := by
  refine ⟨?_, fun t ht => ?_⟩
  · unfold backN stB
    rw [← eac_enc, List.flatMap_map, List.map_flatMap]
    rw [List.flatMap_def, List.flatMap_def]
    congr 1
    refine List.map_congr_left fun r hr => ?_
    obtain ⟨e1, e2⟩ := stF_enc hk (eac_flt k r hr)
    rw [e1, List.filterMap_map, List.map_filterMap]
    refine fm_congr _ fun a ha => ?_
    show (bif Nat.beq (enc a) (enc s) then some (enc r) else none) = Option.map enc (if a = s then some r else none)
    by_cases h : a = s
    · rw [if_pos h, h, Nat.beq_refl]
      rfl
    · rw [if_neg h]
      have : Nat.beq (enc a) (enc s) = false := by
        cases q : Nat.beq (enc a) (enc s) with
        | false => rfl
        | true => exact absurd (enc_inj (e2 a ha) hs (Nat.eq_of_beq_eq_true q)) h
      rw [this]
      rfl
  · unfold stB at ht
    obtain ⟨r, hr, ht⟩ := List.mem_flatMap.mp ht
    obtain ⟨a, _, h⟩ := List.mem_filterMap.mp ht
    split at h
    · cases h
      exact eac_flt k _ hr
    · cases h
theorem all_mem : ∀ (f : Nat) (b : TR), nS b ≤ f → b ∈ allF f (nS b)
  | 0, b, h => absurd (Nat.le_trans (nS_pos b) h) (by decide)
  | f + 1, leaf, _ => List.mem_singleton.mpr rfl
  | f + 1, node l r, h => by
    have p1 := nS_pos l
    have p2 := nS_pos r
    have h : nS l + nS r ≤ f + 1 := h
    show node l r ∈ (if nS l + nS r = 1 then [leaf] else (List.range (nS l + nS r - 1)).flatMap fun i => (allF f (i + 1)).flatMap fun l' => (allF f (nS l + nS r - 1 - i)).map (node l' ·))
    rw [if_neg (by omega)]
    refine List.mem_flatMap.mpr ⟨nS l - 1, List.mem_range.mpr (by omega), List.mem_flatMap.mpr ⟨l, ?_, List.mem_map.mpr ⟨r, ?_, rfl⟩⟩⟩
    · rw [show nS l - 1 + 1 = nS l by omega]
      exact all_mem f l (by omega)
    · rw [show nS l + nS r - 1 - (nS l - 1) = nS r by omega]
      exact all_mem f r (by omega)
end TR
namespace TR
theorem chk_at {b : TR} (hb : nS b ≤ 6) : chk (nS b - 1) b = true := by
  have h1 := nS_pos b
  have := List.all_eq_true.mp chk_all (nS b) (by
    have : nS b = 1 ∨ nS b = 2 ∨ nS b = 3 ∨ nS b = 4 ∨ nS b = 5 ∨ nS b = 6 := by omega
    rcases this with e | e | e | e | e | e <;> rw [e] <;> decide)
  exact List.all_eq_true.mp this b (all_mem 6 b hb)
/-- what the searches count -/
theorem search_at {b : TR} {k : Nat} (hk : k + 1 = nS b) (hb : nS b ≤ 6) {s : List Nat} (hs : FlT k s) :
    toI (lvlL (stF b) (2 ^ k + 1) [s] [s]) = shut (outT b) ∧ toI (lvlL (stB k b) (2 ^ k + 1) [s] [s]) = shut (intT (fun f => !(enc s).testBit f) b 0) := by
  have h := chk_at hb
  rw [show nS b - 1 = k by omega] at h
  have hl : enc s ∈ List.range (2 ^ k) := by
    rw [← eac_enc]
    exact List.mem_map.mpr ⟨s, eac_mem hs, rfl⟩
  have h := List.all_eq_true.mp h (enc s) hl
  unfold chk1 at h
  obtain ⟨h1, h2⟩ := Bool.and_eq_true_iff.mp h
  have h1 := of_decide_eq_true h1
  have h2 := of_decide_eq_true h2
  have mk : mskOk (2 ^ enc s) [enc s] := fun x => by
    rw [Nat.testBit_two_pow]
    by_cases e : enc s = x
    · simp [e]
    · have : ¬ x = enc s := fun z => e z.symm
      simp [e, this]
  rw [lvlM_ok _ _ _ _ _ mk] at h1 h2
  have m1 := lvlL_map (f := enc) (P := FlT k) (fun x y hx hy e => enc_inj hx hy e) (step := stF b) (step' := stepN (wayB b 0)) (fun x hx => stF_enc hk hx) (2 ^ k + 1) [s] [s] (fun x hx => by rw [List.mem_singleton.mp hx]; exact hs) fun x hx => by rw [List.mem_singleton.mp hx]; exact hs
  have m2 := lvlL_map (f := enc) (P := FlT k) (fun x y hx hy e => enc_inj hx hy e) (step := stB k b) (step' := backN k (wayB b 0)) (fun x hx => stB_enc hk hx) (2 ^ k + 1) [s] [s] (fun x hx => by rw [List.mem_singleton.mp hx]; exact hs) fun x hx => by rw [List.mem_singleton.mp hx]; exact hs
  rw [show lvlL (stepN (wayB b 0)) (2 ^ k + 1) [enc s] [enc s] = _ from m1] at h1
  rw [show lvlL (backN k (wayB b 0)) (2 ^ k + 1) [enc s] [enc s] = _ from m2] at h2
  exact ⟨h1, h2⟩
end TR
end LW
namespace LW
open PySem PySem.Spec PyProof.Rows L2 SY
/-! ### the text -/
def topS (i : Nat) : Stmt := PySem.Challenge.pw_lastside_k24_whole_spreads.main.body.getD i (.Pass ⟨0, 0, 0, 0⟩)
abbrev s_wall : Stmt := topS 0
abbrev N_wall : List Str := ["k"]
theorem sc_wall : FnScope N_wall ["k"] (defScope s_wall) := ⟨rfl, rfl, rfl, by decide +kernel, rfl, by decide +kernel, by decide +kernel⟩
abbrev s_InvalidTree_init : Stmt := inClass (topS 3) 0
abbrev N_InvalidTree_init : List Str := ["self", "text"]
theorem sc_InvalidTree_init : FnScope N_InvalidTree_init ["self", "text"] (defScope s_InvalidTree_init) := ⟨rfl, rfl, rfl, by decide +kernel, rfl, by decide +kernel, by decide +kernel⟩
abbrev s_InvalidFlags_init : Stmt := inClass (topS 4) 0
abbrev N_InvalidFlags_init : List Str := ["self", "flags"]
theorem sc_InvalidFlags_init : FnScope N_InvalidFlags_init ["self", "flags"] (defScope s_InvalidFlags_init) := ⟨rfl, rfl, rfl, by decide +kernel, rfl, by decide +kernel, by decide +kernel⟩
abbrev s_InvalidSlot_init : Stmt := inClass (topS 5) 0
abbrev N_InvalidSlot_init : List Str := ["self", "slot"]
theorem sc_InvalidSlot_init : FnScope N_InvalidSlot_init ["self", "slot"] (defScope s_InvalidSlot_init) := ⟨rfl, rfl, rfl, by decide +kernel, rfl, by decide +kernel, by decide +kernel⟩
abbrev s_InvalidFork_init : Stmt := inClass (topS 6) 0
abbrev N_InvalidFork_init : List Str := ["self", "fork"]
theorem sc_InvalidFork_init : FnScope N_InvalidFork_init ["self", "fork"] (defScope s_InvalidFork_init) := ⟨rfl, rfl, rfl, by decide +kernel, rfl, by decide +kernel, by decide +kernel⟩
abbrev s_TooMany_init : Stmt := inClass (topS 7) 0
abbrev N_TooMany_init : List Str := ["self", "most"]
theorem sc_TooMany_init : FnScope N_TooMany_init ["self", "most"] (defScope s_TooMany_init) := ⟨rfl, rfl, rfl, by decide +kernel, rfl, by decide +kernel, by decide +kernel⟩
abbrev s_is_integer : Stmt := topS 9
abbrev N_is_integer : List Str := ["value"]
theorem sc_is_integer : FnScope N_is_integer ["value"] (defScope s_is_integer) := ⟨rfl, rfl, rfl, by decide +kernel, rfl, by decide +kernel, by decide +kernel⟩
abbrev s_is_place : Stmt := topS 10
abbrev N_is_place : List Str := ["many", "value"]
theorem sc_is_place : FnScope N_is_place ["many", "value"] (defScope s_is_place) := ⟨rfl, rfl, rfl, by decide +kernel, rfl, by decide +kernel, by decide +kernel⟩
abbrev s_is_made_of : Stmt := topS 11
abbrev N_is_made_of : List Str := ["value", "signs", "sign"]
theorem sc_is_made_of : FnScope N_is_made_of ["value", "signs"] (defScope s_is_made_of) := ⟨rfl, rfl, rfl, by decide +kernel, rfl, by decide +kernel, by decide +kernel⟩
abbrev s_checked_flags : Stmt := topS 12
abbrev N_checked_flags : List Str := ["tree", "flags"]
theorem sc_checked_flags : FnScope N_checked_flags ["tree", "flags"] (defScope s_checked_flags) := ⟨rfl, rfl, rfl, by decide +kernel, rfl, by decide +kernel, by decide +kernel⟩
abbrev s_checked_fork : Stmt := topS 13
abbrev N_checked_fork : List Str := ["tree", "fork"]
theorem sc_checked_fork : FnScope N_checked_fork ["tree", "fork"] (defScope s_checked_fork) := ⟨rfl, rfl, rfl, by decide +kernel, rfl, by decide +kernel, by decide +kernel⟩
abbrev s_poly_product : Stmt := topS 15
abbrev N_poly_product : List Str := ["first", "second", "coefficients", "at_first", "number", "at_second", "factor", "power"]
theorem sc_poly_product : FnScope N_poly_product ["first", "second"] (defScope s_poly_product) := ⟨rfl, rfl, rfl, by decide +kernel, rfl, by decide +kernel, by decide +kernel⟩
abbrev s_poly_sum : Stmt := topS 16
abbrev N_poly_sum : List Str := ["first", "second", "coefficients", "terms", "power", "number"]
theorem sc_poly_sum : FnScope N_poly_sum ["first", "second"] (defScope s_poly_sum) := ⟨rfl, rfl, rfl, by decide +kernel, rfl, by decide +kernel, by decide +kernel⟩
abbrev s_trail_polynomial : Stmt := topS 17
abbrev N_trail_polynomial : List Str := ["forks", "hanging", "coefficients", "number"]
theorem sc_trail_polynomial : FnScope N_trail_polynomial ["forks", "hanging"] (defScope s_trail_polynomial) := ⟨rfl, rfl, rfl, by decide +kernel, rfl, by decide +kernel, by decide +kernel⟩
abbrev s_spread_to : Stmt := topS 18
abbrev N_spread_to : List Str := ["tree", "flags", "lengths", "hanging", "slot", "fork", "shown", "other", "hung"]
theorem sc_spread_to : FnScope N_spread_to ["tree", "flags"] (defScope s_spread_to) := ⟨rfl, rfl, rfl, by decide +kernel, rfl, by decide +kernel, by decide +kernel⟩
abbrev s_subtree_polynomial : Stmt := topS 19
abbrev N_subtree_polynomial : List Str := ["below"]
theorem sc_subtree_polynomial : FnScope N_subtree_polynomial ["below"] (defScope s_subtree_polynomial) := ⟨rfl, rfl, rfl, by decide +kernel, rfl, by decide +kernel, by decide +kernel⟩
abbrev s_spread_from : Stmt := topS 20
abbrev N_spread_from : List Str := ["tree", "flags", "below", "slot", "fork", "left", "right", "shown_left", "shown_right"]
theorem sc_spread_from : FnScope N_spread_from ["tree", "flags"] (defScope s_spread_from) := ⟨rfl, rfl, rfl, by decide +kernel, rfl, by decide +kernel, by decide +kernel⟩
abbrev s_greatest_distance : Stmt := topS 21
abbrev N_greatest_distance : List Str := ["tree", "fork"]
theorem sc_greatest_distance : FnScope N_greatest_distance ["tree"] (defScope s_greatest_distance) := ⟨rfl, rfl, rfl, by decide +kernel, rfl, by decide +kernel, by decide +kernel⟩
abbrev s_ends_fork : Stmt := topS 23
abbrev N_ends_fork : List Str := ["stack", "node"]
theorem sc_ends_fork : FnScope N_ends_fork ["stack"] (defScope s_ends_fork) := ⟨rfl, rfl, rfl, by decide +kernel, rfl, by decide +kernel, by decide +kernel⟩
abbrev s_read_forks : Stmt := topS 24
abbrev N_read_forks : List Str := ["text", "stack", "rows", "slots", "place", "sign", "right", "left", "first", "fork", "last", "start"]
theorem sc_read_forks : FnScope N_read_forks ["text"] (defScope s_read_forks) := ⟨rfl, rfl, rfl, by decide +kernel, rfl, by decide +kernel, by decide +kernel⟩
abbrev s_lay_ways : Stmt := topS 25
abbrev N_lay_ways : List Str := ["root", "lefts", "rights", "preorder", "ways", "stack", "word", "number", "way"]
theorem sc_lay_ways : FnScope N_lay_ways ["root", "lefts", "rights"] (defScope s_lay_ways) := ⟨rfl, rfl, rfl, by decide +kernel, rfl, by decide +kernel, by decide +kernel⟩
abbrev s_Tree_init : Stmt := inClass (topS 26) 1
abbrev N_Tree_init : List Str := ["self", "text", "rows", "ascending", "row"]
theorem sc_Tree_init : FnScope N_Tree_init ["self", "text"] (defScope s_Tree_init) := ⟨rfl, rfl, rfl, by decide +kernel, rfl, by decide +kernel, by decide +kernel⟩
abbrev s_Tree_str : Stmt := inClass (topS 26) 2
abbrev N_Tree_str : List Str := ["self"]
theorem sc_Tree_str : FnScope N_Tree_str ["self"] (defScope s_Tree_str) := ⟨rfl, rfl, rfl, by decide +kernel, rfl, by decide +kernel, by decide +kernel⟩
abbrev s_Tree_len : Stmt := inClass (topS 26) 3
abbrev N_Tree_len : List Str := ["self"]
theorem sc_Tree_len : FnScope N_Tree_len ["self"] (defScope s_Tree_len) := ⟨rfl, rfl, rfl, by decide +kernel, rfl, by decide +kernel, by decide +kernel⟩
abbrev s_Tree_eq : Stmt := inClass (topS 26) 4
abbrev N_Tree_eq : List Str := ["self", "other"]
theorem sc_Tree_eq : FnScope N_Tree_eq ["self", "other"] (defScope s_Tree_eq) := ⟨rfl, rfl, rfl, by decide +kernel, rfl, by decide +kernel, by decide +kernel⟩
abbrev s_Tree_add : Stmt := inClass (topS 26) 5
abbrev N_Tree_add : List Str := ["self", "other"]
theorem sc_Tree_add : FnScope N_Tree_add ["self", "other"] (defScope s_Tree_add) := ⟨rfl, rfl, rfl, by decide +kernel, rfl, by decide +kernel, by decide +kernel⟩
abbrev s_Tree_forks : Stmt := inClass (topS 26) 6
abbrev N_Tree_forks : List Str := ["self"]
theorem sc_Tree_forks : FnScope N_Tree_forks ["self"] (defScope s_Tree_forks) := ⟨rfl, rfl, rfl, by decide +kernel, rfl, by decide +kernel, by decide +kernel⟩
abbrev s_Tree_height : Stmt := inClass (topS 26) 7
abbrev N_Tree_height : List Str := ["self"]
theorem sc_Tree_height : FnScope N_Tree_height ["self"] (defScope s_Tree_height) := ⟨rfl, rfl, rfl, by decide +kernel, rfl, by decide +kernel, by decide +kernel⟩
abbrev s_Tree_least_depth : Stmt := inClass (topS 26) 8
abbrev N_Tree_least_depth : List Str := ["self"]
theorem sc_Tree_least_depth : FnScope N_Tree_least_depth ["self"] (defScope s_Tree_least_depth) := ⟨rfl, rfl, rfl, by decide +kernel, rfl, by decide +kernel, by decide +kernel⟩
abbrev s_Tree_is_even : Stmt := inClass (topS 26) 9
abbrev N_Tree_is_even : List Str := ["self"]
theorem sc_Tree_is_even : FnScope N_Tree_is_even ["self"] (defScope s_Tree_is_even) := ⟨rfl, rfl, rfl, by decide +kernel, rfl, by decide +kernel, by decide +kernel⟩
abbrev s_Tree_top : Stmt := inClass (topS 26) 10
abbrev N_Tree_top : List Str := ["self"]
theorem sc_Tree_top : FnScope N_Tree_top ["self"] (defScope s_Tree_top) := ⟨rfl, rfl, rfl, by decide +kernel, rfl, by decide +kernel, by decide +kernel⟩
abbrev s_Tree_sides : Stmt := inClass (topS 26) 11
abbrev N_Tree_sides : List Str := ["self", "fork"]
theorem sc_Tree_sides : FnScope N_Tree_sides ["self", "fork"] (defScope s_Tree_sides) := ⟨rfl, rfl, rfl, by decide +kernel, rfl, by decide +kernel, by decide +kernel⟩
abbrev s_Tree_path : Stmt := inClass (topS 26) 12
abbrev N_Tree_path : List Str := ["self", "slot"]
theorem sc_Tree_path : FnScope N_Tree_path ["self", "slot"] (defScope s_Tree_path) := ⟨rfl, rfl, rfl, by decide +kernel, rfl, by decide +kernel, by decide +kernel⟩
abbrev s_Tree_depth : Stmt := inClass (topS 26) 13
abbrev N_Tree_depth : List Str := ["self", "slot"]
theorem sc_Tree_depth : FnScope N_Tree_depth ["self", "slot"] (defScope s_Tree_depth) := ⟨rfl, rfl, rfl, by decide +kernel, rfl, by decide +kernel, by decide +kernel⟩
abbrev s_Tree_span : Stmt := inClass (topS 26) 14
abbrev N_Tree_span : List Str := ["self", "fork"]
theorem sc_Tree_span : FnScope N_Tree_span ["self", "fork"] (defScope s_Tree_span) := ⟨rfl, rfl, rfl, by decide +kernel, rfl, by decide +kernel, by decide +kernel⟩
abbrev s_Tree_walk : Stmt := inClass (topS 26) 15
abbrev s_Tree_subtree : Stmt := inClass (topS 26) 16
abbrev N_Tree_subtree : List Str := ["self", "fork", "start", "stop"]
theorem sc_Tree_subtree : FnScope N_Tree_subtree ["self", "fork"] (defScope s_Tree_subtree) := ⟨rfl, rfl, rfl, by decide +kernel, rfl, by decide +kernel, by decide +kernel⟩
abbrev s_Tree_collapsed : Stmt := inClass (topS 26) 17
abbrev N_Tree_collapsed : List Str := ["self", "fork"]
theorem sc_Tree_collapsed : FnScope N_Tree_collapsed ["self", "fork"] (defScope s_Tree_collapsed) := ⟨rfl, rfl, rfl, by decide +kernel, rfl, by decide +kernel, by decide +kernel⟩
abbrev s_Tree_mirrored : Stmt := inClass (topS 26) 18
abbrev N_Tree_mirrored : List Str := ["self"]
theorem sc_Tree_mirrored : FnScope N_Tree_mirrored ["self"] (defScope s_Tree_mirrored) := ⟨rfl, rfl, rfl, by decide +kernel, rfl, by decide +kernel, by decide +kernel⟩
abbrev s_Tree_grown : Stmt := inClass (topS 26) 19
abbrev N_Tree_grown : List Str := ["self", "slot"]
theorem sc_Tree_grown : FnScope N_Tree_grown ["self", "slot"] (defScope s_Tree_grown) := ⟨rfl, rfl, rfl, by decide +kernel, rfl, by decide +kernel, by decide +kernel⟩
abbrev s_Tree_closed : Stmt := inClass (topS 26) 20
abbrev N_Tree_closed : List Str := ["self", "slot"]
theorem sc_Tree_closed : FnScope N_Tree_closed ["self", "slot"] (defScope s_Tree_closed) := ⟨rfl, rfl, rfl, by decide +kernel, rfl, by decide +kernel, by decide +kernel⟩
abbrev s_Tree_even : Stmt := inClass (topS 26) 21
abbrev N_Tree_even : List Str := ["cls", "height"]
theorem sc_Tree_even : FnScope N_Tree_even ["cls", "height"] (defScope s_Tree_even) := ⟨rfl, rfl, rfl, by decide +kernel, rfl, by decide +kernel, by decide +kernel⟩
abbrev s_Tree_comb : Stmt := inClass (topS 26) 22
abbrev N_Tree_comb : List Str := ["cls", "slots", "side"]
theorem sc_Tree_comb : FnScope N_Tree_comb ["cls", "slots", "side"] (defScope s_Tree_comb) := ⟨rfl, rfl, rfl, by decide +kernel, rfl, by decide +kernel, by decide +kernel⟩
abbrev s_l_is_integer : Stmt := topS 28
abbrev N_l_is_integer : List Str := ["_law_told"]
theorem sc_l_is_integer : FnScope N_l_is_integer ["_law_told"] (defScope s_l_is_integer) := ⟨rfl, rfl, rfl, by decide +kernel, rfl, by decide +kernel, by decide +kernel⟩
abbrev s_l_same : Stmt := topS 29
abbrev N_l_same : List Str := ["_law_told", "_law_due", "_law_k"]
theorem sc_l_same : FnScope N_l_same ["_law_told", "_law_due"] (defScope s_l_same) := ⟨rfl, rfl, rfl, by decide +kernel, rfl, by decide +kernel, by decide +kernel⟩
abbrev s_l_box : Stmt := topS 30
abbrev N_l_box : List Str := ["_law_script", "_law_cells", "_law_mixes", "_law_cell"]
theorem sc_l_box : FnScope N_l_box ["_law_script"] (defScope s_l_box) := ⟨rfl, rfl, rfl, by decide +kernel, rfl, by decide +kernel, by decide +kernel⟩
abbrev s_l_take : Stmt := topS 31
abbrev N_l_take : List Str := ["_law_box_here", "_law_size", "_law_greats", "_law_digits", "_law_step", "_law_mixes", "_law_cell", "_law_first", "_law_second", "_law_third"]
theorem sc_l_take : FnScope N_l_take ["_law_box_here", "_law_size"] (defScope s_l_take) := ⟨rfl, rfl, rfl, by decide +kernel, rfl, by decide +kernel, by decide +kernel⟩
abbrev s_l_join : Stmt := topS 32
abbrev N_l_join : List Str := ["_law_box_here", "_law_lean", "_law_room", "_law_power", "_law_k"]
theorem sc_l_join : FnScope N_l_join ["_law_box_here", "_law_lean", "_law_room"] (defScope s_l_join) := ⟨rfl, rfl, rfl, by decide +kernel, rfl, by decide +kernel, by decide +kernel⟩
abbrev s_l_tree : Stmt := topS 33
abbrev N_l_tree : List Str := ["_law_box_here", "_law_slots_here", "_law_lean", "_law_pieces", "_law_ways", "_law_step", "_law_at", "_law_left", "_law_right", "_law_k"]
theorem sc_l_tree : FnScope N_l_tree ["_law_box_here", "_law_slots_here"] (defScope s_l_tree) := ⟨rfl, rfl, rfl, by decide +kernel, rfl, by decide +kernel, by decide +kernel⟩
abbrev s_l_flags : Stmt := topS 34
abbrev N_l_flags : List Str := ["_law_box_here", "_law_many", "_law_style", "_law_k"]
theorem sc_l_flags : FnScope N_l_flags ["_law_box_here", "_law_many"] (defScope s_l_flags) := ⟨rfl, rfl, rfl, by decide +kernel, rfl, by decide +kernel, by decide +kernel⟩
abbrev s_l_slots : Stmt := topS 35
abbrev N_l_slots : List Str := ["_law_box_here", "_law_kind"]
theorem sc_l_slots : FnScope N_l_slots ["_law_box_here"] (defScope s_l_slots) := ⟨rfl, rfl, rfl, by decide +kernel, rfl, by decide +kernel, by decide +kernel⟩
abbrev s_l_bent : Stmt := topS 36
abbrev N_l_bent : List Str := ["_law_box_here", "_law_flags_here", "_law_odd", "_law_way", "_law_at", "_law_sign"]
theorem sc_l_bent : FnScope N_l_bent ["_law_box_here", "_law_flags_here", "_law_odd"] (defScope s_l_bent) := ⟨rfl, rfl, rfl, by decide +kernel, rfl, by decide +kernel, by decide +kernel⟩
abbrev s_l_hit : Stmt := topS 37
abbrev N_l_hit : List Str := ["_law_flags_here", "_law_way", "_law_fork", "_law_side"]
theorem sc_l_hit : FnScope N_l_hit ["_law_flags_here", "_law_way"] (defScope s_l_hit) := ⟨rfl, rfl, rfl, by decide +kernel, rfl, by decide +kernel, by decide +kernel⟩
abbrev s_l_times : Stmt := topS 38
abbrev N_l_times : List Str := ["_law_first", "_law_second", "_law_found", "_law_j", "_law_k"]
theorem sc_l_times : FnScope N_l_times ["_law_first", "_law_second"] (defScope s_l_times) := ⟨rfl, rfl, rfl, by decide +kernel, rfl, by decide +kernel, by decide +kernel⟩
abbrev s_l_plus : Stmt := topS 39
abbrev N_l_plus : List Str := ["_law_first", "_law_second", "_law_found", "_law_k"]
theorem sc_l_plus : FnScope N_l_plus ["_law_first", "_law_second"] (defScope s_l_plus) := ⟨rfl, rfl, rfl, by decide +kernel, rfl, by decide +kernel, by decide +kernel⟩
abbrev s_l_shut : Stmt := topS 40
abbrev N_l_shut : List Str := ["_law_opened"]
theorem sc_l_shut : FnScope N_l_shut ["_law_opened"] (defScope s_l_shut) := ⟨rfl, rfl, rfl, by decide +kernel, rfl, by decide +kernel, by decide +kernel⟩
abbrev s_l_spreads : Stmt := topS 41
abbrev N_l_spreads : List Str := ["_law_text", "_law_flags_here", "_law_parts", "_law_last", "_law_wide", "_law_sign", "_law_right", "_law_left", "_law_near", "_law_far", "_law_into", "_law_lefts", "_law_rights", "_law_whole", "_law_number"]
theorem sc_l_spreads : FnScope N_l_spreads ["_law_text", "_law_flags_here"] (defScope s_l_spreads) := ⟨rfl, rfl, rfl, by decide +kernel, rfl, by decide +kernel, by decide +kernel⟩
abbrev s_l_each : Stmt := topS 42
abbrev N_l_each : List Str := ["_law_many", "_law_rows", "_law_k", "_law_row"]
theorem sc_l_each : FnScope N_l_each ["_law_many"] (defScope s_l_each) := ⟨rfl, rfl, rfl, by decide +kernel, rfl, by decide +kernel, by decide +kernel⟩
abbrev s_l_levels : Stmt := topS 43
abbrev N_l_levels : List Str := ["_law_start", "_law_steps", "_law_seen", "_law_level", "_law_counts", "_law_k", "_law_later", "_law_state", "_law_after"]
theorem sc_l_levels : FnScope N_l_levels ["_law_start", "_law_steps"] (defScope s_l_levels) := ⟨rfl, rfl, rfl, by decide +kernel, rfl, by decide +kernel, by decide +kernel⟩
abbrev s_l_searched : Stmt := topS 44
abbrev N_l_searched : List Str := ["_law_tree_here", "_law_flags_here", "_law_ways", "_law_rows", "_law_steps", "_law_back", "_law_row", "_law_after", "_law_origin", "_law_way"]
theorem sc_l_searched : FnScope N_l_searched ["_law_tree_here", "_law_flags_here", "_law_ways"] (defScope s_l_searched) := ⟨rfl, rfl, rfl, by decide +kernel, rfl, by decide +kernel, by decide +kernel⟩
abbrev s_l_answers : Stmt := topS 45
abbrev N_l_answers : List Str := ["_law_tree_here", "_law_text", "_law_flags_here", "_law_into", "_law_out", "_law_wide", "_law_told_into", "_law_told_out", "_law_number"]
theorem sc_l_answers : FnScope N_l_answers ["_law_tree_here", "_law_text", "_law_flags_here"] (defScope s_l_answers) := ⟨rfl, rfl, rfl, by decide +kernel, rfl, by decide +kernel, by decide +kernel⟩
abbrev s_l_fault : Stmt := topS 46
abbrev N_l_fault : List Str := ["_law_door", "_law_tree_here", "_law_flags_here", "e"]
theorem sc_l_fault : FnScope N_l_fault ["_law_door", "_law_tree_here", "_law_flags_here"] (defScope s_l_fault) := ⟨rfl, rfl, rfl, by decide +kernel, rfl, by decide +kernel, by decide +kernel⟩
abbrev s_law : Stmt := topS 47
abbrev N_law : List Str := ["_law_script", "_law_box_here", "_law_slots_here", "_law_text", "_law_ways", "_law_flags_here", "_law_at", "_law_others", "_law_tree_here", "_law_row", "_law_bad", "_law_door"]
theorem sc_law : FnScope N_law ["_law_script"] (defScope s_law) := ⟨rfl, rfl, rfl, by decide +kernel, rfl, by decide +kernel, by decide +kernel⟩
/-- where the text's classes stand -/
structure Ads where
  CacheError : Addr
  InvalidTree : Addr
  InvalidFlags : Addr
  InvalidSlot : Addr
  InvalidFork : Addr
  TooMany : Addr
  Tree : Addr
/-- what the module's names hold -/
structure Env (P : Program) (w : World) (K : PySem.W.Frag) (mg : Str → Option Value) (base : Heap) (a : Ads) : Prop where
  n_ValueError : mg "ValueError" = none
  n_all : mg "all" = none
  n_bool : mg "bool" = none
  n_enumerate : mg "enumerate" = none
  n_int : mg "int" = none
  n_isinstance : mg "isinstance" = none
  n_len : mg "len" = none
  n_list : mg "list" = none
  n_max : mg "max" = none
  n_range : mg "range" = none
  n_repr : mg "repr" = none
  n_sorted : mg "sorted" = none
  n_str : mg "str" = none
  n_sum : mg "sum" = none
  n_tuple : mg "tuple" = none
  g_CacheError : mg "CacheError" = some (.ref a.CacheError)
  g_InvalidFlags : mg "InvalidFlags" = some (.ref a.InvalidFlags)
  g_InvalidSlot : mg "InvalidSlot" = some (.ref a.InvalidSlot)
  g_InvalidTree : mg "InvalidTree" = some (.ref a.InvalidTree)
  o_Tree : L2.Cls K a.Tree
  na_Tree_bounds : NoAttr K a.Tree "bounds"
  na_Tree_lefts : NoAttr K a.Tree "lefts"
  na_Tree_postorder : NoAttr K a.Tree "postorder"
  na_Tree_preorder : NoAttr K a.Tree "preorder"
  na_Tree_rights : NoAttr K a.Tree "rights"
  na_Tree_root : NoAttr K a.Tree "root"
  na_Tree_spans : NoAttr K a.Tree "spans"
  na_Tree_text : NoAttr K a.Tree "text"
  na_Tree_ways : NoAttr K a.Tree "ways"
  w_Tree_false : GL.WlkC K a.Tree "postorder" "preorder" false
  k_Tree_MOST : ∃ u, Con K a.Tree "MOST" (.int 64) u
  e_InvalidFlags : ErrC P w K mg base "InvalidFlags" "flags" a.InvalidFlags
  e_InvalidTree : ErrC P w K mg base "InvalidTree" "text" a.InvalidTree
section
variable {P : Program} {w : World} {K : PySem.W.Frag} {mg : Str → Option Value} {base : Heap}
theorem ini_InvalidTree {C fI : Addr} {fd : FuncData} (T : OexC K C) (hno : PySem.W.findIn K (.ref C) "text" = some none) (F : Fun K "__init__" "InvalidTree.__init__" s_InvalidTree_init fI fd) : FnOk P w K mg base (L2.CX P w) 1 fI fd ["self", "text"] (spErr C "text") := by
  refine F.okX sc_InvalidTree_init (fun vs H Q E h => ?_) (fun cdv A outer s H vs Q E hr h => ⟨_, pss_one (ps_ost (pv 0) (pv 1)), ?_⟩)
  · obtain ⟨a, v, rfl, _⟩ := h
    rfl
  · obtain ⟨a, v, rfl, h1, h2⟩ := h
    exact ⟨v, rfl, .ref a, rfl, a, C, rfl, T, hno, .inl ⟨h1, fun dx n1 n2 => h2 dx n1 n2⟩⟩
theorem ini_InvalidFlags {C fI : Addr} {fd : FuncData} (T : OexC K C) (hno : PySem.W.findIn K (.ref C) "flags" = some none) (F : Fun K "__init__" "InvalidFlags.__init__" s_InvalidFlags_init fI fd) : FnOk P w K mg base (L2.CX P w) 1 fI fd ["self", "flags"] (spErr C "flags") := by
  refine F.okX sc_InvalidFlags_init (fun vs H Q E h => ?_) (fun cdv A outer s H vs Q E hr h => ⟨_, pss_one (ps_ost (pv 0) (pv 1)), ?_⟩)
  · obtain ⟨a, v, rfl, _⟩ := h
    rfl
  · obtain ⟨a, v, rfl, h1, h2⟩ := h
    exact ⟨v, rfl, .ref a, rfl, a, C, rfl, T, hno, .inl ⟨h1, fun dx n1 n2 => h2 dx n1 n2⟩⟩
theorem ini_InvalidSlot {C fI : Addr} {fd : FuncData} (T : OexC K C) (hno : PySem.W.findIn K (.ref C) "slot" = some none) (F : Fun K "__init__" "InvalidSlot.__init__" s_InvalidSlot_init fI fd) : FnOk P w K mg base (L2.CX P w) 1 fI fd ["self", "slot"] (spErr C "slot") := by
  refine F.okX sc_InvalidSlot_init (fun vs H Q E h => ?_) (fun cdv A outer s H vs Q E hr h => ⟨_, pss_one (ps_ost (pv 0) (pv 1)), ?_⟩)
  · obtain ⟨a, v, rfl, _⟩ := h
    rfl
  · obtain ⟨a, v, rfl, h1, h2⟩ := h
    exact ⟨v, rfl, .ref a, rfl, a, C, rfl, T, hno, .inl ⟨h1, fun dx n1 n2 => h2 dx n1 n2⟩⟩
theorem ini_InvalidFork {C fI : Addr} {fd : FuncData} (T : OexC K C) (hno : PySem.W.findIn K (.ref C) "fork" = some none) (F : Fun K "__init__" "InvalidFork.__init__" s_InvalidFork_init fI fd) : FnOk P w K mg base (L2.CX P w) 1 fI fd ["self", "fork"] (spErr C "fork") := by
  refine F.okX sc_InvalidFork_init (fun vs H Q E h => ?_) (fun cdv A outer s H vs Q E hr h => ⟨_, pss_one (ps_ost (pv 0) (pv 1)), ?_⟩)
  · obtain ⟨a, v, rfl, _⟩ := h
    rfl
  · obtain ⟨a, v, rfl, h1, h2⟩ := h
    exact ⟨v, rfl, .ref a, rfl, a, C, rfl, T, hno, .inl ⟨h1, fun dx n1 n2 => h2 dx n1 n2⟩⟩
theorem ini_TooMany {C fI : Addr} {fd : FuncData} (T : OexC K C) (hno : PySem.W.findIn K (.ref C) "most" = some none) (F : Fun K "__init__" "TooMany.__init__" s_TooMany_init fI fd) : FnOk P w K mg base (L2.CX P w) 1 fI fd ["self", "most"] (spErr C "most") := by
  refine F.okX sc_TooMany_init (fun vs H Q E h => ?_) (fun cdv A outer s H vs Q E hr h => ⟨_, pss_one (ps_ost (pv 0) (pv 1)), ?_⟩)
  · obtain ⟨a, v, rfl, _⟩ := h
    rfl
  · obtain ⟨a, v, rfl, h1, h2⟩ := h
    exact ⟨v, rfl, .ref a, rfl, a, C, rfl, T, hno, .inl ⟨h1, fun dx n1 n2 => h2 dx n1 n2⟩⟩
end
/-! ### levels -/
abbrev l_is_made_of : Nat := 1
abbrev l_checked_flags : Nat := 3
abbrev l_poly_product : Nat := 1
abbrev l_poly_sum : Nat := 1
abbrev l_trail_polynomial : Nat := 1
abbrev l_spread_to : Nat := 4
abbrev l_subtree_polynomial : Nat := 1
abbrev l_spread_from : Nat := 4
abbrev l_greatest_distance : Nat := 3
abbrev l_ends_fork : Nat := 1
abbrev l_read_forks : Nat := 2
abbrev l_lay_ways : Nat := 1
abbrev l_Tree_init : Nat := 3
abbrev l_Tree_len : Nat := 1
abbrev l_Tree_forks : Nat := 1
abbrev l_Tree_top : Nat := 1
abbrev l_l_is_integer : Nat := 1
abbrev l_l_same : Nat := 2
abbrev l_l_box : Nat := 1
abbrev l_l_take : Nat := 1
abbrev l_l_join : Nat := 2
abbrev l_l_tree : Nat := 3
abbrev l_l_flags : Nat := 2
abbrev l_l_slots : Nat := 2
abbrev l_l_bent : Nat := 2
abbrev l_l_hit : Nat := 1
abbrev l_l_times : Nat := 1
abbrev l_l_plus : Nat := 1
abbrev l_l_shut : Nat := 1
abbrev l_l_spreads : Nat := 2
abbrev l_l_each : Nat := 1
abbrev l_l_levels : Nat := 1
abbrev l_l_searched : Nat := 5
abbrev l_l_answers : Nat := 5
abbrev l_l_fault : Nat := 5
abbrev l_law : Nat := 6
/-! ### what each def promises -/
open TR
def ct_is_integer (K : PySem.W.Frag) : Ct (V × TY) where
  pre g vs H := vs = [g.1] ∧ Ty0 K H g.1 g.2
  post g H v H' := v = .bl (isInt g.1) ∧ Ext H H'
abbrev p_l_is_integer (K : PySem.W.Frag) (a : Ads) : Sp := spC (ct_is_integer K)
abbrev q_l_is_integer (K : PySem.W.Frag) (a : Ads) := rC (ct_is_integer K)
theorem c_l_is_integer {K : PySem.W.Frag} {a : Ads} : Ctr (p_l_is_integer K a) (q_l_is_integer K a) := ctrC
/-- the signs that flags are tried with -/
def sgnOk (u : Str) : Prop := u.cps.toList.length ≤ 100 ∧ ∀ c ∈ u.cps.toList, c ∈ [76, 82, 63, 46, 108, 120, 33]
def strOk : V → Prop
  | .str u => sgnOk u
  | _ => True
def madeL (q : Bool) (u : Str) : Bool := u.cps.toList.all fun c => c == 76 || c == 82 || (q && c == 63)
def madeB (q : Bool) : V → Bool
  | .str u => madeL q u
  | _ => false
def ct_is_made_of (K : PySem.W.Frag) : Ct (V × TY × Bool) where
  pre g vs H := vs = [g.1, .str (if g.2.2 then "LR?" else "LR")] ∧ Ty0 K H g.1 g.2.1 ∧ strOk g.1
  post g H v H' := v = .bl (madeB g.2.2 g.1) ∧ Ext H H'
abbrev p_is_made_of (K : PySem.W.Frag) (a : Ads) : Sp := spC (ct_is_made_of K)
abbrev q_is_made_of (K : PySem.W.Frag) (a : Ads) := rC (ct_is_made_of K)
theorem c_is_made_of {K : PySem.W.Frag} {a : Ads} : Ctr (p_is_made_of K a) (q_is_made_of K a) := ctrC
/-! trees -/
def sdS (b : Bool) : Str := ⟨#[cdB b]⟩
def pS (l : List Nat) : Str := ⟨l.toArray⟩
def fS (fl : List Bool) : Str := pS (fl.map cdB)
def tS (b : TR) : Str := ⟨(txt b).toArray⟩
def stD (s : Nat × Bool) : PyData := .tuple [.int (s.1 : Nat), .str (sdS s.2)]
def wyD (w : Way) : PyData := .tuple (w.map stD)
def wysD (b : TR) : PyData := .tuple ((wayB b 0).map wyD)
def prD (q : Nat × Nat) : PyData := .tuple [.int (q.1 : Nat), .int (q.2 : Nat)]
def spsD (b : TR) : PyData := .tuple ((List.range (nS b - 1)).map fun f => prD (spnF b 0 f))
def kdS (k : Nat) : Str := if k = 0 then "open" else if k = 1 then "slot" else "fork"
def ndD (n : Nat × Nat) : PyData := .tuple [.str (kdS n.1), .int (n.2 : Nat)]
/-- a node's own pair -/
def AtH (H : Hp) (v : V) (n : Nat × Nat) : Prop := ∃ q, v = .ref q ∧ H q = some (.tup [.str (kdS n.1), .int (n.2 : Nat)])
structure NdA (K : PySem.W.Frag) (F : Hp) (G : List (Addr × HO)) (v : V) (n : Nat × Nat) : Prop where
  md : MD K F G v (ndD n)
  own_ : ∃ q, v = .ref q ∧ At ⟨F, G⟩ q (.tup [.str (kdS n.1), .int (n.2 : Nat)])
structure TreeAt (K : PySem.W.Frag) (a : Ads) (H : Hp) (v : V) (b : TR) : Prop where
  ex : ∃ (p dx : Addr) (fs : List (Str × V)) (w sp : V), v = .ref p ∧ H p = some (.ins a.Tree dx fs) ∧ fs.lookup ("text" : Str) = some (.str (tS b)) ∧ fs.lookup ("ways" : Str) = some w ∧ MD K H [] w (wysD b) ∧ fs.lookup ("spans" : Str) = some sp ∧ MD K H [] sp (spsD b)
  sm : nS b ≤ 64
  more : ∃ (p dx : Addr) (fs : List (Str × V)) (tl tr : Addr) (wl wr : List V) (po ro : V) (L R : List (Nat × Nat)), v = .ref p ∧ H p = some (.ins a.Tree dx fs) ∧ fs.lookup ("lefts" : Str) = some (.ref tl) ∧ H tl = some (.tup wl) ∧ allV (AtH H) wl L ∧ fs.lookup ("rights" : Str) = some (.ref tr) ∧ H tr = some (.tup wr) ∧ allV (AtH H) wr R ∧
    fs.lookup ("postorder" : Str) = some po ∧ MD K H [] po (.tuple ((rowsB b 0 0).map fun r => .int (r.1 : Nat))) ∧ fs.lookup ("root" : Str) = some ro ∧ AtH H ro (ndB b 0) ∧ fs.lookup ("walk" : Str) = none ∧ ∀ row ∈ rowsB b 0 0, L[row.1]? = some row.2.1 ∧ R[row.1]? = some row.2.2.1
def flOk (q : Bool) (b : TR) : V → Bool
  | .str u => madeL q u && decide (u.cps.toList.length + 1 = nS b)
  | _ => false
def ct_checked (K : PySem.W.Frag) (a : Ads) (q : Bool) : Ct (V × TR × V × TY) where
  pre g vs H := vs = [g.1, g.2.2.1] ∧ TreeAt K a H g.1 g.2.1 ∧ Ty0 K H g.2.2.1 g.2.2.2 ∧ strOk g.2.2.1
  post g H v H' := flOk q g.2.1 g.2.2.1 = true ∧ v = g.2.2.1 ∧ Ext H H'
  exn g H c d H' := flOk q g.2.1 g.2.2.1 = false ∧ c = .ref a.InvalidFlags ∧ ∃ dd, d = some dd ∧ H dd = none ∧ Ext H H' ∧ H' dd = some (.xd [(("flags" : Str), g.2.2.1)])
abbrev p_checked_flags (K : PySem.W.Frag) (a : Ads) : Sp := spC (ct_checked K a false)
abbrev q_checked_flags (K : PySem.W.Frag) (a : Ads) := rC (ct_checked K a false)
theorem c_checked_flags {K : PySem.W.Frag} {a : Ads} : Ctr (p_checked_flags K a) (q_checked_flags K a) := ctrC
def patOk (st : List Nat) : Prop := ∀ c ∈ st, c ∈ [76, 82, 63]
def newL (ns : List Nat) (H : Hp) (v : V) (H' : Hp) : Prop := ∃ p, v = .ref p ∧ H p = none ∧ H' p = some (.lst (nV ns))
/-! the reading -/
def pnD (n : PN) : PyData := .tuple [.str (kdS n.1), .int (n.2.1 : Nat), .int (n.2.2.1 : Nat), .int (n.2.2.2.1 : Nat), .int (n.2.2.2.2 : Nat)]
def ct_ends_fork (K : PySem.W.Frag) : Ct (V × List PN) where
  pre g vs H := vs = [g.1] ∧ (∃ p xs, g.1 = .ref p ∧ SqL K H p xs ∧ MDs K H [] xs (g.2.map pnD)) ∧ g.2.length ≤ 1000 ∧ ∀ n ∈ g.2, n.1 ≤ 2
  post g H v H' := v = .bl (endsF g.2) ∧ Ext H H'
abbrev p_ends_fork (K : PySem.W.Frag) (a : Ads) : Sp := spC (ct_ends_fork K)
abbrev q_ends_fork (K : PySem.W.Frag) (a : Ads) := rC (ct_ends_fork K)
theorem c_ends_fork {K : PySem.W.Frag} {a : Ads} : Ctr (p_ends_fork K a) (q_ends_fork K a) := ctrC
/-- a row of read_forks -/
def rowR (K : PySem.W.Frag) (G : List (Addr × HO)) (F : Hp) (v : V) (r : TR.Row) : Prop := ∃ t r1 r2 r3 r4, v = .ref t ∧ At ⟨F, G⟩ t (.tup [.int (r.1 : Nat), r1, r2, r3, r4]) ∧ NdA K F G r1 r.2.1 ∧ NdA K F G r2 r.2.2.1 ∧ MD K F G r3 (prD r.2.2.2.1)
def ct_read_forks (K : PySem.W.Frag) : Ct TR where
  pre b vs H := vs = [.str (tS b)] ∧ nS b ≤ 64
  post b H v H' := (∃ p xs, v = .ref p ∧ H p = none ∧ H' p = some (.lst xs) ∧ allV (rowR K [] H') xs (rowsB b 0 0)) ∧ Ext H H'
abbrev p_read_forks (K : PySem.W.Frag) (a : Ads) : Sp := spC (ct_read_forks K)
abbrev q_read_forks (K : PySem.W.Frag) (a : Ads) := rC (ct_read_forks K)
theorem c_read_forks {K : PySem.W.Frag} {a : Ads} : Ctr (p_read_forks K a) (q_read_forks K a) := ctrC
def ct_lay_ways (K : PySem.W.Frag) : Ct (TR × V × V × V × List (Nat × Nat) × List (Nat × Nat)) where
  pre g vs H := vs = [g.2.1, g.2.2.1, g.2.2.2.1] ∧ nS g.1 ≤ 64 ∧ MD K H [] g.2.1 (ndD (ndB g.1 0)) ∧ MD K H [] g.2.2.1 (.tuple (g.2.2.2.2.1.map ndD)) ∧ MD K H [] g.2.2.2.1 (.tuple (g.2.2.2.2.2.map ndD)) ∧ Fits g.1 0 g.2.2.2.2.1 g.2.2.2.2.2
  post g H v H' := (∃ p u w, v = .ref p ∧ SqT K H' p [u, w] ∧ MD K H' [] w (wysD g.1)) ∧ Ext H H'
abbrev p_lay_ways (K : PySem.W.Frag) (a : Ads) : Sp := spC (ct_lay_ways K)
abbrev q_lay_ways (K : PySem.W.Frag) (a : Ads) := rC (ct_lay_ways K)
theorem c_lay_ways {K : PySem.W.Frag} {a : Ads} : Ctr (p_lay_ways K a) (q_lay_ways K a) := ctrC
def ct_Tree_init (K : PySem.W.Frag) (a : Ads) : Ct (Addr × Addr × TR) where
  pre g vs H := vs = [.ref g.1, .str (tS g.2.2)] ∧ H g.1 = some (.ins a.Tree g.2.1 []) ∧ nS g.2.2 ≤ 64
  post g H v H' := v = .non ∧ TreeAt K a H' (.ref g.1) g.2.2 ∧ ∀ c o, c ≠ g.1 → H c = some o → H' c = some o
abbrev p_Tree_init (K : PySem.W.Frag) (a : Ads) : Sp := spC (ct_Tree_init K a)
abbrev q_Tree_init (K : PySem.W.Frag) (a : Ads) := rC (ct_Tree_init K a)
theorem c_Tree_init {K : PySem.W.Frag} {a : Ads} : Ctr (p_Tree_init K a) (q_Tree_init K a) := ctrC
def ct_tree_n (K : PySem.W.Frag) (a : Ads) (f : TR → Nat) : Ct (V × TR) where
  pre g vs H := vs = [g.1] ∧ TreeAt K a H g.1 g.2
  post g H v H' := v = .int (f g.2 : Nat) ∧ Ext H H'
abbrev p_Tree_len (K : PySem.W.Frag) (a : Ads) : Sp := spC (ct_tree_n K a nS)
abbrev q_Tree_len (K : PySem.W.Frag) (a : Ads) := rC (ct_tree_n K a nS)
theorem c_Tree_len {K : PySem.W.Frag} {a : Ads} : Ctr (p_Tree_len K a) (q_Tree_len K a) := ctrC
abbrev p_Tree_forks (K : PySem.W.Frag) (a : Ads) : Sp := spC (ct_tree_n K a fun b => nS b - 1)
abbrev q_Tree_forks (K : PySem.W.Frag) (a : Ads) := rC (ct_tree_n K a fun b => nS b - 1)
theorem c_Tree_forks {K : PySem.W.Frag} {a : Ads} : Ctr (p_Tree_forks K a) (q_Tree_forks K a) := ctrC
/-! the law's -/
def ct_l_box (K : PySem.W.Frag) : Ct (Addr × List Int) where
  pre g vs H := vs = [.ref g.1] ∧ SqL K H g.1 (g.2.map V.int)
  post g H v H' := ∃ b m x, v = .ref b ∧ H b = none ∧ H x.g = none ∧ H m = none ∧ BoxAt b m x H' ∧ x.ms ≠ [] ∧ Ext H H'
abbrev p_l_box (K : PySem.W.Frag) (a : Ads) : Sp := spC (ct_l_box K)
abbrev q_l_box (K : PySem.W.Frag) (a : Ads) := rC (ct_l_box K)
theorem c_l_box {K : PySem.W.Frag} {a : Ads} : Ctr (p_l_box K a) (q_l_box K a) := ctrC
def ct_l_take : Ct (Addr × Addr × Bx × Int) := ct_box (fun size => [.int size]) (fun size _ v _ => ∃ r : Nat, v = .int (r : Nat) ∧ ((r : Int) < size ∨ r = 0 ∧ size < 1)) (fun size _ => size < 1073741824)
abbrev p_l_take (K : PySem.W.Frag) (a : Ads) : Sp := spC ct_l_take
abbrev q_l_take (K : PySem.W.Frag) (a : Ads) := rC ct_l_take
theorem c_l_take {K : PySem.W.Frag} {a : Ads} : Ctr (p_l_take K a) (q_l_take K a) := ctrC
def ct_l_join : Ct (Addr × Addr × Bx × Nat × Nat) := ct_box (fun g => [.int (g.1 : Nat), .int (g.2 : Nat)]) (fun g _ v _ => ∃ r : Nat, v = .int (r : Nat) ∧ r < g.2) (fun g _ => 1 ≤ g.2 ∧ g.2 ≤ 63)
abbrev p_l_join (K : PySem.W.Frag) (a : Ads) : Sp := spC ct_l_join
abbrev q_l_join (K : PySem.W.Frag) (a : Ads) := rC ct_l_join
theorem c_l_join {K : PySem.W.Frag} {a : Ads} : Ctr (p_l_join K a) (q_l_join K a) := ctrC
/-- the law's ways: lists -/
def lwyR (K : PySem.W.Frag) (G : List (Addr × HO)) (F : Hp) (v : V) (w : Way) : Prop := ∃ p xs, v = .ref p ∧ mL K F G p xs ∧ MDs K F G xs (w.map stD)
def lwsR (K : PySem.W.Frag) (F : Hp) (v : V) (b : TR) : Prop := ∃ p xs, v = .ref p ∧ SqL K F p xs ∧ allV (lwyR K [] F) xs (wayB b 0)
def ct_l_tree (K : PySem.W.Frag) : Ct (Addr × Addr × Bx × Nat) := ct_box (fun n => [.int (n : Nat)]) (fun n _ v H' => ∃ b p wv, nS b = n ∧ v = .ref p ∧ SqT K H' p [.str (tS b), wv] ∧ lwsR K H' wv b) (fun n _ => 1 ≤ n ∧ n ≤ 64)
abbrev p_l_tree (K : PySem.W.Frag) (a : Ads) : Sp := spC (ct_l_tree K)
abbrev q_l_tree (K : PySem.W.Frag) (a : Ads) := rC (ct_l_tree K)
theorem c_l_tree {K : PySem.W.Frag} {a : Ads} : Ctr (p_l_tree K a) (q_l_tree K a) := ctrC
def ct_l_flags : Ct (Addr × Addr × Bx × Nat) := ct_box (fun n => [.int (n : Nat)]) (fun n _ v _ => ∃ fl, fl.length = n ∧ v = .str (fS fl)) (fun n _ => n ≤ 63)
abbrev p_l_flags (K : PySem.W.Frag) (a : Ads) : Sp := spC ct_l_flags
abbrev q_l_flags (K : PySem.W.Frag) (a : Ads) := rC ct_l_flags
theorem c_l_flags {K : PySem.W.Frag} {a : Ads} : Ctr (p_l_flags K a) (q_l_flags K a) := ctrC
def ct_l_slots : Ct (Addr × Addr × Bx × Unit) := ct_box (fun _ => []) (fun _ _ v _ => ∃ n : Nat, v = .int (n : Nat) ∧ 1 ≤ n ∧ n ≤ 64) (fun _ _ => True)
abbrev p_l_slots (K : PySem.W.Frag) (a : Ads) : Sp := spC ct_l_slots
abbrev q_l_slots (K : PySem.W.Frag) (a : Ads) := rC ct_l_slots
theorem c_l_slots {K : PySem.W.Frag} {a : Ads} : Ctr (p_l_slots K a) (q_l_slots K a) := ctrC
/-- flags of another kind -/
def BadF (q : Bool) (n : Nat) (H : Hp) (v : V) (H' : Hp) : Prop := (∃ u, v = .str u ∧ sgnOk u ∧ (madeL q u && decide (u.cps.toList.length = n)) = false) ∨ v = .non ∨
  ∃ (p : Addr) (us : List Str), v = .ref p ∧ H p = none ∧ H' p = some (.lst (us.map V.str)) ∧ us.length ≤ 100 ∧ ∀ u ∈ us, ∃ c ∈ [76, 82, 63], u = pS [c]
def ct_l_bent : Ct (Addr × Addr × Bx × List Nat × Bool) := ct_box (fun g => [.str (pS g.1), .str (if g.2 then "!.lx" else "?.lx")]) (fun g H v H' => BadF g.2 g.1.length H v H') (fun g _ => g.1.length ≤ 63 ∧ patOk g.1)
abbrev p_l_bent (K : PySem.W.Frag) (a : Ads) : Sp := spC (ct_l_bent)
abbrev q_l_bent (K : PySem.W.Frag) (a : Ads) := rC (ct_l_bent)
theorem c_l_bent {K : PySem.W.Frag} {a : Ads} : Ctr (p_l_bent K a) (q_l_bent K a) := ctrC
def ct_l_hit (K : PySem.W.Frag) : Ct (List Nat × V × Way) where
  pre g vs H := vs = [.str (pS g.1), g.2.1] ∧ lwyR K [] H g.2.1 g.2.2 ∧ (∀ s ∈ g.2.2, s.1 < g.1.length) ∧ g.1.length ≤ 64
  post g H v H' := v = .str (pS (hitL g.1 g.2.2)) ∧ Ext H H'
abbrev p_l_hit (K : PySem.W.Frag) (a : Ads) : Sp := spC (ct_l_hit K)
abbrev q_l_hit (K : PySem.W.Frag) (a : Ads) := rC (ct_l_hit K)
theorem c_l_hit {K : PySem.W.Frag} {a : Ads} : Ctr (p_l_hit K a) (q_l_hit K a) := ctrC
def ct_Tree_top (a : Ads) : Ct (Addr × Addr × List (Str × V) × V) where
  pre g vs H := vs = [.ref g.1] ∧ H g.1 = some (.ins a.Tree g.2.1 g.2.2.1) ∧ g.2.2.1.lookup ("root" : Str) = some g.2.2.2
  post g H v H' := v = g.2.2.2 ∧ Ext H H'
abbrev p_Tree_top (K : PySem.W.Frag) (a : Ads) : Sp := spC (ct_Tree_top a)
abbrev q_Tree_top (K : PySem.W.Frag) (a : Ads) := rC (ct_Tree_top a)
theorem c_Tree_top {K : PySem.W.Frag} {a : Ads} : Ctr (p_Tree_top K a) (q_Tree_top K a) := ctrC
/-! numbers -/
def iV (l : List Int) : List V := l.map V.int
def smI (l : List Int) : Prop := ∀ x ∈ l, 0 ≤ x ∧ x ≤ 2 ^ 63
def newI (l : List Int) (H : Hp) (v : V) (H' : Hp) : Prop := ∃ p, v = .ref p ∧ H p = none ∧ H' p = some (.lst (iV l))
def lsI (K : PySem.W.Frag) (H : Hp) (v : V) (l : List Int) : Prop := ∃ p, v = .ref p ∧ SqL K H p (iV l)
def ct_two (K : PySem.W.Frag) (f : List Int → List Int → List Int) : Ct (V × List Int × V × List Int) where
  pre g vs H := vs = [g.1, g.2.2.1] ∧ lsI K H g.1 g.2.1 ∧ lsI K H g.2.2.1 g.2.2.2 ∧ smI g.2.1 ∧ smI g.2.2.2 ∧ 1 ≤ g.2.1.length ∧ 1 ≤ g.2.2.2.length ∧ g.2.1.length ≤ 100 ∧ g.2.2.2.length ≤ 100
  post g H v H' := newI (f g.2.1 g.2.2.2) H v H' ∧ Ext H H'
abbrev p_poly_product (K : PySem.W.Frag) (a : Ads) : Sp := spC (ct_two K pprod)
abbrev q_poly_product (K : PySem.W.Frag) (a : Ads) := rC (ct_two K pprod)
theorem c_poly_product {K : PySem.W.Frag} {a : Ads} : Ctr (p_poly_product K a) (q_poly_product K a) := ctrC
abbrev p_poly_sum (K : PySem.W.Frag) (a : Ads) : Sp := spC (ct_two K psum)
abbrev q_poly_sum (K : PySem.W.Frag) (a : Ads) := rC (ct_two K psum)
theorem c_poly_sum {K : PySem.W.Frag} {a : Ads} : Ctr (p_poly_sum K a) (q_poly_sum K a) := ctrC
abbrev p_l_times (K : PySem.W.Frag) (a : Ads) : Sp := spC (ct_two K pprod)
abbrev q_l_times (K : PySem.W.Frag) (a : Ads) := rC (ct_two K pprod)
theorem c_l_times {K : PySem.W.Frag} {a : Ads} : Ctr (p_l_times K a) (q_l_times K a) := ctrC
abbrev p_l_plus (K : PySem.W.Frag) (a : Ads) : Sp := spC (ct_two K psum)
abbrev q_l_plus (K : PySem.W.Frag) (a : Ads) := rC (ct_two K psum)
theorem c_l_plus {K : PySem.W.Frag} {a : Ads} : Ctr (p_l_plus K a) (q_l_plus K a) := ctrC
def ct_shut (K : PySem.W.Frag) : Ct (V × List Int) where
  pre g vs H := vs = [g.1] ∧ lsI K H g.1 g.2 ∧ 1 ≤ g.2.length ∧ g.2.length ≤ 100
  post g H v H' := newI (shut g.2) H v H' ∧ Ext H H'
abbrev p_subtree_polynomial (K : PySem.W.Frag) (a : Ads) : Sp := spC (ct_shut K)
abbrev q_subtree_polynomial (K : PySem.W.Frag) (a : Ads) := rC (ct_shut K)
theorem c_subtree_polynomial {K : PySem.W.Frag} {a : Ads} : Ctr (p_subtree_polynomial K a) (q_subtree_polynomial K a) := ctrC
abbrev p_l_shut (K : PySem.W.Frag) (a : Ads) : Sp := spC (ct_shut K)
abbrev q_l_shut (K : PySem.W.Frag) (a : Ads) := rC (ct_shut K)
theorem c_l_shut {K : PySem.W.Frag} {a : Ads} : Ctr (p_l_shut K a) (q_l_shut K a) := ctrC
def ct_trail (K : PySem.W.Frag) : Ct (Nat × V × List Int) where
  pre g vs H := vs = [.int (g.1 : Nat), g.2.1] ∧ lsI K H g.2.1 g.2.2 ∧ smI g.2.2 ∧ 1 ≤ g.2.2.length ∧ g.2.2.length ≤ 100 ∧ g.1 ≤ 64
  post g H v H' := newI (trl g.1 g.2.2) H v H' ∧ Ext H H'
abbrev p_trail_polynomial (K : PySem.W.Frag) (a : Ads) : Sp := spC (ct_trail K)
abbrev q_trail_polynomial (K : PySem.W.Frag) (a : Ads) := rC (ct_trail K)
theorem c_trail_polynomial {K : PySem.W.Frag} {a : Ads} : Ctr (p_trail_polynomial K a) (q_trail_polynomial K a) := ctrC
/-- flags that show L -/
def mF (fl : List Bool) : Nat → Bool := fun f => fl[f]?.getD false
def ct_spread (K : PySem.W.Frag) (a : Ads) (res : List Bool → TR → List Int) : Ct (V × TR × V × TY) where
  pre g vs H := vs = [g.1, g.2.2.1] ∧ TreeAt K a H g.1 g.2.1 ∧ Ty0 K H g.2.2.1 g.2.2.2 ∧ strOk g.2.2.1
  post g H v H' := flOk false g.2.1 g.2.2.1 = true ∧ (∀ fl, g.2.2.1 = .str (fS fl) → newI (res fl g.2.1) H v H') ∧ Ext H H'
  exn g H c d H' := flOk false g.2.1 g.2.2.1 = false ∧ c = .ref a.InvalidFlags ∧ ∃ dd, d = some dd ∧ H dd = none ∧ Ext H H' ∧ H' dd = some (.xd [(("flags" : Str), g.2.2.1)])
def resTo (fl : List Bool) (b : TR) : List Int := shut (intT (mF fl) b 0)
def resFr (_ : List Bool) (b : TR) : List Int := shut (outT b)
abbrev p_spread_to (K : PySem.W.Frag) (a : Ads) : Sp := spC (ct_spread K a resTo)
abbrev q_spread_to (K : PySem.W.Frag) (a : Ads) := rC (ct_spread K a resTo)
theorem c_spread_to {K : PySem.W.Frag} {a : Ads} : Ctr (p_spread_to K a) (q_spread_to K a) := ctrC
abbrev p_spread_from (K : PySem.W.Frag) (a : Ads) : Sp := spC (ct_spread K a resFr)
abbrev q_spread_from (K : PySem.W.Frag) (a : Ads) := rC (ct_spread K a resFr)
theorem c_spread_from {K : PySem.W.Frag} {a : Ads} : Ctr (p_spread_from K a) (q_spread_from K a) := ctrC
abbrev p_greatest_distance (K : PySem.W.Frag) (a : Ads) : Sp := spC (ct_tree_n K a widT)
abbrev q_greatest_distance (K : PySem.W.Frag) (a : Ads) := rC (ct_tree_n K a widT)
theorem c_greatest_distance {K : PySem.W.Frag} {a : Ads} : Ctr (p_greatest_distance K a) (q_greatest_distance K a) := ctrC
/-! the law's own -/
def ct_l_same (K : PySem.W.Frag) : Ct (V × V × List Int) where
  pre g vs H := vs = [g.1, g.2.1] ∧ lsI K H g.1 g.2.2 ∧ lsI K H g.2.1 g.2.2 ∧ g.2.2.length ≤ 100
  post g H v H' := v = .bl true ∧ Ext H H'
abbrev p_l_same (K : PySem.W.Frag) (a : Ads) : Sp := spC (ct_l_same K)
abbrev q_l_same (K : PySem.W.Frag) (a : Ads) := rC (ct_l_same K)
theorem c_l_same {K : PySem.W.Frag} {a : Ads} : Ctr (p_l_same K a) (q_l_same K a) := ctrC
def ct_l_spreads (K : PySem.W.Frag) : Ct (TR × List Bool) where
  pre g vs H := vs = [.str (tS g.1), .str (fS g.2)] ∧ g.2.length + 1 = nS g.1 ∧ nS g.1 ≤ 64
  post g H v H' := (∃ p q1 q2, v = .ref p ∧ H p = none ∧ H q1 = none ∧ H q2 = none ∧ H' p = some (.tup [.ref q1, .ref q2, .int (widT g.1 : Nat)]) ∧ H' q1 = some (.lst (iV (resTo g.2 g.1))) ∧ H' q2 = some (.lst (iV (resFr g.2 g.1)))) ∧ Ext H H'
abbrev p_l_spreads (K : PySem.W.Frag) (a : Ads) : Sp := spC (ct_l_spreads K)
abbrev q_l_spreads (K : PySem.W.Frag) (a : Ads) := rC (ct_l_spreads K)
theorem c_l_spreads {K : PySem.W.Frag} {a : Ads} : Ctr (p_l_spreads K a) (q_l_spreads K a) := ctrC
def ct_l_each (K : PySem.W.Frag) : Ct Nat where
  pre k vs H := vs = [.int (k : Nat)] ∧ k ≤ 5
  post k H v H' := (∃ p, v = .ref p ∧ H p = none ∧ H' p = some (.lst ((eacL k).map fun s => .str (pS s)))) ∧ Ext H H'
abbrev p_l_each (K : PySem.W.Frag) (a : Ads) : Sp := spC (ct_l_each K)
abbrev q_l_each (K : PySem.W.Frag) (a : Ads) := rC (ct_l_each K)
theorem c_l_each {K : PySem.W.Frag} {a : Ads} : Ctr (p_l_each K a) (q_l_each K a) := ctrC
/-- a dict of steps: each flags' list of flags -/
def stpD (K : PySem.W.Frag) (H : Hp) (d : Addr) (rows : List (List Nat)) (step : List Nat → List (List Nat)) : Prop := ∃ kvs : List (Key × V), H d = some (.dK kvs) ∧ kvs.length = rows.length ∧
  ∀ s ∈ rows, ∃ p, valV kvs (Sum.inr (pS s) : Key) = some (.ref p) ∧ SqL K H p ((step s).map fun t => .str (pS t))
def ct_l_levels (K : PySem.W.Frag) : Ct (List Nat × Addr × List (List Nat) × (List Nat → List (List Nat))) where
  pre g vs H := vs = [.str (pS g.1), .ref g.2.1] ∧ stpD K H g.2.1 g.2.2.1 g.2.2.2 ∧ g.1 ∈ g.2.2.1 ∧ (∀ s ∈ g.2.2.1, ∀ t ∈ g.2.2.2 s, t ∈ g.2.2.1) ∧ g.2.2.1.length ≤ 32 ∧ g.2.2.1.Nodup
  post g H v H' := newI (toI (lvlL g.2.2.2 (g.2.2.1.length + 1) [g.1] [g.1])) H v H' ∧ Ext H H'
abbrev p_l_levels (K : PySem.W.Frag) (a : Ads) : Sp := spC (ct_l_levels K)
abbrev q_l_levels (K : PySem.W.Frag) (a : Ads) := rC (ct_l_levels K)
theorem c_l_levels {K : PySem.W.Frag} {a : Ads} : Ctr (p_l_levels K a) (q_l_levels K a) := ctrC
def ct_l_searched (K : PySem.W.Frag) (a : Ads) : Ct (V × TR × List Bool × V) where
  pre g vs H := vs = [g.1, .str (fS g.2.2.1), g.2.2.2] ∧ TreeAt K a H g.1 g.2.1 ∧ lwsR K H g.2.2.2 g.2.1 ∧ g.2.2.1.length + 1 = nS g.2.1 ∧ nS g.2.1 ≤ 6
  post g H v H' := v = .bl true ∧ Ext H H'
abbrev p_l_searched (K : PySem.W.Frag) (a : Ads) : Sp := spC (ct_l_searched K a)
abbrev q_l_searched (K : PySem.W.Frag) (a : Ads) := rC (ct_l_searched K a)
theorem c_l_searched {K : PySem.W.Frag} {a : Ads} : Ctr (p_l_searched K a) (q_l_searched K a) := ctrC
def ct_l_answers (K : PySem.W.Frag) (a : Ads) : Ct (V × TR × List Bool) where
  pre g vs H := vs = [g.1, .str (tS g.2.1), .str (fS g.2.2)] ∧ TreeAt K a H g.1 g.2.1 ∧ g.2.2.length + 1 = nS g.2.1
  post g H v H' := v = .bl true ∧ Ext H H'
abbrev p_l_answers (K : PySem.W.Frag) (a : Ads) : Sp := spC (ct_l_answers K a)
abbrev q_l_answers (K : PySem.W.Frag) (a : Ads) := rC (ct_l_answers K a)
theorem c_l_answers {K : PySem.W.Frag} {a : Ads} : Ctr (p_l_answers K a) (q_l_answers K a) := ctrC
structure FaultG where
  door : Int
  tv : V
  b : TR
  fv : V
  ft : TY
  z : Str
def ct_l_fault (K : PySem.W.Frag) (a : Ads) : Ct FaultG where
  pre g vs H := vs = [.int g.door, g.tv, g.fv] ∧ TreeAt K a H g.tv g.b ∧ Ty0 K H g.fv g.ft ∧ strOk g.fv ∧ flOk false g.b g.fv = false ∧ RprV K H g.fv g.z
  post g H v H' := (∃ p, v = .ref p ∧ H p = none ∧ H' p = some (.tup [.str "InvalidFlags", .str g.z])) ∧ Ext H H'
abbrev p_l_fault (K : PySem.W.Frag) (a : Ads) : Sp := spC (ct_l_fault K a)
abbrev q_l_fault (K : PySem.W.Frag) (a : Ads) := rC (ct_l_fault K a)
theorem c_l_fault {K : PySem.W.Frag} {a : Ads} : Ctr (p_l_fault K a) (q_l_fault K a) := ctrC
def ct_law (K : PySem.W.Frag) : Ct (Addr × List Int) where
  pre g vs H := vs = [.ref g.1] ∧ SqL K H g.1 (g.2.map V.int)
  post g H v H' := v = .bl true
abbrev p_law (K : PySem.W.Frag) (a : Ads) : Sp := spC (ct_law K)
abbrev q_law (K : PySem.W.Frag) (a : Ads) := rC (ct_law K)
theorem c_law {K : PySem.W.Frag} {a : Ads} : Ctr (p_law K a) (q_law K a) := ctrC
/-! ### readings and derivations (printed by gen.py) -/
def r_is_made_of (K : PySem.W.Frag) (a : Ads) : sS := sRet (sAndV (sIsi K .str (sVar 0)) (sCall1 (nAll K) (sCons (sLc (siStr (sVar 0)) (sgName 2) (sYes) (sOp (oIn K false) (sVar 2) (sVar 1)) [2]) (sNil))))
def r_checked_flags (K : PySem.W.Frag) (a : Ads) : sS := sSeq (sIfS (sOr (sNot (sTru K (sCallD (q_is_made_of K a) [] (sCons (sVar 1) (sCons (sC (.str ("LR" : Str))) (sNil)))))) (sTst (sOp (oNe K) (sCall1 (nLen K) (sCons (sVar 1) (sNil))) (sProO a.Tree (q_Tree_forks K a) (sVar 0))))) (sRaise a.InvalidFlags ("flags" : Str) (sVar 1)) (sNext)) (sRet (sVar 1))
def r_poly_product (K : PySem.W.Frag) (a : Ads) : sS := sSeq (sSet (sOp oMul (sLst (sCons (sC (.int 0)) (sNil))) (sOp oSub (sOp oAdd (sCall1 (nLen K) (sCons (sVar 0) (sNil))) (sCall1 (nLen K) (sCons (sVar 1) (sNil)))) (sC (.int 1)))) 2) (sSeq (sFor (siEn K (sCons (sVar 0) (sNil))) (sgTup K 2 (sgCons (sgName 3) (sgCons (sgName 4) (sgNil)))) (sFor (siEn K (sCons (sVar 1) (sNil))) (sgTup K 2 (sgCons (sgName 5) (sgCons (sgName 6) (sgNil)))) (sSeq (sSet (sOp oAdd (sVar 3) (sVar 5)) 7) (sAsg (sOp oAdd (sOp (oIx K) (sVar 2) (sVar 7)) (sOp oMul (sVar 4) (sVar 6))) (sgSub (sVar 2) (sVar 7)))))) (sRet (sVar 2)))
def r_poly_sum (K : PySem.W.Frag) (a : Ads) : sS := sSeq (sSet (sOp oMul (sLst (sCons (sC (.int 0)) (sNil))) (sCall1 nMax2 (sCons (sCall1 (nLen K) (sCons (sVar 0) (sNil))) (sCons (sCall1 (nLen K) (sCons (sVar 1) (sNil))) (sNil))))) 2) (sSeq (sFor (siSeq K (sTup (sCons (sVar 0) (sCons (sVar 1) (sNil))))) (sgName 3) (sFor (siEn K (sCons (sVar 3) (sNil))) (sgTup K 2 (sgCons (sgName 4) (sgCons (sgName 5) (sgNil)))) (sAsg (sOp oAdd (sOp (oIx K) (sVar 2) (sVar 4)) (sVar 5)) (sgSub (sVar 2) (sVar 4))))) (sRet (sVar 2)))
def r_trail_polynomial (K : PySem.W.Frag) (a : Ads) : sS := sSeq (sIfS (sTst (sOp (oEq K) (sVar 0) (sC (.int 0)))) (sRet (sLst (sCons (sC (.int 1)) (sNil)))) (sNext)) (sSeq (sSet (sOp oAdd (sLst (sCons (sC (.int 1)) (sNil))) (sLc (siSeq K (sVar 1)) (sgName 3) (sYes) (sOp oShl (sVar 3) (sVar 0)) [3])) 2) (sSeq (sAsg (sOp oSub (sOp (oIx K) (sVar 2) (sC (.int 1))) (sC (.int 1))) (sgSub (sVar 2) (sC (.int 1)))) (sRet (sVar 2))))
def r_spread_to (K : PySem.W.Frag) (a : Ads) : sS := sSeq (sDrop (sCallD (q_checked_flags K a) [] (sCons (sVar 0) (sCons (sVar 1) (sNil))))) (sSeq (sSet (sDctT) 2) (sSeq (sSet (sDctT) 3) (sSeq (sFor (siR1 (sCons (sLenO a.Tree (q_Tree_len K a) (sVar 0)) (sNil))) (sgName 4) (sSeq (sDPutT (sVar 2) (sTup (sCons (sC (.str ("slot" : Str))) (sCons (sVar 4) (sNil)))) (sC (.int 0))) (sDPutT (sVar 3) (sTup (sCons (sC (.str ("slot" : Str))) (sCons (sVar 4) (sNil)))) (sLst (sCons (sC (.int 1)) (sNil)))))) (sSeq (sForW K a.Tree ("postorder" : Str) (sVar 0) (sgName 5) (sSeq (sPar 6 7 (sCons (sOp (oIx K) (sFldO a.Tree ("lefts" : Str) (sVar 0)) (sVar 5)) (sCons (sOp (oIx K) (sFldO a.Tree ("rights" : Str) (sVar 0)) (sVar 5)) (sNil)))) (sCut (sIfS (sTst (sOp (oEq K) (sOp (oIx K) (sVar 1) (sVar 5)) (sC (.str ("R" : Str))))) (sPar 6 7 (sCons (sVar 7) (sCons (sVar 6) (sNil)))) (sNext)) (sSeq (sDPutT (sVar 2) (sTup (sCons (sC (.str ("fork" : Str))) (sCons (sVar 5) (sNil)))) (sOp oAdd (sDGetT (sVar 2) (sVar 6)) (sC (.int 1)))) (sSeq (sSet (sCallD (q_trail_polynomial K a) [] (sCons (sDGetT (sVar 2) (sVar 7)) (sCons (sDGetT (sVar 3) (sVar 7)) (sNil)))) 8) (sDPutT (sVar 3) (sTup (sCons (sC (.str ("fork" : Str))) (sCons (sVar 5) (sNil)))) (sCallD (q_poly_product K a) [] (sCons (sDGetT (sVar 3) (sVar 6)) (sCons (sVar 8) (sNil)))))))))) (sRet (sCallD (q_trail_polynomial K a) [] (sCons (sDGetT (sVar 2) (sProO a.Tree (q_Tree_top K a) (sVar 0))) (sCons (sDGetT (sVar 3) (sProO a.Tree (q_Tree_top K a) (sVar 0))) (sNil)))))))))
def r_subtree_polynomial (K : PySem.W.Frag) (a : Ads) : sS := sSeq (sIfS (sAnd (sTst (sOp (oEq K) (sCall1 (nLen K) (sCons (sVar 0) (sNil))) (sC (.int 1)))) (sTst (sOp (oEq K) (sOp (oIx K) (sVar 0) (sC (.int 0))) (sC (.int 1))))) (sRet (sLst (sCons (sC (.int 1)) (sNil)))) (sNext)) (sRet (sOp oAdd (sLst (sCons (sC (.int 1)) (sCons (sOp oSub (sOp (oIx K) (sVar 0) (sC (.int 0))) (sC (.int 1))) (sNil)))) (sSl K (sVar 0) (sPart (sC (.int 1))) sNoP)))
def r_spread_from (K : PySem.W.Frag) (a : Ads) : sS := sSeq (sDrop (sCallD (q_checked_flags K a) [] (sCons (sVar 0) (sCons (sVar 1) (sNil))))) (sSeq (sSet (sDctT) 2) (sSeq (sFor (siR1 (sCons (sLenO a.Tree (q_Tree_len K a) (sVar 0)) (sNil))) (sgName 3) (sDPutT (sVar 2) (sTup (sCons (sC (.str ("slot" : Str))) (sCons (sVar 3) (sNil)))) (sLst (sCons (sC (.int 1)) (sNil))))) (sSeq (sForW K a.Tree ("postorder" : Str) (sVar 0) (sgName 4) (sSeq (sPar 5 6 (sCons (sDGetT (sVar 2) (sOp (oIx K) (sFldO a.Tree ("lefts" : Str) (sVar 0)) (sVar 4))) (sCons (sDGetT (sVar 2) (sOp (oIx K) (sFldO a.Tree ("rights" : Str) (sVar 0)) (sVar 4))) (sNil)))) (sSeq (sSet (sCallD (q_poly_product K a) [] (sCons (sVar 5) (sCons (sCallD (q_subtree_polynomial K a) [] (sCons (sVar 6) (sNil))) (sNil)))) 7) (sSeq (sSet (sCallD (q_poly_product K a) [] (sCons (sVar 6) (sCons (sCallD (q_subtree_polynomial K a) [] (sCons (sVar 5) (sNil))) (sNil)))) 8) (sDPutT (sVar 2) (sTup (sCons (sC (.str ("fork" : Str))) (sCons (sVar 4) (sNil)))) (sCallD (q_poly_sum K a) [] (sCons (sVar 7) (sCons (sVar 8) (sNil))))))))) (sRet (sCallD (q_subtree_polynomial K a) [] (sCons (sDGetT (sVar 2) (sProO a.Tree (q_Tree_top K a) (sVar 0))) (sNil)))))))
def r_greatest_distance (K : PySem.W.Frag) (a : Ads) : sS := sRet (sCall1 (nLen K) (sCons (sLc (siR1 (sCons (sProO a.Tree (q_Tree_forks K a) (sVar 0)) (sNil))) (sgName 1) (sTst (sOp (oIn K false) (sC (.str ("slot" : Str))) (sTup (sCons (sOp (oIx K) (sOp (oIx K) (sFldO a.Tree ("lefts" : Str) (sVar 0)) (sVar 1)) (sC (.int 0))) (sCons (sOp (oIx K) (sOp (oIx K) (sFldO a.Tree ("rights" : Str) (sVar 0)) (sVar 1)) (sC (.int 0))) (sNil)))))) (sVar 1) [1]) (sNil)))
def r_ends_fork (K : PySem.W.Frag) (a : Ads) : sS := sRet (sOp (oEq K) (sLc (siSeq K (sSl K (sVar 0) (sPart (s1Op oNeg (sC (.int 3)))) sNoP)) (sgName 1) (sYes) (sOp (oEq K) (sOp (oIx K) (sVar 1) (sC (.int 0))) (sC (.str ("open" : Str)))) [1]) (sLst (sCons (sC (.bl true)) (sCons (sC (.bl false)) (sCons (sC (.bl false)) (sNil))))))
def r_read_forks (K : PySem.W.Frag) (a : Ads) : sS := sSeq (sSet (sLst (sNil)) 1) (sSeq (sSet (sLst (sNil)) 2) (sSeq (sSet (sC (.int 0)) 3) (sSeq (sFor (siEnS (sCons (sVar 0) (sNil))) (sgTup K 2 (sgCons (sgName 4) (sgCons (sgName 5) (sgNil)))) (sIfS (sTst (sOp (oEq K) (sVar 5) (sC (.str ("(" : Str))))) (sDrop (sMt K "list" mAppend (sVar 1) (sCons (sTup (sCons (sC (.str ("open" : Str))) (sCons (sC (.int 0)) (sCons (sC (.int 0)) (sCons (sC (.int 0)) (sCons (sVar 4) (sNil))))))) (sNil)))) (sIfS (sTst (sOp (oEq K) (sVar 5) (sC (.str ("." : Str))))) (sSeq (sDrop (sMt K "list" mAppend (sVar 1) (sCons (sTup (sCons (sC (.str ("slot" : Str))) (sCons (sVar 3) (sCons (sVar 3) (sCons (sVar 3) (sCons (sVar 4) (sNil))))))) (sNil)))) (sSet (sOp oAdd (sVar 3) (sC (.int 1))) 3)) (sIfS (sAnd (sTst (sOp (oEq K) (sVar 5) (sC (.str (")" : Str))))) (sTru K (sCallD (q_ends_fork K a) [] (sCons (sVar 1) (sNil))))) (sSeq (sSet (sMt K "list" mPop (sVar 1) sNil) 6) (sSeq (sSet (sMt K "list" mPop (sVar 1) sNil) 7) (sSeq (sAsg (sTup (sCons (sOp (oIx K) (sVar 7) (sC (.int 2))) (sCons (sOp (oIx K) (sVar 7) (sC (.int 3))) (sCons (sOp (oIx K) (sVar 6) (sC (.int 3))) (sCons (sOp (oIx K) (sMt K "list" mPop (sVar 1) sNil) (sC (.int 4))) (sNil)))))) (sgTup K 4 (sgCons (sgName 8) (sgCons (sgName 9) (sgCons (sgName 10) (sgCons (sgName 11) (sgNil))))))) (sSeq (sDrop (sMt K "list" mAppend (sVar 2) (sCons (sTup (sCons (sVar 9) (sCons (sSl K (sVar 7) sNoP (sPart (sC (.int 2)))) (sCons (sSl K (sVar 6) sNoP (sPart (sC (.int 2)))) (sCons (sTup (sCons (sVar 8) (sCons (sVar 10) (sNil)))) (sCons (sTup (sCons (sVar 11) (sCons (sOp oAdd (sVar 4) (sC (.int 1))) (sNil)))) (sNil))))))) (sNil)))) (sDrop (sMt K "list" mAppend (sVar 1) (sCons (sTup (sCons (sC (.str ("fork" : Str))) (sCons (sVar 9) (sCons (sVar 8) (sCons (sVar 10) (sCons (sVar 11) (sNil))))))) (sNil)))))))) (sRet (sC .non)))))) (sSeq (sIfS (sOr (sTst (sOp (oNe K) (sCall1 (nLen K) (sCons (sVar 1) (sNil))) (sC (.int 1)))) (sTst (sOp (oEq K) (sOp (oIx K) (sOp (oIx K) (sVar 1) (sC (.int 0))) (sC (.int 0))) (sC (.str ("open" : Str)))))) (sRet (sC .non)) (sNext)) (sRet (sVar 2))))))
def r_lay_ways (K : PySem.W.Frag) (a : Ads) : sS := sSeq (sSet (sLst (sNil)) 3) (sSeq (sSet (sLst (sNil)) 4) (sSeq (sSet (sLst (sCons (sTup (sCons (sVar 0) (sCons (sTup (sNil)) (sNil)))) (sNil))) 5) (sSeq (sWhile (sTru K (sVar 5)) (sSeq (sAsg (sMt K "list" mPop (sVar 5) sNil) (sgTup K 2 (sgCons (sgTup K 2 (sgCons (sgName 6) (sgCons (sgName 7) (sgNil)))) (sgCons (sgName 8) (sgNil))))) (sIfS (sTst (sOp (oEq K) (sVar 6) (sC (.str ("slot" : Str))))) (sDrop (sMt K "list" mAppend (sVar 4) (sCons (sVar 8) (sNil)))) (sSeq (sDrop (sMt K "list" mAppend (sVar 3) (sCons (sVar 7) (sNil)))) (sSeq (sDrop (sMt K "list" mAppend (sVar 5) (sCons (sTup (sCons (sOp (oIx K) (sVar 2) (sVar 7)) (sCons (sOp (oAddT K) (sVar 8) (sTup (sCons (sTup (sCons (sVar 7) (sCons (sC (.str ("R" : Str))) (sNil)))) (sNil)))) (sNil)))) (sNil)))) (sDrop (sMt K "list" mAppend (sVar 5) (sCons (sTup (sCons (sOp (oIx K) (sVar 1) (sVar 7)) (sCons (sOp (oAddT K) (sVar 8) (sTup (sCons (sTup (sCons (sVar 7) (sCons (sC (.str ("L" : Str))) (sNil)))) (sNil)))) (sNil)))) (sNil))))))))) (sRet (sTup (sCons (sTuple K (sVar 3)) (sCons (sTuple K (sVar 4)) (sNil))))))))
def r_Tree_init (K : PySem.W.Frag) (a : Ads) : sS := sSeq (sSet (sC .non) 2) (sCut (sIfS (sAnd (sTru K (sIsi K .str (sVar 1))) (sTst (sOp oLe (sCall1 (nLen K) (sCons (sVar 1) (sNil))) (sOp oSub (sOp oMul (sC (.int 3)) (sConO a.Tree ("MOST" : Str) (.int 64) (sVar 0))) (sC (.int 2)))))) (sSet (sCallD (q_read_forks K a) [] (sCons (sVar 1) (sNil))) 2) (sNext)) (sSeq (sIfS (sTst (sOp oIsN (sVar 2) (sC .non))) (sRaise a.InvalidTree ("text" : Str) (sVar 1)) (sNext)) (sSeq (sSet (sCall1 (nSortRow K) (sCons (sVar 2) (sNil))) 3) (sSeq (sSetO a.Tree ("text" : Str) (sVar 0) (sVar 1)) (sSeq (sSetO a.Tree ("lefts" : Str) (sVar 0) (sTuple K (sLc (siSeq K (sVar 3)) (sgName 4) (sYes) (sOp (oIx K) (sVar 4) (sC (.int 1))) [4]))) (sSeq (sSetO a.Tree ("rights" : Str) (sVar 0) (sTuple K (sLc (siSeq K (sVar 3)) (sgName 4) (sYes) (sOp (oIx K) (sVar 4) (sC (.int 2))) [4]))) (sSeq (sSetO a.Tree ("spans" : Str) (sVar 0) (sTuple K (sLc (siSeq K (sVar 3)) (sgName 4) (sYes) (sOp (oIx K) (sVar 4) (sC (.int 3))) [4]))) (sSeq (sSetO a.Tree ("bounds" : Str) (sVar 0) (sTuple K (sLc (siSeq K (sVar 3)) (sgName 4) (sYes) (sOp (oIx K) (sVar 4) (sC (.int 4))) [4]))) (sSeq (sSetO a.Tree ("postorder" : Str) (sVar 0) (sTuple K (sLc (siSeq K (sVar 2)) (sgName 4) (sYes) (sOp (oIx K) (sVar 4) (sC (.int 0))) [4]))) (sSeq (sSetO a.Tree ("root" : Str) (sVar 0) (sIf (sTru K (sVar 2)) (sTup (sCons (sC (.str ("fork" : Str))) (sCons (sOp (oIx K) (sOp (oIx K) (sVar 2) (s1Op oNeg (sC (.int 1)))) (sC (.int 0))) (sNil)))) (sTup (sCons (sC (.str ("slot" : Str))) (sCons (sC (.int 0)) (sNil)))))) (sAsg (sCallD (q_lay_ways K a) [] (sCons (sFldO a.Tree ("root" : Str) (sVar 0)) (sCons (sFldO a.Tree ("lefts" : Str) (sVar 0)) (sCons (sFldO a.Tree ("rights" : Str) (sVar 0)) (sNil))))) (sgTup K 2 (sgCons (sgFld a.Tree ("preorder" : Str) (sVar 0)) (sgCons (sgFld a.Tree ("ways" : Str) (sVar 0)) (sgNil)))))))))))))))
def r_Tree_len (K : PySem.W.Frag) (a : Ads) : sS := sRet (sCall1 (nLen K) (sCons (sFldO a.Tree ("ways" : Str) (sVar 0)) (sNil)))
def r_Tree_forks (K : PySem.W.Frag) (a : Ads) : sS := sRet (sCall1 (nLen K) (sCons (sFldO a.Tree ("spans" : Str) (sVar 0)) (sNil)))
def r_Tree_top (K : PySem.W.Frag) (a : Ads) : sS := sRet (sFldO a.Tree ("root" : Str) (sVar 0))
def r_l_is_integer (K : PySem.W.Frag) (a : Ads) : sS := sRet (sAndV (sIsi K .int (sVar 0)) (sNotV K (sIsi K .bool (sVar 0))))
def r_l_same (K : PySem.W.Frag) (a : Ads) : sS := sSeq (sIfS (sOr (sNot (sTru K (sIsi K .list (sVar 0)))) (sTst (sOp (oNe K) (sCall1 (nLen K) (sCons (sVar 0) (sNil))) (sCall1 (nLen K) (sCons (sVar 1) (sNil)))))) (sRet (sC (.bl false))) (sNext)) (sSeq (sFor (siR1 (sCons (sCall1 (nLen K) (sCons (sVar 1) (sNil))) (sNil))) (sgName 2) (sIfS (sOr (sNot (sTru K (sCallD (q_l_is_integer K a) [] (sCons (sOp (oIx K) (sVar 0) (sVar 2)) (sNil))))) (sTst (sOp (oNe K) (sOp (oIx K) (sVar 0) (sVar 2)) (sOp (oIx K) (sVar 1) (sVar 2))))) (sRet (sC (.bl false))) (sNext))) (sRet (sC (.bl true))))
def r_l_box (K : PySem.W.Frag) (a : Ads) : sS := sSeq (sSet (sLc (siSeq K (sSl K (sVar 0) sNoP (sPart (sC (.int 63))))) (sgName 3) (sYes) (sCall1 nInt (sCons (sVar 3) (sNil))) [3]) 1) (sSeq (sSet (sLc (siSeq K (sVar 1)) (sgName 3) (sYes) (sOp oMod (sCall1 nInt (sCons (sVar 3) (sNil))) (sC (.int 2147483647))) [3]) 2) (sCut (sIfS (sNot (sTru K (sVar 2))) (sSet (sLst (sCons (sC (.int 0)) (sNil))) 2) (sNext)) (sRet (sLst (sCons (sLc (siSeq K (sVar 1)) (sgName 3) (sTst (sOp oGe (sVar 3) (sOp oPow (sC (.int 10)) (sC (.int 18))))) (sVar 3) [3]) (sCons (sVar 2) (sCons (sC (.int 0)) (sNil))))))))
def r_l_take (K : PySem.W.Frag) (a : Ads) : sS := sSeq (sIfS (sTst (sOp oLt (sVar 1) (sC (.int 2)))) (sRet (sC (.int 0))) (sNext)) (sSeq (sSet (sOp (oIx K) (sVar 0) (sC (.int 0))) 2) (sSeq (sIfS (sTru K (sVar 2)) (sSeq (sSet (sOp (oIx K) (sVar 2) (sC (.int 0))) 3) (sCut (sIfS (sTst (sOp oLt (sOp oFdv (sVar 3) (sVar 1)) (sC (.int 2)))) (sAsg (sSl K (sVar 2) (sPart (sC (.int 1))) sNoP) (sgSub (sVar 0) (sC (.int 0)))) (sAsg (sOp oFdv (sVar 3) (sVar 1)) (sgSub (sVar 2) (sC (.int 0))))) (sRet (sOp oMod (sCall1 nInt (sCons (sVar 3) (sNil))) (sVar 1))))) (sNext)) (sSeq (sSet (sOp (oIx K) (sVar 0) (sC (.int 2))) 4) (sSeq (sAsg (sOp oAdd (sVar 4) (sC (.int 1))) (sgSub (sVar 0) (sC (.int 2)))) (sSeq (sSet (sOp (oIx K) (sVar 0) (sC (.int 1))) 5) (sSeq (sSet (sOp (oIx K) (sVar 5) (sOp oMod (sCall1 nInt (sCons (sVar 4) (sNil))) (sCall1 (nLen K) (sCons (sVar 5) (sNil))))) 6) (sSeq (sSet (sOp oMod (sCall1 nInt (sCons (sOp oAdd (sOp oAdd (sOp oMul (sVar 6) (sC (.int 48271))) (sOp oMul (sVar 4) (sC (.int 69621)))) (sC (.int 7919))) (sNil))) (sC (.int 2147483647))) 7) (sSeq (sSet (sOp oMod (sCall1 nInt (sCons (sOp oAdd (sOp oAdd (sOp oAdd (sOp oMul (sVar 7) (sVar 7)) (sOp oMul (sVar 6) (sC (.int 40692)))) (sOp oMul (sVar 4) (sC (.int 16807)))) (sC (.int 101))) (sNil))) (sC (.int 2147483399))) 8) (sSeq (sSet (sOp oMod (sCall1 nInt (sCons (sOp oAdd (sOp oAdd (sOp oMul (sVar 8) (sVar 8)) (sOp oMul (sVar 7) (sC (.int 7)))) (sVar 4)) (sNil))) (sC (.int 1000000007))) 9) (sRet (sOp oMod (sOp oFdv (sCall1 nInt (sCons (sVar 9) (sNil))) (sC (.int 11))) (sVar 1))))))))))))
def r_l_join (K : PySem.W.Frag) (a : Ads) : sS := sSeq (sIfS (sTst (sOp (oEq K) (sVar 1) (sC (.int 0)))) (sRet (sOp oSub (sVar 2) (sC (.int 1)))) (sNext)) (sSeq (sIfS (sTst (sOp (oEq K) (sVar 1) (sC (.int 1)))) (sRet (sC (.int 0))) (sNext)) (sSeq (sIfS (sTst (sOp (oEq K) (sVar 1) (sC (.int 2)))) (sSeq (sSet (sC (.int 1)) 3) (sSeq (sFor (siR1 (sCons (sC (.int 7)) (sNil))) (sgName 4) (sIfS (sTst (sOp oLt (sVar 3) (sOp oAdd (sVar 2) (sC (.int 1))))) (sSet (sOp oMul (sVar 3) (sC (.int 2))) 3) (sNext))) (sRet (sOp oSub (sOp oSub (sVar 3) (sVar 2)) (sC (.int 1)))))) (sNext)) (sRet (sCallD (q_l_take K a) [] (sCons (sVar 0) (sCons (sVar 2) (sNil)))))))
def r_l_tree (K : PySem.W.Frag) (a : Ads) : sS := sSeq (sSet (sCallD (q_l_take K a) [] (sCons (sVar 0) (sCons (sC (.int 6)) (sNil)))) 2) (sSeq (sSet (sLc (siR1 (sCons (sVar 1) (sNil))) (sgName 9) (sYes) (sLst (sCons (sC (.str ("." : Str))) (sCons (sVar 9) (sCons (sVar 9) (sNil))))) [9]) 3) (sSeq (sSet (sLc (siR1 (sCons (sVar 1) (sNil))) (sgName 9) (sYes) (sLst (sNil)) [9]) 4) (sSeq (sFor (siR1 (sCons (sOp oSub (sVar 1) (sC (.int 1))) (sNil))) (sgName 5) (sSeq (sSet (sCallD (q_l_join K a) [] (sCons (sVar 0) (sCons (sVar 2) (sCons (sOp oSub (sCall1 (nLen K) (sCons (sVar 3) (sNil))) (sC (.int 1))) (sNil))))) 6) (sSeq (sSet (sOp (oIx K) (sVar 3) (sVar 6)) 7) (sSeq (sSet (sOp (oIx K) (sVar 3) (sOp oAdd (sVar 6) (sC (.int 1)))) 8) (sSeq (sFor (siR2 (sCons (sOp (oIx K) (sVar 7) (sC (.int 1))) (sCons (sOp oAdd (sOp (oIx K) (sVar 8) (sC (.int 2))) (sC (.int 1))) (sNil)))) (sgName 9) (sAsg (sOp oAdd (sLst (sCons (sTup (sCons (sOp (oIx K) (sVar 7) (sC (.int 2))) (sCons (sOp (oIx K) (sC (.str ("LR" : Str))) (sCall1 nInt (sCons (sOp oGt (sVar 9) (sOp (oIx K) (sVar 7) (sC (.int 2)))) (sNil)))) (sNil)))) (sNil))) (sOp (oIx K) (sVar 4) (sVar 9))) (sgSub (sVar 4) (sVar 9)))) (sSet (sOp oAdd (sOp oAdd (sSl K (sVar 3) sNoP (sPart (sVar 6))) (sLst (sCons (sLst (sCons (sOp oAdd (sOp oAdd (sOp oAdd (sC (.str ("(" : Str))) (sOp (oIx K) (sVar 7) (sC (.int 0)))) (sOp (oIx K) (sVar 8) (sC (.int 0)))) (sC (.str (")" : Str)))) (sCons (sOp (oIx K) (sVar 7) (sC (.int 1))) (sCons (sOp (oIx K) (sVar 8) (sC (.int 2))) (sNil))))) (sNil)))) (sSl K (sVar 3) (sPart (sOp oAdd (sVar 6) (sC (.int 2)))) sNoP)) 3)))))) (sRet (sTup (sCons (sOp (oIx K) (sOp (oIx K) (sVar 3) (sC (.int 0))) (sC (.int 0))) (sCons (sVar 4) (sNil))))))))
def r_l_flags (K : PySem.W.Frag) (a : Ads) : sS := sSeq (sSet (sCallD (q_l_take K a) [] (sCons (sVar 0) (sCons (sC (.int 5)) (sNil)))) 2) (sSeq (sIfS (sTst (sOp oLt (sVar 2) (sC (.int 2)))) (sRet (sOp oMulS (sOp (oIx K) (sC (.str ("LR" : Str))) (sVar 2)) (sVar 1))) (sNext)) (sRet (sMt K "str" (mJoin K) (sC (.str ("" : Str))) (sCons (sLc (siR1 (sCons (sVar 1) (sNil))) (sgName 3) (sYes) (sOp (oIx K) (sC (.str ("LR" : Str))) (sCallD (q_l_take K a) [] (sCons (sVar 0) (sCons (sC (.int 2)) (sNil))))) [3]) (sNil)))))
def r_l_slots (K : PySem.W.Frag) (a : Ads) : sS := sSeq (sSet (sCallD (q_l_take K a) [] (sCons (sVar 0) (sCons (sC (.int 16)) (sNil)))) 1) (sSeq (sIfS (sTst (sOp (oEq K) (sVar 1) (sC (.int 0)))) (sRet (sC (.int 1))) (sNext)) (sSeq (sIfS (sTst (sOp (oEq K) (sVar 1) (sC (.int 1)))) (sRet (sC (.int 64))) (sNext)) (sSeq (sIfS (sTst (sOp oLt (sVar 1) (sC (.int 4)))) (sRet (sOp oAdd (sC (.int 10)) (sCallD (q_l_take K a) [] (sCons (sVar 0) (sCons (sC (.int 20)) (sNil)))))) (sNext)) (sRet (sOp oSub (sC (.int 8)) (sCallD (q_l_take K a) [] (sCons (sVar 0) (sCons (sC (.int 7)) (sNil)))))))))
def r_l_bent (K : PySem.W.Frag) (a : Ads) : sS := sSeq (sSet (sCallD (q_l_take K a) [] (sCons (sVar 0) (sCons (sC (.int 8)) (sNil)))) 3) (sSeq (sSet (sCallD (q_l_take K a) [] (sCons (sVar 0) (sCons (sCall1 (nLen K) (sCons (sVar 1) (sNil))) (sNil)))) 4) (sSeq (sIfS (sTst (sOp oLt (sVar 3) (sC (.int 4)))) (sRet (sOp oAdd (sOp oAdd (sSl K (sVar 1) sNoP (sPart (sVar 4))) (sOp (oIx K) (sVar 2) (sVar 3))) (sSl K (sVar 1) (sPart (sOp oAdd (sVar 4) (sC (.int 1)))) sNoP))) (sNext)) (sSeq (sIfS (sTst (sOp (oEq K) (sVar 3) (sC (.int 4)))) (sRet (sOp oAdd (sVar 1) (sOp (oIx K) (sC (.str ("LR" : Str))) (sCallD (q_l_take K a) [] (sCons (sVar 0) (sCons (sC (.int 2)) (sNil))))))) (sNext)) (sSeq (sIfS (sTst (sOp (oEq K) (sVar 3) (sC (.int 5)))) (sRet (sIf (sTru K (sVar 1)) (sSl K (sVar 1) (sPart (sC (.int 1))) sNoP) (sC (.str ("R" : Str))))) (sNext)) (sSeq (sIfS (sTst (sOp (oEq K) (sVar 3) (sC (.int 6)))) (sRet (sLc (siStr (sVar 1)) (sgName 5) (sYes) (sVar 5) [5])) (sNext)) (sRet (sC .non)))))))
def r_l_hit (K : PySem.W.Frag) (a : Ads) : sS := sSeq (sFor (siSeq K (sVar 1)) (sgTup K 2 (sgCons (sgName 2) (sgCons (sgName 3) (sgNil)))) (sSet (sOp oAdd (sOp oAdd (sSl K (sVar 0) sNoP (sPart (sVar 2))) (sVar 3)) (sSl K (sVar 0) (sPart (sOp oAdd (sVar 2) (sC (.int 1)))) sNoP)) 0)) (sRet (sVar 0))
def r_l_times (K : PySem.W.Frag) (a : Ads) : sS := sSeq (sSet (sOp oMul (sLst (sCons (sC (.int 0)) (sNil))) (sOp oSub (sOp oAdd (sCall1 (nLen K) (sCons (sVar 0) (sNil))) (sCall1 (nLen K) (sCons (sVar 1) (sNil)))) (sC (.int 1)))) 2) (sSeq (sFor (siR1 (sCons (sCall1 (nLen K) (sCons (sVar 0) (sNil))) (sNil))) (sgName 3) (sFor (siR1 (sCons (sCall1 (nLen K) (sCons (sVar 1) (sNil))) (sNil))) (sgName 4) (sAsg (sOp oAdd (sOp (oIx K) (sVar 2) (sOp oAdd (sVar 3) (sVar 4))) (sOp oMul (sOp (oIx K) (sVar 0) (sVar 3)) (sOp (oIx K) (sVar 1) (sVar 4)))) (sgSub (sVar 2) (sOp oAdd (sVar 3) (sVar 4)))))) (sRet (sVar 2)))
def r_l_plus (K : PySem.W.Frag) (a : Ads) : sS := sSeq (sSet (sOp oMul (sLst (sCons (sC (.int 0)) (sNil))) (sCall1 nMax2 (sCons (sCall1 (nLen K) (sCons (sVar 0) (sNil))) (sCons (sCall1 (nLen K) (sCons (sVar 1) (sNil))) (sNil))))) 2) (sSeq (sFor (siR1 (sCons (sCall1 (nLen K) (sCons (sVar 0) (sNil))) (sNil))) (sgName 3) (sAsg (sOp oAdd (sOp (oIx K) (sVar 2) (sVar 3)) (sOp (oIx K) (sVar 0) (sVar 3))) (sgSub (sVar 2) (sVar 3)))) (sSeq (sFor (siR1 (sCons (sCall1 (nLen K) (sCons (sVar 1) (sNil))) (sNil))) (sgName 3) (sAsg (sOp oAdd (sOp (oIx K) (sVar 2) (sVar 3)) (sOp (oIx K) (sVar 1) (sVar 3))) (sgSub (sVar 2) (sVar 3)))) (sRet (sVar 2))))
def r_l_shut (K : PySem.W.Frag) (a : Ads) : sS := sSeq (sIfS (sTst (sOp (oEq K) (sVar 0) (sLst (sCons (sC (.int 1)) (sNil))))) (sRet (sLst (sCons (sC (.int 1)) (sNil)))) (sNext)) (sRet (sOp oAdd (sLst (sCons (sC (.int 1)) (sCons (sOp oSub (sOp (oIx K) (sVar 0) (sC (.int 0))) (sC (.int 1))) (sNil)))) (sSl K (sVar 0) (sPart (sC (.int 1))) sNoP)))
def r_l_spreads (K : PySem.W.Frag) (a : Ads) : sS := sSeq (sSet (sLst (sNil)) 2) (sSeq (sSet (s1Op oNeg (sC (.int 1))) 3) (sSeq (sSet (sC (.int 0)) 4) (sSeq (sFor (siStr (sVar 0)) (sgName 5) (sCut (sIfS (sTst (sOp (oEq K) (sVar 5) (sC (.str ("." : Str))))) (sSeq (sSet (sOp oAdd (sVar 3) (sC (.int 1))) 3) (sDrop (sMt K "list" mAppend (sVar 2) (sCons (sTup (sCons (sVar 3) (sCons (sLst (sCons (sC (.int 1)) (sNil))) (sCons (sLst (sCons (sC (.int 1)) (sNil))) (sCons (sC (.int 1)) (sNil)))))) (sNil))))) (sNext)) (sIfS (sTst (sOp (oEq K) (sVar 5) (sC (.str (")" : Str))))) (sSeq (sSet (sMt K "list" mPop (sVar 2) sNil) 6) (sSeq (sSet (sMt K "list" mPop (sVar 2) sNil) 7) (sSeq (sSet (sIf (sTst (sOp (oEq K) (sOp (oIx K) (sVar 1) (sOp (oIx K) (sVar 7) (sC (.int 0)))) (sC (.str ("L" : Str))))) (sVar 7) (sVar 6)) 8) (sSeq (sSet (sIf (sTst (sOp (oEq K) (sOp (oIx K) (sVar 1) (sOp (oIx K) (sVar 7) (sC (.int 0)))) (sC (.str ("L" : Str))))) (sVar 6) (sVar 7)) 9) (sSeq (sSet (sLc (siSeq K (sCallD (q_l_times K a) [] (sCons (sOp (oIx K) (sVar 8) (sC (.int 1))) (sCons (sCallD (q_l_shut K a) [] (sCons (sOp (oIx K) (sVar 9) (sC (.int 1))) (sNil))) (sNil))))) (sgName 14) (sYes) (sOp oMul (sC (.int 2)) (sVar 14)) [14]) 10) (sSeq (sSet (sCallD (q_l_times K a) [] (sCons (sOp (oIx K) (sVar 7) (sC (.int 2))) (sCons (sCallD (q_l_shut K a) [] (sCons (sOp (oIx K) (sVar 6) (sC (.int 2))) (sNil))) (sNil)))) 11) (sSeq (sSet (sCallD (q_l_times K a) [] (sCons (sOp (oIx K) (sVar 6) (sC (.int 2))) (sCons (sCallD (q_l_shut K a) [] (sCons (sOp (oIx K) (sVar 7) (sC (.int 2))) (sNil))) (sNil)))) 12) (sSeq (sSet (sOp oAdd (sVar 4) (sCall1 nMax2 (sCons (sOp (oIx K) (sVar 7) (sC (.int 3))) (sCons (sOp (oIx K) (sVar 6) (sC (.int 3))) (sNil))))) 4) (sDrop (sMt K "list" mAppend (sVar 2) (sCons (sTup (sCons (sOp (oIx K) (sVar 6) (sC (.int 0))) (sCons (sVar 10) (sCons (sCallD (q_l_plus K a) [] (sCons (sVar 11) (sCons (sVar 12) (sNil)))) (sCons (sC (.int 0)) (sNil)))))) (sNil)))))))))))) (sNext)))) (sSeq (sSet (sMt K "list" mPop (sVar 2) sNil) 13) (sRet (sTup (sCons (sCallD (q_l_shut K a) [] (sCons (sOp (oIx K) (sVar 13) (sC (.int 1))) (sNil))) (sCons (sCallD (q_l_shut K a) [] (sCons (sOp (oIx K) (sVar 13) (sC (.int 2))) (sNil))) (sCons (sVar 4) (sNil))))))))))
def r_l_each (K : PySem.W.Frag) (a : Ads) : sS := sSeq (sSet (sLst (sCons (sC (.str ("" : Str))) (sNil))) 1) (sSeq (sFor (siR1 (sCons (sVar 0) (sNil))) (sgName 2) (sSet (sOp oAdd (sLc (siSeq K (sVar 1)) (sgName 3) (sYes) (sOp oAdd (sVar 3) (sC (.str ("L" : Str)))) [3]) (sLc (siSeq K (sVar 1)) (sgName 3) (sYes) (sOp oAdd (sVar 3) (sC (.str ("R" : Str)))) [3])) 1)) (sRet (sVar 1)))
def r_l_levels (K : PySem.W.Frag) (a : Ads) : sS := sSeq (sSet (sDis1 (sVar 0) (sC (.bl true))) 2) (sSeq (sSet (sLst (sCons (sVar 0) (sNil))) 3) (sSeq (sSet (sLst (sNil)) 4) (sCut (sFor (siR1 (sCons (sOp oAdd (sCall1 nLenD (sCons (sVar 1) (sNil))) (sC (.int 1))) (sNil))) (sgName 5) (sSeq (sIfS (sNot (sTru K (sVar 3))) (sBreak) (sNext)) (sSeq (sDrop (sMt K "list" mAppend (sVar 4) (sCons (sCall1 (nLen K) (sCons (sVar 3) (sNil))) (sNil)))) (sSeq (sSet (sLst (sNil)) 6) (sSeq (sFor (siSeq K (sVar 3)) (sgName 7) (sFor (siSeq K (sDGet (sVar 1) (sVar 7))) (sgName 8) (sIfS (sDInT true (sVar 8) (sVar 2)) (sSeq (sDPutK (sVar 2) (sVar 8) (sC (.bl true))) (sDrop (sMt K "list" mAppend (sVar 6) (sCons (sVar 8) (sNil))))) (sNext)))) (sSet (sVar 6) 3)))))) (sRet (sVar 4)))))
def r_l_searched (K : PySem.W.Frag) (a : Ads) : sS := sSeq (sSet (sCallD (q_l_each K a) [] (sCons (sCall1 (nLen K) (sCons (sVar 1) (sNil))) (sNil))) 3) (sSeq (sSet (sDctK) 4) (sSeq (sSet (sDctK) 5) (sSeq (sFor (siSeq K (sVar 3)) (sgName 6) (sDPutK (sVar 5) (sVar 6) (sLst (sNil)))) (sSeq (sFor (siSeq K (sVar 3)) (sgName 6) (sSeq (sDPutK (sVar 4) (sVar 6) (sLc (siSeq K (sVar 2)) (sgName 9) (sYes) (sCallD (q_l_hit K a) [] (sCons (sVar 6) (sCons (sVar 9) (sNil)))) [9])) (sFor (siSeq K (sDGet (sVar 4) (sVar 6))) (sgName 7) (sSeq (sSet (sDGet (sVar 5) (sVar 7)) 8) (sDrop (sMt K "list" mAppend (sVar 8) (sCons (sVar 6) (sNil)))))))) (sSeq (sIfS (sNot (sTru K (sCallD (q_l_same K a) [] (sCons (sCallD (q_spread_to K a) [] (sCons (sVar 0) (sCons (sVar 1) (sNil)))) (sCons (sCallD (q_l_levels K a) [] (sCons (sVar 1) (sCons (sVar 5) (sNil)))) (sNil)))))) (sRet (sC (.bl false))) (sNext)) (sSeq (sIfS (sNot (sTru K (sCallD (q_l_same K a) [] (sCons (sCallD (q_spread_from K a) [] (sCons (sVar 0) (sCons (sVar 1) (sNil)))) (sCons (sCallD (q_l_levels K a) [] (sCons (sVar 1) (sCons (sVar 4) (sNil)))) (sNil)))))) (sRet (sC (.bl false))) (sNext)) (sRet (sOp (oEq K) (sCallD (q_greatest_distance K a) [] (sCons (sVar 0) (sNil))) (sCall1 (nMaxL K) (sCons (sLc (siSeq K (sVar 3)) (sgName 6) (sYes) (sOp oSub (sCall1 (nLen K) (sCons (sCallD (q_l_levels K a) [] (sCons (sVar 6) (sCons (sVar 4) (sNil)))) (sNil))) (sC (.int 1))) [6]) (sNil)))))))))))
def r_l_answers (K : PySem.W.Frag) (a : Ads) : sS := sSeq (sAsg (sCallD (q_l_spreads K a) [] (sCons (sVar 1) (sCons (sVar 2) (sNil)))) (sgTup K 3 (sgCons (sgName 3) (sgCons (sgName 4) (sgCons (sgName 5) (sgNil)))))) (sSeq (sSet (sCallD (q_spread_to K a) [] (sCons (sVar 0) (sCons (sVar 2) (sNil)))) 6) (sSeq (sSet (sCallD (q_spread_from K a) [] (sCons (sVar 0) (sCons (sVar 2) (sNil)))) 7) (sSeq (sIfS (sOr (sNot (sTru K (sCallD (q_l_same K a) [] (sCons (sVar 6) (sCons (sVar 3) (sNil)))))) (sNot (sTru K (sCallD (q_l_same K a) [] (sCons (sVar 7) (sCons (sVar 4) (sNil))))))) (sRet (sC (.bl false))) (sNext)) (sSeq (sSet (sCallD (q_greatest_distance K a) [] (sCons (sVar 0) (sNil))) 8) (sSeq (sIfS (sOr (sNot (sTru K (sCallD (q_l_is_integer K a) [] (sCons (sVar 8) (sNil))))) (sTst (sOp (oNe K) (sVar 8) (sVar 5)))) (sRet (sC (.bl false))) (sNext)) (sSeq (sIfS (sOr (sTst (sOp oGt (sOp oSub (sCall1 (nLen K) (sCons (sVar 6) (sNil))) (sC (.int 1))) (sVar 8))) (sTst (sOp (oNe K) (sOp oSub (sCall1 (nLen K) (sCons (sVar 7) (sNil))) (sC (.int 1))) (sVar 8)))) (sRet (sC (.bl false))) (sNext)) (sSeq (sIfS (sOr (sTst (sOp (oNe K) (sCall1 (nSum K) (sCons (sVar 6) (sNil))) (sOp oShl (sC (.int 1)) (sCall1 (nLen K) (sCons (sVar 2) (sNil)))))) (sTst (sOp (oNe K) (sCall1 (nSum K) (sCons (sVar 7) (sNil))) (sOp oShl (sC (.int 1)) (sCall1 (nLen K) (sCons (sVar 2) (sNil))))))) (sRet (sC (.bl false))) (sNext)) (sSeq (sDrop (sMt K "list" mReverse (sVar 6) sNil)) (sSeq (sDrop (sMt K "list" mAppend (sVar 6) (sCons (sC (.int 0)) (sNil)))) (sSeq (sDrop (sMt K "list" mAppend (sVar 7) (sCons (sC (.int 1)) (sNil)))) (sSeq (sDrop (sMt K "list" mReverse (sVar 7) sNil)) (sRet (sAndV (sCallD (q_l_same K a) [] (sCons (sCallD (q_spread_to K a) [] (sCons (sVar 0) (sCons (sVar 2) (sNil)))) (sCons (sVar 3) (sNil)))) (sCallD (q_l_same K a) [] (sCons (sCallD (q_spread_from K a) [] (sCons (sVar 0) (sCons (sVar 2) (sNil)))) (sCons (sVar 4) (sNil)))))))))))))))))
def r_l_fault (K : PySem.W.Frag) (a : Ads) : sS := sCut (sTryAs K (.ref a.InvalidFlags) 3 (sIfS (sTst (sOp (oEq K) (sVar 0) (sC (.int 0)))) (sDrop (sCallD (q_spread_to K a) [] (sCons (sVar 1) (sCons (sVar 2) (sNil))))) (sDrop (sCallD (q_spread_from K a) [] (sCons (sVar 1) (sCons (sVar 2) (sNil)))))) (fun ea cls ed => sSeq (sIfS (sOr (sTru K (sCall1 (nIsY K ea cls ed) (sCons (sVar 3) (sCons (sC (.ref a.InvalidSlot)) (sNil))))) (sOr (sNot (sTru K (sCall1 (nIsY K ea cls ed) (sCons (sVar 3) (sCons (sC (.ref a.CacheError)) (sNil)))))) (sNot (sTru K (sCall1 (nIsY K ea cls ed) (sCons (sVar 3) (sCons (sC (.ty "ValueError")) (sNil)))))))) (sRet (sTup (sCons (sC (.str ("a class of another family" : Str))) (sCons (sC (.str ("" : Str))) (sNil))))) (sNext)) (sRet (sTup (sCons (sC (.str ("InvalidFlags" : Str))) (sCons (sCall1 (nRepr K) (sCons (sXf ea cls ed a.InvalidFlags ("flags" : Str) (sVar 3)) (sNil))) (sNil))))))) (sRet (sTup (sCons (sC (.str ("no error" : Str))) (sCons (sC (.str ("" : Str))) (sNil)))))
def r_law (K : PySem.W.Frag) (a : Ads) : sS := sSeq (sSet (sCallD (q_l_box K a) [] (sCons (sVar 0) (sNil))) 1) (sSeq (sSet (sCallD (q_l_slots K a) [] (sCons (sVar 1) (sNil))) 2) (sSeq (sAsg (sCallD (q_l_tree K a) [] (sCons (sVar 1) (sCons (sVar 2) (sNil)))) (sgTup K 2 (sgCons (sgName 3) (sgCons (sgName 4) (sgNil))))) (sSeq (sSet (sCallD (q_l_flags K a) [] (sCons (sVar 1) (sCons (sOp oSub (sVar 2) (sC (.int 1))) (sNil)))) 5) (sSeq (sSet (sCallD (q_l_take K a) [] (sCons (sVar 1) (sCons (sOp oSub (sVar 2) (sC (.int 1))) (sNil)))) 6) (sSeq (sSet (sIf (sTru K (sVar 5)) (sOp oAdd (sOp oAdd (sSl K (sVar 5) sNoP (sPart (sVar 6))) (sOp (oIx K) (sC (.str ("LR" : Str))) (sCall1 nInt (sCons (sOp (oEq K) (sOp (oIx K) (sVar 5) (sVar 6)) (sC (.str ("L" : Str)))) (sNil))))) (sSl K (sVar 5) (sPart (sOp oAdd (sVar 6) (sC (.int 1)))) sNoP)) (sVar 5)) 7) (sSeq (sSet (sMakO a.Tree (q_Tree_init K a) (sCons (sVar 3) (sNil))) 8) (sSeq (sFor (siSeq K (sLst (sCons (sVar 5) (sCons (sVar 7) (sCons (sVar 5) (sNil)))))) (sgName 9) (sIfS (sNot (sTru K (sCallD (q_l_answers K a) [] (sCons (sVar 8) (sCons (sVar 3) (sCons (sVar 9) (sNil))))))) (sRet (sC (.bl false))) (sNext))) (sSeq (sIfS (sAnd (sTst (sOp oLt (sVar 2) (sC (.int 7)))) (sNot (sTru K (sCallD (q_l_searched K a) [] (sCons (sVar 8) (sCons (sVar 5) (sCons (sVar 4) (sNil)))))))) (sRet (sC (.bl false))) (sNext)) (sSeq (sSet (sCallD (q_l_bent K a) [] (sCons (sVar 1) (sCons (sVar 5) (sCons (sC (.str ("?.lx" : Str))) (sNil))))) 10) (sSeq (sFor (siR1 (sCons (sC (.int 2)) (sNil))) (sgName 11) (sIfS (sTst (sOp (oNe K) (sCallD (q_l_fault K a) [] (sCons (sVar 11) (sCons (sVar 8) (sCons (sVar 10) (sNil))))) (sTup (sCons (sC (.str ("InvalidFlags" : Str))) (sCons (sCall1 (nRepr K) (sCons (sVar 10) (sNil))) (sNil)))))) (sRet (sC (.bl false))) (sNext))) (sRet (sOp (oEq K) (sFldO a.Tree ("text" : Str) (sVar 8)) (sVar 3)))))))))))))
section
variable {P : Program} {w : World} {K : PySem.W.Frag} {mg : Str → Option Value} {base : Heap} {a : Ads}
theorem d_is_made_of (G : Env P w K mg base a)  {f : Addr} {cdv : Value} {A : Around} {outer : List PySem.Env} {s : Shared} {H : Hp} {E : XK} (hr : Room (l_is_made_of - 1) (A.deeper (envOfC "is_made_of" (defScope s_is_made_of) s.heap.objs.size f cdv))) :
    PSs (cxOf (L2.CX P w) P w K mg base N_is_made_of "is_made_of" (defScope s_is_made_of) f cdv A outer s H E) (defBody s_is_made_of) (dS (fun c d _ H => E c d H) (r_is_made_of K a)) := by
  have tk : Takes (cxOf (L2.CX P w) P w K mg base N_is_made_of "is_made_of" (defScope s_is_made_of) f cdv A outer s H E) (fun c d _ H => E c d H) := takes_of rfl rfl rfl rfl
  have hp : PassesOwn (model P w) (cxOf (L2.CX P w) P w K mg base N_is_made_of "is_made_of" (defScope s_is_made_of) f cdv A outer s H E).A (cxOf (L2.CX P w) P w K mg base N_is_made_of "is_made_of" (defScope s_is_made_of) f cdv A outer s H E).env (cxOf (L2.CX P w) P w K mg base N_is_made_of "is_made_of" (defScope s_is_made_of) f cdv A outer s H E).xe := passes_of rfl
  exact (hOne (hRet (gAndV (gIsi (by rfl) G.n_isinstance (gv 0) (by decide) (by rfl) G.n_str (by decide +kernel)) (gOneV (gB (cr_all rfl) lAll (by rfl) G.n_all (by decide +kernel) (gCons (gLc (own := [("sign", 2)]) rfl sc_is_made_of.nd (iStrS (gv 0)) (blkOk_by (own := [("sign", 2)]) (N := N_is_made_of) (sc := defScope s_is_made_of) (by decide +kernel)) (fun _ _ _ _ _ => (ggName (i := 2) sc_is_made_of.nd rfl (.inl rfl))) (fun _ _ _ _ _ => gNoIf) (fun _ _ _ _ _ => (gIn (gv 2) (gv 1) (by rfl)))) gNil))))))
theorem d_checked_flags (G : Env P w K mg base a) (T_is_made_of : DefC P w K mg base "is_made_of" ["value", "signs"] l_is_made_of [] (p_is_made_of K a)) (T_Tree_forks : ProC P w K mg base a.Tree "forks" l_Tree_forks (p_Tree_forks K a)) {f : Addr} {cdv : Value} {A : Around} {outer : List PySem.Env} {s : Shared} {H : Hp} {E : XK} (hr : Room (l_checked_flags - 1) (A.deeper (envOfC "checked_flags" (defScope s_checked_flags) s.heap.objs.size f cdv))) :
    PSs (cxOf (L2.CX P w) P w K mg base N_checked_flags "checked_flags" (defScope s_checked_flags) f cdv A outer s H E) (defBody s_checked_flags) (dS (fun c d _ H => E c d H) (r_checked_flags K a)) := by
  have tk : Takes (cxOf (L2.CX P w) P w K mg base N_checked_flags "checked_flags" (defScope s_checked_flags) f cdv A outer s H E) (fun c d _ H => E c d H) := takes_of rfl rfl rfl rfl
  have hp : PassesOwn (model P w) (cxOf (L2.CX P w) P w K mg base N_checked_flags "checked_flags" (defScope s_checked_flags) f cdv A outer s H E).A (cxOf (L2.CX P w) P w K mg base N_checked_flags "checked_flags" (defScope s_checked_flags) f cdv A outer s H E).env (cxOf (L2.CX P w) P w K mg base N_checked_flags "checked_flags" (defScope s_checked_flags) f cdv A outer s H E).xe := passes_of rfl
  exact (hCons (hIf (PW.pt (gOr (gTNot (gTru (gCall1 c_is_made_of T_is_made_of hr (by decide) (by rfl) tk (gCons (gv 1) (gCons gStr gNil))))) (gOr1 (gTNe hr.units (gB call_len lLen (by rfl) G.n_len (by decide +kernel) (gCons (gv 1) gNil)) (gProO c_Tree_forks G.o_Tree T_Tree_forks hr (by decide) (gv 0)))))) (hOne (hRaise (k := 0) rfl tk G.e_InvalidFlags (hr.mono (by decide)) (by rfl) (gv 1))) hNil) (hOne (hRet (gv 1))))
theorem d_poly_product (G : Env P w K mg base a)  {f : Addr} {cdv : Value} {A : Around} {outer : List PySem.Env} {s : Shared} {H : Hp} {E : XK} (hr : Room (l_poly_product - 1) (A.deeper (envOfC "poly_product" (defScope s_poly_product) s.heap.objs.size f cdv))) :
    PSs (cxOf (L2.CX P w) P w K mg base N_poly_product "poly_product" (defScope s_poly_product) f cdv A outer s H E) (defBody s_poly_product) (dS (fun c d _ H => E c d H) (r_poly_product K a)) := by
  have tk : Takes (cxOf (L2.CX P w) P w K mg base N_poly_product "poly_product" (defScope s_poly_product) f cdv A outer s H E) (fun c d _ H => E c d H) := takes_of rfl rfl rfl rfl
  have hp : PassesOwn (model P w) (cxOf (L2.CX P w) P w K mg base N_poly_product "poly_product" (defScope s_poly_product) f cdv A outer s H E).A (cxOf (L2.CX P w) P w K mg base N_poly_product "poly_product" (defScope s_poly_product) f cdv A outer s H E).env (cxOf (L2.CX P w) P w K mg base N_poly_product "poly_product" (defScope s_poly_product) f cdv A outer s H E).xe := passes_of rfl
  exact (hCons (hSet (i := 2) sc_poly_product.nd rfl (.inl rfl) (gMul (gLst (gCons gInt gNil)) (gSub (gAdd (gB call_len lLen (by rfl) G.n_len (by decide +kernel) (gCons (gv 0) gNil)) (gB call_len lLen (by rfl) G.n_len (by decide +kernel) (gCons (gv 1) gNil))) gInt))) (hCons (hFor hp rfl (iEn (by rfl) G.n_enumerate (gCons (gv 0) gNil)) (ggTup rfl (ggCons (ggName (i := 3) sc_poly_product.nd rfl (.inl rfl)) (ggCons (ggName (i := 4) sc_poly_product.nd rfl (.inl rfl)) ggNil))) (hOne (hFor hp rfl (iEn (by rfl) G.n_enumerate (gCons (gv 1) gNil)) (ggTup rfl (ggCons (ggName (i := 5) sc_poly_product.nd rfl (.inl rfl)) (ggCons (ggName (i := 6) sc_poly_product.nd rfl (.inl rfl)) ggNil))) (hCons (hSet (i := 7) sc_poly_product.nd rfl (.inl rfl) (gAdd (gv 3) (gv 5))) (hOne (hAsg (gAdd (gIx (gv 2) (gv 7) (by intro _ _; rfl)) (gMul (gv 4) (gv 6))) (ggSub (gv 2) (gv 7)))))))) (hOne (hRet (gv 2)))))
theorem d_poly_sum (G : Env P w K mg base a)  {f : Addr} {cdv : Value} {A : Around} {outer : List PySem.Env} {s : Shared} {H : Hp} {E : XK} (hr : Room (l_poly_sum - 1) (A.deeper (envOfC "poly_sum" (defScope s_poly_sum) s.heap.objs.size f cdv))) :
    PSs (cxOf (L2.CX P w) P w K mg base N_poly_sum "poly_sum" (defScope s_poly_sum) f cdv A outer s H E) (defBody s_poly_sum) (dS (fun c d _ H => E c d H) (r_poly_sum K a)) := by
  have tk : Takes (cxOf (L2.CX P w) P w K mg base N_poly_sum "poly_sum" (defScope s_poly_sum) f cdv A outer s H E) (fun c d _ H => E c d H) := takes_of rfl rfl rfl rfl
  have hp : PassesOwn (model P w) (cxOf (L2.CX P w) P w K mg base N_poly_sum "poly_sum" (defScope s_poly_sum) f cdv A outer s H E).A (cxOf (L2.CX P w) P w K mg base N_poly_sum "poly_sum" (defScope s_poly_sum) f cdv A outer s H E).env (cxOf (L2.CX P w) P w K mg base N_poly_sum "poly_sum" (defScope s_poly_sum) f cdv A outer s H E).xe := passes_of rfl
  exact (hCons (hSet (i := 2) sc_poly_sum.nd rfl (.inl rfl) (gMul (gLst (gCons gInt gNil)) (gB (call_max2 rfl) lMax2 (by rfl) G.n_max (by decide +kernel) (gCons (gB call_len lLen (by rfl) G.n_len (by decide +kernel) (gCons (gv 0) gNil)) (gCons (gB call_len lLen (by rfl) G.n_len (by decide +kernel) (gCons (gv 1) gNil)) gNil))))) (hCons (hFor hp rfl (iSeq (gTup (gCons (gv 0) (gCons (gv 1) gNil)))) (ggName (i := 3) sc_poly_sum.nd rfl (.inl rfl)) (hOne (hFor hp rfl (iEn (by rfl) G.n_enumerate (gCons (gv 3) gNil)) (ggTup rfl (ggCons (ggName (i := 4) sc_poly_sum.nd rfl (.inl rfl)) (ggCons (ggName (i := 5) sc_poly_sum.nd rfl (.inl rfl)) ggNil))) (hOne (hAsg (gAdd (gIx (gv 2) (gv 4) (by intro _ _; rfl)) (gv 5)) (ggSub (gv 2) (gv 4))))))) (hOne (hRet (gv 2)))))
theorem d_trail_polynomial (G : Env P w K mg base a)  {f : Addr} {cdv : Value} {A : Around} {outer : List PySem.Env} {s : Shared} {H : Hp} {E : XK} (hr : Room (l_trail_polynomial - 1) (A.deeper (envOfC "trail_polynomial" (defScope s_trail_polynomial) s.heap.objs.size f cdv))) :
    PSs (cxOf (L2.CX P w) P w K mg base N_trail_polynomial "trail_polynomial" (defScope s_trail_polynomial) f cdv A outer s H E) (defBody s_trail_polynomial) (dS (fun c d _ H => E c d H) (r_trail_polynomial K a)) := by
  have tk : Takes (cxOf (L2.CX P w) P w K mg base N_trail_polynomial "trail_polynomial" (defScope s_trail_polynomial) f cdv A outer s H E) (fun c d _ H => E c d H) := takes_of rfl rfl rfl rfl
  have hp : PassesOwn (model P w) (cxOf (L2.CX P w) P w K mg base N_trail_polynomial "trail_polynomial" (defScope s_trail_polynomial) f cdv A outer s H E).A (cxOf (L2.CX P w) P w K mg base N_trail_polynomial "trail_polynomial" (defScope s_trail_polynomial) f cdv A outer s H E).env (cxOf (L2.CX P w) P w K mg base N_trail_polynomial "trail_polynomial" (defScope s_trail_polynomial) f cdv A outer s H E).xe := passes_of rfl
  exact (hCons (hIf (gTEq hr.units (gv 0) gInt) (hOne (hRet (gLst (gCons gInt gNil)))) hNil) (hCons (hSet (i := 2) sc_trail_polynomial.nd rfl (.inl rfl) (gAdd (gLst (gCons gInt gNil)) (gLc (own := [("number", 3)]) rfl sc_trail_polynomial.nd (iSeq (gv 1)) (blkOk_by (own := [("number", 3)]) (N := N_trail_polynomial) (sc := defScope s_trail_polynomial) (by decide +kernel)) (fun _ _ _ _ _ => (ggName (i := 3) sc_trail_polynomial.nd rfl (.inl rfl))) (fun _ _ _ _ _ => gNoIf) (fun _ _ _ _ _ => (gShl (gv 3) (gv 0)))))) (hCons (hAsg (gSub (gIx (gv 2) gInt (by intro _ _; rfl)) gInt) (ggSub (gv 2) gInt)) (hOne (hRet (gv 2))))))
theorem d_spread_to (G : Env P w K mg base a) (T_checked_flags : DefC P w K mg base "checked_flags" ["tree", "flags"] l_checked_flags [] (p_checked_flags K a)) (T_poly_product : DefC P w K mg base "poly_product" ["first", "second"] l_poly_product [] (p_poly_product K a)) (T_trail_polynomial : DefC P w K mg base "trail_polynomial" ["forks", "hanging"] l_trail_polynomial [] (p_trail_polynomial K a)) (T_Tree_len : MetC P w K mg base a.Tree "__len__" ["self"] l_Tree_len (p_Tree_len K a)) (T_Tree_top : ProC P w K mg base a.Tree "top" l_Tree_top (p_Tree_top K a)) {f : Addr} {cdv : Value} {A : Around} {outer : List PySem.Env} {s : Shared} {H : Hp} {E : XK} (hr : Room (l_spread_to - 1) (A.deeper (envOfC "spread_to" (defScope s_spread_to) s.heap.objs.size f cdv))) :
    PSs (cxOf (L2.CX P w) P w K mg base N_spread_to "spread_to" (defScope s_spread_to) f cdv A outer s H E) (defBody s_spread_to) (dS (fun c d _ H => E c d H) (r_spread_to K a)) := by
  have tk : Takes (cxOf (L2.CX P w) P w K mg base N_spread_to "spread_to" (defScope s_spread_to) f cdv A outer s H E) (fun c d _ H => E c d H) := takes_of rfl rfl rfl rfl
  have hp : PassesOwn (model P w) (cxOf (L2.CX P w) P w K mg base N_spread_to "spread_to" (defScope s_spread_to) f cdv A outer s H E).A (cxOf (L2.CX P w) P w K mg base N_spread_to "spread_to" (defScope s_spread_to) f cdv A outer s H E).env (cxOf (L2.CX P w) P w K mg base N_spread_to "spread_to" (defScope s_spread_to) f cdv A outer s H E).xe := passes_of rfl
  exact (hCons (hExpr (gCall1 c_checked_flags T_checked_flags hr (by decide) (by rfl) tk (gCons (gv 0) (gCons (gv 1) gNil)))) (hCons (hSet (i := 2) sc_spread_to.nd rfl (.inl rfl) gDctT) (hCons (hSet (i := 3) sc_spread_to.nd rfl (.inl rfl) gDctT) (hCons (hFor hp rfl (iR1 (by rfl) G.n_range (gCons (gLenO c_Tree_len T_Tree_len hr (by decide) (by rfl) G.n_len (gv 0)) gNil)) (ggName (i := 4) sc_spread_to.nd rfl (.inl rfl)) (hCons (hDPutT (hu_of hr) (gv 2) (gTup (gCons gStr (gCons (gv 4) gNil))) gInt) (hOne (hDPutT (hu_of hr) (gv 3) (gTup (gCons gStr (gCons (gv 4) gNil))) (gLst (gCons gInt gNil)))))) (hCons (hForWK (b := true) hp rfl GL.lifts_cx hr G.o_Tree G.na_Tree_postorder G.w_Tree_false rfl (gv 0) pe_bl (ggName (i := 5) sc_spread_to.nd rfl (.inl rfl)) (hCons (hPar (i := 6) (j := 7) rfl sc_spread_to.nd rfl rfl (by decide) rfl rfl (gCons (gIx (gFldO G.o_Tree G.na_Tree_lefts (gv 0)) (gv 5) (by intro _ _; rfl)) (gCons (gIx (gFldO G.o_Tree G.na_Tree_rights (gv 0)) (gv 5) (by intro _ _; rfl)) gNil))) (hCut (hIf (gTEq hr.units (gIx (gv 1) (gv 5) (by intro _ _; rfl)) gStr) (hOne (hPar (i := 6) (j := 7) rfl sc_spread_to.nd rfl rfl (by decide) rfl rfl (gCons (gv 7) (gCons (gv 6) gNil)))) hNil) (hCons (hDPutT (hu_of hr) (gv 2) (gTup (gCons gStr (gCons (gv 5) gNil))) (gAdd (gDGetT (hu_of hr) (gv 2) (gv 6)) gInt)) (hCons (hSet (i := 8) sc_spread_to.nd rfl (.inl rfl) (gCall1 c_trail_polynomial T_trail_polynomial hr (by decide) (by rfl) tk (gCons (gDGetT (hu_of hr) (gv 2) (gv 7)) (gCons (gDGetT (hu_of hr) (gv 3) (gv 7)) gNil)))) (hOne (hDPutT (hu_of hr) (gv 3) (gTup (gCons gStr (gCons (gv 5) gNil))) (gCall1 c_poly_product T_poly_product hr (by decide) (by rfl) tk (gCons (gDGetT (hu_of hr) (gv 3) (gv 6)) (gCons (gv 8) gNil)))))))))) (hOne (hRet (gCall1 c_trail_polynomial T_trail_polynomial hr (by decide) (by rfl) tk (gCons (gDGetT (hu_of hr) (gv 2) (gProO c_Tree_top G.o_Tree T_Tree_top hr (by decide) (gv 0))) (gCons (gDGetT (hu_of hr) (gv 3) (gProO c_Tree_top G.o_Tree T_Tree_top hr (by decide) (gv 0))) gNil))))))))))
theorem d_subtree_polynomial (G : Env P w K mg base a)  {f : Addr} {cdv : Value} {A : Around} {outer : List PySem.Env} {s : Shared} {H : Hp} {E : XK} (hr : Room (l_subtree_polynomial - 1) (A.deeper (envOfC "subtree_polynomial" (defScope s_subtree_polynomial) s.heap.objs.size f cdv))) :
    PSs (cxOf (L2.CX P w) P w K mg base N_subtree_polynomial "subtree_polynomial" (defScope s_subtree_polynomial) f cdv A outer s H E) (defBody s_subtree_polynomial) (dS (fun c d _ H => E c d H) (r_subtree_polynomial K a)) := by
  have tk : Takes (cxOf (L2.CX P w) P w K mg base N_subtree_polynomial "subtree_polynomial" (defScope s_subtree_polynomial) f cdv A outer s H E) (fun c d _ H => E c d H) := takes_of rfl rfl rfl rfl
  have hp : PassesOwn (model P w) (cxOf (L2.CX P w) P w K mg base N_subtree_polynomial "subtree_polynomial" (defScope s_subtree_polynomial) f cdv A outer s H E).A (cxOf (L2.CX P w) P w K mg base N_subtree_polynomial "subtree_polynomial" (defScope s_subtree_polynomial) f cdv A outer s H E).env (cxOf (L2.CX P w) P w K mg base N_subtree_polynomial "subtree_polynomial" (defScope s_subtree_polynomial) f cdv A outer s H E).xe := passes_of rfl
  exact (hCons (hIf (PW.pt (gAnd (gTEq hr.units (gB call_len lLen (by rfl) G.n_len (by decide +kernel) (gCons (gv 0) gNil)) gInt) (gAnd1 (gTEq hr.units (gIx (gv 0) gInt (by intro _ _; rfl)) gInt)))) (hOne (hRet (gLst (gCons gInt gNil)))) hNil) (hOne (hRet (gAdd (gLst (gCons gInt (gCons (gSub (gIx (gv 0) gInt (by intro _ _; rfl)) gInt) gNil))) (gSl (gv 0) (gPart gInt) gNoP)))))
theorem d_spread_from (G : Env P w K mg base a) (T_checked_flags : DefC P w K mg base "checked_flags" ["tree", "flags"] l_checked_flags [] (p_checked_flags K a)) (T_poly_product : DefC P w K mg base "poly_product" ["first", "second"] l_poly_product [] (p_poly_product K a)) (T_poly_sum : DefC P w K mg base "poly_sum" ["first", "second"] l_poly_sum [] (p_poly_sum K a)) (T_subtree_polynomial : DefC P w K mg base "subtree_polynomial" ["below"] l_subtree_polynomial [] (p_subtree_polynomial K a)) (T_Tree_len : MetC P w K mg base a.Tree "__len__" ["self"] l_Tree_len (p_Tree_len K a)) (T_Tree_top : ProC P w K mg base a.Tree "top" l_Tree_top (p_Tree_top K a)) {f : Addr} {cdv : Value} {A : Around} {outer : List PySem.Env} {s : Shared} {H : Hp} {E : XK} (hr : Room (l_spread_from - 1) (A.deeper (envOfC "spread_from" (defScope s_spread_from) s.heap.objs.size f cdv))) :
    PSs (cxOf (L2.CX P w) P w K mg base N_spread_from "spread_from" (defScope s_spread_from) f cdv A outer s H E) (defBody s_spread_from) (dS (fun c d _ H => E c d H) (r_spread_from K a)) := by
  have tk : Takes (cxOf (L2.CX P w) P w K mg base N_spread_from "spread_from" (defScope s_spread_from) f cdv A outer s H E) (fun c d _ H => E c d H) := takes_of rfl rfl rfl rfl
  have hp : PassesOwn (model P w) (cxOf (L2.CX P w) P w K mg base N_spread_from "spread_from" (defScope s_spread_from) f cdv A outer s H E).A (cxOf (L2.CX P w) P w K mg base N_spread_from "spread_from" (defScope s_spread_from) f cdv A outer s H E).env (cxOf (L2.CX P w) P w K mg base N_spread_from "spread_from" (defScope s_spread_from) f cdv A outer s H E).xe := passes_of rfl
  exact (hCons (hExpr (gCall1 c_checked_flags T_checked_flags hr (by decide) (by rfl) tk (gCons (gv 0) (gCons (gv 1) gNil)))) (hCons (hSet (i := 2) sc_spread_from.nd rfl (.inl rfl) gDctT) (hCons (hFor hp rfl (iR1 (by rfl) G.n_range (gCons (gLenO c_Tree_len T_Tree_len hr (by decide) (by rfl) G.n_len (gv 0)) gNil)) (ggName (i := 3) sc_spread_from.nd rfl (.inl rfl)) (hOne (hDPutT (hu_of hr) (gv 2) (gTup (gCons gStr (gCons (gv 3) gNil))) (gLst (gCons gInt gNil))))) (hCons (hForWK (b := true) hp rfl GL.lifts_cx hr G.o_Tree G.na_Tree_postorder G.w_Tree_false rfl (gv 0) pe_bl (ggName (i := 4) sc_spread_from.nd rfl (.inl rfl)) (hCons (hPar (i := 5) (j := 6) rfl sc_spread_from.nd rfl rfl (by decide) rfl rfl (gCons (gDGetT (hu_of hr) (gv 2) (gIx (gFldO G.o_Tree G.na_Tree_lefts (gv 0)) (gv 4) (by intro _ _; rfl))) (gCons (gDGetT (hu_of hr) (gv 2) (gIx (gFldO G.o_Tree G.na_Tree_rights (gv 0)) (gv 4) (by intro _ _; rfl))) gNil))) (hCons (hSet (i := 7) sc_spread_from.nd rfl (.inl rfl) (gCall1 c_poly_product T_poly_product hr (by decide) (by rfl) tk (gCons (gv 5) (gCons (gCall1 c_subtree_polynomial T_subtree_polynomial hr (by decide) (by rfl) tk (gCons (gv 6) gNil)) gNil)))) (hCons (hSet (i := 8) sc_spread_from.nd rfl (.inl rfl) (gCall1 c_poly_product T_poly_product hr (by decide) (by rfl) tk (gCons (gv 6) (gCons (gCall1 c_subtree_polynomial T_subtree_polynomial hr (by decide) (by rfl) tk (gCons (gv 5) gNil)) gNil)))) (hOne (hDPutT (hu_of hr) (gv 2) (gTup (gCons gStr (gCons (gv 4) gNil))) (gCall1 c_poly_sum T_poly_sum hr (by decide) (by rfl) tk (gCons (gv 7) (gCons (gv 8) gNil))))))))) (hOne (hRet (gCall1 c_subtree_polynomial T_subtree_polynomial hr (by decide) (by rfl) tk (gCons (gDGetT (hu_of hr) (gv 2) (gProO c_Tree_top G.o_Tree T_Tree_top hr (by decide) (gv 0))) gNil))))))))
theorem d_greatest_distance (G : Env P w K mg base a) (T_Tree_forks : ProC P w K mg base a.Tree "forks" l_Tree_forks (p_Tree_forks K a)) {f : Addr} {cdv : Value} {A : Around} {outer : List PySem.Env} {s : Shared} {H : Hp} {E : XK} (hr : Room (l_greatest_distance - 1) (A.deeper (envOfC "greatest_distance" (defScope s_greatest_distance) s.heap.objs.size f cdv))) :
    PSs (cxOf (L2.CX P w) P w K mg base N_greatest_distance "greatest_distance" (defScope s_greatest_distance) f cdv A outer s H E) (defBody s_greatest_distance) (dS (fun c d _ H => E c d H) (r_greatest_distance K a)) := by
  have tk : Takes (cxOf (L2.CX P w) P w K mg base N_greatest_distance "greatest_distance" (defScope s_greatest_distance) f cdv A outer s H E) (fun c d _ H => E c d H) := takes_of rfl rfl rfl rfl
  have hp : PassesOwn (model P w) (cxOf (L2.CX P w) P w K mg base N_greatest_distance "greatest_distance" (defScope s_greatest_distance) f cdv A outer s H E).A (cxOf (L2.CX P w) P w K mg base N_greatest_distance "greatest_distance" (defScope s_greatest_distance) f cdv A outer s H E).env (cxOf (L2.CX P w) P w K mg base N_greatest_distance "greatest_distance" (defScope s_greatest_distance) f cdv A outer s H E).xe := passes_of rfl
  exact (hOne (hRet (gB call_len lLen (by rfl) G.n_len (by decide +kernel) (gCons (gLc (own := [("fork", 1)]) rfl sc_greatest_distance.nd (iR1 (by rfl) G.n_range (gCons (gProO c_Tree_forks G.o_Tree T_Tree_forks hr (by decide) (gv 0)) gNil)) (blkOk_by (own := [("fork", 1)]) (N := N_greatest_distance) (sc := defScope s_greatest_distance) (by decide +kernel)) (fun _ _ _ _ _ => (ggName (i := 1) sc_greatest_distance.nd rfl (.inl rfl))) (fun _ _ _ _ _ => (gOneIf (gTIn gStr (gTup (gCons (gIx (gIx (gFldO G.o_Tree G.na_Tree_lefts (gv 0)) (gv 1) (by intro _ _; rfl)) gInt (by intro _ _; rfl)) (gCons (gIx (gIx (gFldO G.o_Tree G.na_Tree_rights (gv 0)) (gv 1) (by intro _ _; rfl)) gInt (by intro _ _; rfl)) gNil))) (by rfl)))) (fun _ _ _ _ _ => (gv 1))) gNil))))
theorem d_ends_fork (G : Env P w K mg base a)  {f : Addr} {cdv : Value} {A : Around} {outer : List PySem.Env} {s : Shared} {H : Hp} {E : XK} (hr : Room (l_ends_fork - 1) (A.deeper (envOfC "ends_fork" (defScope s_ends_fork) s.heap.objs.size f cdv))) :
    PSs (cxOf (L2.CX P w) P w K mg base N_ends_fork "ends_fork" (defScope s_ends_fork) f cdv A outer s H E) (defBody s_ends_fork) (dS (fun c d _ H => E c d H) (r_ends_fork K a)) := by
  have tk : Takes (cxOf (L2.CX P w) P w K mg base N_ends_fork "ends_fork" (defScope s_ends_fork) f cdv A outer s H E) (fun c d _ H => E c d H) := takes_of rfl rfl rfl rfl
  have hp : PassesOwn (model P w) (cxOf (L2.CX P w) P w K mg base N_ends_fork "ends_fork" (defScope s_ends_fork) f cdv A outer s H E).A (cxOf (L2.CX P w) P w K mg base N_ends_fork "ends_fork" (defScope s_ends_fork) f cdv A outer s H E).env (cxOf (L2.CX P w) P w K mg base N_ends_fork "ends_fork" (defScope s_ends_fork) f cdv A outer s H E).xe := passes_of rfl
  exact (hOne (hRet (gEq hr.units (gLc (own := [("node", 1)]) rfl sc_ends_fork.nd (iSeq (gSl (gv 0) (gPart (gNeg gInt)) gNoP)) (blkOk_by (own := [("node", 1)]) (N := N_ends_fork) (sc := defScope s_ends_fork) (by decide +kernel)) (fun _ _ _ _ _ => (ggName (i := 1) sc_ends_fork.nd rfl (.inl rfl))) (fun _ _ _ _ _ => gNoIf) (fun _ _ _ _ _ => (gEq hr.units (gIx (gv 1) gInt (by intro _ _; rfl)) gStr))) (gLst (gCons gBl (gCons gBl (gCons gBl gNil)))))))
theorem d_read_forks (G : Env P w K mg base a) (T_ends_fork : DefC P w K mg base "ends_fork" ["stack"] l_ends_fork [] (p_ends_fork K a)) {f : Addr} {cdv : Value} {A : Around} {outer : List PySem.Env} {s : Shared} {H : Hp} {E : XK} (hr : Room (l_read_forks - 1) (A.deeper (envOfC "read_forks" (defScope s_read_forks) s.heap.objs.size f cdv))) :
    PSs (cxOf (L2.CX P w) P w K mg base N_read_forks "read_forks" (defScope s_read_forks) f cdv A outer s H E) (defBody s_read_forks) (dS (fun c d _ H => E c d H) (r_read_forks K a)) := by
  have tk : Takes (cxOf (L2.CX P w) P w K mg base N_read_forks "read_forks" (defScope s_read_forks) f cdv A outer s H E) (fun c d _ H => E c d H) := takes_of rfl rfl rfl rfl
  have hp : PassesOwn (model P w) (cxOf (L2.CX P w) P w K mg base N_read_forks "read_forks" (defScope s_read_forks) f cdv A outer s H E).A (cxOf (L2.CX P w) P w K mg base N_read_forks "read_forks" (defScope s_read_forks) f cdv A outer s H E).env (cxOf (L2.CX P w) P w K mg base N_read_forks "read_forks" (defScope s_read_forks) f cdv A outer s H E).xe := passes_of rfl
  exact (hCons (hSet (i := 1) sc_read_forks.nd rfl (.inl rfl) (gLst gNil)) (hCons (hSet (i := 2) sc_read_forks.nd rfl (.inl rfl) (gLst gNil)) (hCons (hSet (i := 3) sc_read_forks.nd rfl (.inl rfl) gInt) (hCons (hFor hp rfl (iEnS (by rfl) G.n_enumerate (gCons (gv 0) gNil)) (ggTup rfl (ggCons (ggName (i := 4) sc_read_forks.nd rfl (.inl rfl)) (ggCons (ggName (i := 5) sc_read_forks.nd rfl (.inl rfl)) ggNil))) (hOne (hIf (gTEq hr.units (gv 5) gStr) (hOne (hExpr (gM PySem.F.plainAttrs_list PySem.F.slot_list_append PySem.F.type_list_append mt_append lAppend (gv 1) (gCons (gTup (gCons gStr (gCons gInt (gCons gInt (gCons gInt (gCons (gv 4) gNil)))))) gNil)))) (hOne (hIf (gTEq hr.units (gv 5) gStr) (hCons (hExpr (gM PySem.F.plainAttrs_list PySem.F.slot_list_append PySem.F.type_list_append mt_append lAppend (gv 1) (gCons (gTup (gCons gStr (gCons (gv 3) (gCons (gv 3) (gCons (gv 3) (gCons (gv 4) gNil)))))) gNil))) (hOne (hSet (i := 3) sc_read_forks.nd rfl (.inl rfl) (gAdd (gv 3) gInt)))) (hOne (hIf (PW.pt (gAnd (gTEq hr.units (gv 5) gStr) (gAnd1 (gTru (gCall1 c_ends_fork T_ends_fork hr (by decide) (by rfl) tk (gCons (gv 1) gNil)))))) (hCons (hSet (i := 6) sc_read_forks.nd rfl (.inl rfl) (gM0 PySem.F.plainAttrs_list PySem.F.slot_list_pop PySem.F.type_list_pop mt_pop lPop (gv 1))) (hCons (hSet (i := 7) sc_read_forks.nd rfl (.inl rfl) (gM0 PySem.F.plainAttrs_list PySem.F.slot_list_pop PySem.F.type_list_pop mt_pop lPop (gv 1))) (hCons (hAsg (gTup (gCons (gIx (gv 7) gInt (by intro _ _; rfl)) (gCons (gIx (gv 7) gInt (by intro _ _; rfl)) (gCons (gIx (gv 6) gInt (by intro _ _; rfl)) (gCons (gIx (gM0 PySem.F.plainAttrs_list PySem.F.slot_list_pop PySem.F.type_list_pop mt_pop lPop (gv 1)) gInt (by intro _ _; rfl)) gNil))))) (ggTup rfl (ggCons (ggName (i := 8) sc_read_forks.nd rfl (.inl rfl)) (ggCons (ggName (i := 9) sc_read_forks.nd rfl (.inl rfl)) (ggCons (ggName (i := 10) sc_read_forks.nd rfl (.inl rfl)) (ggCons (ggName (i := 11) sc_read_forks.nd rfl (.inl rfl)) ggNil)))))) (hCons (hExpr (gM PySem.F.plainAttrs_list PySem.F.slot_list_append PySem.F.type_list_append mt_append lAppend (gv 2) (gCons (gTup (gCons (gv 9) (gCons (gSl (gv 7) gNoP (gPart gInt)) (gCons (gSl (gv 6) gNoP (gPart gInt)) (gCons (gTup (gCons (gv 8) (gCons (gv 10) gNil))) (gCons (gTup (gCons (gv 11) (gCons (gAdd (gv 4) gInt) gNil))) gNil)))))) gNil))) (hOne (hExpr (gM PySem.F.plainAttrs_list PySem.F.slot_list_append PySem.F.type_list_append mt_append lAppend (gv 1) (gCons (gTup (gCons gStr (gCons (gv 9) (gCons (gv 8) (gCons (gv 10) (gCons (gv 11) gNil)))))) gNil)))))))) (hOne (hRet gNon))))))))) (hCons (hIf (PW.pt (gOr (gTNe hr.units (gB call_len lLen (by rfl) G.n_len (by decide +kernel) (gCons (gv 1) gNil)) gInt) (gOr1 (gTEq hr.units (gIx (gIx (gv 1) gInt (by intro _ _; rfl)) gInt (by intro _ _; rfl)) gStr)))) (hOne (hRet gNon)) hNil) (hOne (hRet (gv 2))))))))
theorem d_lay_ways (G : Env P w K mg base a)  {f : Addr} {cdv : Value} {A : Around} {outer : List PySem.Env} {s : Shared} {H : Hp} {E : XK} (hr : Room (l_lay_ways - 1) (A.deeper (envOfC "lay_ways" (defScope s_lay_ways) s.heap.objs.size f cdv))) :
    PSs (cxOf (L2.CX P w) P w K mg base N_lay_ways "lay_ways" (defScope s_lay_ways) f cdv A outer s H E) (defBody s_lay_ways) (dS (fun c d _ H => E c d H) (r_lay_ways K a)) := by
  have tk : Takes (cxOf (L2.CX P w) P w K mg base N_lay_ways "lay_ways" (defScope s_lay_ways) f cdv A outer s H E) (fun c d _ H => E c d H) := takes_of rfl rfl rfl rfl
  have hp : PassesOwn (model P w) (cxOf (L2.CX P w) P w K mg base N_lay_ways "lay_ways" (defScope s_lay_ways) f cdv A outer s H E).A (cxOf (L2.CX P w) P w K mg base N_lay_ways "lay_ways" (defScope s_lay_ways) f cdv A outer s H E).env (cxOf (L2.CX P w) P w K mg base N_lay_ways "lay_ways" (defScope s_lay_ways) f cdv A outer s H E).xe := passes_of rfl
  exact (hCons (hSet (i := 3) sc_lay_ways.nd rfl (.inl rfl) (gLst gNil)) (hCons (hSet (i := 4) sc_lay_ways.nd rfl (.inl rfl) (gLst gNil)) (hCons (hSet (i := 5) sc_lay_ways.nd rfl (.inl rfl) (gLst (gCons (gTup (gCons (gv 0) (gCons (gTup gNil) gNil))) gNil))) (hCons (hWhile hp (gTru (gv 5)) (hCons (hAsg (gM0 PySem.F.plainAttrs_list PySem.F.slot_list_pop PySem.F.type_list_pop mt_pop lPop (gv 5)) (ggTup rfl (ggCons (ggTup rfl (ggCons (ggName (i := 6) sc_lay_ways.nd rfl (.inl rfl)) (ggCons (ggName (i := 7) sc_lay_ways.nd rfl (.inl rfl)) ggNil))) (ggCons (ggName (i := 8) sc_lay_ways.nd rfl (.inl rfl)) ggNil)))) (hOne (hIf (gTEq hr.units (gv 6) gStr) (hOne (hExpr (gM PySem.F.plainAttrs_list PySem.F.slot_list_append PySem.F.type_list_append mt_append lAppend (gv 4) (gCons (gv 8) gNil)))) (hCons (hExpr (gM PySem.F.plainAttrs_list PySem.F.slot_list_append PySem.F.type_list_append mt_append lAppend (gv 3) (gCons (gv 7) gNil))) (hCons (hExpr (gM PySem.F.plainAttrs_list PySem.F.slot_list_append PySem.F.type_list_append mt_append lAppend (gv 5) (gCons (gTup (gCons (gIx (gv 2) (gv 7) (by intro _ _; rfl)) (gCons (gAddT (gv 8) (gTup (gCons (gTup (gCons (gv 7) (gCons gStr gNil))) gNil))) gNil))) gNil))) (hOne (hExpr (gM PySem.F.plainAttrs_list PySem.F.slot_list_append PySem.F.type_list_append mt_append lAppend (gv 5) (gCons (gTup (gCons (gIx (gv 1) (gv 7) (by intro _ _; rfl)) (gCons (gAddT (gv 8) (gTup (gCons (gTup (gCons (gv 7) (gCons gStr gNil))) gNil))) gNil))) gNil)))))))))) (hOne (hRet (gTup (gCons (gTuple (by rfl) G.n_tuple (gv 3)) (gCons (gTuple (by rfl) G.n_tuple (gv 4)) gNil)))))))))
theorem d_Tree_init (G : Env P w K mg base a) (T_lay_ways : DefC P w K mg base "lay_ways" ["root", "lefts", "rights"] l_lay_ways [] (p_lay_ways K a)) (T_read_forks : DefC P w K mg base "read_forks" ["text"] l_read_forks [] (p_read_forks K a)) {f : Addr} {cdv : Value} {A : Around} {outer : List PySem.Env} {s : Shared} {H : Hp} {E : XK} (hr : Room (l_Tree_init - 1) (A.deeper (envOfC "Tree.__init__" (defScope s_Tree_init) s.heap.objs.size f cdv))) :
    PSs (cxOf (L2.CX P w) P w K mg base N_Tree_init "Tree.__init__" (defScope s_Tree_init) f cdv A outer s H E) (defBody s_Tree_init) (dS (fun c d _ H => E c d H) (r_Tree_init K a)) := by
  have tk : Takes (cxOf (L2.CX P w) P w K mg base N_Tree_init "Tree.__init__" (defScope s_Tree_init) f cdv A outer s H E) (fun c d _ H => E c d H) := takes_of rfl rfl rfl rfl
  have hp : PassesOwn (model P w) (cxOf (L2.CX P w) P w K mg base N_Tree_init "Tree.__init__" (defScope s_Tree_init) f cdv A outer s H E).A (cxOf (L2.CX P w) P w K mg base N_Tree_init "Tree.__init__" (defScope s_Tree_init) f cdv A outer s H E).env (cxOf (L2.CX P w) P w K mg base N_Tree_init "Tree.__init__" (defScope s_Tree_init) f cdv A outer s H E).xe := passes_of rfl
  exact (hCons (hSet (i := 2) sc_Tree_init.nd rfl (.inl rfl) gNon) (hCut (hIf (PW.pt (gAnd (gTru (gIsi (by rfl) G.n_isinstance (gv 1) (by decide) (by rfl) G.n_str (by decide +kernel))) (gAnd1 (gTLe (gB call_len lLen (by rfl) G.n_len (by decide +kernel) (gCons (gv 1) gNil)) (gSub (gMul gInt (gConO G.o_Tree G.k_Tree_MOST (gv 0))) gInt))))) (hOne (hSet (i := 2) sc_Tree_init.nd rfl (.inl rfl) (gCall1 c_read_forks T_read_forks hr (by decide) (by rfl) tk (gCons (gv 1) gNil)))) hNil) (hCons (hIf (gTIsN (gv 2) gNon) (hOne (hRaise (k := 0) rfl tk G.e_InvalidTree (hr.mono (by decide)) (by rfl) (gv 1))) hNil) (hCons (hSet (i := 3) sc_Tree_init.nd rfl (.inl rfl) (gB cr_sortRow lSortRow (by rfl) G.n_sorted (by decide +kernel) (gCons (gv 2) gNil))) (hCons (hSetO G.o_Tree G.na_Tree_text (gv 0) (gv 1)) (hCons (hSetO G.o_Tree G.na_Tree_lefts (gv 0) (gTuple (by rfl) G.n_tuple (gLc (own := [("row", 4)]) rfl sc_Tree_init.nd (iSeq (gv 3)) (blkOk_by (own := [("row", 4)]) (N := N_Tree_init) (sc := defScope s_Tree_init) (by decide +kernel)) (fun _ _ _ _ _ => (ggName (i := 4) sc_Tree_init.nd rfl (.inl rfl))) (fun _ _ _ _ _ => gNoIf) (fun _ _ _ _ _ => (gIx (gv 4) gInt (by intro _ _; rfl)))))) (hCons (hSetO G.o_Tree G.na_Tree_rights (gv 0) (gTuple (by rfl) G.n_tuple (gLc (own := [("row", 4)]) rfl sc_Tree_init.nd (iSeq (gv 3)) (blkOk_by (own := [("row", 4)]) (N := N_Tree_init) (sc := defScope s_Tree_init) (by decide +kernel)) (fun _ _ _ _ _ => (ggName (i := 4) sc_Tree_init.nd rfl (.inl rfl))) (fun _ _ _ _ _ => gNoIf) (fun _ _ _ _ _ => (gIx (gv 4) gInt (by intro _ _; rfl)))))) (hCons (hSetO G.o_Tree G.na_Tree_spans (gv 0) (gTuple (by rfl) G.n_tuple (gLc (own := [("row", 4)]) rfl sc_Tree_init.nd (iSeq (gv 3)) (blkOk_by (own := [("row", 4)]) (N := N_Tree_init) (sc := defScope s_Tree_init) (by decide +kernel)) (fun _ _ _ _ _ => (ggName (i := 4) sc_Tree_init.nd rfl (.inl rfl))) (fun _ _ _ _ _ => gNoIf) (fun _ _ _ _ _ => (gIx (gv 4) gInt (by intro _ _; rfl)))))) (hCons (hSetO G.o_Tree G.na_Tree_bounds (gv 0) (gTuple (by rfl) G.n_tuple (gLc (own := [("row", 4)]) rfl sc_Tree_init.nd (iSeq (gv 3)) (blkOk_by (own := [("row", 4)]) (N := N_Tree_init) (sc := defScope s_Tree_init) (by decide +kernel)) (fun _ _ _ _ _ => (ggName (i := 4) sc_Tree_init.nd rfl (.inl rfl))) (fun _ _ _ _ _ => gNoIf) (fun _ _ _ _ _ => (gIx (gv 4) gInt (by intro _ _; rfl)))))) (hCons (hSetO G.o_Tree G.na_Tree_postorder (gv 0) (gTuple (by rfl) G.n_tuple (gLc (own := [("row", 4)]) rfl sc_Tree_init.nd (iSeq (gv 2)) (blkOk_by (own := [("row", 4)]) (N := N_Tree_init) (sc := defScope s_Tree_init) (by decide +kernel)) (fun _ _ _ _ _ => (ggName (i := 4) sc_Tree_init.nd rfl (.inl rfl))) (fun _ _ _ _ _ => gNoIf) (fun _ _ _ _ _ => (gIx (gv 4) gInt (by intro _ _; rfl)))))) (hCons (hSetO G.o_Tree G.na_Tree_root (gv 0) (gIfE (gTru (gv 2)) (gTup (gCons gStr (gCons (gIx (gIx (gv 2) (gNeg gInt) (by intro _ _; rfl)) gInt (by intro _ _; rfl)) gNil))) (gTup (gCons gStr (gCons gInt gNil))))) (hOne (hAsg (gCall1 c_lay_ways T_lay_ways hr (by decide) (by rfl) tk (gCons (gFldO G.o_Tree G.na_Tree_root (gv 0)) (gCons (gFldO G.o_Tree G.na_Tree_lefts (gv 0)) (gCons (gFldO G.o_Tree G.na_Tree_rights (gv 0)) gNil)))) (ggTup rfl (ggCons (ggFld G.o_Tree G.na_Tree_preorder (gv 0)) (ggCons (ggFld G.o_Tree G.na_Tree_ways (gv 0)) ggNil))))))))))))))))
theorem d_Tree_len (G : Env P w K mg base a)  {f : Addr} {cdv : Value} {A : Around} {outer : List PySem.Env} {s : Shared} {H : Hp} {E : XK} (hr : Room (l_Tree_len - 1) (A.deeper (envOfC "Tree.__len__" (defScope s_Tree_len) s.heap.objs.size f cdv))) :
    PSs (cxOf (L2.CX P w) P w K mg base N_Tree_len "Tree.__len__" (defScope s_Tree_len) f cdv A outer s H E) (defBody s_Tree_len) (dS (fun c d _ H => E c d H) (r_Tree_len K a)) := by
  have tk : Takes (cxOf (L2.CX P w) P w K mg base N_Tree_len "Tree.__len__" (defScope s_Tree_len) f cdv A outer s H E) (fun c d _ H => E c d H) := takes_of rfl rfl rfl rfl
  have hp : PassesOwn (model P w) (cxOf (L2.CX P w) P w K mg base N_Tree_len "Tree.__len__" (defScope s_Tree_len) f cdv A outer s H E).A (cxOf (L2.CX P w) P w K mg base N_Tree_len "Tree.__len__" (defScope s_Tree_len) f cdv A outer s H E).env (cxOf (L2.CX P w) P w K mg base N_Tree_len "Tree.__len__" (defScope s_Tree_len) f cdv A outer s H E).xe := passes_of rfl
  exact (hOne (hRet (gB call_len lLen (by rfl) G.n_len (by decide +kernel) (gCons (gFldO G.o_Tree G.na_Tree_ways (gv 0)) gNil))))
theorem d_Tree_forks (G : Env P w K mg base a)  {f : Addr} {cdv : Value} {A : Around} {outer : List PySem.Env} {s : Shared} {H : Hp} {E : XK} (hr : Room (l_Tree_forks - 1) (A.deeper (envOfC "Tree.forks" (defScope s_Tree_forks) s.heap.objs.size f cdv))) :
    PSs (cxOf (L2.CX P w) P w K mg base N_Tree_forks "Tree.forks" (defScope s_Tree_forks) f cdv A outer s H E) (defBody s_Tree_forks) (dS (fun c d _ H => E c d H) (r_Tree_forks K a)) := by
  have tk : Takes (cxOf (L2.CX P w) P w K mg base N_Tree_forks "Tree.forks" (defScope s_Tree_forks) f cdv A outer s H E) (fun c d _ H => E c d H) := takes_of rfl rfl rfl rfl
  have hp : PassesOwn (model P w) (cxOf (L2.CX P w) P w K mg base N_Tree_forks "Tree.forks" (defScope s_Tree_forks) f cdv A outer s H E).A (cxOf (L2.CX P w) P w K mg base N_Tree_forks "Tree.forks" (defScope s_Tree_forks) f cdv A outer s H E).env (cxOf (L2.CX P w) P w K mg base N_Tree_forks "Tree.forks" (defScope s_Tree_forks) f cdv A outer s H E).xe := passes_of rfl
  exact (hOne (hRet (gB call_len lLen (by rfl) G.n_len (by decide +kernel) (gCons (gFldO G.o_Tree G.na_Tree_spans (gv 0)) gNil))))
theorem d_Tree_top (G : Env P w K mg base a)  {f : Addr} {cdv : Value} {A : Around} {outer : List PySem.Env} {s : Shared} {H : Hp} {E : XK} (hr : Room (l_Tree_top - 1) (A.deeper (envOfC "Tree.top" (defScope s_Tree_top) s.heap.objs.size f cdv))) :
    PSs (cxOf (L2.CX P w) P w K mg base N_Tree_top "Tree.top" (defScope s_Tree_top) f cdv A outer s H E) (defBody s_Tree_top) (dS (fun c d _ H => E c d H) (r_Tree_top K a)) := by
  have tk : Takes (cxOf (L2.CX P w) P w K mg base N_Tree_top "Tree.top" (defScope s_Tree_top) f cdv A outer s H E) (fun c d _ H => E c d H) := takes_of rfl rfl rfl rfl
  have hp : PassesOwn (model P w) (cxOf (L2.CX P w) P w K mg base N_Tree_top "Tree.top" (defScope s_Tree_top) f cdv A outer s H E).A (cxOf (L2.CX P w) P w K mg base N_Tree_top "Tree.top" (defScope s_Tree_top) f cdv A outer s H E).env (cxOf (L2.CX P w) P w K mg base N_Tree_top "Tree.top" (defScope s_Tree_top) f cdv A outer s H E).xe := passes_of rfl
  exact (hOne (hRet (gFldO G.o_Tree G.na_Tree_root (gv 0))))
theorem d_l_is_integer (G : Env P w K mg base a)  {f : Addr} {cdv : Value} {A : Around} {outer : List PySem.Env} {s : Shared} {H : Hp} {E : XK} (hr : Room (l_l_is_integer - 1) (A.deeper (envOfC "_law_is_integer" (defScope s_l_is_integer) s.heap.objs.size f cdv))) :
    PSs (cxOf (L2.CX P w) P w K mg base N_l_is_integer "_law_is_integer" (defScope s_l_is_integer) f cdv A outer s H E) (defBody s_l_is_integer) (dS (fun c d _ H => E c d H) (r_l_is_integer K a)) := by
  have tk : Takes (cxOf (L2.CX P w) P w K mg base N_l_is_integer "_law_is_integer" (defScope s_l_is_integer) f cdv A outer s H E) (fun c d _ H => E c d H) := takes_of rfl rfl rfl rfl
  have hp : PassesOwn (model P w) (cxOf (L2.CX P w) P w K mg base N_l_is_integer "_law_is_integer" (defScope s_l_is_integer) f cdv A outer s H E).A (cxOf (L2.CX P w) P w K mg base N_l_is_integer "_law_is_integer" (defScope s_l_is_integer) f cdv A outer s H E).env (cxOf (L2.CX P w) P w K mg base N_l_is_integer "_law_is_integer" (defScope s_l_is_integer) f cdv A outer s H E).xe := passes_of rfl
  exact (hOne (hRet (gAndV (gIsi (by rfl) G.n_isinstance (gv 0) (by decide) (by rfl) G.n_int (by decide +kernel)) (gOneV (gNotV (gIsi (by rfl) G.n_isinstance (gv 0) (by decide) (by rfl) G.n_bool (by decide +kernel)))))))
theorem d_l_same (G : Env P w K mg base a) (T_l_is_integer : DefC P w K mg base "_law_is_integer" ["_law_told"] l_l_is_integer [] (p_l_is_integer K a)) {f : Addr} {cdv : Value} {A : Around} {outer : List PySem.Env} {s : Shared} {H : Hp} {E : XK} (hr : Room (l_l_same - 1) (A.deeper (envOfC "_law_same" (defScope s_l_same) s.heap.objs.size f cdv))) :
    PSs (cxOf (L2.CX P w) P w K mg base N_l_same "_law_same" (defScope s_l_same) f cdv A outer s H E) (defBody s_l_same) (dS (fun c d _ H => E c d H) (r_l_same K a)) := by
  have tk : Takes (cxOf (L2.CX P w) P w K mg base N_l_same "_law_same" (defScope s_l_same) f cdv A outer s H E) (fun c d _ H => E c d H) := takes_of rfl rfl rfl rfl
  have hp : PassesOwn (model P w) (cxOf (L2.CX P w) P w K mg base N_l_same "_law_same" (defScope s_l_same) f cdv A outer s H E).A (cxOf (L2.CX P w) P w K mg base N_l_same "_law_same" (defScope s_l_same) f cdv A outer s H E).env (cxOf (L2.CX P w) P w K mg base N_l_same "_law_same" (defScope s_l_same) f cdv A outer s H E).xe := passes_of rfl
  exact (hCons (hIf (PW.pt (gOr (gTNot (gTru (gIsi (by rfl) G.n_isinstance (gv 0) (by decide) (by rfl) G.n_list (by decide +kernel)))) (gOr1 (gTNe hr.units (gB call_len lLen (by rfl) G.n_len (by decide +kernel) (gCons (gv 0) gNil)) (gB call_len lLen (by rfl) G.n_len (by decide +kernel) (gCons (gv 1) gNil)))))) (hOne (hRet gBl)) hNil) (hCons (hFor hp rfl (iR1 (by rfl) G.n_range (gCons (gB call_len lLen (by rfl) G.n_len (by decide +kernel) (gCons (gv 1) gNil)) gNil)) (ggName (i := 2) sc_l_same.nd rfl (.inl rfl)) (hOne (hIf (PW.pt (gOr (gTNot (gTru (gCall1 c_l_is_integer T_l_is_integer hr (by decide) (by rfl) tk (gCons (gIx (gv 0) (gv 2) (by intro _ _; rfl)) gNil)))) (gOr1 (gTNe hr.units (gIx (gv 0) (gv 2) (by intro _ _; rfl)) (gIx (gv 1) (gv 2) (by intro _ _; rfl)))))) (hOne (hRet gBl)) hNil))) (hOne (hRet gBl))))
theorem d_l_box (G : Env P w K mg base a)  {f : Addr} {cdv : Value} {A : Around} {outer : List PySem.Env} {s : Shared} {H : Hp} {E : XK} (hr : Room (l_l_box - 1) (A.deeper (envOfC "_law_box" (defScope s_l_box) s.heap.objs.size f cdv))) :
    PSs (cxOf (L2.CX P w) P w K mg base N_l_box "_law_box" (defScope s_l_box) f cdv A outer s H E) (defBody s_l_box) (dS (fun c d _ H => E c d H) (r_l_box K a)) := by
  have tk : Takes (cxOf (L2.CX P w) P w K mg base N_l_box "_law_box" (defScope s_l_box) f cdv A outer s H E) (fun c d _ H => E c d H) := takes_of rfl rfl rfl rfl
  have hp : PassesOwn (model P w) (cxOf (L2.CX P w) P w K mg base N_l_box "_law_box" (defScope s_l_box) f cdv A outer s H E).A (cxOf (L2.CX P w) P w K mg base N_l_box "_law_box" (defScope s_l_box) f cdv A outer s H E).env (cxOf (L2.CX P w) P w K mg base N_l_box "_law_box" (defScope s_l_box) f cdv A outer s H E).xe := passes_of rfl
  exact (hCons (hSetLc (i := 1) (own := [("_law_cell", 3)]) rfl sc_l_box.nd rfl rfl (sw_true rfl rfl rfl (by decide +kernel)) (iSeq (gSl (gv 0) gNoP (gPart gInt))) (blkOk_by (own := [("_law_cell", 3)]) (N := N_l_box) (sc := defScope s_l_box) (by decide +kernel)) (fun _ _ _ _ _ => (ggName (i := 3) sc_l_box.nd rfl (.inl rfl))) (fun _ _ _ _ _ => gNoIf) (fun _ _ _ _ _ => (gTy call_int1 lInt (by rfl) G.n_int (by decide +kernel) (gCons (gv 3) gNil)))) (hCons (hSetLc (i := 2) (own := [("_law_cell", 3)]) rfl sc_l_box.nd rfl rfl (sw_true rfl rfl rfl (by decide +kernel)) (iSeq (gv 1)) (blkOk_by (own := [("_law_cell", 3)]) (N := N_l_box) (sc := defScope s_l_box) (by decide +kernel)) (fun _ _ _ _ _ => (ggName (i := 3) sc_l_box.nd rfl (.inl rfl))) (fun _ _ _ _ _ => gNoIf) (fun _ _ _ _ _ => (gMod (gTy call_int1 lInt (by rfl) G.n_int (by decide +kernel) (gCons (gv 3) gNil)) gInt))) (hCut (hIf (gTNot (gTru (gv 2))) (hOne (hSet (i := 2) sc_l_box.nd rfl (.inl rfl) (gLst (gCons gInt gNil)))) hNil) (hOne (hRet (gLst (gCons (gLc (own := [("_law_cell", 3)]) rfl sc_l_box.nd (iSeq (gv 1)) (blkOk_by (own := [("_law_cell", 3)]) (N := N_l_box) (sc := defScope s_l_box) (by decide +kernel)) (fun _ _ _ _ _ => (ggName (i := 3) sc_l_box.nd rfl (.inl rfl))) (fun _ _ _ _ _ => (gOneIf (gTGe (gv 3) (gPow gInt gInt)))) (fun _ _ _ _ _ => (gv 3))) (gCons (gv 2) (gCons gInt gNil)))))))))
theorem d_l_take (G : Env P w K mg base a)  {f : Addr} {cdv : Value} {A : Around} {outer : List PySem.Env} {s : Shared} {H : Hp} {E : XK} (hr : Room (l_l_take - 1) (A.deeper (envOfC "_law_take" (defScope s_l_take) s.heap.objs.size f cdv))) :
    PSs (cxOf (L2.CX P w) P w K mg base N_l_take "_law_take" (defScope s_l_take) f cdv A outer s H E) (defBody s_l_take) (dS (fun c d _ H => E c d H) (r_l_take K a)) := by
  have tk : Takes (cxOf (L2.CX P w) P w K mg base N_l_take "_law_take" (defScope s_l_take) f cdv A outer s H E) (fun c d _ H => E c d H) := takes_of rfl rfl rfl rfl
  have hp : PassesOwn (model P w) (cxOf (L2.CX P w) P w K mg base N_l_take "_law_take" (defScope s_l_take) f cdv A outer s H E).A (cxOf (L2.CX P w) P w K mg base N_l_take "_law_take" (defScope s_l_take) f cdv A outer s H E).env (cxOf (L2.CX P w) P w K mg base N_l_take "_law_take" (defScope s_l_take) f cdv A outer s H E).xe := passes_of rfl
  exact (hCons (hIf (gTLt (gv 1) gInt) (hOne (hRet gInt)) hNil) (hCons (hSet (i := 2) sc_l_take.nd rfl (.inl rfl) (gIx (gv 0) gInt (by intro _ _; rfl))) (hCons (hIf (gTru (gv 2)) (hCons (hSet (i := 3) sc_l_take.nd rfl (.inl rfl) (gIx (gv 2) gInt (by intro _ _; rfl))) (hCut (hIf (gTLt (gFdv (gv 3) (gv 1)) gInt) (hOne (hAsg (gSl (gv 2) (gPart gInt) gNoP) (ggSub (gv 0) gInt))) (hOne (hAsg (gFdv (gv 3) (gv 1)) (ggSub (gv 2) gInt)))) (hOne (hRet (gMod (gTy call_int1 lInt (by rfl) G.n_int (by decide +kernel) (gCons (gv 3) gNil)) (gv 1)))))) hNil) (hCons (hSet (i := 4) sc_l_take.nd rfl (.inl rfl) (gIx (gv 0) gInt (by intro _ _; rfl))) (hCons (hAsg (gAdd (gv 4) gInt) (ggSub (gv 0) gInt)) (hCons (hSet (i := 5) sc_l_take.nd rfl (.inl rfl) (gIx (gv 0) gInt (by intro _ _; rfl))) (hCons (hSet (i := 6) sc_l_take.nd rfl (.inl rfl) (gIx (gv 5) (gMod (gTy call_int1 lInt (by rfl) G.n_int (by decide +kernel) (gCons (gv 4) gNil)) (gB call_len lLen (by rfl) G.n_len (by decide +kernel) (gCons (gv 5) gNil))) (by intro _ _; rfl))) (hCons (hSet (i := 7) sc_l_take.nd rfl (.inl rfl) (gMod (gTy call_int1 lInt (by rfl) G.n_int (by decide +kernel) (gCons (gAdd (gAdd (gMul (gv 6) gInt) (gMul (gv 4) gInt)) gInt) gNil)) gInt)) (hCons (hSet (i := 8) sc_l_take.nd rfl (.inl rfl) (gMod (gTy call_int1 lInt (by rfl) G.n_int (by decide +kernel) (gCons (gAdd (gAdd (gAdd (gMul (gv 7) (gv 7)) (gMul (gv 6) gInt)) (gMul (gv 4) gInt)) gInt) gNil)) gInt)) (hCons (hSet (i := 9) sc_l_take.nd rfl (.inl rfl) (gMod (gTy call_int1 lInt (by rfl) G.n_int (by decide +kernel) (gCons (gAdd (gAdd (gMul (gv 8) (gv 8)) (gMul (gv 7) gInt)) (gv 4)) gNil)) gInt)) (hOne (hRet (gMod (gFdv (gTy call_int1 lInt (by rfl) G.n_int (by decide +kernel) (gCons (gv 9) gNil)) gInt) (gv 1))))))))))))))
theorem d_l_join (G : Env P w K mg base a) (T_l_take : DefC P w K mg base "_law_take" ["_law_box_here", "_law_size"] l_l_take [] (p_l_take K a)) {f : Addr} {cdv : Value} {A : Around} {outer : List PySem.Env} {s : Shared} {H : Hp} {E : XK} (hr : Room (l_l_join - 1) (A.deeper (envOfC "_law_join" (defScope s_l_join) s.heap.objs.size f cdv))) :
    PSs (cxOf (L2.CX P w) P w K mg base N_l_join "_law_join" (defScope s_l_join) f cdv A outer s H E) (defBody s_l_join) (dS (fun c d _ H => E c d H) (r_l_join K a)) := by
  have tk : Takes (cxOf (L2.CX P w) P w K mg base N_l_join "_law_join" (defScope s_l_join) f cdv A outer s H E) (fun c d _ H => E c d H) := takes_of rfl rfl rfl rfl
  have hp : PassesOwn (model P w) (cxOf (L2.CX P w) P w K mg base N_l_join "_law_join" (defScope s_l_join) f cdv A outer s H E).A (cxOf (L2.CX P w) P w K mg base N_l_join "_law_join" (defScope s_l_join) f cdv A outer s H E).env (cxOf (L2.CX P w) P w K mg base N_l_join "_law_join" (defScope s_l_join) f cdv A outer s H E).xe := passes_of rfl
  exact (hCons (hIf (gTEq hr.units (gv 1) gInt) (hOne (hRet (gSub (gv 2) gInt))) hNil) (hCons (hIf (gTEq hr.units (gv 1) gInt) (hOne (hRet gInt)) hNil) (hCons (hIf (gTEq hr.units (gv 1) gInt) (hCons (hSet (i := 3) sc_l_join.nd rfl (.inl rfl) gInt) (hCons (hFor hp rfl (iR1 (by rfl) G.n_range (gCons gInt gNil)) (ggName (i := 4) sc_l_join.nd rfl (.inl rfl)) (hOne (hIf (gTLt (gv 3) (gAdd (gv 2) gInt)) (hOne (hSet (i := 3) sc_l_join.nd rfl (.inl rfl) (gMul (gv 3) gInt))) hNil))) (hOne (hRet (gSub (gSub (gv 3) (gv 2)) gInt))))) hNil) (hOne (hRet (gCall1 c_l_take T_l_take hr (by decide) (by rfl) tk (gCons (gv 0) (gCons (gv 2) gNil))))))))
theorem d_l_tree (G : Env P w K mg base a) (T_l_join : DefC P w K mg base "_law_join" ["_law_box_here", "_law_lean", "_law_room"] l_l_join [] (p_l_join K a)) (T_l_take : DefC P w K mg base "_law_take" ["_law_box_here", "_law_size"] l_l_take [] (p_l_take K a)) {f : Addr} {cdv : Value} {A : Around} {outer : List PySem.Env} {s : Shared} {H : Hp} {E : XK} (hr : Room (l_l_tree - 1) (A.deeper (envOfC "_law_tree" (defScope s_l_tree) s.heap.objs.size f cdv))) :
    PSs (cxOf (L2.CX P w) P w K mg base N_l_tree "_law_tree" (defScope s_l_tree) f cdv A outer s H E) (defBody s_l_tree) (dS (fun c d _ H => E c d H) (r_l_tree K a)) := by
  have tk : Takes (cxOf (L2.CX P w) P w K mg base N_l_tree "_law_tree" (defScope s_l_tree) f cdv A outer s H E) (fun c d _ H => E c d H) := takes_of rfl rfl rfl rfl
  have hp : PassesOwn (model P w) (cxOf (L2.CX P w) P w K mg base N_l_tree "_law_tree" (defScope s_l_tree) f cdv A outer s H E).A (cxOf (L2.CX P w) P w K mg base N_l_tree "_law_tree" (defScope s_l_tree) f cdv A outer s H E).env (cxOf (L2.CX P w) P w K mg base N_l_tree "_law_tree" (defScope s_l_tree) f cdv A outer s H E).xe := passes_of rfl
  exact (hCons (hSet (i := 2) sc_l_tree.nd rfl (.inl rfl) (gCall1 c_l_take T_l_take hr (by decide) (by rfl) tk (gCons (gv 0) (gCons gInt gNil)))) (hCons (hSetLc (i := 3) (own := [("_law_k", 9)]) rfl sc_l_tree.nd rfl rfl (sw_true rfl rfl rfl (by decide +kernel)) (iR1 (by rfl) G.n_range (gCons (gv 1) gNil)) (blkOk_by (own := [("_law_k", 9)]) (N := N_l_tree) (sc := defScope s_l_tree) (by decide +kernel)) (fun _ _ _ _ _ => (ggName (i := 9) sc_l_tree.nd rfl (.inl rfl))) (fun _ _ _ _ _ => gNoIf) (fun _ _ _ _ _ => (gLst (gCons gStr (gCons (gv 9) (gCons (gv 9) gNil)))))) (hCons (hSetLc (i := 4) (own := [("_law_k", 9)]) rfl sc_l_tree.nd rfl rfl (sw_true rfl rfl rfl (by decide +kernel)) (iR1 (by rfl) G.n_range (gCons (gv 1) gNil)) (blkOk_by (own := [("_law_k", 9)]) (N := N_l_tree) (sc := defScope s_l_tree) (by decide +kernel)) (fun _ _ _ _ _ => (ggName (i := 9) sc_l_tree.nd rfl (.inl rfl))) (fun _ _ _ _ _ => gNoIf) (fun _ _ _ _ _ => (gLst gNil))) (hCons (hFor hp rfl (iR1 (by rfl) G.n_range (gCons (gSub (gv 1) gInt) gNil)) (ggName (i := 5) sc_l_tree.nd rfl (.inl rfl)) (hCons (hSet (i := 6) sc_l_tree.nd rfl (.inl rfl) (gCall1 c_l_join T_l_join hr (by decide) (by rfl) tk (gCons (gv 0) (gCons (gv 2) (gCons (gSub (gB call_len lLen (by rfl) G.n_len (by decide +kernel) (gCons (gv 3) gNil)) gInt) gNil))))) (hCons (hSet (i := 7) sc_l_tree.nd rfl (.inl rfl) (gIx (gv 3) (gv 6) (by intro _ _; rfl))) (hCons (hSet (i := 8) sc_l_tree.nd rfl (.inl rfl) (gIx (gv 3) (gAdd (gv 6) gInt) (by intro _ _; rfl))) (hCons (hFor hp rfl (iR2 (by rfl) G.n_range (gCons (gIx (gv 7) gInt (by intro _ _; rfl)) (gCons (gAdd (gIx (gv 8) gInt (by intro _ _; rfl)) gInt) gNil))) (ggName (i := 9) sc_l_tree.nd rfl (.inl rfl)) (hOne (hAsg (gAdd (gLst (gCons (gTup (gCons (gIx (gv 7) gInt (by intro _ _; rfl)) (gCons (gIx gStr (gTy call_int1 lInt (by rfl) G.n_int (by decide +kernel) (gCons (gGt (gv 9) (gIx (gv 7) gInt (by intro _ _; rfl))) gNil)) (by intro _ _; rfl)) gNil))) gNil)) (gIx (gv 4) (gv 9) (by intro _ _; rfl))) (ggSub (gv 4) (gv 9))))) (hOne (hSet (i := 3) sc_l_tree.nd rfl (.inl rfl) (gAdd (gAdd (gSl (gv 3) gNoP (gPart (gv 6))) (gLst (gCons (gLst (gCons (gAdd (gAdd (gAdd gStr (gIx (gv 7) gInt (by intro _ _; rfl))) (gIx (gv 8) gInt (by intro _ _; rfl))) gStr) (gCons (gIx (gv 7) gInt (by intro _ _; rfl)) (gCons (gIx (gv 8) gInt (by intro _ _; rfl)) gNil)))) gNil))) (gSl (gv 3) (gPart (gAdd (gv 6) gInt)) gNoP))))))))) (hOne (hRet (gTup (gCons (gIx (gIx (gv 3) gInt (by intro _ _; rfl)) gInt (by intro _ _; rfl)) (gCons (gv 4) gNil)))))))))
theorem d_l_flags (G : Env P w K mg base a) (T_l_take : DefC P w K mg base "_law_take" ["_law_box_here", "_law_size"] l_l_take [] (p_l_take K a)) {f : Addr} {cdv : Value} {A : Around} {outer : List PySem.Env} {s : Shared} {H : Hp} {E : XK} (hr : Room (l_l_flags - 1) (A.deeper (envOfC "_law_flags" (defScope s_l_flags) s.heap.objs.size f cdv))) :
    PSs (cxOf (L2.CX P w) P w K mg base N_l_flags "_law_flags" (defScope s_l_flags) f cdv A outer s H E) (defBody s_l_flags) (dS (fun c d _ H => E c d H) (r_l_flags K a)) := by
  have tk : Takes (cxOf (L2.CX P w) P w K mg base N_l_flags "_law_flags" (defScope s_l_flags) f cdv A outer s H E) (fun c d _ H => E c d H) := takes_of rfl rfl rfl rfl
  have hp : PassesOwn (model P w) (cxOf (L2.CX P w) P w K mg base N_l_flags "_law_flags" (defScope s_l_flags) f cdv A outer s H E).A (cxOf (L2.CX P w) P w K mg base N_l_flags "_law_flags" (defScope s_l_flags) f cdv A outer s H E).env (cxOf (L2.CX P w) P w K mg base N_l_flags "_law_flags" (defScope s_l_flags) f cdv A outer s H E).xe := passes_of rfl
  exact (hCons (hSet (i := 2) sc_l_flags.nd rfl (.inl rfl) (gCall1 c_l_take T_l_take hr (by decide) (by rfl) tk (gCons (gv 0) (gCons gInt gNil)))) (hCons (hIf (gTLt (gv 2) gInt) (hOne (hRet (gMulS (gIx gStr (gv 2) (by intro _ _; rfl)) (gv 1)))) hNil) (hOne (hRet (gM PySem.F.plainAttrs_str PySem.F.slot_str_join PySem.F.type_str_join mt_join lJoin gStr (gCons (gLc (own := [("_law_k", 3)]) rfl sc_l_flags.nd (iR1 (by rfl) G.n_range (gCons (gv 1) gNil)) (blkOk_by (own := [("_law_k", 3)]) (N := N_l_flags) (sc := defScope s_l_flags) (by decide +kernel)) (fun _ _ _ _ _ => (ggName (i := 3) sc_l_flags.nd rfl (.inl rfl))) (fun _ _ _ _ _ => gNoIf) (fun _ _ _ _ _ => (gIx gStr (gCall1 c_l_take T_l_take hr (by decide) (by rfl) takes0 (gCons (gv 0) (gCons gInt gNil))) (by intro _ _; rfl)))) gNil))))))
theorem d_l_slots (G : Env P w K mg base a) (T_l_take : DefC P w K mg base "_law_take" ["_law_box_here", "_law_size"] l_l_take [] (p_l_take K a)) {f : Addr} {cdv : Value} {A : Around} {outer : List PySem.Env} {s : Shared} {H : Hp} {E : XK} (hr : Room (l_l_slots - 1) (A.deeper (envOfC "_law_slots" (defScope s_l_slots) s.heap.objs.size f cdv))) :
    PSs (cxOf (L2.CX P w) P w K mg base N_l_slots "_law_slots" (defScope s_l_slots) f cdv A outer s H E) (defBody s_l_slots) (dS (fun c d _ H => E c d H) (r_l_slots K a)) := by
  have tk : Takes (cxOf (L2.CX P w) P w K mg base N_l_slots "_law_slots" (defScope s_l_slots) f cdv A outer s H E) (fun c d _ H => E c d H) := takes_of rfl rfl rfl rfl
  have hp : PassesOwn (model P w) (cxOf (L2.CX P w) P w K mg base N_l_slots "_law_slots" (defScope s_l_slots) f cdv A outer s H E).A (cxOf (L2.CX P w) P w K mg base N_l_slots "_law_slots" (defScope s_l_slots) f cdv A outer s H E).env (cxOf (L2.CX P w) P w K mg base N_l_slots "_law_slots" (defScope s_l_slots) f cdv A outer s H E).xe := passes_of rfl
  exact (hCons (hSet (i := 1) sc_l_slots.nd rfl (.inl rfl) (gCall1 c_l_take T_l_take hr (by decide) (by rfl) tk (gCons (gv 0) (gCons gInt gNil)))) (hCons (hIf (gTEq hr.units (gv 1) gInt) (hOne (hRet gInt)) hNil) (hCons (hIf (gTEq hr.units (gv 1) gInt) (hOne (hRet gInt)) hNil) (hCons (hIf (gTLt (gv 1) gInt) (hOne (hRet (gAdd gInt (gCall1 c_l_take T_l_take hr (by decide) (by rfl) tk (gCons (gv 0) (gCons gInt gNil)))))) hNil) (hOne (hRet (gSub gInt (gCall1 c_l_take T_l_take hr (by decide) (by rfl) tk (gCons (gv 0) (gCons gInt gNil))))))))))
theorem d_l_bent (G : Env P w K mg base a) (T_l_take : DefC P w K mg base "_law_take" ["_law_box_here", "_law_size"] l_l_take [] (p_l_take K a)) {f : Addr} {cdv : Value} {A : Around} {outer : List PySem.Env} {s : Shared} {H : Hp} {E : XK} (hr : Room (l_l_bent - 1) (A.deeper (envOfC "_law_bent" (defScope s_l_bent) s.heap.objs.size f cdv))) :
    PSs (cxOf (L2.CX P w) P w K mg base N_l_bent "_law_bent" (defScope s_l_bent) f cdv A outer s H E) (defBody s_l_bent) (dS (fun c d _ H => E c d H) (r_l_bent K a)) := by
  have tk : Takes (cxOf (L2.CX P w) P w K mg base N_l_bent "_law_bent" (defScope s_l_bent) f cdv A outer s H E) (fun c d _ H => E c d H) := takes_of rfl rfl rfl rfl
  have hp : PassesOwn (model P w) (cxOf (L2.CX P w) P w K mg base N_l_bent "_law_bent" (defScope s_l_bent) f cdv A outer s H E).A (cxOf (L2.CX P w) P w K mg base N_l_bent "_law_bent" (defScope s_l_bent) f cdv A outer s H E).env (cxOf (L2.CX P w) P w K mg base N_l_bent "_law_bent" (defScope s_l_bent) f cdv A outer s H E).xe := passes_of rfl
  exact (hCons (hSet (i := 3) sc_l_bent.nd rfl (.inl rfl) (gCall1 c_l_take T_l_take hr (by decide) (by rfl) tk (gCons (gv 0) (gCons gInt gNil)))) (hCons (hSet (i := 4) sc_l_bent.nd rfl (.inl rfl) (gCall1 c_l_take T_l_take hr (by decide) (by rfl) tk (gCons (gv 0) (gCons (gB call_len lLen (by rfl) G.n_len (by decide +kernel) (gCons (gv 1) gNil)) gNil)))) (hCons (hIf (gTLt (gv 3) gInt) (hOne (hRet (gAdd (gAdd (gSl (gv 1) gNoP (gPart (gv 4))) (gIx (gv 2) (gv 3) (by intro _ _; rfl))) (gSl (gv 1) (gPart (gAdd (gv 4) gInt)) gNoP)))) hNil) (hCons (hIf (gTEq hr.units (gv 3) gInt) (hOne (hRet (gAdd (gv 1) (gIx gStr (gCall1 c_l_take T_l_take hr (by decide) (by rfl) tk (gCons (gv 0) (gCons gInt gNil))) (by intro _ _; rfl))))) hNil) (hCons (hIf (gTEq hr.units (gv 3) gInt) (hOne (hRet (gIfE (gTru (gv 1)) (gSl (gv 1) (gPart gInt) gNoP) gStr))) hNil) (hCons (hIf (gTEq hr.units (gv 3) gInt) (hOne (hRet (gLc (own := [("_law_sign", 5)]) rfl sc_l_bent.nd (iStrS (gv 1)) (blkOk_by (own := [("_law_sign", 5)]) (N := N_l_bent) (sc := defScope s_l_bent) (by decide +kernel)) (fun _ _ _ _ _ => (ggName (i := 5) sc_l_bent.nd rfl (.inl rfl))) (fun _ _ _ _ _ => gNoIf) (fun _ _ _ _ _ => (gv 5))))) hNil) (hOne (hRet gNon))))))))
theorem d_l_hit (G : Env P w K mg base a)  {f : Addr} {cdv : Value} {A : Around} {outer : List PySem.Env} {s : Shared} {H : Hp} {E : XK} (hr : Room (l_l_hit - 1) (A.deeper (envOfC "_law_hit" (defScope s_l_hit) s.heap.objs.size f cdv))) :
    PSs (cxOf (L2.CX P w) P w K mg base N_l_hit "_law_hit" (defScope s_l_hit) f cdv A outer s H E) (defBody s_l_hit) (dS (fun c d _ H => E c d H) (r_l_hit K a)) := by
  have tk : Takes (cxOf (L2.CX P w) P w K mg base N_l_hit "_law_hit" (defScope s_l_hit) f cdv A outer s H E) (fun c d _ H => E c d H) := takes_of rfl rfl rfl rfl
  have hp : PassesOwn (model P w) (cxOf (L2.CX P w) P w K mg base N_l_hit "_law_hit" (defScope s_l_hit) f cdv A outer s H E).A (cxOf (L2.CX P w) P w K mg base N_l_hit "_law_hit" (defScope s_l_hit) f cdv A outer s H E).env (cxOf (L2.CX P w) P w K mg base N_l_hit "_law_hit" (defScope s_l_hit) f cdv A outer s H E).xe := passes_of rfl
  exact (hCons (hFor hp rfl (iSeq (gv 1)) (ggTup rfl (ggCons (ggName (i := 2) sc_l_hit.nd rfl (.inl rfl)) (ggCons (ggName (i := 3) sc_l_hit.nd rfl (.inl rfl)) ggNil))) (hOne (hSet (i := 0) sc_l_hit.nd rfl (.inl rfl) (gAdd (gAdd (gSl (gv 0) gNoP (gPart (gv 2))) (gv 3)) (gSl (gv 0) (gPart (gAdd (gv 2) gInt)) gNoP))))) (hOne (hRet (gv 0))))
theorem d_l_times (G : Env P w K mg base a)  {f : Addr} {cdv : Value} {A : Around} {outer : List PySem.Env} {s : Shared} {H : Hp} {E : XK} (hr : Room (l_l_times - 1) (A.deeper (envOfC "_law_times" (defScope s_l_times) s.heap.objs.size f cdv))) :
    PSs (cxOf (L2.CX P w) P w K mg base N_l_times "_law_times" (defScope s_l_times) f cdv A outer s H E) (defBody s_l_times) (dS (fun c d _ H => E c d H) (r_l_times K a)) := by
  have tk : Takes (cxOf (L2.CX P w) P w K mg base N_l_times "_law_times" (defScope s_l_times) f cdv A outer s H E) (fun c d _ H => E c d H) := takes_of rfl rfl rfl rfl
  have hp : PassesOwn (model P w) (cxOf (L2.CX P w) P w K mg base N_l_times "_law_times" (defScope s_l_times) f cdv A outer s H E).A (cxOf (L2.CX P w) P w K mg base N_l_times "_law_times" (defScope s_l_times) f cdv A outer s H E).env (cxOf (L2.CX P w) P w K mg base N_l_times "_law_times" (defScope s_l_times) f cdv A outer s H E).xe := passes_of rfl
  exact (hCons (hSet (i := 2) sc_l_times.nd rfl (.inl rfl) (gMul (gLst (gCons gInt gNil)) (gSub (gAdd (gB call_len lLen (by rfl) G.n_len (by decide +kernel) (gCons (gv 0) gNil)) (gB call_len lLen (by rfl) G.n_len (by decide +kernel) (gCons (gv 1) gNil))) gInt))) (hCons (hFor hp rfl (iR1 (by rfl) G.n_range (gCons (gB call_len lLen (by rfl) G.n_len (by decide +kernel) (gCons (gv 0) gNil)) gNil)) (ggName (i := 3) sc_l_times.nd rfl (.inl rfl)) (hOne (hFor hp rfl (iR1 (by rfl) G.n_range (gCons (gB call_len lLen (by rfl) G.n_len (by decide +kernel) (gCons (gv 1) gNil)) gNil)) (ggName (i := 4) sc_l_times.nd rfl (.inl rfl)) (hOne (hAsg (gAdd (gIx (gv 2) (gAdd (gv 3) (gv 4)) (by intro _ _; rfl)) (gMul (gIx (gv 0) (gv 3) (by intro _ _; rfl)) (gIx (gv 1) (gv 4) (by intro _ _; rfl)))) (ggSub (gv 2) (gAdd (gv 3) (gv 4)))))))) (hOne (hRet (gv 2)))))
theorem d_l_plus (G : Env P w K mg base a)  {f : Addr} {cdv : Value} {A : Around} {outer : List PySem.Env} {s : Shared} {H : Hp} {E : XK} (hr : Room (l_l_plus - 1) (A.deeper (envOfC "_law_plus" (defScope s_l_plus) s.heap.objs.size f cdv))) :
    PSs (cxOf (L2.CX P w) P w K mg base N_l_plus "_law_plus" (defScope s_l_plus) f cdv A outer s H E) (defBody s_l_plus) (dS (fun c d _ H => E c d H) (r_l_plus K a)) := by
  have tk : Takes (cxOf (L2.CX P w) P w K mg base N_l_plus "_law_plus" (defScope s_l_plus) f cdv A outer s H E) (fun c d _ H => E c d H) := takes_of rfl rfl rfl rfl
  have hp : PassesOwn (model P w) (cxOf (L2.CX P w) P w K mg base N_l_plus "_law_plus" (defScope s_l_plus) f cdv A outer s H E).A (cxOf (L2.CX P w) P w K mg base N_l_plus "_law_plus" (defScope s_l_plus) f cdv A outer s H E).env (cxOf (L2.CX P w) P w K mg base N_l_plus "_law_plus" (defScope s_l_plus) f cdv A outer s H E).xe := passes_of rfl
  exact (hCons (hSet (i := 2) sc_l_plus.nd rfl (.inl rfl) (gMul (gLst (gCons gInt gNil)) (gB (call_max2 rfl) lMax2 (by rfl) G.n_max (by decide +kernel) (gCons (gB call_len lLen (by rfl) G.n_len (by decide +kernel) (gCons (gv 0) gNil)) (gCons (gB call_len lLen (by rfl) G.n_len (by decide +kernel) (gCons (gv 1) gNil)) gNil))))) (hCons (hFor hp rfl (iR1 (by rfl) G.n_range (gCons (gB call_len lLen (by rfl) G.n_len (by decide +kernel) (gCons (gv 0) gNil)) gNil)) (ggName (i := 3) sc_l_plus.nd rfl (.inl rfl)) (hOne (hAsg (gAdd (gIx (gv 2) (gv 3) (by intro _ _; rfl)) (gIx (gv 0) (gv 3) (by intro _ _; rfl))) (ggSub (gv 2) (gv 3))))) (hCons (hFor hp rfl (iR1 (by rfl) G.n_range (gCons (gB call_len lLen (by rfl) G.n_len (by decide +kernel) (gCons (gv 1) gNil)) gNil)) (ggName (i := 3) sc_l_plus.nd rfl (.inl rfl)) (hOne (hAsg (gAdd (gIx (gv 2) (gv 3) (by intro _ _; rfl)) (gIx (gv 1) (gv 3) (by intro _ _; rfl))) (ggSub (gv 2) (gv 3))))) (hOne (hRet (gv 2))))))
theorem d_l_shut (G : Env P w K mg base a)  {f : Addr} {cdv : Value} {A : Around} {outer : List PySem.Env} {s : Shared} {H : Hp} {E : XK} (hr : Room (l_l_shut - 1) (A.deeper (envOfC "_law_shut" (defScope s_l_shut) s.heap.objs.size f cdv))) :
    PSs (cxOf (L2.CX P w) P w K mg base N_l_shut "_law_shut" (defScope s_l_shut) f cdv A outer s H E) (defBody s_l_shut) (dS (fun c d _ H => E c d H) (r_l_shut K a)) := by
  have tk : Takes (cxOf (L2.CX P w) P w K mg base N_l_shut "_law_shut" (defScope s_l_shut) f cdv A outer s H E) (fun c d _ H => E c d H) := takes_of rfl rfl rfl rfl
  have hp : PassesOwn (model P w) (cxOf (L2.CX P w) P w K mg base N_l_shut "_law_shut" (defScope s_l_shut) f cdv A outer s H E).A (cxOf (L2.CX P w) P w K mg base N_l_shut "_law_shut" (defScope s_l_shut) f cdv A outer s H E).env (cxOf (L2.CX P w) P w K mg base N_l_shut "_law_shut" (defScope s_l_shut) f cdv A outer s H E).xe := passes_of rfl
  exact (hCons (hIf (gTEq hr.units (gv 0) (gLst (gCons gInt gNil))) (hOne (hRet (gLst (gCons gInt gNil)))) hNil) (hOne (hRet (gAdd (gLst (gCons gInt (gCons (gSub (gIx (gv 0) gInt (by intro _ _; rfl)) gInt) gNil))) (gSl (gv 0) (gPart gInt) gNoP)))))
theorem d_l_spreads (G : Env P w K mg base a) (T_l_plus : DefC P w K mg base "_law_plus" ["_law_first", "_law_second"] l_l_plus [] (p_l_plus K a)) (T_l_shut : DefC P w K mg base "_law_shut" ["_law_opened"] l_l_shut [] (p_l_shut K a)) (T_l_times : DefC P w K mg base "_law_times" ["_law_first", "_law_second"] l_l_times [] (p_l_times K a)) {f : Addr} {cdv : Value} {A : Around} {outer : List PySem.Env} {s : Shared} {H : Hp} {E : XK} (hr : Room (l_l_spreads - 1) (A.deeper (envOfC "_law_spreads" (defScope s_l_spreads) s.heap.objs.size f cdv))) :
    PSs (cxOf (L2.CX P w) P w K mg base N_l_spreads "_law_spreads" (defScope s_l_spreads) f cdv A outer s H E) (defBody s_l_spreads) (dS (fun c d _ H => E c d H) (r_l_spreads K a)) := by
  have tk : Takes (cxOf (L2.CX P w) P w K mg base N_l_spreads "_law_spreads" (defScope s_l_spreads) f cdv A outer s H E) (fun c d _ H => E c d H) := takes_of rfl rfl rfl rfl
  have hp : PassesOwn (model P w) (cxOf (L2.CX P w) P w K mg base N_l_spreads "_law_spreads" (defScope s_l_spreads) f cdv A outer s H E).A (cxOf (L2.CX P w) P w K mg base N_l_spreads "_law_spreads" (defScope s_l_spreads) f cdv A outer s H E).env (cxOf (L2.CX P w) P w K mg base N_l_spreads "_law_spreads" (defScope s_l_spreads) f cdv A outer s H E).xe := passes_of rfl
  exact (hCons (hSet (i := 2) sc_l_spreads.nd rfl (.inl rfl) (gLst gNil)) (hCons (hSet (i := 3) sc_l_spreads.nd rfl (.inl rfl) (gNeg gInt)) (hCons (hSet (i := 4) sc_l_spreads.nd rfl (.inl rfl) gInt) (hCons (hFor hp rfl (iStrS (gv 0)) (ggName (i := 5) sc_l_spreads.nd rfl (.inl rfl)) (hCut (hIf (gTEq hr.units (gv 5) gStr) (hCons (hSet (i := 3) sc_l_spreads.nd rfl (.inl rfl) (gAdd (gv 3) gInt)) (hOne (hExpr (gM PySem.F.plainAttrs_list PySem.F.slot_list_append PySem.F.type_list_append mt_append lAppend (gv 2) (gCons (gTup (gCons (gv 3) (gCons (gLst (gCons gInt gNil)) (gCons (gLst (gCons gInt gNil)) (gCons gInt gNil))))) gNil))))) hNil) (hOne (hIf (gTEq hr.units (gv 5) gStr) (hCons (hSet (i := 6) sc_l_spreads.nd rfl (.inl rfl) (gM0 PySem.F.plainAttrs_list PySem.F.slot_list_pop PySem.F.type_list_pop mt_pop lPop (gv 2))) (hCons (hSet (i := 7) sc_l_spreads.nd rfl (.inl rfl) (gM0 PySem.F.plainAttrs_list PySem.F.slot_list_pop PySem.F.type_list_pop mt_pop lPop (gv 2))) (hCons (hSet (i := 8) sc_l_spreads.nd rfl (.inl rfl) (gIfE (gTEq hr.units (gIx (gv 1) (gIx (gv 7) gInt (by intro _ _; rfl)) (by intro _ _; rfl)) gStr) (gv 7) (gv 6))) (hCons (hSet (i := 9) sc_l_spreads.nd rfl (.inl rfl) (gIfE (gTEq hr.units (gIx (gv 1) (gIx (gv 7) gInt (by intro _ _; rfl)) (by intro _ _; rfl)) gStr) (gv 6) (gv 7))) (hCons (hSetLc (i := 10) (own := [("_law_number", 14)]) rfl sc_l_spreads.nd rfl rfl (sw_true rfl rfl rfl (by decide +kernel)) (iSeq (gCall1 c_l_times T_l_times hr (by decide) (by rfl) tk (gCons (gIx (gv 8) gInt (by intro _ _; rfl)) (gCons (gCall1 c_l_shut T_l_shut hr (by decide) (by rfl) tk (gCons (gIx (gv 9) gInt (by intro _ _; rfl)) gNil)) gNil)))) (blkOk_by (own := [("_law_number", 14)]) (N := N_l_spreads) (sc := defScope s_l_spreads) (by decide +kernel)) (fun _ _ _ _ _ => (ggName (i := 14) sc_l_spreads.nd rfl (.inl rfl))) (fun _ _ _ _ _ => gNoIf) (fun _ _ _ _ _ => (gMul gInt (gv 14)))) (hCons (hSet (i := 11) sc_l_spreads.nd rfl (.inl rfl) (gCall1 c_l_times T_l_times hr (by decide) (by rfl) tk (gCons (gIx (gv 7) gInt (by intro _ _; rfl)) (gCons (gCall1 c_l_shut T_l_shut hr (by decide) (by rfl) tk (gCons (gIx (gv 6) gInt (by intro _ _; rfl)) gNil)) gNil)))) (hCons (hSet (i := 12) sc_l_spreads.nd rfl (.inl rfl) (gCall1 c_l_times T_l_times hr (by decide) (by rfl) tk (gCons (gIx (gv 6) gInt (by intro _ _; rfl)) (gCons (gCall1 c_l_shut T_l_shut hr (by decide) (by rfl) tk (gCons (gIx (gv 7) gInt (by intro _ _; rfl)) gNil)) gNil)))) (hCons (hSet (i := 4) sc_l_spreads.nd rfl (.inl rfl) (gAdd (gv 4) (gB (call_max2 rfl) lMax2 (by rfl) G.n_max (by decide +kernel) (gCons (gIx (gv 7) gInt (by intro _ _; rfl)) (gCons (gIx (gv 6) gInt (by intro _ _; rfl)) gNil))))) (hOne (hExpr (gM PySem.F.plainAttrs_list PySem.F.slot_list_append PySem.F.type_list_append mt_append lAppend (gv 2) (gCons (gTup (gCons (gIx (gv 6) gInt (by intro _ _; rfl)) (gCons (gv 10) (gCons (gCall1 c_l_plus T_l_plus hr (by decide) (by rfl) tk (gCons (gv 11) (gCons (gv 12) gNil))) (gCons gInt gNil))))) gNil)))))))))))) hNil)))) (hCons (hSet (i := 13) sc_l_spreads.nd rfl (.inl rfl) (gM0 PySem.F.plainAttrs_list PySem.F.slot_list_pop PySem.F.type_list_pop mt_pop lPop (gv 2))) (hOne (hRet (gTup (gCons (gCall1 c_l_shut T_l_shut hr (by decide) (by rfl) tk (gCons (gIx (gv 13) gInt (by intro _ _; rfl)) gNil)) (gCons (gCall1 c_l_shut T_l_shut hr (by decide) (by rfl) tk (gCons (gIx (gv 13) gInt (by intro _ _; rfl)) gNil)) (gCons (gv 4) gNil)))))))))))
theorem d_l_each (G : Env P w K mg base a)  {f : Addr} {cdv : Value} {A : Around} {outer : List PySem.Env} {s : Shared} {H : Hp} {E : XK} (hr : Room (l_l_each - 1) (A.deeper (envOfC "_law_each" (defScope s_l_each) s.heap.objs.size f cdv))) :
    PSs (cxOf (L2.CX P w) P w K mg base N_l_each "_law_each" (defScope s_l_each) f cdv A outer s H E) (defBody s_l_each) (dS (fun c d _ H => E c d H) (r_l_each K a)) := by
  have tk : Takes (cxOf (L2.CX P w) P w K mg base N_l_each "_law_each" (defScope s_l_each) f cdv A outer s H E) (fun c d _ H => E c d H) := takes_of rfl rfl rfl rfl
  have hp : PassesOwn (model P w) (cxOf (L2.CX P w) P w K mg base N_l_each "_law_each" (defScope s_l_each) f cdv A outer s H E).A (cxOf (L2.CX P w) P w K mg base N_l_each "_law_each" (defScope s_l_each) f cdv A outer s H E).env (cxOf (L2.CX P w) P w K mg base N_l_each "_law_each" (defScope s_l_each) f cdv A outer s H E).xe := passes_of rfl
  exact (hCons (hSet (i := 1) sc_l_each.nd rfl (.inl rfl) (gLst (gCons gStr gNil))) (hCons (hFor hp rfl (iR1 (by rfl) G.n_range (gCons (gv 0) gNil)) (ggName (i := 2) sc_l_each.nd rfl (.inl rfl)) (hOne (hSet (i := 1) sc_l_each.nd rfl (.inl rfl) (gAdd (gLc (own := [("_law_row", 3)]) rfl sc_l_each.nd (iSeq (gv 1)) (blkOk_by (own := [("_law_row", 3)]) (N := N_l_each) (sc := defScope s_l_each) (by decide +kernel)) (fun _ _ _ _ _ => (ggName (i := 3) sc_l_each.nd rfl (.inl rfl))) (fun _ _ _ _ _ => gNoIf) (fun _ _ _ _ _ => (gAdd (gv 3) gStr))) (gLc (own := [("_law_row", 3)]) rfl sc_l_each.nd (iSeq (gv 1)) (blkOk_by (own := [("_law_row", 3)]) (N := N_l_each) (sc := defScope s_l_each) (by decide +kernel)) (fun _ _ _ _ _ => (ggName (i := 3) sc_l_each.nd rfl (.inl rfl))) (fun _ _ _ _ _ => gNoIf) (fun _ _ _ _ _ => (gAdd (gv 3) gStr))))))) (hOne (hRet (gv 1)))))
theorem d_l_levels (G : Env P w K mg base a)  {f : Addr} {cdv : Value} {A : Around} {outer : List PySem.Env} {s : Shared} {H : Hp} {E : XK} (hr : Room (l_l_levels - 1) (A.deeper (envOfC "_law_levels" (defScope s_l_levels) s.heap.objs.size f cdv))) :
    PSs (cxOf (L2.CX P w) P w K mg base N_l_levels "_law_levels" (defScope s_l_levels) f cdv A outer s H E) (defBody s_l_levels) (dS (fun c d _ H => E c d H) (r_l_levels K a)) := by
  have tk : Takes (cxOf (L2.CX P w) P w K mg base N_l_levels "_law_levels" (defScope s_l_levels) f cdv A outer s H E) (fun c d _ H => E c d H) := takes_of rfl rfl rfl rfl
  have hp : PassesOwn (model P w) (cxOf (L2.CX P w) P w K mg base N_l_levels "_law_levels" (defScope s_l_levels) f cdv A outer s H E).A (cxOf (L2.CX P w) P w K mg base N_l_levels "_law_levels" (defScope s_l_levels) f cdv A outer s H E).env (cxOf (L2.CX P w) P w K mg base N_l_levels "_law_levels" (defScope s_l_levels) f cdv A outer s H E).xe := passes_of rfl
  exact (hCons (hSet (i := 2) sc_l_levels.nd rfl (.inl rfl) (gDis1 (gv 0) gBl)) (hCons (hSet (i := 3) sc_l_levels.nd rfl (.inl rfl) (gLst (gCons (gv 0) gNil))) (hCons (hSet (i := 4) sc_l_levels.nd rfl (.inl rfl) (gLst gNil)) (hCut (hFor hp rfl (iR1 (by rfl) G.n_range (gCons (gAdd (gB cr_lenD lLenD (by rfl) G.n_len (by decide +kernel) (gCons (gv 1) gNil)) gInt) gNil)) (ggName (i := 5) sc_l_levels.nd rfl (.inl rfl)) (hCons (hIf (gTNot (gTru (gv 3))) (hOne hBreak) hNil) (hCons (hExpr (gM PySem.F.plainAttrs_list PySem.F.slot_list_append PySem.F.type_list_append mt_append lAppend (gv 4) (gCons (gB call_len lLen (by rfl) G.n_len (by decide +kernel) (gCons (gv 3) gNil)) gNil))) (hCons (hSet (i := 6) sc_l_levels.nd rfl (.inl rfl) (gLst gNil)) (hCons (hFor hp rfl (iSeq (gv 3)) (ggName (i := 7) sc_l_levels.nd rfl (.inl rfl)) (hOne (hFor hp rfl (iSeq (gDGet (hu_of hr) (gv 1) (gv 7))) (ggName (i := 8) sc_l_levels.nd rfl (.inl rfl)) (hOne (hIf (gTDNotIn (hu_of hr) (gv 8) (gv 2)) (hCons (hDPutK (hu_of hr) (gv 2) (gv 8) gBl) (hOne (hExpr (gM PySem.F.plainAttrs_list PySem.F.slot_list_append PySem.F.type_list_append mt_append lAppend (gv 6) (gCons (gv 8) gNil))))) hNil))))) (hOne (hSet (i := 3) sc_l_levels.nd rfl (.inl rfl) (gv 6)))))))) (hOne (hRet (gv 4)))))))
theorem d_l_searched (G : Env P w K mg base a) (T_l_each : DefC P w K mg base "_law_each" ["_law_many"] l_l_each [] (p_l_each K a)) (T_l_hit : DefC P w K mg base "_law_hit" ["_law_flags_here", "_law_way"] l_l_hit [] (p_l_hit K a)) (T_l_levels : DefC P w K mg base "_law_levels" ["_law_start", "_law_steps"] l_l_levels [] (p_l_levels K a)) (T_l_same : DefC P w K mg base "_law_same" ["_law_told", "_law_due"] l_l_same [] (p_l_same K a)) (T_greatest_distance : DefC P w K mg base "greatest_distance" ["tree"] l_greatest_distance [] (p_greatest_distance K a)) (T_spread_from : DefC P w K mg base "spread_from" ["tree", "flags"] l_spread_from [] (p_spread_from K a)) (T_spread_to : DefC P w K mg base "spread_to" ["tree", "flags"] l_spread_to [] (p_spread_to K a)) {f : Addr} {cdv : Value} {A : Around} {outer : List PySem.Env} {s : Shared} {H : Hp} {E : XK} (hr : Room (l_l_searched - 1) (A.deeper (envOfC "_law_searched" (defScope s_l_searched) s.heap.objs.size f cdv))) :
    PSs (cxOf (L2.CX P w) P w K mg base N_l_searched "_law_searched" (defScope s_l_searched) f cdv A outer s H E) (defBody s_l_searched) (dS (fun c d _ H => E c d H) (r_l_searched K a)) := by
  have tk : Takes (cxOf (L2.CX P w) P w K mg base N_l_searched "_law_searched" (defScope s_l_searched) f cdv A outer s H E) (fun c d _ H => E c d H) := takes_of rfl rfl rfl rfl
  have hp : PassesOwn (model P w) (cxOf (L2.CX P w) P w K mg base N_l_searched "_law_searched" (defScope s_l_searched) f cdv A outer s H E).A (cxOf (L2.CX P w) P w K mg base N_l_searched "_law_searched" (defScope s_l_searched) f cdv A outer s H E).env (cxOf (L2.CX P w) P w K mg base N_l_searched "_law_searched" (defScope s_l_searched) f cdv A outer s H E).xe := passes_of rfl
  exact (hCons (hSet (i := 3) sc_l_searched.nd rfl (.inl rfl) (gCall1 c_l_each T_l_each hr (by decide) (by rfl) tk (gCons (gB call_len lLen (by rfl) G.n_len (by decide +kernel) (gCons (gv 1) gNil)) gNil))) (hCons (hSet (i := 4) sc_l_searched.nd rfl (.inr rfl) gDctK) (hCons (hSet (i := 5) sc_l_searched.nd rfl (.inl rfl) gDctK) (hCons (hFor hp rfl (iSeq (gv 3)) (ggName (i := 6) sc_l_searched.nd rfl (.inr rfl)) (hOne (hDPutK (hu_of hr) (gv 5) (gv 6) (gLst gNil)))) (hCons (hFor hp rfl (iSeq (gv 3)) (ggName (i := 6) sc_l_searched.nd rfl (.inr rfl)) (hCons (hDPutK (hu_of hr) (gv 4) (gv 6) (gLc (own := [("_law_way", 9)]) rfl sc_l_searched.nd (iSeq (gv 2)) (blkOk_by (own := [("_law_way", 9)]) (N := N_l_searched) (sc := defScope s_l_searched) (by decide +kernel)) (fun _ _ _ _ _ => (ggName (i := 9) sc_l_searched.nd rfl (.inl rfl))) (fun _ _ _ _ _ => gNoIf) (fun _ _ _ _ _ => (gCall1 c_l_hit T_l_hit hr (by decide) (by rfl) takes0 (gCons (gv 6) (gCons (gv 9) gNil)))))) (hOne (hFor hp rfl (iSeq (gDGet (hu_of hr) (gv 4) (gv 6))) (ggName (i := 7) sc_l_searched.nd rfl (.inl rfl)) (hCons (hSet (i := 8) sc_l_searched.nd rfl (.inl rfl) (gDGet (hu_of hr) (gv 5) (gv 7))) (hOne (hExpr (gM PySem.F.plainAttrs_list PySem.F.slot_list_append PySem.F.type_list_append mt_append lAppend (gv 8) (gCons (gv 6) gNil))))))))) (hCons (hIf (gTNot (gTru (gCall1 c_l_same T_l_same hr (by decide) (by rfl) tk (gCons (gCall1 c_spread_to T_spread_to hr (by decide) (by rfl) tk (gCons (gv 0) (gCons (gv 1) gNil))) (gCons (gCall1 c_l_levels T_l_levels hr (by decide) (by rfl) tk (gCons (gv 1) (gCons (gv 5) gNil))) gNil))))) (hOne (hRet gBl)) hNil) (hCons (hIf (gTNot (gTru (gCall1 c_l_same T_l_same hr (by decide) (by rfl) tk (gCons (gCall1 c_spread_from T_spread_from hr (by decide) (by rfl) tk (gCons (gv 0) (gCons (gv 1) gNil))) (gCons (gCall1 c_l_levels T_l_levels hr (by decide) (by rfl) tk (gCons (gv 1) (gCons (gv 4) gNil))) gNil))))) (hOne (hRet gBl)) hNil) (hOne (hRet (gEq hr.units (gCall1 c_greatest_distance T_greatest_distance hr (by decide) (by rfl) tk (gCons (gv 0) gNil)) (gB (cr_max rfl) lMaxL (by rfl) G.n_max (by decide +kernel) (gCons (gLc (own := [("_law_row", 6)]) rfl sc_l_searched.nd (iSeq (gv 3)) (blkOk_by (own := [("_law_row", 6)]) (N := N_l_searched) (sc := defScope s_l_searched) (by decide +kernel)) (fun _ _ _ _ _ => (ggName (i := 6) sc_l_searched.nd rfl (.inl rfl))) (fun _ _ _ _ _ => gNoIf) (fun _ _ _ _ _ => (gSub (gB call_len lLen (by rfl) G.n_len (by decide +kernel) (gCons (gCall1 c_l_levels T_l_levels hr (by decide) (by rfl) takes0 (gCons (gv 6) (gCons (gv 4) gNil))) gNil)) gInt))) gNil))))))))))))
theorem d_l_answers (G : Env P w K mg base a) (T_l_is_integer : DefC P w K mg base "_law_is_integer" ["_law_told"] l_l_is_integer [] (p_l_is_integer K a)) (T_l_same : DefC P w K mg base "_law_same" ["_law_told", "_law_due"] l_l_same [] (p_l_same K a)) (T_l_spreads : DefC P w K mg base "_law_spreads" ["_law_text", "_law_flags_here"] l_l_spreads [] (p_l_spreads K a)) (T_greatest_distance : DefC P w K mg base "greatest_distance" ["tree"] l_greatest_distance [] (p_greatest_distance K a)) (T_spread_from : DefC P w K mg base "spread_from" ["tree", "flags"] l_spread_from [] (p_spread_from K a)) (T_spread_to : DefC P w K mg base "spread_to" ["tree", "flags"] l_spread_to [] (p_spread_to K a)) {f : Addr} {cdv : Value} {A : Around} {outer : List PySem.Env} {s : Shared} {H : Hp} {E : XK} (hr : Room (l_l_answers - 1) (A.deeper (envOfC "_law_answers" (defScope s_l_answers) s.heap.objs.size f cdv))) :
    PSs (cxOf (L2.CX P w) P w K mg base N_l_answers "_law_answers" (defScope s_l_answers) f cdv A outer s H E) (defBody s_l_answers) (dS (fun c d _ H => E c d H) (r_l_answers K a)) := by
  have tk : Takes (cxOf (L2.CX P w) P w K mg base N_l_answers "_law_answers" (defScope s_l_answers) f cdv A outer s H E) (fun c d _ H => E c d H) := takes_of rfl rfl rfl rfl
  have hp : PassesOwn (model P w) (cxOf (L2.CX P w) P w K mg base N_l_answers "_law_answers" (defScope s_l_answers) f cdv A outer s H E).A (cxOf (L2.CX P w) P w K mg base N_l_answers "_law_answers" (defScope s_l_answers) f cdv A outer s H E).env (cxOf (L2.CX P w) P w K mg base N_l_answers "_law_answers" (defScope s_l_answers) f cdv A outer s H E).xe := passes_of rfl
  exact (hCons (hAsg (gCall1 c_l_spreads T_l_spreads hr (by decide) (by rfl) tk (gCons (gv 1) (gCons (gv 2) gNil))) (ggTup rfl (ggCons (ggName (i := 3) sc_l_answers.nd rfl (.inl rfl)) (ggCons (ggName (i := 4) sc_l_answers.nd rfl (.inl rfl)) (ggCons (ggName (i := 5) sc_l_answers.nd rfl (.inl rfl)) ggNil))))) (hCons (hSet (i := 6) sc_l_answers.nd rfl (.inl rfl) (gCall1 c_spread_to T_spread_to hr (by decide) (by rfl) tk (gCons (gv 0) (gCons (gv 2) gNil)))) (hCons (hSet (i := 7) sc_l_answers.nd rfl (.inl rfl) (gCall1 c_spread_from T_spread_from hr (by decide) (by rfl) tk (gCons (gv 0) (gCons (gv 2) gNil)))) (hCons (hIf (PW.pt (gOr (gTNot (gTru (gCall1 c_l_same T_l_same hr (by decide) (by rfl) tk (gCons (gv 6) (gCons (gv 3) gNil))))) (gOr1 (gTNot (gTru (gCall1 c_l_same T_l_same hr (by decide) (by rfl) tk (gCons (gv 7) (gCons (gv 4) gNil)))))))) (hOne (hRet gBl)) hNil) (hCons (hSet (i := 8) sc_l_answers.nd rfl (.inl rfl) (gCall1 c_greatest_distance T_greatest_distance hr (by decide) (by rfl) tk (gCons (gv 0) gNil))) (hCons (hIf (PW.pt (gOr (gTNot (gTru (gCall1 c_l_is_integer T_l_is_integer hr (by decide) (by rfl) tk (gCons (gv 8) gNil)))) (gOr1 (gTNe hr.units (gv 8) (gv 5))))) (hOne (hRet gBl)) hNil) (hCons (hIf (PW.pt (gOr (gTGt (gSub (gB call_len lLen (by rfl) G.n_len (by decide +kernel) (gCons (gv 6) gNil)) gInt) (gv 8)) (gOr1 (gTNe hr.units (gSub (gB call_len lLen (by rfl) G.n_len (by decide +kernel) (gCons (gv 7) gNil)) gInt) (gv 8))))) (hOne (hRet gBl)) hNil) (hCons (hIf (PW.pt (gOr (gTNe hr.units (gB (cr_sum rfl) lSum (by rfl) G.n_sum (by decide +kernel) (gCons (gv 6) gNil)) (gShl gInt (gB call_len lLen (by rfl) G.n_len (by decide +kernel) (gCons (gv 2) gNil)))) (gOr1 (gTNe hr.units (gB (cr_sum rfl) lSum (by rfl) G.n_sum (by decide +kernel) (gCons (gv 7) gNil)) (gShl gInt (gB call_len lLen (by rfl) G.n_len (by decide +kernel) (gCons (gv 2) gNil))))))) (hOne (hRet gBl)) hNil) (hCons (hExpr (gM0 PySem.F.plainAttrs_list PySem.F.slot_list_reverse PySem.F.type_list_reverse mt_reverse lReverse (gv 6))) (hCons (hExpr (gM PySem.F.plainAttrs_list PySem.F.slot_list_append PySem.F.type_list_append mt_append lAppend (gv 6) (gCons gInt gNil))) (hCons (hExpr (gM PySem.F.plainAttrs_list PySem.F.slot_list_append PySem.F.type_list_append mt_append lAppend (gv 7) (gCons gInt gNil))) (hCons (hExpr (gM0 PySem.F.plainAttrs_list PySem.F.slot_list_reverse PySem.F.type_list_reverse mt_reverse lReverse (gv 7))) (hOne (hRet (gAndV (gCall1 c_l_same T_l_same hr (by decide) (by rfl) tk (gCons (gCall1 c_spread_to T_spread_to hr (by decide) (by rfl) tk (gCons (gv 0) (gCons (gv 2) gNil))) (gCons (gv 3) gNil))) (gOneV (gCall1 c_l_same T_l_same hr (by decide) (by rfl) tk (gCons (gCall1 c_spread_from T_spread_from hr (by decide) (by rfl) tk (gCons (gv 0) (gCons (gv 2) gNil))) (gCons (gv 4) gNil)))))))))))))))))))
theorem d_l_fault (G : Env P w K mg base a) (T_spread_from : DefC P w K mg base "spread_from" ["tree", "flags"] l_spread_from [] (p_spread_from K a)) (T_spread_to : DefC P w K mg base "spread_to" ["tree", "flags"] l_spread_to [] (p_spread_to K a)) {f : Addr} {cdv : Value} {A : Around} {outer : List PySem.Env} {s : Shared} {H : Hp} {E : XK} (hgd : A.guards = some []) (hr : Room (l_l_fault - 1) (A.deeper (envOfC "_law_fault" (defScope s_l_fault) s.heap.objs.size f cdv))) :
    PSs (cxOf (L2.CX P w) P w K mg base N_l_fault "_law_fault" (defScope s_l_fault) f cdv A outer s H E) (defBody s_l_fault) (dS (fun c d _ H => E c d H) (r_l_fault K a)) := by
  have tk : Takes (cxOf (L2.CX P w) P w K mg base N_l_fault "_law_fault" (defScope s_l_fault) f cdv A outer s H E) (fun c d _ H => E c d H) := takes_of rfl rfl rfl rfl
  have hp : PassesOwn (model P w) (cxOf (L2.CX P w) P w K mg base N_l_fault "_law_fault" (defScope s_l_fault) f cdv A outer s H E).A (cxOf (L2.CX P w) P w K mg base N_l_fault "_law_fault" (defScope s_l_fault) f cdv A outer s H E).env (cxOf (L2.CX P w) P w K mg base N_l_fault "_law_fault" (defScope s_l_fault) f cdv A outer s H E).xe := passes_of rfl
  exact (hCut (hTryAs (i := 3) rfl rfl sc_l_fault.nd rfl rfl ⟨by rfl, by decide, .inl G.g_InvalidFlags⟩ tk (fun W1 pn xe tk1 hp1 => (hOne (hIf (gTEq hr.units (gv 0) gInt) (hOne (hExpr (gCall1 c_spread_to T_spread_to hr (by decide) (by rfl) tk1 (gCons (gv 1) (gCons (gv 2) gNil))))) (hOne (hExpr (gCall1 c_spread_from T_spread_from hr (by decide) (by rfl) tk1 (gCons (gv 1) (gCons (gv 2) gNil)))))))) (fun ea oe cls ed pn hz hf => (hCons (hIf (PW.pt (gOr (gTru (gIsY hz hf (by rfl) G.n_isinstance (gCons (gv 3) (gCons (gClV (by rfl) G.g_InvalidSlot) gNil)))) (gOr (gTNot (gTru (gIsY hz hf (by rfl) G.n_isinstance (gCons (gv 3) (gCons (gClV (by rfl) G.g_CacheError) gNil))))) (gOr1 (gTNot (gTru (gIsY hz hf (by rfl) G.n_isinstance (gCons (gv 3) (gCons (gTyV (by rfl) G.n_ValueError (by decide +kernel)) gNil))))))))) (hOne (hRet (gTup (gCons gStr (gCons gStr gNil))))) hNil) (hOne (hRet (gTup (gCons gStr (gCons (gB (cr_repr hgd hr.units) lRepr (by rfl) G.n_repr (by decide +kernel) (gCons (gXf G.e_InvalidFlags.xf G.e_InvalidFlags.no hz hf (gv 3)) gNil)) gNil)))))))) (hOne (hRet (gTup (gCons gStr (gCons gStr gNil))))))
theorem d_law (G : Env P w K mg base a) (T_l_answers : DefC P w K mg base "_law_answers" ["_law_tree_here", "_law_text", "_law_flags_here"] l_l_answers [] (p_l_answers K a)) (T_l_bent : DefC P w K mg base "_law_bent" ["_law_box_here", "_law_flags_here", "_law_odd"] l_l_bent [] (p_l_bent K a)) (T_l_box : DefC P w K mg base "_law_box" ["_law_script"] l_l_box [] (p_l_box K a)) (T_l_flags : DefC P w K mg base "_law_flags" ["_law_box_here", "_law_many"] l_l_flags [] (p_l_flags K a)) (T_l_searched : DefC P w K mg base "_law_searched" ["_law_tree_here", "_law_flags_here", "_law_ways"] l_l_searched [] (p_l_searched K a)) (T_l_slots : DefC P w K mg base "_law_slots" ["_law_box_here"] l_l_slots [] (p_l_slots K a)) (T_l_take : DefC P w K mg base "_law_take" ["_law_box_here", "_law_size"] l_l_take [] (p_l_take K a)) (T_l_tree : DefC P w K mg base "_law_tree" ["_law_box_here", "_law_slots_here"] l_l_tree [] (p_l_tree K a)) (T_l_fault : DefG P w K mg base "_law_fault" ["_law_door", "_law_tree_here", "_law_flags_here"] l_l_fault (p_l_fault K a)) (T_Tree_init : MakC P w K mg base "Tree" a.Tree ["self", "text"] l_Tree_init (p_Tree_init K a)) {f : Addr} {cdv : Value} {A : Around} {outer : List PySem.Env} {s : Shared} {H : Hp} {E : XK} (hgd : A.guards = some []) (hr : Room (l_law - 1) (A.deeper (envOfC "law" (defScope s_law) s.heap.objs.size f cdv))) :
    PSs (cxOf (L2.CX P w) P w K mg base N_law "law" (defScope s_law) f cdv A outer s H E) (defBody s_law) (dS (fun c d _ H => E c d H) (r_law K a)) := by
  have tk : Takes (cxOf (L2.CX P w) P w K mg base N_law "law" (defScope s_law) f cdv A outer s H E) (fun c d _ H => E c d H) := takes_of rfl rfl rfl rfl
  have hp : PassesOwn (model P w) (cxOf (L2.CX P w) P w K mg base N_law "law" (defScope s_law) f cdv A outer s H E).A (cxOf (L2.CX P w) P w K mg base N_law "law" (defScope s_law) f cdv A outer s H E).env (cxOf (L2.CX P w) P w K mg base N_law "law" (defScope s_law) f cdv A outer s H E).xe := passes_of rfl
  exact (hCons (hSet (i := 1) sc_law.nd rfl (.inl rfl) (gCall1 c_l_box T_l_box hr (by decide) (by rfl) tk (gCons (gv 0) gNil))) (hCons (hSet (i := 2) sc_law.nd rfl (.inl rfl) (gCall1 c_l_slots T_l_slots hr (by decide) (by rfl) tk (gCons (gv 1) gNil))) (hCons (hAsg (gCall1 c_l_tree T_l_tree hr (by decide) (by rfl) tk (gCons (gv 1) (gCons (gv 2) gNil))) (ggTup rfl (ggCons (ggName (i := 3) sc_law.nd rfl (.inl rfl)) (ggCons (ggName (i := 4) sc_law.nd rfl (.inl rfl)) ggNil)))) (hCons (hSet (i := 5) sc_law.nd rfl (.inl rfl) (gCall1 c_l_flags T_l_flags hr (by decide) (by rfl) tk (gCons (gv 1) (gCons (gSub (gv 2) gInt) gNil)))) (hCons (hSet (i := 6) sc_law.nd rfl (.inl rfl) (gCall1 c_l_take T_l_take hr (by decide) (by rfl) tk (gCons (gv 1) (gCons (gSub (gv 2) gInt) gNil)))) (hCons (hSet (i := 7) sc_law.nd rfl (.inl rfl) (gIfE (gTru (gv 5)) (gAdd (gAdd (gSl (gv 5) gNoP (gPart (gv 6))) (gIx gStr (gTy call_int1 lInt (by rfl) G.n_int (by decide +kernel) (gCons (gEq hr.units (gIx (gv 5) (gv 6) (by intro _ _; rfl)) gStr) gNil)) (by intro _ _; rfl))) (gSl (gv 5) (gPart (gAdd (gv 6) gInt)) gNoP)) (gv 5))) (hCons (hSet (i := 8) sc_law.nd rfl (.inl rfl) (gMakO c_Tree_init T_Tree_init hr (by decide) (by rfl) (gCons (gv 3) gNil))) (hCons (hFor hp rfl (iSeq (gLst (gCons (gv 5) (gCons (gv 7) (gCons (gv 5) gNil))))) (ggName (i := 9) sc_law.nd rfl (.inl rfl)) (hOne (hIf (gTNot (gTru (gCall1 c_l_answers T_l_answers hr (by decide) (by rfl) tk (gCons (gv 8) (gCons (gv 3) (gCons (gv 9) gNil)))))) (hOne (hRet gBl)) hNil))) (hCons (hIf (PW.pt (gAnd (gTLt (gv 2) gInt) (gAnd1 (gTNot (gTru (gCall1 c_l_searched T_l_searched hr (by decide) (by rfl) tk (gCons (gv 8) (gCons (gv 5) (gCons (gv 4) gNil))))))))) (hOne (hRet gBl)) hNil) (hCons (hSet (i := 10) sc_law.nd rfl (.inl rfl) (gCall1 c_l_bent T_l_bent hr (by decide) (by rfl) tk (gCons (gv 1) (gCons (gv 5) (gCons gStr gNil))))) (hCons (hFor hp rfl (iR1 (by rfl) G.n_range (gCons gInt gNil)) (ggName (i := 11) sc_law.nd rfl (.inl rfl)) (hOne (hIf (gTNe hr.units (gCallG c_l_fault T_l_fault hgd hr (by decide) (by rfl) tk (gCons (gv 11) (gCons (gv 8) (gCons (gv 10) gNil)))) (gTup (gCons gStr (gCons (gB (cr_repr hgd hr.units) lRepr (by rfl) G.n_repr (by decide +kernel) (gCons (gv 10) gNil)) gNil)))) (hOne (hRet gBl)) hNil))) (hOne (hRet (gEq hr.units (gFldO G.o_Tree G.na_Tree_text (gv 8)) (gv 3)))))))))))))))
end
local macro_rules | `(tactic| walk_at "w") => `(tactic| conv => whnf)
local macro_rules | `(tactic| walk_at "b") => `(tactic| ((conv => whnf); split <;> (rename_i hb; simp only [decide_eq_true_eq, decide_eq_false_iff_not, Bool.not_eq_true', Bool.not_eq_false', Int.not_lt, Int.not_le, bne_iff_ne, ne_eq, Bool.not_eq_true, V.int.injEq, beq_iff_eq, reduceCtorEq] at hb)))
local macro_rules | `(tactic| walk_at "p") => `(tactic| (show (0 : Int) < _; decide))
local macro_rules | `(tactic| walk_at "z") => `(tactic| (show _ ≤ sizeLine; simp only [List.length_cons, List.length_nil]; decide))
section
variable {K : PySem.W.Frag} {a : Ads}
open TR
theorem vc_l_is_integer {vs : List V} {H : Hp} (g : V × TY) (h : (ct_is_integer K).pre g vs H) : ∃ S, Own S H ∧ r_l_is_integer K a (endsC (ct_is_integer K) g H) (start N_l_is_integer vs) S := by
  obtain ⟨x, t⟩ := g
  obtain ⟨rfl, ht⟩ := h
  refine ⟨⟨H, []⟩, Own.base H, ?_⟩
  have fin : ∀ H', Own ⟨H, []⟩ H' → Ext H H' := fun H' o => ext0 o
  cases x with
  | non => exact fun H' o => ⟨rfl, fin H' o⟩
  | bl b => exact fun H' o => ⟨rfl, fin H' o⟩
  | int b => exact fun H' o => ⟨rfl, fin H' o⟩
  | str b => exact fun H' o => ⟨rfl, fin H' o⟩
  | ref p =>
    have ht' : isiTy K (.ref p) ⟨H, []⟩ t := ht
    refine ⟨t, ht', ?_⟩
    rcases ht' with ⟨rfl, _⟩ | ⟨rfl, _⟩ | ⟨rfl, _⟩
    · exact fun H' o => ⟨rfl, fin H' o⟩
    · exact fun H' o => ⟨rfl, fin H' o⟩
    · exact fun H' o => ⟨rfl, fin H' o⟩
  | byt b => exact ht.elim
  | flt b => exact ht.elim
  | ty b => exact ht.elim
/-- the call of a def that changes nothing -/
theorem use_isI {W : sWX} {σ : L2.St} {S : SH} {Q : V → SH → Prop} {vs : List V} (x : V) (t : TY) (e : vs = [x]) (ht : ∀ H, Own S H → Ty0 K H x t) (h : Q (.bl (isInt x)) S) : rC (ct_is_integer K) W vs σ S Q :=
  ⟨(x, t), fun H o => ⟨e, ht H o⟩, fun H v H' o q => ⟨S, o.ex q.2, by rw [q.1]; exact h⟩, fun _ _ _ _ _ q => q.elim⟩
theorem occ_sign : ∀ c ∈ [76, 82, 63, 46, 108, 120, 33], (!(Builtin.Str.occurrences ("LR" : Str) ⟨#[c]⟩ 0 2 1).isEmpty) = (c == 76 || c == 82 || (false && c == 63)) := by decide +kernel
theorem occ_sign3 : ∀ c ∈ [76, 82, 63, 46, 108, 120, 33], (!(Builtin.Str.occurrences ("LR?" : Str) ⟨#[c]⟩ 0 3 1).isEmpty) = (c == 76 || c == 82 || (true && c == 63)) := by decide +kernel
theorem vc_is_made_of {vs : List V} {H : Hp} (g : V × TY × Bool) (h : (ct_is_made_of K).pre g vs H) : ∃ S, Own S H ∧ r_is_made_of K a (endsC (ct_is_made_of K) g H) (start N_is_made_of vs) S := by
  obtain ⟨x, t, q⟩ := g
  obtain ⟨rfl, ht, hs⟩ := h
  have ht : Ty0 K H x t := ht
  refine ⟨⟨H, []⟩, Own.base H, ?_⟩
  cases x with
  | str u =>
    refine fun D => ?_
    have hs : sgnOk u := hs
    refine ⟨fun i S => S = ⟨H, [(D, .lst (((u.cps.toList.take i).map fun c => c == 76 || c == 82 || (q && c == 63)).map V.bl))]⟩, rfl, fun _ _ _ _ => trivial, ?_, ?_⟩
    · rintro i S hi rfl c hc
      have hc : u.cps.toList[i]? = some c := by
        rw [Array.getElem?_toList]
        exact hc
      refine ⟨rfl, ?_⟩
      refine ⟨0, _, rfl, ?_, ⟨_, SLe.refl _, ?_⟩⟩
      · rw [List.length_map, List.length_map, List.length_take]
        exact small_of (show min i _ ≤ 100 by have := hs.1; omega) (by decide)
      · show _ = SH.mk H [(D, .lst (((u.cps.toList.take (i + 1)).map fun c => c == 76 || c == 82 || (q && c == 63)).map V.bl))]
        rw [map_more hc, List.map_append]
        cases q with
        | false =>
          show SH.mk H [(D, .lst (_ ++ [V.bl (!(Builtin.Str.occurrences ("LR" : Str) ⟨#[c]⟩ 0 2 1).isEmpty)]))] = _
          rw [occ_sign c (hs.2 c (List.mem_of_getElem? hc))]
          rfl
        | true =>
          show SH.mk H [(D, .lst (_ ++ [V.bl (!(Builtin.Str.occurrences ("LR?" : Str) ⟨#[c]⟩ 0 3 1).isEmpty)]))] = _
          rw [occ_sign3 c (hs.2 c (List.mem_of_getElem? hc))]
          rfl
    · rintro S rfl
      refine ⟨_, .inl ⟨0, rfl⟩, ?_⟩
      intro H' o'
      refine ⟨?_, fun c o e => o'.fr c o e⟩
      show V.bl (List.all ((u.cps.toList.take u.cps.size).map fun c => c == 76 || c == 82 || (q && c == 63)) id) = .bl (madeL q u)
      rw [List.take_of_length_le (by rw [Array.length_toList]; exact Nat.le_refl _), List.all_map]
      rfl
  | ref p =>
    have ht' : isiTy K (.ref p) ⟨H, []⟩ t := ht
    refine ⟨t, ht', ?_⟩
    rcases ht' with ⟨rfl, _⟩ | ⟨rfl, _⟩ | ⟨rfl, _⟩
    · exact fun H' o => ⟨rfl, ext0 o⟩
    · exact fun H' o => ⟨rfl, ext0 o⟩
    · exact fun H' o => ⟨rfl, ext0 o⟩
  | byt b => exact ht.elim
  | flt b => exact ht.elim
  | ty b => exact ht.elim
  | _ => exact fun H' o => ⟨rfl, ext0 o⟩
theorem use_made {W : sWX} {σ : L2.St} {S : SH} {Q : V → SH → Prop} {vs : List V} (x : V) (t : TY) (q : Bool) (e : vs = [x, .str (if q then "LR?" else "LR")]) (ht : ∀ H, Own S H → Ty0 K H x t) (hs : strOk x) (h : Q (.bl (madeB q x)) S) : rC (ct_is_made_of K) W vs σ S Q :=
  ⟨(x, t, q), fun H o => ⟨e, ht H o, hs⟩, fun H v H' o r => ⟨S, o.ex r.2, by rw [r.1]; exact h⟩, fun _ _ _ _ _ r => r.elim⟩
/-! the tree -/
theorem AtH.ext {H H' : Hp} {v : V} {n : Nat × Nat} (h : AtH H v n) (e : Ext H H') : AtH H' v n := let ⟨q, h1, h2⟩ := h; ⟨q, h1, e _ _ h2⟩
theorem AtH.low {F H : Hp} {v : V} {n : Nat × Nat} (h : AtH H v n) (k : KeepT F H) : AtH F v n := let ⟨q, h1, h2⟩ := h; ⟨q, h1, k _ _ h2 (fun _ e => nomatch e)⟩
theorem TreeAt.ext {H H' : Hp} {v : V} {b : TR} (h : TreeAt K a H v b) (e : Ext H H') : TreeAt K a H' v b := by
  obtain ⟨⟨p, dx, fs, w, sp, h1, h2, h3, h4, h5, h6, h7⟩, h9, ⟨p2, dx2, fs2, tl, tr, wl, wr, po, ro, L, R, m1, m2, m3, m4, m5, m6, m7, m8, m9, m10, m11, m12, m13, m14⟩⟩ := h
  exact ⟨⟨p, dx, fs, w, sp, h1, e _ _ h2, h3, h4, h5.ext e, h6, h7.ext e⟩, h9, ⟨p2, dx2, fs2, tl, tr, wl, wr, po, ro, L, R, m1, e _ _ m2, m3, e _ _ m4, allV_ex (fun _ _ z => z.ext e) m5, m6, e _ _ m7, allV_ex (fun _ _ z => z.ext e) m8, m9, m10.ext e, m11, m12.ext e, m13, m14⟩⟩
theorem TreeAt.low {F H : Hp} {v : V} {b : TR} (h : TreeAt K a H v b) (k : KeepT F H) : TreeAt K a F v b := by
  obtain ⟨⟨p, dx, fs, w, sp, h1, h2, h3, h4, h5, h6, h7⟩, h9, ⟨p2, dx2, fs2, tl, tr, wl, wr, po, ro, L, R, m1, m2, m3, m4, m5, m6, m7, m8, m9, m10, m11, m12, m13, m14⟩⟩ := h
  exact ⟨⟨p, dx, fs, w, sp, h1, k _ _ h2 (fun _ e => nomatch e), h3, h4, h5.low k, h6, h7.low k⟩, h9, ⟨p2, dx2, fs2, tl, tr, wl, wr, po, ro, L, R, m1, k _ _ m2 (fun _ e => nomatch e), m3, k _ _ m4 (fun _ e => nomatch e), allV_ex (fun _ _ z => z.low k) m5, m6, k _ _ m7 (fun _ e => nomatch e), allV_ex (fun _ _ z => z.low k) m8, m9, m10.low k, m11, m12.low k, m13, m14⟩⟩
theorem vc_Tree_len {vs : List V} {H : Hp} (g : V × TR) (h : (ct_tree_n K a nS).pre g vs H) : ∃ S, Own S H ∧ r_Tree_len K a (endsC (ct_tree_n K a nS) g H) (start N_Tree_len vs) S := by
  obtain ⟨v, b⟩ := g
  obtain ⟨rfl, h⟩ := h
  obtain ⟨⟨p, dx, fs, w, sp, rfl, h2, h3, h4, h5, h6, h7⟩, h9⟩ := h
  refine ⟨⟨H, []⟩, Own.base H, ?_⟩
  obtain ⟨q, xs, rfl, hq, hx⟩ := h5.tupI
  refine ⟨dx, fs, _, .inr h2, h4, ⟨xs, .inr (hq.s (List.Subset.refl _)), fun H' o => ⟨?_, ext0 o⟩⟩⟩
  rw [hx.len, List.length_map, wayB_len]
theorem vc_Tree_forks {vs : List V} {H : Hp} (g : V × TR) (h : (ct_tree_n K a fun b => nS b - 1).pre g vs H) : ∃ S, Own S H ∧ r_Tree_forks K a (endsC (ct_tree_n K a fun b => nS b - 1) g H) (start N_Tree_forks vs) S := by
  obtain ⟨v, b⟩ := g
  obtain ⟨rfl, h⟩ := h
  obtain ⟨⟨p, dx, fs, w, sp, rfl, h2, h3, h4, h5, h6, h7⟩, h9⟩ := h
  refine ⟨⟨H, []⟩, Own.base H, ?_⟩
  obtain ⟨q, xs, rfl, hq, hx⟩ := h7.tupI
  refine ⟨dx, fs, _, .inr h2, h6, ⟨xs, .inr (hq.s (List.Subset.refl _)), fun H' o => ⟨?_, ext0 o⟩⟩⟩
  rw [hx.len, List.length_map, List.length_range]
theorem use_len {S : SH} {σ : L2.St} {Q : V → SH → Prop} {v : V} {b : TR} (hv : ∀ H, Own S H → TreeAt K a H v b) (hS : TreeAt K a S.F v b) (k : Q (.int (nS b : Nat)) S) {i : Nat} {W : sWX} (hi : σ[i]? = some (some v)) : sLenO a.Tree (q_Tree_len K a) (sVar i) W σ S Q := by
  refine var_go hi ?_
  obtain ⟨⟨p, dx, fs, w, sp, e, h2, _⟩, h9⟩ := hS
  rw [e]
  refine ⟨dx, fs, .inr h2, (v, b), fun H o => ⟨by rw [e], hv H o⟩, fun H v' H' o q => ⟨S, o.ex q.2, ⟨nS b, q.1, by omega⟩, ?_⟩, fun _ _ _ _ _ q => q.elim⟩
  rw [q.1]
  exact k
theorem use_forks {S : SH} {σ : L2.St} {Q : V → SH → Prop} {v : V} {b : TR} (hv : ∀ H, Own S H → TreeAt K a H v b) (hS : TreeAt K a S.F v b) (k : Q (.int (nS b - 1 : Nat)) S) {i : Nat} {W : sWX} (hi : σ[i]? = some (some v)) : sProO a.Tree (q_Tree_forks K a) (sVar i) W σ S Q := by
  refine var_go hi ?_
  obtain ⟨⟨p, dx, fs, w, sp, e, h2, _⟩, h9⟩ := hS
  rw [e]
  refine ⟨dx, fs, .inr h2, (v, b), fun H o => ⟨by rw [e], hv H o⟩, fun H v' H' o q => ⟨S, o.ex q.2, trivial, ?_⟩, fun _ _ _ _ _ q => q.elim⟩
  rw [q.1]
  exact k
theorem own_F {F : Hp} {G : List (Addr × HO)} {H : Hp} (o : Own ⟨F, G⟩ H) : Ext F H := fun c u e => o.fr c u e
theorem vc_checked_flags {vs : List V} {H : Hp} (g : V × TR × V × TY) (h : (ct_checked K a false).pre g vs H) : ∃ S, Own S H ∧ r_checked_flags K a (endsC (ct_checked K a false) g H) (start N_checked_flags vs) S := by
  obtain ⟨tv, b, x, t⟩ := g
  obtain ⟨rfl, hT, ht, hs⟩ := h
  have hT : TreeAt K a H tv b := hT
  have ht : Ty0 K H x t := ht
  have hs : strOk x := hs
  have p0 := nS_pos b
  refine ⟨⟨H, []⟩, Own.base H, ?_⟩
  have bad : flOk false b x = false → ∀ d H', Own (SH.new ⟨H, []⟩ d (.xd [("flags", x)])) H' → (ct_checked K a false).exn (tv, b, x, t) H (.ref a.InvalidFlags) (some d) H' := fun e d H' o =>
    ⟨e, rfl, d, rfl, (o.gs (d, .xd [("flags", x)]) List.mem_cons_self).2, fun a u e => o.fr a u e, (o.gs (d, .xd [("flags", x)]) List.mem_cons_self).1⟩
  refine use_made x t false rfl (fun H' o => ht.ex (ext0 o)) hs ?_
  cases hm : madeB false x with
  | false =>
    refine bad ?_
    cases x with
    | str u =>
      have hm : madeL false u = false := hm
      show (madeL false u && _) = false
      rw [hm]
      rfl
    | _ => rfl
  | true =>
    cases x with
    | str u =>
      have hm : madeL false u = true := hm
      refine ⟨?_, ?_⟩
      · show u.cps.size ≤ sizeLine
        have : u.cps.toList.length ≤ 100 := hs.1
        rw [Array.length_toList] at this
        exact Nat.le_trans this (by decide)
      · refine use_forks (i := 0) (v := tv) (b := b) (fun H' o => hT.ext (ext0 o)) hT ?_ (by rfl)
        have hf : flOk false b (.str u) = decide (u.cps.size = nS b - 1) := by
          show (madeL false u && decide (u.cps.toList.length + 1 = nS b)) = _
          rw [hm, Bool.true_and, Array.length_toList]
          exact decide_eq_decide.mpr (by omega)
        walk_at "b"
        · rename_i hb
          exact bad (by rw [hf]; exact decide_eq_false fun z => hb (by rw [← z]; rfl))
        · rename_i hb
          exact fun H' o => ⟨by rw [hf]; exact decide_eq_true (Int.ofNat.inj hb), rfl, ext0 o⟩
    | _ => cases hm
theorem use_flags {W : sWX} {σ : L2.St} {S : SH} {Q : V → SH → Prop} {vs : List V} (p : Bool) (tv : V) (b : TR) (x : V) (t : TY) (e : vs = [tv, x]) (hT : ∀ H, Own S H → TreeAt K a H tv b) (ht : ∀ H, Own S H → Ty0 K H x t) (hs : strOk x)
    (h1 : flOk p b x = true → Q x S) (h2 : flOk p b x = false → ∀ d, W (.ref a.InvalidFlags) (some d) σ (S.new d (.xd [("flags", x)]))) : rC (ct_checked K a p) W vs σ S Q :=
  ⟨(tv, b, x, t), fun H o => ⟨e, hT H o, ht H o, hs⟩, fun H v H' o q => ⟨S, o.ex q.2.2, by rw [q.2.1]; exact h1 q.1⟩, fun H c d H' o q => by
    obtain ⟨q0, rfl, dd, rfl, q1, q2, q3⟩ := q
    exact ⟨_, o.new q1 q2 q3, h2 q0 dd⟩⟩
end
section
variable {K : PySem.W.Frag} {a : Ads}
open TR
theorem sm_mod {x m : Int} (h : 0 < m) (h2 : m < 2 ^ 40) : sm64 (x % m) := by
  have h1 := Int.emod_nonneg x (show m ≠ 0 by omega)
  have h3 := Int.emod_lt_of_pos x h
  unfold sm64
  omega
theorem vc_l_take {vs : List V} {H : Hp} (g : Addr × Addr × Bx × Int) (h : ct_l_take.pre g vs H) : ∃ S, Own S H ∧ r_l_take K a (endsC ct_l_take g H) (start N_l_take vs) S := by
  refine body_box g h fun b m x size F eg eF hms hok e => ?_
  subst eg
  subst e
  have hs : size < 1073741824 := hok
  obtain ⟨g0, gs, ms, st⟩ := x
  have hms : ms ≠ [] := hms
  walk_at "b"
  · rename_i hb
    intro H' o'
    subst eF
    exact end_box (E := []) o' hms fun H2 o2 => ⟨0, rfl, by show (0 : Int) < size ∨ _; omega⟩
  · rename_i hb
    have h0 : (0 : Int) < size := by omega
    refine ⟨[.ref g0, .ref m, .int st], .ref g0, .inl (.inl ⟨0, rfl⟩), rfl, ?_⟩
    refine .inl ⟨gs.map V.int, .inl ⟨1, rfl⟩, ?_⟩
    cases gs with
    | cons d gs =>
      refine ⟨V.int d :: gs.map V.int, .int d, .inl (.inl ⟨1, rfl⟩), atI_at (i := 0) rfl, ?_⟩
      refine ⟨fun σ S => ∃ (y : Bx) (E : List (Addr × HO)) (x0 x2 x4 x5 x6 x7 x8 x9 : Option V), σ = [x0, some (.int size), x2, some (.int d), x4, x5, x6, x7, x8, x9] ∧ S = ⟨F, E ++ boxG b m y⟩ ∧ y.ms ≠ [], ?_, ?_⟩
      · refine ⟨⟨h0, hs⟩, ?_⟩
        walk_at "b"
        · refine .inl ⟨V.int d :: gs.map V.int, .inl ⟨1, rfl⟩, fun r => ?_⟩
          refine ⟨1, [.ref g0, .ref m, .int st], 0, rfl, rfl, ?_⟩
          have ec : cutV (V.int d :: gs.map V.int) (some 1) none = gs.map V.int := by
            unfold cutV
            rw [HT.sIx_none]
            show ((V.int d :: gs.map V.int).drop (HT.sIx (gs.map V.int).length.succ 0 (some ((1 : Nat) : Int)))).take _ = _
            rw [HT.sIx_nat, show min 1 (gs.map V.int).length.succ = 1 by omega]
            show (gs.map V.int).take _ = _
            exact List.take_of_length_le (by show _ ≤ (V.int d :: gs.map V.int).length - 1; exact Nat.le_refl _)
          rw [ec]
          refine ⟨⟨F, [(g0, .lst (V.int d :: gs.map V.int))] ++ boxG b m ⟨r, gs, ms, st⟩⟩, sle_perm ?_, ⟨r, gs, ms, st⟩, _, _, _, _, _, _, _, _, _, rfl, rfl, hms⟩
          show List.Perm [(r, HO.lst (gs.map V.int)), (b, .lst [.ref r, .ref m, .int st]), (g0, .lst (V.int d :: gs.map V.int)), (m, .lst (ms.map V.int))] [(g0, HO.lst (V.int d :: gs.map V.int)), (b, .lst [.ref r, .ref m, .int st]), (r, .lst (gs.map V.int)), (m, .lst (ms.map V.int))]
          exact (List.Perm.swap _ _ _).trans (((List.Perm.swap _ _ _).cons _).trans (List.Perm.swap _ _ _))
        · refine ⟨⟨h0, hs⟩, ?_⟩
          refine ⟨1, V.int d :: gs.map V.int, 0, rfl, ixN_nat (i := 0) (Nat.succ_pos _), ?_⟩
          exact ⟨_, SLe.refl _, ⟨g0, (d / size) :: gs, ms, st⟩, [], _, _, _, _, _, _, _, _, rfl, rfl, hms⟩
      · rintro σ S ⟨y, E, x0, x2, x4, x5, x6, x7, x8, x9, rfl, rfl, hy⟩
        refine ⟨h0, ?_⟩
        intro H' o'
        subst eF
        obtain ⟨r, e, hr⟩ := modNat (x := d) h0
        exact end_box o' hy fun H2 o2 => ⟨r, congrArg V.int e, .inl hr⟩
    | nil =>
      refine ⟨[.ref g0, .ref m, .int st], .int st, .inl (.inl ⟨0, rfl⟩), rfl, ?_⟩
      refine ⟨0, [.ref g0, .ref m, .int st], 2, rfl, rfl, ?_⟩
      refine ⟨[.ref g0, .ref m, .int (st + 1)], .ref m, .inl (.inl ⟨0, rfl⟩), rfl, ?_⟩
      refine ⟨ms.map V.int, .inl (.inl ⟨2, rfl⟩), ?_⟩
      have hl : (0 : Int) < ((ms.map V.int).length : Nat) := by
        rw [List.length_map]
        have := List.length_pos_iff.mpr (show ms ≠ [] from hms)
        omega
      refine ⟨hl, ?_⟩
      obtain ⟨j, ej, hj⟩ := modNat (x := st) hl
      rw [List.length_map] at hj
      have hj : j < ms.length := by omega
      show oIx K (.ref m) (.int (st % ((ms.map V.int).length : Nat))) _ _
      rw [ej]
      refine ⟨ms.map V.int, .int ms[j], .inl (.inl ⟨2, rfl⟩), atI_at (by rw [List.getElem?_map, List.getElem?_eq_getElem hj]; rfl), ?_⟩
      generalize ms[j] = cell
      refine ⟨.inr (by unfold sm64; omega), ?_⟩
      refine ⟨.inr (by unfold sm64; omega), ?_⟩
      refine ⟨by walk_at "p", ?_⟩
      generalize hf : (cell * 48271 + st * 69621 + 7919) % 2147483647 = first
      have s1 : sm64 first := by rw [← hf]; exact sm_mod (by decide) (by decide)
      refine ⟨.inl ?_, ?_⟩
      · show sm64 ((cell * 48271 + st * 69621 + 7919) % 2147483647)
        rw [hf]
        exact s1
      refine ⟨.inr (by unfold sm64; omega), ?_⟩
      refine ⟨.inr (by unfold sm64; omega), ?_⟩
      refine ⟨by walk_at "p", ?_⟩
      refine ⟨.inl (sm_mod (by decide) (by decide)), ?_⟩
      refine ⟨.inr (by unfold sm64; omega), ?_⟩
      refine ⟨by walk_at "p", ?_⟩
      refine ⟨⟨by decide, by decide⟩, ?_⟩
      refine ⟨h0, ?_⟩
      intro H' o'
      subst eF
      obtain ⟨r, e, hr⟩ := modNat (x := _ / 11) h0
      exact end_box (y := ⟨g0, [], ms, st + 1⟩) (E := []) o' hms fun H2 o2 => ⟨r, congrArg V.int e, .inl hr⟩
/-- a draw: the rest stands -/
theorem use_takeB {W : sWX} {vs : List V} {σ : L2.St} {F : Hp} {E : List (Addr × HO)} {b m : Addr} {x : Bx} {Q : V → SH → Prop} (size : Int) (e : vs = [.ref b, .int size]) (hx : x.ms ≠ []) (hs : size < 1073741824)
    (k : ∀ (y : Bx) (r : Nat), y.ms ≠ [] → ((r : Int) < size ∨ r = 0 ∧ size < 1) → Q (.int (r : Nat)) ⟨F, E ++ boxG b m y⟩) : rC ct_l_take W vs σ ⟨F, E ++ boxG b m x⟩ Q :=
  use_box size e hx (fun _ _ => hs) fun y H1 v H2 hy o1 o2 ex ⟨r, e, hr⟩ => ⟨F, E, o2, by rw [e]; exact k y r hy hr⟩
theorem vc_l_slots {vs : List V} {H : Hp} (g : Addr × Addr × Bx × Unit) (h : ct_l_slots.pre g vs H) : ∃ S, Own S H ∧ r_l_slots K a (endsC ct_l_slots g H) (start N_l_slots vs) S := by
  refine body_box g h fun b m x u F eg eF hms hok e => ?_
  subst eg
  subst e
  have fin : ∀ {y : Bx} {n : Nat} {v : V}, y.ms ≠ [] → v = .int (n : Nat) → 1 ≤ n → n ≤ 64 → ∀ H', Own ⟨F, [] ++ boxG b m y⟩ H' → ct_l_slots.post (b, m, x, u) H v H' := fun {y n v} hy ev h1 h2 H' o' => by
    subst eF
    exact end_box (E := []) o' hy fun H2 o2 => ⟨n, ev, h1, h2⟩
  refine use_takeB (E := []) 16 (by rfl) hms (by decide) fun y r hy hr => ?_
  walk_at "b"
  · exact fin (n := 1) hy rfl (by decide) (by decide)
  · walk_at "b"
    · exact fin (n := 64) hy rfl (by decide) (by decide)
    · walk_at "b"
      · refine use_takeB (E := []) 20 (by rfl) hy (by decide) fun y r2 hy hr2 => ?_
        exact fin (n := 10 + r2) hy (by congr 1) (by omega) (by omega)
      · refine use_takeB (E := []) 7 (by rfl) hy (by decide) fun y r2 hy hr2 => ?_
        exact fin (n := 8 - r2) hy (by congr 1; omega) (by omega) (by omega)
theorem vc_l_join {vs : List V} {H : Hp} (g : Addr × Addr × Bx × Nat × Nat) (h : ct_l_join.pre g vs H) : ∃ S, Own S H ∧ r_l_join K a (endsC ct_l_join g H) (start N_l_join vs) S := by
  refine body_box g h fun b m x g F eg eF hms hok e => ?_
  subst eg
  subst e
  obtain ⟨lean, room⟩ := g
  obtain ⟨h1, h2⟩ := hok
  have h1 : 1 ≤ room := h1
  have h2 : room ≤ 63 := h2
  have fin : ∀ {y : Bx} {n : Nat} {v : V}, y.ms ≠ [] → v = .int (n : Nat) → n < room → ∀ H', Own ⟨F, [] ++ boxG b m y⟩ H' → ct_l_join.post (b, m, x, lean, room) H v H' := fun {y n v} hy ev h1 H' o' => by
    subst eF
    exact end_box (E := []) o' hy fun H2 o2 => ⟨n, ev, h1⟩
  walk_at "b"
  · exact fin (n := room - 1) hms (by congr 1; show (room : Int) - 1 = _; omega) (by omega)
  · walk_at "b"
    · exact fin (n := 0) hms rfl (by omega)
    · walk_at "b"
      · refine ⟨by unfold rngOk; omega, ?_⟩
        refine ⟨fun i σ S => ∃ (p : Nat) (x4 : Option V), p ≤ 2 * room ∧ (room + 1 ≤ p ∨ p = 2 ^ i) ∧ σ = [some (.ref b), some (.int (lean : Nat)), some (.int (room : Nat)), some (.int (p : Nat)), x4] ∧ S = ⟨F, boxG b m x⟩, ⟨1, none, by omega, .inr rfl, rfl, rfl⟩, fun _ _ _ _ _ => trivial, ?_, ?_⟩
        · rintro i σ S hi ⟨p, x4, hp, hq, rfl, rfl⟩
          walk_at "b"
          · rename_i hb
            refine ⟨.inr (by unfold sm64; omega), ?_⟩
            refine ⟨_, SLe.refl _, 2 * p, _, by omega, ?_, by rw [Int.mul_comm]; rfl, rfl⟩
            rcases hq with hq | hq
            · omega
            · rw [hq, Nat.pow_succ, Nat.mul_comm]
              exact .inr rfl
          · rename_i hb
            exact ⟨_, SLe.refl _, p, _, hp, .inl (by omega), rfl, rfl⟩
        · rintro σ S ⟨p, x4, hp, hq, rfl, rfl⟩
          have hq : room + 1 ≤ p := hq.elim id fun e => by
            rw [e]
            show room + 1 ≤ 128
            omega
          exact fin (y := x) (n := p - room - 1) hms (by congr 1; show (p : Int) - room - 1 = _; omega) (by omega)
      · refine use_takeB (E := []) room (by rfl) hms (by omega) fun y r hy hr => ?_
        exact fin (n := r) hy rfl (by omega)
theorem use_join {W : sWX} {vs : List V} {σ : L2.St} {F : Hp} {E : List (Addr × HO)} {b m : Addr} {x : Bx} {Q : V → SH → Prop} (lean room : Nat) (e : vs = [.ref b, .int (lean : Nat), .int (room : Nat)]) (hx : x.ms ≠ []) (h1 : 1 ≤ room) (h2 : room ≤ 63)
    (k : ∀ (y : Bx) (r : Nat), y.ms ≠ [] → r < room → Q (.int (r : Nat)) ⟨F, E ++ boxG b m y⟩) : rC ct_l_join W vs σ ⟨F, E ++ boxG b m x⟩ Q :=
  use_box (lean, room) e hx (fun _ _ => ⟨h1, h2⟩) fun y H1 v H2 hy o1 o2 ex ⟨r, e, hr⟩ => ⟨F, E, o2, by rw [e]; exact k y r hy hr⟩
end
section
variable {K : PySem.W.Frag} {a : Ads}
open TR
/-! ### texts of flags -/
theorem pS_tl (l : List Nat) : TL.tl (pS l) = l := rfl
theorem pS_len (l : List Nat) : (pS l).length = l.length := by rw [TL.len_tl, pS_tl]
theorem pS_line {l : List Nat} (h : l.length ≤ 100) : (pS l).length ≤ sizeLine := by
  rw [pS_len]
  exact Nat.le_trans h (by decide)
theorem fS_tl (fl : List Bool) : TL.tl (fS fl) = fl.map cdB := rfl
theorem fS_len (fl : List Bool) : (fS fl).length = fl.length := by
  rw [TL.len_tl, fS_tl, List.length_map]
theorem fS_line {fl : List Bool} (h : fl.length ≤ 100) : (fS fl).length ≤ sizeLine := by
  rw [fS_len]
  exact Nat.le_trans h (by decide)
theorem cd_in (b : Bool) : cdB b = 76 ∨ cdB b = 82 := by cases b <;> decide
theorem fS_made (q : Bool) (fl : List Bool) : madeL q (fS fl) = true := by
  unfold madeL
  show ((fl.map cdB).all fun c => c == 76 || c == 82 || (q && c == 63)) = true
  rw [List.all_map]
  exact List.all_eq_true.mpr fun b _ => by cases b <;> rfl
theorem pat_fl (fl : List Bool) : patOk (fl.map cdB) := fun c hc => by
  obtain ⟨b, _, rfl⟩ := List.mem_map.mp hc
  cases b <;> decide
theorem pS_sgn {l : List Nat} (h : l.length ≤ 100) (p : patOk l) : sgnOk (pS l) := ⟨h, fun c hc => by
  have := p c hc
  have all : ∀ c ∈ [76, 82, 63], c ∈ [76, 82, 63, 46, 108, 120, 33] := by decide
  exact all c this⟩
theorem fS_sgn {fl : List Bool} (h : fl.length ≤ 100) : sgnOk (fS fl) := pS_sgn (by rw [List.length_map]; exact h) (pat_fl fl)
theorem pS_made {l : List Nat} (p : patOk l) : madeL true (pS l) = true := by
  unfold madeL
  refine List.all_eq_true.mpr fun c hc => ?_
  have all : ∀ c ∈ [76, 82, 63], (c == 76 || c == 82 || (true && c == 63)) = true := by decide
  exact all c (p c hc)
theorem pS_inj {l l' : List Nat} (h : pS l = pS l') : l = l' := congrArg TL.tl h
theorem fS_inj {fl gl : List Bool} (h : fS fl = fS gl) : fl = gl := by
  have e : fl.map cdB = gl.map cdB := congrArg TL.tl h
  have inj : ∀ x y : Bool, cdB x = cdB y → x = y := fun x y => by cases x <;> cases y <;> decide
  exact (List.map_inj_right fun x y h => inj x y h).mp e
theorem cds_inj {fl gl : List Bool} (h : fl.map cdB = gl.map cdB) : fl = gl := by
  have inj : ∀ x y : Bool, cdB x = cdB y → x = y := fun x y => by cases x <;> cases y <;> decide
  exact (List.map_inj_right fun x y h => inj x y h).mp h
theorem fS_of {u : Str} (h : madeL false u = true) : ∃ fl : List Bool, u = fS fl := by
  refine ⟨(TL.tl u).map fun c => c == 76, TL.ext_tl ?_⟩
  rw [fS_tl, List.map_map]
  have : ∀ c ∈ TL.tl u, (cdB ∘ fun c => c == 76) c = c := fun c hc => by
    have := List.all_eq_true.mp h c hc
    rw [Bool.false_and, Bool.or_false] at this
    rcases (Bool.or_eq_true _ _).mp this with e | e
    · rw [eq_of_beq e]
      rfl
    · rw [eq_of_beq e]
      rfl
  exact (List.map_id _).symm.trans (List.map_congr_left fun c hc => (this c hc).symm)
theorem flOk_fl {b : TR} {u : Str} (h : flOk false b (.str u) = true) : ∃ fl : List Bool, u = fS fl ∧ fl.length + 1 = nS b := by
  have h : (madeL false u && decide (u.cps.toList.length + 1 = nS b)) = true := h
  obtain ⟨h1, h2⟩ := (Bool.and_eq_true _ _).mp h
  obtain ⟨fl, rfl⟩ := fS_of h1
  have := of_decide_eq_true h2
  refine ⟨fl, rfl, ?_⟩
  rw [show (fS fl).cps.toList = fl.map cdB from rfl, List.length_map] at this
  exact this
theorem flOk_pt {b : TR} {u : Str} (h : flOk true b (.str u) = true) : ∃ st : List Nat, u = pS st ∧ st.length + 1 = nS b ∧ patOk st := by
  have h : (madeL true u && decide (u.cps.toList.length + 1 = nS b)) = true := h
  obtain ⟨h1, h2⟩ := (Bool.and_eq_true _ _).mp h
  refine ⟨TL.tl u, TL.ext_tl rfl, of_decide_eq_true h2, fun c hc => ?_⟩
  have := List.all_eq_true.mp h1 c hc
  rw [Bool.true_and] at this
  rcases (Bool.or_eq_true _ _).mp this with e | e
  · rcases (Bool.or_eq_true _ _).mp e with e | e
    · rw [eq_of_beq e]; decide
    · rw [eq_of_beq e]; decide
  · rw [eq_of_beq e]; decide
theorem flOk_yes {b : TR} {fl : List Bool} (h : fl.length + 1 = nS b) : flOk false b (.str (fS fl)) = true := by
  show (madeL false (fS fl) && decide ((fl.map cdB).length + 1 = nS b)) = true
  rw [fS_made, List.length_map, decide_eq_true h]
  rfl
theorem flOk_pat {b : TR} {st : List Nat} (h : st.length + 1 = nS b) (p : patOk st) : flOk true b (.str (pS st)) = true := by
  show (madeL true (pS st) && decide (st.length + 1 = nS b)) = true
  rw [pS_made p, decide_eq_true h]
  rfl
theorem LR_at {r : Nat} (h : r < 2) : atI ("LR" : Str).cps.toList (r : Int) = some (cdB (r == 0)) := by
  have : r = 0 ∨ r = 1 := by omega
  rcases this with rfl | rfl <;> rfl
theorem ix_LR {r : Nat} {S : SH} {Q : V → SH → Prop} (h : r < 2) (q : Q (.str (sdS (r == 0))) S) : oIx K (.str "LR") (.int (r : Nat)) S Q := ⟨by decide, _, LR_at h, q⟩
theorem mul_LR : ∀ n ∈ List.range 64, ∀ b : Bool, MulOk (sdS b) (n : Nat) ∧ Txt.mul (sdS b) (n : Nat) = fS (List.replicate n b) := by
  unfold MulOk
  decide +kernel
theorem join_fS (fl : List Bool) : Txt.join "" (fl.map sdS) = fS fl := by
  refine TL.ext_tl ((congrArg TL.tl (TL.join_eq _ _)).trans ((TL.tl_join _ _).trans ?_))
  rw [fS_tl]
  show TL.joinL [] ((fl.map sdS).map TL.tl) = _
  rw [List.map_map]
  show TL.joinL [] (fl.map fun b => [cdB b]) = _
  induction fl with
  | nil => rfl
  | cons b fl ih =>
    cases fl with
    | nil => rfl
    | cons c fl =>
      show [cdB b] ++ ([] ++ TL.joinL [] ((c :: fl).map fun b => [cdB b])) = _
      rw [ih]
      rfl
theorem sum_sd : ∀ fl : List Bool, ((fl.map sdS).map (·.length)).sum = fl.length
  | [] => rfl
  | b :: fl => by
    show 1 + ((fl.map sdS).map (·.length)).sum = fl.length + 1
    rw [sum_sd fl, Nat.add_comm]
theorem rgS_nV (n : Nat) : rgS (n : Int) = nV (List.range n) := by
  unfold rgS nV
  rw [Int.toNat_natCast]
theorem vc_l_flags {vs : List V} {H : Hp} (g : Addr × Addr × Bx × Nat) (h : ct_l_flags.pre g vs H) : ∃ S, Own S H ∧ r_l_flags K a (endsC ct_l_flags g H) (start N_l_flags vs) S := by
  refine body_box g h fun b m x n F eg eF hms hok e => ?_
  subst eg
  subst e
  have hok : n ≤ 63 := hok
  refine use_takeB (E := []) 5 (by rfl) hms (by decide) fun y r hy hr => ?_
  walk_at "b"
  · rename_i hb
    have hr : r < 2 := by omega
    refine ⟨by decide, _, LR_at hr, ?_⟩
    obtain ⟨h1, h2⟩ := mul_LR n (List.mem_range.mpr (by omega)) (r == 0)
    refine ⟨h1, ?_⟩
    intro H' o'
    subst eF
    exact end_box (E := []) o' hy fun H2 o2 => ⟨_, List.length_replicate, congrArg V.str h2⟩
  · refine ⟨rfl, ?_⟩
    refine ⟨by unfold rngOk; omega, fun D => ?_⟩
    refine ⟨fun i S => ∃ (y : Bx) (fl : List Bool), y.ms ≠ [] ∧ fl.length = i ∧ S = ⟨F, [(D, .lst ((fl.map sdS).map V.str))] ++ boxG b m y⟩, ⟨y, [], hy, rfl, rfl⟩, fun _ _ _ _ => trivial, ?_, ?_⟩
    · rintro i S hi ⟨y, fl, hy, hl, rfl⟩
      have hi : i < ((n : Nat) : Int).toNat := hi
      rw [Int.toNat_natCast] at hi
      refine yldR_go (nm_go ⟨rfl, ?_⟩)
      refine use_takeB (E := [(D, .lst ((fl.map sdS).map V.str))]) 2 (by rfl) hy (by decide) fun y r hy hr => ?_
      refine ix_LR (by omega) ?_
      refine ⟨0, _, rfl, ?_, ⟨_, SLe.refl _, y, fl ++ [r == 0], hy, by rw [List.length_append, hl]; rfl, ?_⟩⟩
      · rw [List.length_map, List.length_map, hl]
        exact small_of (show i ≤ 63 by omega) (by decide)
      · rw [List.map_append, List.map_append]
        rfl
    · rintro S ⟨y, fl, hy, hl, rfl⟩
      have hl : fl.length = ((n : Nat) : Int).toNat := hl
      rw [Int.toNat_natCast] at hl
      refine ⟨fl.map sdS, .inl (.inl ⟨0, rfl⟩), ?_, ?_⟩
      · rw [sum_sd]
        show fl.length + (fl.map sdS).length * 0 ≤ 16777216
        omega
      · rw [join_fS]
        intro H' o'
        subst eF
        exact end_box (E := [(D, .lst ((fl.map sdS).map V.str))]) o' hy fun H2 o2 => ⟨fl, hl, rfl⟩
end
section
variable {K : PySem.W.Frag} {a : Ads}
open TR
theorem iV_at {cs : List Int} {i : Nat} {v : V} (h : (cs.map V.int)[i]? = some v) : ∃ c, cs[i]? = some c ∧ v = .int c := by
  rw [List.getElem?_map] at h
  cases e : cs[i]? with
  | none =>
    rw [e] at h
    cases h
  | some c =>
    rw [e] at h
    cases h
    exact ⟨c, rfl, rfl⟩
theorem cut_ints (ns : List Int) : ∃ cs : List Int, cutV (ns.map V.int) none (some 63) = cs.map V.int ∧ cs.length ≤ 63 := by
  refine ⟨ns.take (min 63 ns.length), ?_, by rw [List.length_take]; omega⟩
  unfold cutV
  rw [HT.sIx_none, List.length_map, Nat.sub_zero, List.drop_zero]
  show List.take (HT.sIx ns.length ns.length (some ((63 : Nat) : Int))) _ = _
  rw [HT.sIx_nat, List.map_take]
theorem vc_l_box {vs : List V} {H : Hp} (g : Addr × List Int) (h : (ct_l_box K).pre g vs H) : ∃ S, Own S H ∧ r_l_box K a (endsC (ct_l_box K) g H) (start N_l_box vs) S := by
  obtain ⟨p, ns⟩ := g
  obtain ⟨rfl, hs⟩ := h
  have hs : SqL K H p (ns.map V.int) := hs
  refine ⟨⟨H, []⟩, Own.base H, ?_⟩
  obtain ⟨cs, ec, hc⟩ := cut_ints ns
  refine .inl ⟨ns.map V.int, .inr hs, fun r => ?_⟩
  rw [ec]
  refine .inl ⟨cs.map V.int, .inl ⟨0, rfl⟩, fun D => ?_⟩
  refine ⟨fun i S => S = ⟨H, [(D, .lst ((cs.take i).map V.int)), (r, .lst (cs.map V.int))]⟩, rfl, ?_, ?_, ?_⟩
  · rintro i S _ rfl
    exact .inl ⟨1, rfl⟩
  · rintro i S hi rfl v hv
    obtain ⟨c, hcc, rfl⟩ := iV_at hv
    refine ⟨rfl, ?_⟩
    refine ⟨0, _, rfl, ?_, ⟨_, SLe.refl _, ?_⟩⟩
    · rw [List.length_map, List.length_take]
      exact small_of (show min i cs.length ≤ 100 by omega) (by decide)
    · show _ = SH.mk H [(D, .lst ((cs.take (i + 1)).map V.int)), (r, .lst (cs.map V.int))]
      rw [map_more hcc]
      rfl
  rintro S rfl
  have el : (itL K r (cs.map V.int)).n = cs.length := List.length_map _
  rw [el, List.take_length]
  refine .inl ⟨cs.map V.int, .inl ⟨0, rfl⟩, fun D2 => ?_⟩
  refine ⟨fun i S => S = ⟨H, [(D2, .lst (((cs.take i).map fun c => c % 2147483647).map V.int)), (D, .lst (cs.map V.int)), (r, .lst (cs.map V.int))]⟩, rfl, ?_, ?_, ?_⟩
  · rintro i S _ rfl
    exact .inl ⟨1, rfl⟩
  · rintro i S hi rfl v hv
    obtain ⟨c, hcc, rfl⟩ := iV_at hv
    refine ⟨rfl, ?_⟩
    refine ⟨by walk_at "p", ?_⟩
    refine ⟨0, _, rfl, ?_, ⟨_, SLe.refl _, ?_⟩⟩
    · rw [List.length_map, List.length_map, List.length_take]
      exact small_of (show min i cs.length ≤ 100 by omega) (by decide)
    · show _ = SH.mk H [(D2, .lst (((cs.take (i + 1)).map fun c => c % 2147483647).map V.int)), (D, .lst (cs.map V.int)), (r, .lst (cs.map V.int))]
      rw [map_more hcc, List.map_append]
      rfl
  rintro S rfl
  have el : (itL K D (cs.map V.int)).n = cs.length := List.length_map _
  rw [el, List.take_length]
  refine ⟨fun σ S => ∃ (m : Addr) (ms : List Int) (E : List (Addr × HO)) (x0 x3 : Option V), ms ≠ [] ∧ (D, HO.lst (cs.map V.int)) ∈ E ∧ σ = [x0, some (.ref D), some (.ref m), x3] ∧ S = ⟨H, (m, .lst (ms.map V.int)) :: E⟩, ?_, ?_⟩
  · refine .inl ⟨(cs.map fun c => c % 2147483647).map V.int, .inl ⟨0, rfl⟩, ?_⟩
    cases cs with
    | nil =>
      refine ⟨show 1 ≤ sizeLine by decide, fun q => ?_⟩
      exact ⟨_, SLe.refl _, q, [0], [(D2, .lst []), (D, .lst []), (r, .lst [])], _, _, (fun z => nomatch z), .tail _ (.head _), rfl, rfl⟩
    | cons c cs =>
      exact ⟨_, SLe.refl _, D2, (c :: cs).map fun c => c % 2147483647, [(D, .lst ((c :: cs).map V.int)), (r, .lst ((c :: cs).map V.int))], _, _, (fun z => nomatch z), .head _, rfl, rfl⟩
  · rintro σ S ⟨m, ms, E, x0, x3, hms, hD, rfl, rfl⟩
    have hD' : mL K H ((m, .lst (ms.map V.int)) :: E) D (cs.map V.int) := .inl (.tail _ hD)
    refine .inl ⟨cs.map V.int, hD'.s (List.Subset.refl _), fun G0 => ?_⟩
    refine ⟨fun i S => ∃ gs : List Int, gs.length ≤ i ∧ S = ⟨H, (G0, .lst (gs.map V.int)) :: (m, .lst (ms.map V.int)) :: E⟩, ⟨[], Nat.le_refl _, rfl⟩, ?_, ?_, ?_⟩
    · rintro i S _ ⟨gs, _, rfl⟩
      exact hD'.s fun z hz => .tail _ hz
    · rintro i S hi ⟨gs, hg, rfl⟩ v hv
      obtain ⟨c, hcc, rfl⟩ := iV_at hv
      have hi : i < (cs.map V.int).length := hi
      rw [List.length_map] at hi
      refine ⟨rfl, ?_⟩
      refine ⟨⟨by decide, by decide, by decide⟩, ?_⟩
      walk_at "b"
      · refine ⟨0, _, rfl, ?_, ⟨_, SLe.refl _, gs ++ [c], by rw [List.length_append, List.length_singleton]; omega, ?_⟩⟩
        · rw [List.length_map]
          exact small_of (show gs.length ≤ 100 by omega) (by decide)
        · rw [List.map_append]
          rfl
      · exact ⟨_, SLe.refl _, gs, by omega, rfl⟩
    · rintro S ⟨gs, _, rfl⟩
      refine ⟨show 3 ≤ sizeLine by decide, fun b => ?_⟩
      intro H' o'
      have nd : (b :: G0 :: m :: E.map (·.1)).Nodup := o'.nd
      have g1 := o'.gs (b, .lst [.ref G0, .ref m, .int 0]) (.head _)
      have g2 := o'.gs (G0, .lst (gs.map V.int)) (.tail _ (.head _))
      have g3 := o'.gs (m, .lst (ms.map V.int)) (.tail _ (.tail _ (.head _)))
      simp only [List.nodup_cons, List.mem_cons, not_or] at nd
      exact ⟨b, m, ⟨G0, gs, ms, 0⟩, rfl, g1.2, g2.2, g3.2, ⟨g1.1, g2.1, g3.1, nd.1.1, nd.1.2.1, nd.2.1.1⟩, hms, fun c u e => o'.fr c u e⟩
/-! ### bent flags -/
theorem cutS_tl (z : Str) (lo hi : Option Int) : TL.tl (cutS z lo hi) = ((TL.tl z).drop (HT.sIx z.length 0 lo)).take (HT.sIx z.length z.length hi - HT.sIx z.length 0 lo) := rfl
theorem cut_to (l : List Nat) (i : Nat) : cutS (pS l) none (some (i : Int)) = pS (l.take i) := by
  refine TL.ext_tl ?_
  rw [cutS_tl, HT.sIx_none, HT.sIx_nat, Nat.sub_zero, List.drop_zero, pS_tl, pS_tl, pS_len]
  by_cases h : i ≤ l.length
  · rw [Nat.min_eq_left h]
  · rw [List.take_of_length_le (by omega), List.take_of_length_le (by omega)]
theorem cut_from (l : List Nat) (i : Nat) : cutS (pS l) (some (i : Int)) none = pS (l.drop i) := by
  refine TL.ext_tl ?_
  rw [cutS_tl, HT.sIx_none, HT.sIx_nat, pS_tl, pS_tl, pS_len]
  rw [List.take_of_length_le (by rw [List.length_drop]; exact Nat.le_refl _)]
  by_cases h : i ≤ l.length
  · rw [Nat.min_eq_left h]
  · rw [List.drop_of_length_le (by omega), List.drop_of_length_le (by omega)]
theorem cut_mid (l : List Nat) (i j : Nat) : cutS (pS l) (some (i : Int)) (some (j : Int)) = pS ((l.take j).drop i) := by
  refine TL.ext_tl ?_
  rw [cutS_tl, HT.sIx_nat, HT.sIx_nat, pS_tl, pS_tl, pS_len, List.drop_take]
  by_cases h : j ≤ l.length
  · by_cases h2 : i ≤ l.length
    · rw [Nat.min_eq_left h, Nat.min_eq_left h2]
    · rw [List.drop_of_length_le (by omega), List.drop_of_length_le (by omega), List.take_nil, List.take_nil]
  · by_cases h2 : i ≤ l.length
    · rw [Nat.min_eq_left h2, List.take_of_length_le (by rw [List.length_drop]; omega), List.take_of_length_le (by rw [List.length_drop]; omega)]
    · rw [List.drop_of_length_le (by omega), List.drop_of_length_le (by omega), List.take_nil, List.take_nil]
theorem pS_app (l l' : List Nat) : pS l ++ pS l' = pS (l ++ l') := TL.ext_tl (by rw [TL.tl_append, pS_tl, pS_tl, pS_tl])
theorem sd_pS (b : Bool) : sdS b = pS [cdB b] := rfl
def oddS (q : Bool) : Str := if q then "!.lx" else "?.lx"
theorem odd_at {r : Nat} (q : Bool) (h : r < 4) : ∃ c, atI (oddS q).cps.toList (r : Int) = some c ∧ c ∈ [76, 82, 63, 46, 108, 120, 33] ∧ (c == 76 || c == 82 || (q && c == 63)) = false := by
  have : r = 0 ∨ r = 1 ∨ r = 2 ∨ r = 3 := by omega
  cases q
  · rcases this with rfl | rfl | rfl | rfl
    · exact ⟨63, rfl, by decide, by decide⟩
    · exact ⟨46, rfl, by decide, by decide⟩
    · exact ⟨108, rfl, by decide, by decide⟩
    · exact ⟨120, rfl, by decide, by decide⟩
  · rcases this with rfl | rfl | rfl | rfl
    · exact ⟨33, rfl, by decide, by decide⟩
    · exact ⟨46, rfl, by decide, by decide⟩
    · exact ⟨108, rfl, by decide, by decide⟩
    · exact ⟨120, rfl, by decide, by decide⟩
theorem ix_odd {r : Nat} {q : Bool} {S : SH} {Q : V → SH → Prop} (h : r < 4) (k : ∀ c, c ∈ [76, 82, 63, 46, 108, 120, 33] → (c == 76 || c == 82 || (q && c == 63)) = false → Q (.str ⟨#[c]⟩) S) : oIx K (.str (if q then "!.lx" else "?.lx")) (.int (r : Nat)) S Q := by
  obtain ⟨c, e1, e2, e3⟩ := odd_at q h
  refine ⟨?_, c, e1, k c e2 e3⟩
  cases q <;> decide
theorem pat_in {st : List Nat} (p : patOk st) : ∀ c ∈ st, c ∈ [76, 82, 63, 46, 108, 120, 33] := fun c hc => by
  have all : ∀ c ∈ [76, 82, 63], c ∈ [76, 82, 63, 46, 108, 120, 33] := by decide
  exact all c (p c hc)
theorem bad_odd {q : Bool} {n c : Nat} {l l' : List Nat} (hc : c ∈ [76, 82, 63, 46, 108, 120, 33]) (hq : (c == 76 || c == 82 || (q && c == 63)) = false) (p : patOk l) (p' : patOk l') (h2 : l.length + l'.length ≤ 70) {H H' : Hp} : BadF q n H (.str (pS l ++ ⟨#[c]⟩ ++ pS l')) H' := by
  have e : (pS l ++ ⟨#[c]⟩ ++ pS l').cps.toList = l ++ [c] ++ l' := by
    show TL.tl _ = _
    rw [TL.tl_append, TL.tl_append, pS_tl, pS_tl]
  refine .inl ⟨_, rfl, ⟨?_, ?_⟩, ?_⟩
  · rw [e, List.length_append, List.length_append, List.length_singleton]
    omega
  · rw [e]
    intro x hx
    rcases List.mem_append.mp hx with hx | hx
    · rcases List.mem_append.mp hx with hx | hx
      · exact pat_in p _ hx
      · rw [List.mem_singleton.mp hx]
        exact hc
    · exact pat_in p' _ hx
  · have : madeL q (pS l ++ ⟨#[c]⟩ ++ pS l') = false := by
      unfold madeL
      rw [e]
      refine List.all_eq_false.mpr ⟨c, List.mem_append_left _ (List.mem_append_right _ (.head _)), ?_⟩
      rw [hq]
      exact Bool.false_ne_true
    rw [this]
    rfl
theorem bad_len {q : Bool} {n : Nat} {l : List Nat} (h : l.length ≠ n) (h2 : l.length ≤ 100) (p : patOk l) {H H' : Hp} : BadF q n H (.str (pS l)) H' := by
  refine .inl ⟨_, rfl, pS_sgn h2 p, ?_⟩
  show (_ && decide (l.length = n)) = false
  rw [decide_eq_false h, Bool.and_false]
theorem pat_sub {l l' : List Nat} (p : patOk l) (h : ∀ c ∈ l', c ∈ l) : patOk l' := fun c hc => p c (h c hc)
theorem vc_l_bent {vs : List V} {H : Hp} (g : Addr × Addr × Bx × List Nat × Bool) (h : ct_l_bent.pre g vs H) : ∃ S, Own S H ∧ r_l_bent K a (endsC ct_l_bent g H) (start N_l_bent vs) S := by
  refine body_box g h fun b m x g F eg eF hms hok e => ?_
  subst eg
  obtain ⟨fl, q⟩ := g
  subst e
  obtain ⟨hl, hp⟩ := hok
  have hl : fl.length ≤ 63 := hl
  have hp : patOk fl := hp
  have hline : (pS fl).length ≤ sizeLine := pS_line (by omega)
  have fin : ∀ {y : Bx} {v : V} {E : List (Addr × HO)}, y.ms ≠ [] → (∀ H1 H2, Own ⟨H1, E⟩ H2 → BadF q fl.length H1 v H2) → ∀ H', Own ⟨F, E ++ boxG b m y⟩ H' → ct_l_bent.post (b, m, x, fl, q) H v H' := fun {y v E} hy hv H' o' => by
    subst eF
    exact end_box (E := E) o' hy fun H2 o2 => hv _ _ o2
  refine use_takeB (E := []) 8 (by rfl) hms (by decide) fun y r hy hr => ?_
  refine ⟨hline, ?_⟩
  rw [pS_len]
  refine use_takeB (E := []) (fl.length : Nat) (by rfl) hy (by omega) fun y at_ hy hat => ?_
  walk_at "b"
  · rename_i hb
    refine ⟨hline, ?_⟩
    rw [cut_to]
    refine op_go (var_go (v := .str (if q then "!.lx" else "?.lx")) (by rfl) (var_go (v := .int (r : Nat)) (by rfl) ?_))
    refine ix_odd (by omega) fun c e1 e2 => ?_
    refine ⟨?_, ?_⟩
    · rw [pS_len, List.length_take]
      show min at_ fl.length + 1 ≤ sizeLine
      exact Nat.le_trans (show _ ≤ 100 by omega) (by decide)
    refine ⟨hline, ?_⟩
    have ec : cutS (pS fl) (some ((at_ : Int) + 1)) none = pS (fl.drop (at_ + 1)) := cut_from fl (at_ + 1)
    rw [ec]
    refine ⟨?_, ?_⟩
    · rw [TL.len_tl, TL.tl_append, List.length_append, pS_tl, pS_len, List.length_take, List.length_drop]
      show min at_ fl.length + 1 + _ ≤ sizeLine
      exact Nat.le_trans (show _ ≤ 200 by omega) (by decide)
    exact fin (E := []) hy fun H1 H2 _ => bad_odd e1 e2 (pat_sub hp fun c h => List.mem_of_mem_take h) (pat_sub hp fun c h => List.mem_of_mem_drop h) (by rw [List.length_take, List.length_drop]; omega)
  · walk_at "b"
    · refine use_takeB (E := []) 2 (by rfl) hy (by decide) fun y r2 hy hr2 => ?_
      refine ix_LR (by omega) ?_
      refine ⟨?_, ?_⟩
      · rw [pS_len]
        show fl.length + 1 ≤ sizeLine
        exact Nat.le_trans (show _ ≤ 200 by omega) (by decide)
      rw [sd_pS, pS_app]
      refine fin (E := []) hy fun H1 H2 _ => bad_len (l := fl ++ [cdB (r2 == 0)]) (by rw [List.length_append, List.length_singleton]; show fl.length + 1 ≠ fl.length; omega) (by rw [List.length_append, List.length_singleton]; omega) fun c hc => ?_
      rcases List.mem_append.mp hc with hc | hc
      · exact hp c hc
      · rw [List.mem_singleton.mp hc]
        cases (r2 == 0) <;> decide
    · walk_at "b"
      · refine ⟨hline, ?_⟩
        rw [pS_len]
        cases fl with
        | nil => exact fin (E := []) hy fun H1 H2 _ => bad_len (n := 0) (l := [82]) (by decide) (by decide) (fun c hc => by rw [List.mem_singleton.mp hc]; decide)
        | cons f fl =>
          have : (((f :: fl).length : Nat) : Int) != 0 := by
            rw [bne_iff_ne]
            show ((fl.length + 1 : Nat) : Int) ≠ 0
            omega
          rw [this]
          refine ⟨hline, ?_⟩
          have ec : cutS (pS (f :: fl)) (some 1) none = pS fl := cut_from (f :: fl) 1
          rw [ec]
          exact fin (E := []) hy fun H1 H2 _ => bad_len (by show fl.length ≠ fl.length + 1; omega) (by have : fl.length + 1 ≤ 63 := hl; omega) (pat_sub hp fun c h => .tail _ h)
      · walk_at "b"
        · refine fun D => ?_
          refine ⟨fun i S => S = ⟨F, [(D, .lst (((fl.take i).map fun c => pS [c]).map V.str))] ++ boxG b m y⟩, rfl, fun _ _ _ _ => trivial, ?_, ?_⟩
          · rintro i S hi rfl c hc
            have ef : fl[i]? = some c := by
              rw [← pS_tl fl, Array.getElem?_toList]
              exact hc
            refine ⟨rfl, ?_⟩
            refine ⟨0, _, rfl, ?_, ⟨_, SLe.refl _, ?_⟩⟩
            · rw [List.length_map, List.length_map, List.length_take]
              exact small_of (show min i fl.length ≤ 100 by omega) (by decide)
            · show _ = SH.mk F ([(D, .lst (((fl.take (i + 1)).map fun c => pS [c]).map V.str))] ++ boxG b m y)
              rw [map_more ef, List.map_append]
              rfl
          · rintro S rfl
            refine fin (E := [(D, .lst (((fl.take (itS (pS fl)).n).map fun c => pS [c]).map V.str))]) hy fun H1 H2 o2 => .inr (.inr ⟨D, _, rfl, (o2.gs _ (.head _)).2, (o2.gs (D, .lst (((fl.take (itS (pS fl)).n).map fun c => pS [c]).map V.str)) (.head _)).1, ?_, fun u hu => ?_⟩)
            · rw [List.length_map, List.length_take]
              omega
            · obtain ⟨f, hf, rfl⟩ := List.mem_map.mp hu
              exact ⟨f, hp f (List.mem_of_mem_take hf), rfl⟩
        · exact fin (E := []) hy fun H1 H2 _ => .inr (.inl rfl)
end
section
variable {K : PySem.W.Frag} {a : Ads}
open TR
/-! ### the data of a trail -/
/-- a trail's value, opened -/
theorem sd_inj {c d : Bool} (h : V.str (sdS c) = V.str (sdS d)) : c = d := by
  have := fS_inj (fl := [c]) (gl := [d]) (V.str.inj h)
  exact List.head_eq_of_cons_eq this
theorem st_open {F : Hp} {G : List (Addr × HO)} {v : V} {s : Nat × Bool} (h : MD K F G v (stD s)) : ∃ p, v = .ref p ∧ mT K F G p [.int (s.1 : Nat), .str (sdS s.2)] := by
  obtain ⟨p, xs, rfl, hp, hx⟩ := h.tupI
  cases hx with
  | cons h1 hx =>
    cases hx with
    | cons h2 hx =>
      cases hx
      rw [h1.intI, h2.strI] at hp
      exact ⟨p, rfl, hp⟩
theorem fS_at {fl : List Bool} {i : Nat} {c : Bool} (h : fl[i]? = some c) : atI (fS fl).cps.toList (i : Int) = some (cdB c) := atI_at (by
  show (fl.map cdB)[i]? = _
  rw [List.getElem?_map, h]
  rfl)
theorem okF_at {fl : List Bool} {s : Nat × Bool} {c : Bool} (h : fl[s.1]? = some c) : okF fl s = (c == s.2) := by
  unfold okF
  rw [h]
  rfl
theorem flat_nV : ∀ ns : List Nat, (nV ns).all flatV = true
  | [] => rfl
  | _ :: ns => flat_nV ns
theorem in_nV (f : Nat) : ∀ ns : List Nat, inV (.int (f : Nat)) (nV ns) = ns.contains f
  | [] => rfl
  | n :: ns => by
    show (((n : Int) == (f : Int)) || inV (.int (f : Nat)) (nV ns)) = ((f == n) || ns.contains f)
    rw [in_nV f ns]
    congr 1
    rw [Bool.eq_iff_iff, beq_iff_eq, beq_iff_eq]
    omega
theorem in_non : ∀ ns : List Nat, inV .non (nV ns) = false
  | [] => rfl
  | n :: ns => in_non ns
theorem use_lisI {W : sWX} {σ : L2.St} {S : SH} {Q : V → SH → Prop} {vs : List V} (i : Int) (e : vs = [.int i]) (h : Q (.bl true) S) : rC (ct_is_integer K) W vs σ S Q :=
  use_isI (.int i) .int e (fun _ _ => rfl) h
/-! ### the last three of the stack -/
theorem open_at : ∀ k ∈ List.range 3, decide (V.str (kdS k) = V.str "open") = (k == 0) := by decide +kernel
theorem three_eq (bs : List Bool) (h : bs.length ≤ 3) : PyData.eqv (.list (bs.map PyData.bool)) (.list [.bool true, .bool false, .bool false]) = (bs == [true, false, false]) ∧ SeqAt.shaped (.list (bs.map PyData.bool)) = true := by
  match bs, h with
  | [], _ => decide +kernel
  | [a], _ => cases a <;> decide +kernel
  | [a, b], _ => cases a <;> cases b <;> decide +kernel
  | [a, b, c], _ => cases a <;> cases b <;> cases c <;> decide +kernel
theorem dp_bools (H : Hp) : ∀ bs : List Bool, DpAll K H (bs.map V.bl) (bs.map PyData.bool)
  | [] => .nil
  | b :: bs => .cons (.bl b) (dp_bools H bs)
theorem cut_three (xs : List V) : cutV xs (some (-3)) none = xs.drop (xs.length - 3) := by
  unfold cutV
  rw [HT.sIx_none]
  have e : HT.sIx xs.length 0 (some (-3)) = xs.length - 3 := by
    show (if (-3 : Int) < 0 then ((-3 : Int) + (xs.length : Int)).toNat else min (-3 : Int).toNat xs.length) = _
    rw [if_pos (by decide)]
    omega
  rw [e]
  exact List.take_of_length_le (by rw [List.length_drop]; omega)
theorem vc_ends_fork {vs : List V} {H : Hp} (g : V × List PN) (h : (ct_ends_fork K).pre g vs H) : ∃ S, Own S H ∧ r_ends_fork K a (endsC (ct_ends_fork K) g H) (start N_ends_fork vs) S := by
  obtain ⟨u, st⟩ := g
  obtain ⟨rfl, ⟨p, xs, e1, hp, hx⟩, hl, hk⟩ := h
  have e1 : u = .ref p := e1
  subst e1
  have hx : MDs K H [] xs (st.map pnD) := hx
  have hk : ∀ n ∈ st, n.1 ≤ 2 := hk
  have lx : xs.length = st.length := by rw [hx.len, List.length_map]
  refine ⟨⟨H, []⟩, Own.base H, ?_⟩
  refine .inl ⟨xs, .inr hp, fun r => ?_⟩
  rw [cut_three]
  have hy := hx.drop (xs.length - 3)
  rw [← List.map_drop, lx] at hy
  generalize hY : xs.drop (xs.length - 3) = ys
  rw [lx] at hY
  rw [hY] at hy
  generalize hZ : st.drop (st.length - 3) = zs at hy
  have lz : zs.length ≤ 3 := by
    rw [← hZ, List.length_drop]
    omega
  have ly : ys.length = zs.length := by rw [hy.len, List.length_map]
  refine .inl ⟨ys, .inl ⟨0, rfl⟩, fun D => ?_⟩
  refine ⟨fun i S => S = ⟨H, [(D, .lst (((zs.take i).map fun n => n.1 == 0).map V.bl)), (r, .lst ys)]⟩, rfl, ?_, ?_, ?_⟩
  · rintro i S _ rfl
    exact .inl ⟨1, rfl⟩
  · rintro i S hi rfl v hv
    obtain ⟨d, hd, hv2⟩ := hy.at hv
    have hi : i < ys.length := hi
    rw [ly] at hi
    obtain ⟨n, hn⟩ : ∃ n, zs[i]? = some n := ⟨_, List.getElem?_eq_getElem hi⟩
    rw [List.getElem?_map, hn] at hd
    cases hd
    obtain ⟨q, ws, rfl, hq, hw⟩ := hv2.tupI
    cases hw with
    | cons h1 hw =>
      rw [h1.strI] at hq
      refine ⟨rfl, ?_⟩
      refine ⟨_, _, .inr (hq.s fun _ z => nomatch z), atI_at (i := 0) rfl, ?_⟩
      refine ⟨0, _, rfl, ?_, ⟨_, SLe.refl _, ?_⟩⟩
      · rw [List.length_map, List.length_map, List.length_take]
        exact small_of (show min i zs.length ≤ 100 by omega) (by decide)
      · show _ = SH.mk H [(D, .lst (((zs.take (i + 1)).map fun n => n.1 == 0).map V.bl)), (r, .lst ys)]
        rw [map_more hn, List.map_append]
        show SH.mk H [(D, .lst (_ ++ [V.bl (decide (V.str (kdS n.1) = V.str "open"))])), _] = _
        have hm : n ∈ st := by
          rw [← hZ] at hn
          exact List.mem_of_mem_drop (List.mem_of_getElem? hn)
        rw [open_at n.1 (List.mem_range.mpr (Nat.lt_succ_of_le (hk n hm)))]
        rfl
  · rintro S rfl
    have en : (itL K r ys).n = zs.length := ly
    rw [en, List.take_length]
    refine ⟨show 3 ≤ sizeLine by decide, fun D2 => ?_⟩
    obtain ⟨h1, h2⟩ := three_eq (zs.map fun n => n.1 == 0) (by rw [List.length_map]; exact lz)
    refine ⟨_, _, fun H' o => .lst (o.l (.inl ⟨1, rfl⟩)) (dp_bools _ _), fun H' o => .lst (o.l (.inl ⟨0, rfl⟩)) (dp_bools _ [true, false, false]), h2, by decide +kernel, ?_⟩
    show (endsC (ct_ends_fork K) (V.ref p, st) H).rt (V.bl (PyData.eqv (.list ((zs.map fun n => n.1 == 0).map PyData.bool)) (.list [.bool true, .bool false, .bool false]))) _
    rw [h1]
    intro H' o'
    refine ⟨?_, fun c u e => o'.fr c u e⟩
    show _ = V.bl (endsF st)
    unfold endsF
    rw [hZ]
end
section
variable {K : PySem.W.Frag} {a : Ads}
open TR
theorem run_step {t : List Nat} {i c : Nat} {s0 s fin : PS} (hc : t[i]? = some c) (h : runP (t.take i) 0 s0 = some s) (hf : runP t 0 s0 = some fin) : ∃ s3, stepP s i c = some s3 ∧ runP (t.take (i + 1)) 0 s0 = some s3 := by
  obtain ⟨hi, hc2⟩ := List.getElem?_eq_some_iff.mp hc
  have hl : (t.take i).length = i := by
    rw [List.length_take]
    omega
  have e : t.take i ++ c :: t.drop (i + 1) = t := by rw [← hc2, List.getElem_cons_drop, List.take_append_drop]
  have hf2 : runP (t.take i ++ c :: t.drop (i + 1)) 0 s0 = some fin := by rw [e]; exact hf
  rw [runP_app, h, hl, Nat.zero_add] at hf2
  have hf3 : (stepP s i c).bind (fun s2 => runP (t.drop (i + 1)) (i + 1) s2) = some fin := hf2
  cases hs : stepP s i c with
  | none =>
    rw [hs] at hf3
    cases hf3
  | some s3 =>
    refine ⟨s3, rfl, ?_⟩
    rw [take_more hc, runP_app, h, hl, Nat.zero_add]
    show (stepP s i c).bind (fun s2 => some s2) = _
    rw [hs]
    rfl
theorem joinP_is {st : List PN} {rows : List TR.Row} {n p : Nat} {s3 : PS} (h : joinP st rows n p = some s3) : ∃ rest o l r, st = rest ++ [o, l, r] ∧ s3 = (rest ++ [(2, l.2.2.2.1, l.2.2.1, r.2.2.2.1, o.2.2.2.2)], rows ++ [(l.2.2.2.1, (l.1, l.2.1), (r.1, r.2.1), (l.2.2.1, r.2.2.2.1), (o.2.2.2.2, p + 1))], n) := by
  unfold joinP at h
  split at h
  · rename_i r l o rest er
    refine ⟨rest.reverse, o, l, r, ?_, (Option.some.inj h).symm⟩
    have := congrArg List.reverse er
    rw [List.reverse_reverse] at this
    rw [this, List.reverse_cons, List.reverse_cons, List.reverse_cons, List.append_assoc, List.append_assoc]
    rfl
  · cases h
theorem mds_split {F : Hp} {G : List (Addr × HO)} : ∀ {ds es : List PyData} {vs : List V}, MDs K F G vs (ds ++ es) → ∃ v1 v2, vs = v1 ++ v2 ∧ MDs K F G v1 ds ∧ MDs K F G v2 es
  | [], es, vs, h => ⟨[], vs, rfl, .nil, h⟩
  | d :: ds, es, vs, h => by
    cases h with
    | cons h1 h2 =>
      obtain ⟨v1, v2, e, a1, a2⟩ := mds_split (ds := ds) h2
      exact ⟨_ :: v1, v2, by rw [e]; rfl, .cons h1 a1, a2⟩
theorem at2_2 {E : List (Addr × HO)} {x y : Addr × HO} : (E ++ [x, y])[E.length + 1]? = some y := by
  rw [List.getElem?_append_right (by omega), show E.length + 1 - E.length = 1 by omega]
  rfl
theorem set2_2 {E : List (Addr × HO)} {x y z : Addr × HO} : (E ++ [x, y]).set (E.length + 1) z = E ++ [x, z] := by
  rw [List.set_append_right _ _ (by omega), show E.length + 1 - E.length = 1 by omega]
  rfl
theorem pushS {H : Hp} {E : List (Addr × HO)} {x : Addr × HO} {ps : Addr} {sv : List V} {y : V} {Q : V → SH → Prop} (hl : sv.length < sizeLine) (h : Q .non ⟨H, E ++ [x, (ps, .lst (sv ++ [y]))]⟩) : mAppend (.ref ps) [y] ⟨H, E ++ [x, (ps, .lst sv)]⟩ Q := by
  refine ⟨E.length + 1, sv, at2_2, hl, ?_⟩
  show Q .non ⟨H, (E ++ [x, (ps, .lst sv)]).set (E.length + 1) (ps, .lst (sv ++ [y]))⟩
  rw [set2_2]
  exact h
theorem popS {H : Hp} {E : List (Addr × HO)} {x : Addr × HO} {ps : Addr} {sv : List V} {y : V} {Q : V → SH → Prop} (h : Q y ⟨H, E ++ [x, (ps, .lst sv)]⟩) : mPop (.ref ps) [] ⟨H, E ++ [x, (ps, .lst (sv ++ [y]))]⟩ Q := by
  refine ⟨E.length + 1, sv ++ [y], y, at2_2, ?_, ?_⟩
  · rw [List.length_append, List.length_singleton, Nat.add_sub_cancel, List.getElem?_append_right (Nat.le_refl _), Nat.sub_self]
    rfl
  · show Q y ⟨H, (E ++ [x, (ps, .lst (sv ++ [y]))]).set (E.length + 1) (ps, .lst (sv ++ [y]).dropLast)⟩
    rw [set2_2, List.dropLast_concat]
    exact h
theorem tyS {H : Hp} {E : List (Addr × HO)} {x : Addr × HO} {ps : Addr} {sv : List V} : sTy K "list" (.ref ps) ⟨H, E ++ [x, (ps, .lst sv)]⟩ := .inl ⟨rfl, sv, .inl ⟨_, at2_2⟩⟩
theorem tyR {H : Hp} {E G : List (Addr × HO)} {pr : Addr} {rv : List V} : sTy K "list" (.ref pr) ⟨H, E ++ (pr, .lst rv) :: G⟩ := .inl ⟨rfl, rv, .inl ⟨_, at_mid⟩⟩
theorem pn_open {F : Hp} {G : List (Addr × HO)} {v : V} {n : PN} (h : MD K F G v (pnD n)) : ∃ p, v = .ref p ∧ mT K F G p [.str (kdS n.1), .int (n.2.1 : Nat), .int (n.2.2.1 : Nat), .int (n.2.2.2.1 : Nat), .int (n.2.2.2.2 : Nat)] := by
  obtain ⟨p, xs, rfl, hp, hx⟩ := h.tupI
  cases hx with
  | cons h1 hx =>
    cases hx with
    | cons h2 hx =>
      cases hx with
      | cons h3 hx =>
        cases hx with
        | cons h4 hx =>
          cases hx with
          | cons h5 hx =>
            cases hx
            rw [h1.strI, h2.intI, h3.intI, h4.intI, h5.intI] at hp
            exact ⟨p, rfl, hp⟩
theorem pn_make {F : Hp} {G : List (Addr × HO)} {p : Addr} (n : PN) (h : mT K F G p [.str (kdS n.1), .int (n.2.1 : Nat), .int (n.2.2.1 : Nat), .int (n.2.2.2.1 : Nat), .int (n.2.2.2.2 : Nat)]) : MD K F G (.ref p) (pnD n) :=
  .tup h (.cons (.str _) (.cons (.int _) (.cons (.int _) (.cons (.int _) (.cons (.int _) .nil)))))
theorem nd_make {F : Hp} {G : List (Addr × HO)} {p : Addr} (n : Nat × Nat) (h : mT K F G p [.str (kdS n.1), .int (n.2 : Nat)]) : MD K F G (.ref p) (ndD n) := .tup h (.cons (.str _) (.cons (.int _) .nil))
theorem at_sub {F : Hp} {G G' : List (Addr × HO)} {q : Addr} {u : HO} (h : At ⟨F, G⟩ q u) (s : G ⊆ G') : At ⟨F, G'⟩ q u := by
  rcases h with ⟨i, hi⟩ | h
  · exact .inl (List.mem_iff_getElem?.mp (s (List.mem_of_getElem? hi)))
  · exact .inr h
theorem NdA.sub {F : Hp} {G G' : List (Addr × HO)} {v : V} {n : Nat × Nat} (h : NdA K F G v n) (s : G ⊆ G') : NdA K F G' v n := ⟨h.md.sub s, let ⟨q, h1, h2⟩ := h.own_; ⟨q, h1, at_sub h2 s⟩⟩
theorem NdA.own {H H' : Hp} {G : List (Addr × HO)} {v : V} {n : Nat × Nat} (h : NdA K H G v n) (o : Own ⟨H, G⟩ H') : NdA K H' [] v n := ⟨h.md.own o, let ⟨q, h1, h2⟩ := h.own_; ⟨q, h1, .inr (o.at h2)⟩⟩
theorem nda_make {F : Hp} {G : List (Addr × HO)} {p : Addr} (n : Nat × Nat) (h : (p, HO.tup [.str (kdS n.1), .int (n.2 : Nat)]) ∈ G) : NdA K F G (.ref p) n := ⟨nd_make n (.inl h), p, rfl, .inl (List.mem_iff_getElem?.mp h)⟩
theorem rowR.sub {H : Hp} {G G' : List (Addr × HO)} {v : V} {r : TR.Row} (h : rowR K G H v r) (s : G ⊆ G') : rowR K G' H v r := by
  obtain ⟨t, r1, r2, r3, r4, e, h1, h2, h3, h4⟩ := h
  refine ⟨t, r1, r2, r3, r4, e, ?_, h2.sub s, h3.sub s, h4.sub s⟩
  rcases h1 with ⟨i, hi⟩ | h1
  · exact .inl (List.mem_iff_getElem?.mp (s (List.mem_of_getElem? hi)))
  · exact .inr h1
theorem rowR.own {H H' : Hp} {G : List (Addr × HO)} {v : V} {r : TR.Row} (h : rowR K G H v r) (o : Own ⟨H, G⟩ H') : rowR K [] H' v r := by
  obtain ⟨t, r1, r2, r3, r4, e, h1, h2, h3, h4⟩ := h
  exact ⟨t, r1, r2, r3, r4, e, .inr (o.at h1), h2.own o, h3.own o, h4.own o⟩
theorem pr_make {F : Hp} {G : List (Addr × HO)} {p : Addr} (n : Nat × Nat) (h : mT K F G p [.int (n.1 : Nat), .int (n.2 : Nat)]) : MD K F G (.ref p) (prD n) := .tup h (.cons (.int _) (.cons (.int _) .nil))
theorem use_ends {W : sWX} {σ : L2.St} {S : SH} {Q : V → SH → Prop} {vs : List V} (v : V) (st : List PN) (e : vs = [v]) (hv : ∀ H, Own S H → ∃ p xs, v = .ref p ∧ SqL K H p xs ∧ MDs K H [] xs (st.map pnD)) (hl : st.length ≤ 1000) (hk : ∀ n ∈ st, n.1 ≤ 2) (h : Q (.bl (endsF st)) S) : rC (ct_ends_fork K) W vs σ S Q :=
  ⟨(v, st), fun H o => ⟨e, hv H o, hl, hk⟩, fun H v H' o q => ⟨S, o.ex q.2, by rw [q.1]; exact h⟩, fun _ _ _ _ _ q => q.elim⟩
theorem ch_eq {c d : Nat} (h : V.str ⟨#[c]⟩ = V.str ⟨#[d]⟩) : c = d := by
  have := congrArg Str.cps (V.str.inj h)
  exact List.head_eq_of_cons_eq (congrArg Array.toList this)
theorem ch_open : V.str "(" = V.str ⟨#[40]⟩ := by rfl
theorem ch_dot : V.str "." = V.str ⟨#[46]⟩ := by rfl
theorem ch_close : V.str ")" = V.str ⟨#[41]⟩ := by rfl
theorem not_whole {x0 x1 x2 x3 x4 : V} : ¬ (HT.sIx ([x0, x1, x2, x3, x4] : List V).length 0 none = 0 ∧ HT.sIx ([x0, x1, x2, x3, x4] : List V).length ([x0, x1, x2, x3, x4] : List V).length (some 2) = ([x0, x1, x2, x3, x4] : List V).length) := by
  show ¬ (0 = 0 ∧ min 2 5 = 5)
  decide
theorem vc_read_forks {vs : List V} {H : Hp} (b : TR) (h : (ct_read_forks K).pre b vs H) : ∃ S, Own S H ∧ r_read_forks K a (endsC (ct_read_forks K) b H) (start N_read_forks vs) S := by
  obtain ⟨rfl, hb64⟩ := h
  have tl := txt_len b
  have hf : runP (txt b) 0 ([], [], 0) = some ([pnB b 0 0], rowsB b 0 0, nS b) := by
    rw [parse_ok, Nat.zero_add]
    rfl
  refine ⟨⟨H, []⟩, Own.base H, ?_⟩
  refine ⟨Nat.zero_le _, fun ps => ?_⟩
  refine ⟨Nat.zero_le _, fun pr => ?_⟩
  refine ⟨fun i σ S => ∃ (st : List PN) (rows : List TR.Row) (n : Nat) (E : List (Addr × HO)) (sv rv : List V) (x4 x5 x6 x7 x8 x9 x10 x11 : Option V), i ≤ (txt b).length ∧ runP ((txt b).take i) 0 ([], [], 0) = some (st, rows, n) ∧ st.length ≤ i ∧ rows.length ≤ i ∧ (∀ k ∈ st, k.1 ≤ 2) ∧ MDs K H E sv (st.map pnD) ∧ allV (rowR K E H) rv rows ∧
    σ = [some (.str (tS b)), some (.ref ps), some (.ref pr), some (.int (n : Nat)), x4, x5, x6, x7, x8, x9, x10, x11] ∧ S = ⟨H, E ++ [(pr, .lst rv), (ps, .lst sv)]⟩, ?_, fun _ _ _ _ _ => trivial, ?_, ?_⟩
  · exact ⟨[], [], 0, [], [], [], none, none, none, none, none, none, none, none, Nat.zero_le _, rfl, Nat.le_refl _, Nat.le_refl _, (fun _ z => nomatch z), .nil, trivial, rfl, rfl⟩
  · rintro i σ S hi ⟨st, rows, n, E, sv, rv, x4, x5, x6, x7, x8, x9, x10, x11, _, hrun, hsl, hrl, hk, hsv, hrv, rfl, rfl⟩ c hc pp
    have hc : (txt b)[i]? = some c := by
      have : (tS b).cps.toList[i]? = some c := by
        rw [Array.getElem?_toList]
        exact hc
      exact this
    have hi : i < (txt b).length := (List.getElem?_eq_some_iff.mp hc).1
    obtain ⟨s3, hs3, hrun3⟩ := run_step hc hrun hf
    have lsv : sv.length = st.length := by rw [hsv.len, List.length_map]
    have lrv : rv.length = rows.length := allV_len hrv
    refine ⟨_, .inl ⟨0, rfl⟩, rfl, ?_⟩
    unfold stepP at hs3
    walk_at "b"
    · rename_i hb
      have e40 : c = 40 := ch_eq (hb.trans ch_open)
      rw [if_pos e40] at hs3
      cases hs3
      refine ⟨tyS (E := (pp, .tup [.int (i : Nat), .str ⟨#[c]⟩]) :: E), ?_⟩
      refine ⟨show 5 ≤ sizeLine by decide, fun p => ?_⟩
      refine nil_go ?_
      refine pushS (E := (p, .tup [.str "open", .int 0, .int 0, .int 0, .int (i : Nat)]) :: (pp, .tup [.int (i : Nat), .str ⟨#[c]⟩]) :: E) (small_of (show sv.length ≤ 200 by omega) (by decide)) ?_
      refine ⟨_, SLe.refl _, _, _, n, _, _, rv, _, _, _, _, _, _, _, _, hi, hrun3, ?_, by show rows.length ≤ _; omega, ?_, ?_, ?_, rfl, rfl⟩
      · show (st ++ [_]).length ≤ _
        rw [List.length_append, List.length_singleton]
        omega
      · intro k hkm
        rcases List.mem_append.mp hkm with hkm | hkm
        · exact hk k hkm
        · rw [List.mem_singleton.mp hkm]
          exact Nat.zero_le _
      · show MDs K H _ _ ((st ++ [_]).map pnD)
        rw [List.map_append]
        exact (hsv.sub fun z hz => .tail _ (.tail _ hz)).snoc (pn_make (0, 0, 0, 0, i) (.inl (.head _)))
      · exact allV_ex (fun _ _ y => y.sub fun z hz => .tail _ (.tail _ hz)) hrv
    · rename_i hb
      have e40 : ¬ c = 40 := fun e => hb (by rw [e]; rfl)
      rw [if_neg e40] at hs3
      walk_at "b"
      · rename_i hb2
        have e46 : c = 46 := ch_eq (hb2.trans ch_dot)
        rw [if_pos e46] at hs3
        cases hs3
        refine ⟨tyS (E := (pp, .tup [.int (i : Nat), .str ⟨#[c]⟩]) :: E), ?_⟩
        refine ⟨show 5 ≤ sizeLine by decide, fun p => ?_⟩
        refine nil_go ?_
        refine pushS (E := (p, .tup [.str "slot", .int (n : Nat), .int (n : Nat), .int (n : Nat), .int (i : Nat)]) :: (pp, .tup [.int (i : Nat), .str ⟨#[c]⟩]) :: E) (small_of (show sv.length ≤ 200 by omega) (by decide)) ?_
        refine ⟨_, SLe.refl _, _, _, n + 1, _, _, rv, _, _, _, _, _, _, _, _, hi, hrun3, ?_, by show rows.length ≤ _; omega, ?_, ?_, ?_, rfl, rfl⟩
        · show (st ++ [_]).length ≤ _
          rw [List.length_append, List.length_singleton]
          omega
        · intro k hkm
          rcases List.mem_append.mp hkm with hkm | hkm
          · exact hk k hkm
          · rw [List.mem_singleton.mp hkm]
            show 1 ≤ 2
            decide
        · show MDs K H _ _ ((st ++ [_]).map pnD)
          rw [List.map_append]
          exact (hsv.sub fun z hz => .tail _ (.tail _ hz)).snoc (pn_make (1, n, n, n, i) (.inl (.head _)))
        · exact allV_ex (fun _ _ y => y.sub fun z hz => .tail _ (.tail _ hz)) hrv
      · rename_i hb2
        have e46 : ¬ c = 46 := fun e => hb2 (by rw [e]; rfl)
        rw [if_neg e46] at hs3
        by_cases hcl : c = 41 ∧ endsF st = true
        · rw [if_pos hcl] at hs3
          obtain ⟨e41, hen⟩ := hcl
          obtain ⟨rest, o, l, r, est, es3⟩ := joinP_is hs3
          have est : st = rest ++ [o, l, r] := est
          have es3 : s3 = (rest ++ [(2, l.2.2.2.1, l.2.2.1, r.2.2.2.1, o.2.2.2.2)], rows ++ [(l.2.2.2.1, (l.1, l.2.1), (r.1, r.2.1), (l.2.2.1, r.2.2.2.1), (o.2.2.2.2, i + 1))], n) := es3
          walk_at "b"
          · refine use_ends (.ref ps) st (by rfl) ?_ (by omega) hk ?_
            · refine fun H' o' => ⟨ps, sv, rfl, o'.l (.inl ⟨_, at2_2 (E := (pp, .tup [.int (i : Nat), .str ⟨#[c]⟩]) :: E)⟩), ?_⟩
              exact (hsv.sub fun z hz => .tail _ (List.mem_append_left _ hz)).own o'
            · rw [hen]
              have hsv2 := hsv
              rw [est, List.map_append] at hsv2
              obtain ⟨s0, s3v, esv, m0, m3⟩ := mds_split hsv2
              subst esv
              cases m3 with
              | cons mo m3 =>
                cases m3 with
                | cons ml m3 =>
                  cases m3 with
                  | cons mr m3 =>
                    cases m3
                    rename_i vo vl vr
                    obtain ⟨ao, rfl, ho⟩ := pn_open mo
                    obtain ⟨al, rfl, hl⟩ := pn_open ml
                    obtain ⟨ar, rfl, hr⟩ := pn_open mr
                    have ls0 : s0.length + 3 ≤ i := by
                      have : (s0 ++ [V.ref ao, .ref al, .ref ar]).length = s0.length + 3 := by rw [List.length_append]; rfl
                      omega
                    have es1 : s0 ++ [V.ref ao, .ref al, .ref ar] = ((s0 ++ [V.ref ao]) ++ [.ref al]) ++ [.ref ar] := by
                      rw [List.append_assoc, List.append_assoc]
                      rfl
                    rw [es1]
                    refine ⟨tyS (E := (pp, .tup [.int (i : Nat), .str ⟨#[c]⟩]) :: E), ?_⟩
                    refine nil_go ?_
                    refine popS (E := (pp, .tup [.int (i : Nat), .str ⟨#[c]⟩]) :: E) ?_
                    refine ⟨tyS (E := (pp, .tup [.int (i : Nat), .str ⟨#[c]⟩]) :: E), ?_⟩
                    refine nil_go ?_
                    refine popS (E := (pp, .tup [.int (i : Nat), .str ⟨#[c]⟩]) :: E) ?_
                    refine ⟨_, _, .inr (hl.s fun z hz => .tail _ (List.mem_append_left _ hz)), atI_at (i := 2) rfl, ?_⟩
                    refine ⟨_, _, .inr (hl.s fun z hz => .tail _ (List.mem_append_left _ hz)), atI_at (i := 3) rfl, ?_⟩
                    refine ⟨_, _, .inr (hr.s fun z hz => .tail _ (List.mem_append_left _ hz)), atI_at (i := 3) rfl, ?_⟩
                    refine ⟨tyS (E := (pp, .tup [.int (i : Nat), .str ⟨#[c]⟩]) :: E), ?_⟩
                    refine nil_go ?_
                    refine popS (E := (pp, .tup [.int (i : Nat), .str ⟨#[c]⟩]) :: E) ?_
                    refine ⟨_, _, .inr (ho.s fun z hz => .tail _ (List.mem_append_left _ hz)), atI_at (i := 4) rfl, ?_⟩
                    refine ⟨show 4 ≤ sizeLine by decide, fun pt => ?_⟩
                    refine ⟨_, .inl ⟨0, rfl⟩, rfl, ?_⟩
                    refine ⟨tyR (E := (pt, .tup [.int (l.2.2.1 : Nat), .int (l.2.2.2.1 : Nat), .int (r.2.2.2.1 : Nat), .int (o.2.2.2.2 : Nat)]) :: (pp, .tup [.int (i : Nat), .str ⟨#[c]⟩]) :: E), ?_⟩
                    refine .inr ⟨_, hl.s fun z hz => .tail _ (.tail _ (List.mem_append_left _ hz)), not_whole, fun q1 => ?_⟩
                    refine .inr ⟨_, hr.s fun z hz => .tail _ (.tail _ (.tail _ (List.mem_append_left _ hz))), not_whole, fun q2 => ?_⟩
                    refine ⟨show 2 ≤ sizeLine by decide, fun q3 => ?_⟩
                    refine ⟨show 2 ≤ sizeLine by decide, fun q4 => ?_⟩
                    refine ⟨show 5 ≤ sizeLine by decide, fun q5 => ?_⟩
                    refine nil_go ?_
                    generalize hE : ([(q5, HO.tup [.int (l.2.2.2.1 : Nat), .ref q1, .ref q2, .ref q3, .ref q4]), (q4, .tup [.int (o.2.2.2.2 : Nat), .int (i + 1)]), (q3, .tup [.int (l.2.2.1 : Nat), .int (r.2.2.2.1 : Nat)]), (q2, .tup [.str (kdS r.1), .int (r.2.1 : Nat)]), (q1, .tup [.str (kdS l.1), .int (l.2.1 : Nat)]), (pt, .tup [.int (l.2.2.1 : Nat), .int (l.2.2.2.1 : Nat), .int (r.2.2.2.1 : Nat), .int (o.2.2.2.2 : Nat)]), (pp, .tup [.int (i : Nat), .str ⟨#[c]⟩])] ++ E : List (Addr × HO)) = E2
                    have sE : E ⊆ E2 := fun z hz => by
                      rw [← hE]
                      exact List.mem_append_right _ hz
                    have m5 : (q5, HO.tup [.int (l.2.2.2.1 : Nat), .ref q1, .ref q2, .ref q3, .ref q4]) ∈ E2 := by
                      rw [← hE]
                      exact .head _
                    have m2 : (q2, HO.tup [.str (kdS r.1), .int (r.2.1 : Nat)]) ∈ E2 := by
                      rw [← hE]
                      exact .tail _ (.tail _ (.tail _ (.head _)))
                    have m3 : (q3, HO.tup [.int (l.2.2.1 : Nat), .int (r.2.2.2.1 : Nat)]) ∈ E2 := by
                      rw [← hE]
                      exact .tail _ (.tail _ (.head _))
                    have m1 : (q1, HO.tup [.str (kdS l.1), .int (l.2.1 : Nat)]) ∈ E2 := by
                      rw [← hE]
                      exact .tail _ (.tail _ (.tail _ (.tail _ (.head _))))
                    show mAppend (.ref pr) [.ref q5] ⟨H, ([(q5, HO.tup [.int (l.2.2.2.1 : Nat), .ref q1, .ref q2, .ref q3, .ref q4]), (q4, .tup [.int (o.2.2.2.2 : Nat), .int (i + 1)]), (q3, .tup [.int (l.2.2.1 : Nat), .int (r.2.2.2.1 : Nat)]), (q2, .tup [.str (kdS r.1), .int (r.2.1 : Nat)]), (q1, .tup [.str (kdS l.1), .int (l.2.1 : Nat)]), (pt, .tup [.int (l.2.2.1 : Nat), .int (l.2.2.2.1 : Nat), .int (r.2.2.2.1 : Nat), .int (o.2.2.2.2 : Nat)]), (pp, .tup [.int (i : Nat), .str ⟨#[c]⟩])] ++ E) ++ [(pr, .lst rv), (ps, .lst s0)]⟩ _
                    rw [hE]
                    refine app_go (small_of (show rv.length ≤ 200 by omega) (by decide)) ?_
                    refine ⟨tyS, ?_⟩
                    refine ⟨show 5 ≤ sizeLine by decide, fun q6 => ?_⟩
                    refine nil_go ?_
                    refine pushS (E := (q6, .tup [.str "fork", .int (l.2.2.2.1 : Nat), .int (l.2.2.1 : Nat), .int (r.2.2.2.1 : Nat), .int (o.2.2.2.2 : Nat)]) :: E2) (small_of (show s0.length ≤ 200 by omega) (by decide)) ?_
                    refine ⟨_, SLe.refl _, _, _, n, _, _, _, _, _, _, _, _, _, _, _, hi, hrun3.trans (congrArg some es3), ?_, ?_, ?_, ?_, ?_, rfl, rfl⟩
                    · rw [List.length_append, List.length_singleton]
                      have : st.length = rest.length + 3 := by rw [est, List.length_append]; rfl
                      omega
                    · rw [List.length_append, List.length_singleton]
                      omega
                    · intro k hkm
                      rcases List.mem_append.mp hkm with hkm | hkm
                      · exact hk k (by rw [est]; exact List.mem_append_left _ hkm)
                      · rw [List.mem_singleton.mp hkm]
                        exact Nat.le_refl _
                    · rw [List.map_append]
                      exact (m0.sub fun z hz => .tail _ (sE hz)).snoc (pn_make (2, l.2.2.2.1, l.2.2.1, r.2.2.2.1, o.2.2.2.2) (.inl (.head _)))
                    · refine allV_snoc ⟨q5, .ref q1, .ref q2, .ref q3, .ref q4, rfl, ?_, nda_make (l.1, l.2.1) (.tail _ m1), nda_make (r.1, r.2.1) (.tail _ m2), pr_make (l.2.2.1, r.2.2.2.1) (.inl (.tail _ m3))⟩ (allV_ex (fun _ _ y => y.sub fun z hz => .tail _ (sE hz)) hrv)
                      exact .inl (List.mem_iff_getElem?.mp (List.mem_cons_of_mem _ m5))
          · rename_i hb3
            exact absurd (show V.str ⟨#[c]⟩ = V.str ")" by rw [e41]; rfl) hb3
        · rw [if_neg hcl] at hs3
          cases hs3
  · rintro σ S ⟨st, rows, n, E, sv, rv, x4, x5, x6, x7, x8, x9, x10, x11, _, hrun, hsl, hrl, hk, hsv, hrv, rfl, rfl⟩
    have en : (itES (tS b)).n = (txt b).length := rfl
    rw [en, List.take_length, hf] at hrun
    cases hrun
    obtain ⟨sv0, rfl⟩ : ∃ v0, sv = [v0] := by
      have : sv.length = 1 := hsv.len
      exact List.length_eq_one_iff.mp this
    cases hsv with
    | cons h0 _ =>
      obtain ⟨p0, rfl, hp0⟩ := pn_open h0
      refine ⟨_, .inl (.inl ⟨_, at2_2⟩), ?_⟩
      refine ⟨_, _, .inl (.inl ⟨_, at2_2⟩), atI_at (i := 0) rfl, ?_⟩
      refine ⟨_, _, .inr (hp0.s fun z hz => List.mem_append_left _ hz), atI_at (i := 0) rfl, ?_⟩
      have ek : decide (V.str (kdS (pnB b 0 0).1) = V.str "open") = false := by
        rw [open_at (pnB b 0 0).1 (List.mem_range.mpr (by
          cases b with
          | leaf => decide
          | node l r =>
            show 2 < 3
            decide))]
        exact pn_kind b 0 0
      conv => whnf
      rw [ek]
      intro H' o'
      have m := o'.gs (pr, .lst rv) (List.mem_append_right _ (.head _))
      exact ⟨⟨pr, rv, rfl, m.2, m.1, allV_ex (fun v r y => (y.sub fun z hz => List.mem_append_left _ hz).own o') hrv⟩, fun c u e => o'.fr c u e⟩
end
section
variable {K : PySem.W.Frag} {a : Ads}
open TR
def jobD (j : Job) : PyData := .tuple [ndD (ndB j.1 j.2.1), wyD j.2.2]
theorem nd_open {F : Hp} {G : List (Addr × HO)} {v : V} {n : Nat × Nat} (h : MD K F G v (ndD n)) : ∃ p, v = .ref p ∧ mT K F G p [.str (kdS n.1), .int (n.2 : Nat)] := by
  obtain ⟨p, xs, rfl, hp, hx⟩ := h.tupI
  cases hx with
  | cons h1 hx =>
    cases hx with
    | cons h2 hx =>
      cases hx
      rw [h1.strI, h2.intI] at hp
      exact ⟨p, rfl, hp⟩
theorem con_go {v : V} {W : sWX} {σ : L2.St} {S : SH} {Q : V → SH → Prop} (h : Q v S) : sC v W σ S Q := h
theorem push_job {W : sWX} {σ : L2.St} {F : Hp} {N E1 B : List (Addr × HO)} {st : Addr} {sv : List V} {Q : SH → Prop} {i f : Nat} {x : Str} {q : Addr} {vw : V} {w : Way} {c : Bool} {nd : Nat × Nat} {LL : List (Nat × Nat)} (hi : σ[i]? = some (some (.ref q))) (h5 : σ[5]? = some (some (.ref st))) (h7 : σ[7]? = some (some (.int (f : Nat)))) (h8 : σ[8]? = some (some vw))
    (hx : x = sdS c) (hL : MD K F N (.ref q) (.tuple (LL.map ndD))) (hf : LL[f]? = some nd) (hw : MD K F N vw (wyD w)) (hl : w.length ≤ 100) (hs : N ⊆ E1 ++ (st, .lst sv) :: B) (hsv : sv.length ≤ 200)
    (k : ∀ v E', MD K F (E' ++ N) v (.tuple [ndD nd, wyD (w ++ [(f, c)])]) → Q ⟨F, (E' ++ E1) ++ (st, .lst (sv ++ [v])) :: B⟩) :
    sMt K "list" mAppend (sVar 5) (sCons (sTup (sCons (sOp (oIx K) (sVar i) (sVar 7)) (sCons (sOp (oAddT K) (sVar 8) (sTup (sCons (sTup (sCons (sVar 7) (sCons (sC (.str x)) sNil))) sNil))) sNil))) sNil) W σ ⟨F, E1 ++ (st, .lst sv) :: B⟩ fun _ S => Q S := by
  subst hx
  obtain ⟨q2, xs, e2, hq, hxs⟩ := hL.tupI
  cases e2
  obtain ⟨u, hu, mu⟩ := hxs.get (i := f) (d := ndD nd) (by rw [List.getElem?_map, hf]; rfl)
  obtain ⟨pw, ws, rfl, hpw, hws⟩ := MD.tupI (show MD K F N vw (.tuple _) from hw)
  have lws : ws.length = w.length := by rw [hws.len, List.length_map]
  refine mt_go (var_go h5 ⟨tyR, ?_⟩)
  refine cons_go (tup_go (cons_go (op_go (var_go hi (var_go h7 ?_)))))
  refine ⟨_, u, .inr (hq.s hs), atI_at hu, ?_⟩
  refine cons_go (op_go (var_go h8 ?_))
  refine tup_go (cons_go (tup_go (cons_go (var_go h7 (cons_go (con_go (nil_go ?_)))))))
  refine ⟨show 2 ≤ sizeLine by decide, fun t2 => ?_⟩
  refine nil_go ⟨show 1 ≤ sizeLine by decide, fun t3 => ?_⟩
  have fin : ∀ (uw : V) (E' : List (Addr × HO)), MD K F (E' ++ N) uw (wyD (w ++ [(f, c)])) → ∀ p5, Q ⟨F, ((p5, .tup [u, uw]) :: E' ++ E1) ++ (st, .lst (sv ++ [.ref p5])) :: B⟩ := fun uw E' hm p5 => by
    refine k (.ref p5) ((p5, .tup [u, uw]) :: E') ?_
    refine .tup (.inl (.head _)) (.cons (mu.sub fun z hz => .tail _ (List.mem_append_right _ hz)) (.cons (hm.sub fun z hz => .tail _ hz) .nil))
  have m2 : ∀ R : List (Addr × HO), MD K F ((t3, .tup [.ref t2]) :: (t2, .tup [.int (f : Nat), .str (sdS c)]) :: R) (.ref t2) (stD (f, c)) := fun R => .tup (.inl (.tail _ (.head _))) (.cons (.int _) (.cons (.str _) .nil))
  refine ⟨ws, [.ref t2], (hpw.s fun z hz => .tail _ (.tail _ (hs hz))), .inl ⟨0, rfl⟩, ?_, fun e => ?_, (fun _ e => nomatch e), fun ne _ r => ?_⟩
  · rw [lws]
    exact Nat.le_trans (show w.length + 1 ≤ 200 by omega) (by decide)
  · refine nil_go ⟨show 2 ≤ sizeLine by decide, fun p5 => ?_⟩
    refine nil_go (app_go (E := (p5, .tup [u, .ref t3]) :: (t3, .tup [.ref t2]) :: (t2, .tup [.int (f : Nat), .str (sdS c)]) :: E1) (small_of hsv (by decide)) ?_)
    have : w = [] := by
      subst e
      exact List.length_eq_zero_iff.mp lws.symm
    subst this
    exact fin (.ref t3) [(t3, .tup [.ref t2]), (t2, .tup [.int (f : Nat), .str (sdS c)])] (.tup (.inl (.head _)) (.cons (m2 N) .nil)) p5
  · refine nil_go ⟨show 2 ≤ sizeLine by decide, fun p5 => ?_⟩
    refine nil_go (app_go (E := (p5, .tup [u, .ref r]) :: (r, .tup (ws ++ [.ref t2])) :: (t3, .tup [.ref t2]) :: (t2, .tup [.int (f : Nat), .str (sdS c)]) :: E1) (small_of hsv (by decide)) ?_)
    refine fin (.ref r) [(r, .tup (ws ++ [.ref t2])), (t3, .tup [.ref t2]), (t2, .tup [.int (f : Nat), .str (sdS c)])] (.tup (.inl (.head _)) ?_) p5
    rw [List.map_append]
    exact (hws.sub fun z hz => .tail _ (.tail _ (.tail _ hz))).snoc ((m2 N).sub fun z hz => .tail _ hz)
theorem app_at {F : Hp} {E A B : List (Addr × HO)} {D : Addr} {acc : List V} {y : V} {Q : V → SH → Prop} (ha : acc.length < sizeLine) (h : Q .non ⟨F, E ++ (A ++ (D, .lst (acc ++ [y])) :: B)⟩) : mAppend (.ref D) [y] ⟨F, E ++ (A ++ (D, .lst acc) :: B)⟩ Q := by
  rw [← List.append_assoc] at h ⊢
  exact app_go ha h
theorem pop_at {F : Hp} {E B : List (Addr × HO)} {D : Addr} {acc : List V} {y : V} {Q : V → SH → Prop} (h : Q y ⟨F, E ++ (D, .lst acc) :: B⟩) : mPop (.ref D) [] ⟨F, E ++ (D, .lst (acc ++ [y])) :: B⟩ Q := by
  refine ⟨E.length, acc ++ [y], y, at_mid, ?_, ?_⟩
  · rw [List.length_append, List.length_singleton, Nat.add_sub_cancel, List.getElem?_append_right (Nat.le_refl _), Nat.sub_self]
    rfl
  · show Q y ⟨F, (E ++ (D, .lst (acc ++ [y])) :: B).set E.length (D, .lst (acc ++ [y]).dropLast)⟩
    rw [set_mid, List.dropLast_concat]
    exact h
theorem slot_at : ∀ k ∈ List.range 3, decide (V.str (kdS k) = V.str "slot") = (k == 1) := by decide +kernel
theorem jobS_app (js : List Job) (j : Job) : jobS (js ++ [j]) = jobS js + (2 * nS j.1 - 1) := by
  unfold jobS
  rw [List.map_append, List.sum_append]
  rfl
theorem jobS_len : ∀ js : List Job, js.length ≤ jobS js
  | [] => Nat.le_refl 0
  | j :: js => by
    have := jobS_len js
    have := nS_pos j.1
    show js.length + 1 ≤ (2 * nS j.1 - 1) + jobS js
    omega
theorem flat_snoc (js : List Job) (j : Job) : (js ++ [j]).reverse.flatMap jobW = jobW j ++ js.reverse.flatMap jobW := by
  rw [List.reverse_append]
  rfl
theorem sub_st {E A : List (Addr × HO)} {x : Addr × HO} {R : List (Addr × HO)} : E ++ A ⊆ E ++ x :: (A ++ R) := fun z hz => (List.mem_append.mp hz).elim (fun h => List.mem_append_left _ h) fun h => List.mem_append_right _ (.tail _ (List.mem_append_left _ h))
theorem vc_lay_ways {vs : List V} {H : Hp} (g : TR × V × V × V × List (Nat × Nat) × List (Nat × Nat)) (h : (ct_lay_ways K).pre g vs H) : ∃ S, Own S H ∧ r_lay_ways K a (endsC (ct_lay_ways K) g H) (start N_lay_ways vs) S := by
  obtain ⟨b, rv, lv, iv, L, R⟩ := g
  obtain ⟨rfl, hb, hr, hL, hR, hfit⟩ := h
  have hb : nS b ≤ 64 := hb
  have hr : MD K H [] rv (ndD (ndB b 0)) := hr
  have hL : MD K H [] lv (.tuple (L.map ndD)) := hL
  have hR : MD K H [] iv (.tuple (R.map ndD)) := hR
  have hfit : Fits b 0 L R := hfit
  have hp := nS_pos b
  obtain ⟨ql, _, rfl, _, _⟩ := hL.tupI
  obtain ⟨qr, _, rfl, _, _⟩ := hR.tupI
  refine ⟨⟨H, []⟩, Own.base H, ?_⟩
  refine ⟨Nat.zero_le _, fun p3 => ?_⟩
  refine ⟨Nat.zero_le _, fun p4 => ?_⟩
  refine ⟨Nat.zero_le _, fun t0 => ?_⟩
  refine ⟨show 2 ≤ sizeLine by decide, fun t1 => ?_⟩
  refine ⟨show 1 ≤ sizeLine by decide, fun st => ?_⟩
  refine ⟨fun m σ S => ∃ (js : List Job) (outs : List Way) (E : List (Addr × HO)) (sv pv wv : List V) (x6 x7 x8 : Option V), m = jobS js ∧ outs ++ js.reverse.flatMap jobW = wayB b 0 ∧ pv.length + outs.length + m ≤ 127 ∧ (∀ j ∈ js, Fits j.1 j.2.1 L R ∧ j.2.2.length + nS j.1 ≤ 65) ∧
    MDs K H (E ++ [(t1, .tup [rv, .ref t0]), (t0, .tup [])]) sv (js.map jobD) ∧ MDs K H (E ++ [(t1, .tup [rv, .ref t0]), (t0, .tup [])]) wv (outs.map wyD) ∧
    σ = [some rv, some (.ref ql), some (.ref qr), some (.ref p3), some (.ref p4), some (.ref st), x6, x7, x8] ∧ S = ⟨H, E ++ (st, .lst sv) :: ([(t1, .tup [rv, .ref t0]), (t0, .tup [])] ++ [(p4, .lst wv), (p3, .lst pv)])⟩, ?_, ?_⟩
  · refine ⟨_, [(b, 0, [])], [], [], _, _, _, none, none, none, rfl, ?_, ?_, ?_, ?_, .nil, rfl, rfl⟩
    · show ((wayB b 0).map ([] ++ ·)) ++ [] = wayB b 0
      rw [List.append_nil]
      exact List.map_id _
    · show 0 + 0 + (2 * nS b - 1 + 0) ≤ 127
      omega
    · intro j hj
      rw [List.mem_singleton.mp hj]
      exact ⟨hfit, by show 0 + nS b ≤ 65; omega⟩
    · exact .cons (.tup (.inl (.head _)) (.cons hr.up (.cons (.tup (.inl (.tail _ (.head _))) .nil) .nil))) .nil
  · rintro m σ S ⟨js, outs, E, sv, pv, wv, x6, x7, x8, hm, hout, hlen, hj, hsv, hwv, rfl, rfl⟩
    have lsv : sv.length = js.length := by rw [hsv.len, List.length_map]
    have ljs := jobS_len js
    refine .inl ⟨sv, .inl ⟨E.length, at_mid⟩, ?_⟩
    rcases List.eq_nil_or_concat js with ejs | ⟨js0, j, ejs⟩
    · subst ejs
      have : sv = [] := List.length_eq_zero_iff.mp lsv
      subst this
      have hout : outs ++ [] = wayB b 0 := hout
      rw [List.append_nil] at hout
      subst hout
      refine .inl ⟨pv, .inl ⟨E.length + 4, ?_⟩, fun u => ?_⟩
      · rw [List.getElem?_append_right (by omega), show E.length + 4 - E.length = 4 by omega]
        rfl
      refine .inl ⟨wv, .inl ⟨E.length + 4, ?_⟩, fun w => ?_⟩
      · show ((u, HO.tup pv) :: (E ++ _))[E.length + 3 + 1]? = _
        rw [List.getElem?_cons_succ, List.getElem?_append_right (by omega), show E.length + 3 - E.length = 3 by omega]
        rfl
      refine ⟨show 2 ≤ sizeLine by decide, fun p => ?_⟩
      intro H' o'
      refine ⟨⟨p, .ref u, .ref w, rfl, o'.u (.inl ⟨0, rfl⟩), ?_⟩, fun c u e => o'.fr c u e⟩
      have := MD.tup (K := K) (F := H) (G := (p, .tup [.ref u, .ref w]) :: (w, .tup wv) :: (u, .tup pv) :: (E ++ (st, .lst []) :: ([(t1, .tup [rv, .ref t0]), (t0, .tup [])] ++ [(p4, .lst wv), (p3, .lst pv)]))) (p := w) (.inl (.tail _ (.head _))) (hwv.sub fun z hz => .tail _ (.tail _ (.tail _ (sub_st hz))))
      exact this.own o'
    · rw [List.concat_eq_append] at ejs
      subst ejs
      rw [List.map_append] at hsv
      obtain ⟨sv0, s1, rfl, h0, h1⟩ := mds_split hsv
      cases h1 with
      | cons h1 hn =>
        cases hn
        rename_i v
        obtain ⟨pj, xs, rfl, hpj, hxs⟩ := MD.tupI (show MD K H _ v (.tuple _) from h1)
        cases hxs with
        | cons hnd hxs =>
          cases hxs with
          | cons hw hxs =>
            cases hxs
            rename_i vn vw
            obtain ⟨pn, rfl, hpn⟩ := nd_open hnd
            rw [flat_snoc] at hout
            rw [jobS_app] at hm
            have ne : (!(sv0 ++ [V.ref pj]).isEmpty) = true := by
              cases sv0 <;> rfl
            rw [ne]
            refine ⟨.inl ⟨rfl, _, .inl ⟨E.length, at_mid⟩⟩, ?_⟩
            refine nil_go ?_
            refine pop_at ?_
            refine ⟨_, hpj.s sub_st, rfl, ?_⟩
            refine ⟨_, hpn.s sub_st, rfl, ?_⟩
            obtain ⟨hfj, hlj⟩ := hj j (List.mem_append_right _ (.head _))
            have hj0 : ∀ j ∈ js0, Fits j.1 j.2.1 L R ∧ j.2.2.length + nS j.1 ≤ 65 := fun j hm => hj j (List.mem_append_left _ hm)
            have lsv0 : sv0.length = js0.length := by rw [h0.len, List.length_map]
            have ljs0 := jobS_len js0
            obtain ⟨t, o, w⟩ := j
            have kd : (ndB t o).1 < 3 := by
              cases t with
              | leaf =>
                show 1 < 3
                decide
              | node l r =>
                show 2 < 3
                decide
            have ks := slot_at (ndB t o).1 (List.mem_range.mpr kd)
            have lo : outs.length ≤ 127 := by omega
            cases t with
            | leaf =>
              refine ⟨.inl ⟨rfl, wv, .inl ⟨E.length + 3, ?_⟩⟩, ?_⟩
              · rw [List.getElem?_append_right (by omega), show E.length + 3 - E.length = 3 by omega]
                rfl
              refine cons_go (var_go (by rfl) (nil_go ?_))
              refine app_at (E := E) (A := [(st, .lst sv0), (t1, .tup [rv, .ref t0]), (t0, .tup [])]) (small_of (show wv.length ≤ 127 by rw [hwv.len, List.length_map]; exact lo) (by decide)) ?_
              refine ⟨_, SLe.refl _, jobS js0, by rw [hm]; show jobS js0 < jobS js0 + (2 * 1 - 1); omega, js0, outs ++ [w], E, sv0, pv, wv ++ [vw], _, _, _, rfl, ?_, ?_, hj0, h0, ?_, rfl, rfl⟩
              · rw [jobW_leaf] at hout
                rw [List.append_assoc]
                exact hout
              · rw [List.length_append, List.length_singleton]
                have : m = jobS js0 + (2 * 1 - 1) := hm
                omega
              · rw [List.map_append]
                exact hwv.snoc hw
            | node l r =>
              obtain ⟨f1, f2, f3, f4⟩ := hfj
              have pl := nS_pos l
              have pr := nS_pos r
              have hlj : w.length + (nS l + nS r) ≤ 65 := hlj
              have hm : m = jobS js0 + (2 * (nS l + nS r) - 1) := hm
              refine ⟨.inl ⟨rfl, pv, .inl ⟨E.length + 4, ?_⟩⟩, ?_⟩
              · rw [List.getElem?_append_right (by omega), show E.length + 4 - E.length = 4 by omega]
                rfl
              refine cons_go (var_go (by rfl) (nil_go ?_))
              refine app_at (E := E) (A := [(st, .lst sv0), (t1, .tup [rv, .ref t0]), (t0, .tup []), (p4, .lst wv)]) (small_of (show pv.length ≤ 127 by omega) (by decide)) ?_
              have hl100 : w.length ≤ 100 := by omega
              dsimp only
              refine seq_go ?_
              refine drop_go ?_
              show sMt K "list" mAppend (sVar 5) _ _ _ ⟨H, E ++ (st, .lst sv0) :: [(t1, .tup [rv, .ref t0]), (t0, .tup []), (p4, .lst wv), (p3, .lst (pv ++ [.int ((o + nS l - 1 : Nat) : Int)]))]⟩ _
              refine push_job (i := 2) (f := o + nS l - 1) (q := qr) (vw := vw) (w := w) (c := false) (nd := ndB r (o + nS l)) (LL := R) (N := E ++ [(t1, .tup [rv, .ref t0]), (t0, .tup [])]) (E1 := E) (st := st) (sv := sv0) (B := [(t1, .tup [rv, .ref t0]), (t0, .tup []), (p4, .lst wv), (p3, .lst (pv ++ [.int ((o + nS l - 1 : Nat) : Int)]))])
                ?_ ?_ ?_ ?_ ?_ hR.up f2 hw hl100 sub_st (by omega) ?_
              · rfl
              · rfl
              · rfl
              · rfl
              · rfl
              intro v1 E1 h1
              dsimp only
              refine drop_go ?_
              show sMt K "list" mAppend (sVar 5) _ _ _ ⟨H, (E1 ++ E) ++ (st, .lst (sv0 ++ [v1])) :: [(t1, .tup [rv, .ref t0]), (t0, .tup []), (p4, .lst wv), (p3, .lst (pv ++ [.int ((o + nS l - 1 : Nat) : Int)]))]⟩ _
              refine push_job (i := 1) (f := o + nS l - 1) (q := ql) (vw := vw) (w := w) (c := true) (nd := ndB l o) (LL := L) (N := E1 ++ (E ++ [(t1, .tup [rv, .ref t0]), (t0, .tup [])])) (E1 := E1 ++ E) (st := st) (sv := sv0 ++ [v1]) (B := [(t1, .tup [rv, .ref t0]), (t0, .tup []), (p4, .lst wv), (p3, .lst (pv ++ [.int ((o + nS l - 1 : Nat) : Int)]))])
                ?_ ?_ ?_ ?_ ?_ hL.up f1 (hw.sub sub_right) hl100 ?_ (by rw [List.length_append, List.length_singleton]; omega) ?_
              · rfl
              · rfl
              · rfl
              · rfl
              · rfl
              · rw [← List.append_assoc]
                exact sub_st
              intro v2 E2 h2
              have up0 : E ++ [(t1, HO.tup [rv, .ref t0]), (t0, .tup [])] ⊆ (E2 ++ (E1 ++ E)) ++ [(t1, HO.tup [rv, .ref t0]), (t0, .tup [])] := fun z hz => by
                rw [List.append_assoc, List.append_assoc]
                exact List.mem_append_right _ (List.mem_append_right _ hz)
              have up1 : E1 ++ (E ++ [(t1, HO.tup [rv, .ref t0]), (t0, .tup [])]) ⊆ (E2 ++ (E1 ++ E)) ++ [(t1, HO.tup [rv, .ref t0]), (t0, .tup [])] := fun z hz => by
                rw [List.append_assoc, List.append_assoc]
                exact List.mem_append_right _ hz
              have up2 : E2 ++ (E1 ++ (E ++ [(t1, HO.tup [rv, .ref t0]), (t0, .tup [])])) ⊆ (E2 ++ (E1 ++ E)) ++ [(t1, HO.tup [rv, .ref t0]), (t0, .tup [])] := fun z hz => by
                rw [List.append_assoc, List.append_assoc]
                exact hz
              have e1 := jobS_app (js0 ++ [(r, o + nS l, w ++ [(o + nS l - 1, false)])]) (l, o, w ++ [(o + nS l - 1, true)])
              have e0 := jobS_app js0 (r, o + nS l, w ++ [(o + nS l - 1, false)])
              have e1 : jobS (js0 ++ [(r, o + nS l, w ++ [(o + nS l - 1, false)])] ++ [(l, o, w ++ [(o + nS l - 1, true)])]) = jobS (js0 ++ [(r, o + nS l, w ++ [(o + nS l - 1, false)])]) + (2 * nS l - 1) := e1
              have e0 : jobS (js0 ++ [(r, o + nS l, w ++ [(o + nS l - 1, false)])]) = jobS js0 + (2 * nS r - 1) := e0
              refine ⟨_, SLe.refl _, jobS (js0 ++ [(r, o + nS l, w ++ [(o + nS l - 1, false)])] ++ [(l, o, w ++ [(o + nS l - 1, true)])]), by omega, js0 ++ [(r, o + nS l, w ++ [(o + nS l - 1, false)])] ++ [(l, o, w ++ [(o + nS l - 1, true)])], outs, E2 ++ (E1 ++ E), sv0 ++ [v1] ++ [v2], pv ++ [.int ((o + nS l - 1 : Nat) : Int)], wv, _, _, _, rfl, ?_, ?_, ?_, ?_, hwv.sub up0, rfl, rfl⟩
              · rw [flat_snoc, flat_snoc, ← List.append_assoc (jobW (l, _, _)), ← jobW_node]
                exact hout
              · rw [List.length_append, List.length_singleton]
                omega
              · intro j hjm
                rcases List.mem_append.mp hjm with hjm | hjm
                · rcases List.mem_append.mp hjm with hjm | hjm
                  · exact hj0 j hjm
                  · rw [List.mem_singleton.mp hjm]
                    refine ⟨f4, ?_⟩
                    show (w ++ [_]).length + nS r ≤ 65
                    rw [List.length_append, List.length_singleton]
                    omega
                · rw [List.mem_singleton.mp hjm]
                  refine ⟨f3, ?_⟩
                  show (w ++ [_]).length + nS l ≤ 65
                  rw [List.length_append, List.length_singleton]
                  omega
              · rw [List.map_append, List.map_append]
                exact ((h0.sub up0).snoc (h1.sub up1)).snoc (h2.sub up2)
end
section
variable {K : PySem.W.Frag} {a : Ads}
open TR
theorem without_tI {H : Hp} {q c C d : Addr} {fs : List (Str × V)} {xs : List V} (hc : H c = some (.ins C d fs)) (h : SqT K H q xs) : SqT K (without H c) q xs := by
  rcases h with (h | ⟨o, h⟩) | h
  · have ne : q ≠ c := fun e => by rw [e, hc] at h; cases h
    exact .inl (.inl (by rw [without_ne ne]; exact h))
  · have ne : q ≠ c := fun e => by rw [e, hc] at h; cases h
    exact .inl (.inr ⟨o, by rw [without_ne ne]; exact h⟩)
  · exact .inr h
theorem md_without {H : Hp} {c C d : Addr} {fs : List (Str × V)} {v : V} {x : PyData} (hc : H c = some (.ins C d fs)) (h : MD K H [] v x) : MD K (without H c) [] v x := h.mono fun _ _ z => .inr (without_tI hc (Or.elim z (fun y => absurd y List.not_mem_nil) id))
theorem allV_perm {α : Type} {R : V → α → Prop} {ys xs : List V} (h : ys.Perm xs) : ∀ {rs : List α}, allV R xs rs → ∃ qs, allV R ys qs ∧ qs.Perm rs := by
  induction h with
  | nil => exact fun {rs} z => ⟨rs, z, .refl _⟩
  | cons x _ ih =>
    intro rs z
    cases rs with
    | nil => exact z.elim
    | cons r rs =>
      obtain ⟨qs, h1, h2⟩ := ih z.2
      exact ⟨r :: qs, ⟨z.1, h1⟩, h2.cons r⟩
  | swap x y l =>
    intro rs z
    cases rs with
    | nil => exact z.elim
    | cons r rs =>
      cases rs with
      | nil => exact z.2.elim
      | cons s rs => exact ⟨s :: r :: rs, ⟨z.2.1, z.1, z.2.2⟩, .swap _ _ _⟩
  | trans _ _ ih1 ih2 =>
    intro rs z
    obtain ⟨qs, h1, h2⟩ := ih2 z
    obtain ⟨ps, h3, h4⟩ := ih1 h1
    exact ⟨ps, h3, h4.trans h2⟩
theorem allV_mem {α : Type} {R : V → α → Prop} : ∀ {vs : List V} {xs : List α}, allV R vs xs → ∀ v ∈ vs, ∃ x ∈ xs, R v x
  | v :: vs, x :: xs, h, u, hu => by
    cases hu with
    | head => exact ⟨x, .head _, h.1⟩
    | tail _ hu =>
      obtain ⟨y, hy, r⟩ := allV_mem h.2 u hu
      exact ⟨y, .tail _ hy, r⟩
  | [], _, _, u, hu => nomatch hu
  | v :: vs, [], h, _, _ => h.elim
theorem allV_back {α : Type} {R : V → α → Prop} : ∀ {vs : List V} {xs : List α}, allV R vs xs → ∀ x ∈ xs, ∃ v ∈ vs, R v x
  | v :: vs, x :: xs, h, u, hu => by
    cases hu with
    | head => exact ⟨v, .head _, h.1⟩
    | tail _ hu =>
      obtain ⟨y, hy, r⟩ := allV_back h.2 u hu
      exact ⟨y, .tail _ hy, r⟩
  | _, [], _, u, hu => nomatch hu
  | [], _ :: _, h, _, _ => h.elim
theorem allV_pair {α : Type} {R : V → α → Prop} {k : V → Int} {f : α → Nat} (hk : ∀ v x, R v x → k v = (f x : Nat)) : ∀ {vs : List V} {xs : List α}, allV R vs xs → (vs.Pairwise fun x y => k x ≤ k y) → xs.Pairwise fun x y => f x ≤ f y
  | [], [], _, _ => .nil
  | v :: vs, x :: xs, h, p => by
    cases p with
    | cons p1 p2 =>
      refine .cons (fun y hy => ?_) (allV_pair hk h.2 p2)
      have := allV_back h.2 y hy
      obtain ⟨u, hu, ru⟩ := this
      have := p1 u hu
      rw [hk v x h.1, hk u y ru] at this
      omega
  | [], _ :: _, h, _ => h.elim
  | _ :: _, [], h, _ => h.elim
theorem allV_MDs {α : Type} {F : Hp} {G : List (Addr × HO)} {f : α → PyData} : ∀ {vs : List V} {xs : List α}, allV (fun v x => MD K F G v (f x)) vs xs → MDs K F G vs (xs.map f)
  | [], [], _ => .nil
  | _ :: _, _ :: _, h => .cons h.1 (allV_MDs h.2)
  | [], _ :: _, h => h.elim
  | _ :: _, [], h => h.elim
theorem walk_colT {α : Type} {Rv R' : V → α → Prop} {W : sWX} {F : Hp} {G : List (Addr × HO)} {Q : V → SH → Prop} {i j : Nat} {c : Int} {q : Addr} {vs : List V} {qs : List α} {x0 x1 x2 x3 x4 : Option V} (hi : [x0, x1, x2, x3, x4][i]? = some (some (.ref q))) (hc : c = (j : Nat))
    (hL : ∀ E, sL K ⟨F, E ++ G⟩ q vs) (hal : allV Rv vs qs) (hR : ∀ v r, Rv v r → ∃ t xs u, v = .ref t ∧ SqT K F t xs ∧ xs[j]? = some u ∧ R' u r) (hl : qs.length ≤ 100)
    (k : ∀ ws D t, allV R' ws qs → Q (.ref t) ⟨F, (t, .tup ws) :: (D, .lst ws) :: G⟩) :
    sTuple K (sLc (siSeq K (sVar i)) (sgName 4) sYes (sOp (oIx K) (sVar 4) (sC (.int c))) [4]) W [x0, x1, x2, x3, x4] ⟨F, G⟩ Q := by
  subst hc
  have lv : vs.length = qs.length := allV_len hal
  unfold sTuple sLc
  dsimp only
  refine seqI_go (var_go hi ?_)
  refine .inl ⟨vs, hL [], fun D => ?_⟩
  refine ⟨fun n S => ∃ ws, allV R' ws (qs.take n) ∧ S = ⟨F, (D, .lst ws) :: G⟩, ⟨[], trivial, rfl⟩, ?_, ?_, ?_⟩
  · rintro n S _ ⟨ws, _, rfl⟩
    exact hL [_]
  · rintro n S hn ⟨ws, hws, rfl⟩ v hv
    obtain ⟨r, hr, hvr⟩ := allV_at hal hv
    obtain ⟨t, xs, u, rfl, ht, hu, hru⟩ := hR v r hvr
    refine ⟨rfl, ?_⟩
    refine ⟨xs, u, .inr (.inr ht), atI_at hu, ?_⟩
    refine ⟨0, ws, rfl, ?_, ⟨_, SLe.refl _, ws ++ [u], ?_, rfl⟩⟩
    · rw [allV_len hws, List.length_take]
      exact small_of (show min n qs.length ≤ 100 by omega) (by decide)
    · rw [take_more hr]
      exact allV_snoc hru hws
  · rintro S ⟨ws, hws, rfl⟩
    have en : (itL K q vs).n = qs.length := lv
    rw [en, List.take_length] at hws
    exact .inl ⟨ws, .inl ⟨0, rfl⟩, fun t => k ws D t hws⟩
theorem set_col {α : Type} {Rv R' : V → α → Prop} {D : sEnds} {F : Hp} {E : List (Addr × HO)} {C dx p0 : Addr} {f : Str} {fs : List (Str × V)} {i j : Nat} {c : Int} {q : Addr} {vs : List V} {qs : List α} {x1 x2 x3 x4 : Option V} (hi : [some (.ref p0), x1, x2, x3, x4][i]? = some (some (.ref q))) (hc : c = (j : Nat))
    (hL : ∀ A, sL K ⟨F, A ++ E ++ [(p0, .ins C dx fs)]⟩ q vs) (hal : allV Rv vs qs) (hR : ∀ v r, Rv v r → ∃ t xs u, v = .ref t ∧ SqT K F t xs ∧ xs[j]? = some u ∧ R' u r) (hl : qs.length ≤ 100) (hf : fs.length < 1000)
    (k : ∀ ws D2 t, allV R' ws qs → D.nx [some (.ref p0), x1, x2, x3, x4] ⟨F, ((t, .tup ws) :: (D2, .lst ws) :: E) ++ [(p0, .ins C dx (putF f (.ref t) fs))]⟩) :
    sSetO C f (sVar 0) (sTuple K (sLc (siSeq K (sVar i)) (sgName 4) sYes (sOp (oIx K) (sVar 4) (sC (.int c))) [4])) D [some (.ref p0), x1, x2, x3, x4] ⟨F, E ++ [(p0, .ins C dx fs)]⟩ := by
  unfold sSetO
  refine walk_colT (Rv := Rv) (R' := R') hi hc (fun A => ?_) hal hR hl fun ws D2 t hws => ?_
  · rw [← List.append_assoc]
    exact hL A
  · refine ⟨((t, HO.tup ws) :: (D2, HO.lst ws) :: E).length, dx, fs, at_mid (E := (t, HO.tup ws) :: (D2, HO.lst ws) :: E), hf, ?_⟩
    show D.nx _ ⟨F, (((t, HO.tup ws) :: (D2, HO.lst ws) :: E) ++ [(p0, HO.ins C dx fs)]).set ((t, HO.tup ws) :: (D2, HO.lst ws) :: E).length (p0, HO.ins C dx (putF f (.ref t) fs))⟩
    rw [set_mid]
    exact k ws D2 t hws
theorem lk_eq {f : Str} {v : V} {fs : List (Str × V)} : (putF f v fs).lookup f = some v := by rw [lookup_putF, if_pos rfl]
theorem lk_no {f g : Str} {y : V} {fs : List (Str × V)} (h : fs.lookup g = none) (n : g ≠ f := by decide) : (putF f y fs).lookup g = none := by
  rw [lookup_putF, if_neg n]
  exact h
theorem lk_ne {f g : Str} {v : V} {fs : List (Str × V)} {r : Option V} (h : fs.lookup g = r) (n : g ≠ f := by decide) : (putF f v fs).lookup g = r := by rw [lookup_putF, if_neg n, h]
theorem len_put {f : Str} {v : V} {fs : List (Str × V)} {n : Nat} (h : fs.length ≤ n) : (putF f v fs).length ≤ n + 1 := Nat.le_trans (length_putF f v fs) (Nat.succ_le_succ h)
theorem atI_last {α : Type} {xs : List α} {x : α} (h : xs[xs.length - 1]? = some x) : atI xs (-1) = some x := by
  have hl : xs.length - 1 < xs.length := (List.getElem?_eq_some_iff.mp h).1
  have : ixN xs.length (-1) = some (xs.length - 1) := by
    unfold ixN
    rw [if_neg (by omega), if_pos (by omega)]
    congr 1
    omega
  unfold atI
  rw [this]
  exact h
/-- the key of a row -/
def kfR (F : Hp) : V → Int
  | .ref t => match F t with
    | some (.tup (.int i :: _)) => i
    | _ => 0
  | _ => 0
theorem row_open {F : Hp} {v : V} {r : TR.Row} (h : rowR K [] F v r) : ∃ t r1 r2 r3 r4, v = .ref t ∧ F t = some (.tup [.int (r.1 : Nat), r1, r2, r3, r4]) ∧ NdA K F [] r1 r.2.1 ∧ NdA K F [] r2 r.2.2.1 ∧ MD K F [] r3 (prD r.2.2.2.1) := by
  obtain ⟨t, r1, r2, r3, r4, e, h1, h2, h3, h4⟩ := h
  refine ⟨t, r1, r2, r3, r4, e, h1.elim (fun ⟨i, hi⟩ => by cases hi) id, h2, h3, h4⟩
theorem row_key {F : Hp} {v : V} {r : TR.Row} (h : rowR K [] F v r) : kfR F v = (r.1 : Nat) := by
  obtain ⟨t, r1, r2, r3, r4, rfl, h1, _⟩ := row_open h
  show (match F t with | some (.tup (.int i :: _)) => i | _ => 0) = _
  rw [h1]
theorem allV_map {α β : Type} {R : V → β → Prop} {f : α → β} : ∀ {vs : List V} {xs : List α}, allV (fun v x => R v (f x)) vs xs → allV R vs (xs.map f)
  | [], [], _ => trivial
  | _ :: _, _ :: _, h => ⟨h.1, allV_map h.2⟩
  | [], _ :: _, h => h.elim
  | _ :: _, [], h => h.elim
theorem NdA.wo {H : Hp} {c C d : Addr} {fs : List (Str × V)} {v : V} {n : Nat × Nat} (h : NdA K H [] v n) (hc : H c = some (.ins C d fs)) : NdA K (without H c) [] v n := by
  refine ⟨md_without hc h.md, ?_⟩
  obtain ⟨q, h1, h2⟩ := h.own_
  have h2 : H q = some _ := h2.elim (fun ⟨i, hi⟩ => by cases hi) id
  have ne : q ≠ c := fun e => by rw [e, hc] at h2; cases h2
  exact ⟨q, h1, .inr (by show without H c q = _; rw [without_ne ne]; exact h2)⟩
theorem NdA.at {H H' : Hp} {v : V} {n : Nat × Nat} (h : NdA K H [] v n) (e : Ext H H') : AtH H' v n := by
  obtain ⟨q, h1, h2⟩ := h.own_
  exact ⟨q, h1, e _ _ (h2.elim (fun ⟨i, hi⟩ => by cases hi) id)⟩
theorem atH_without {H : Hp} {c C d : Addr} {fs : List (Str × V)} (hc : H c = some (.ins C d fs)) {v : V} {n : Nat × Nat} (h : AtH H v n) : AtH (without H c) v n := by
  obtain ⟨q, h1, h2⟩ := h
  have ne : q ≠ c := fun e => by rw [e, hc] at h2; cases h2
  exact ⟨q, h1, by rw [without_ne ne]; exact h2⟩
theorem tup_without {H : Hp} {c C d q : Addr} {fs : List (Str × V)} {xs : List V} (hc : H c = some (.ins C d fs)) (h : H q = some (.tup xs)) : without H c q = some (.tup xs) := by
  have ne : q ≠ c := fun e => by rw [e, hc] at h; cases h
  rw [without_ne ne]
  exact h
theorem row_without {H : Hp} {c C d : Addr} {fs : List (Str × V)} (hc : H c = some (.ins C d fs)) {v : V} {r : TR.Row} (h : rowR K [] H v r) : rowR K [] (without H c) v r := by
  obtain ⟨t, r1, r2, r3, r4, rfl, h1, h2, h3, h4⟩ := row_open h
  have ne : t ≠ c := fun e => by rw [e, hc] at h1; cases h1
  exact ⟨t, r1, r2, r3, r4, rfl, .inr (by show without H c t = _; rw [without_ne ne]; exact h1), h2.wo hc, h3.wo hc, md_without hc h4⟩
theorem txt_small {b : TR} (h : nS b ≤ 64) : (tS b).length ≤ 190 := by
  have := txt_len b
  show (txt b).toArray.size ≤ 190
  rw [List.size_toArray]
  omega
theorem spans_sorted {b : TR} {qs : List TR.Row} (h : qs.Perm (rowsB b 0 0)) (hat : ∀ row ∈ rowsB b 0 0, qs[row.1]? = some row) : qs.map (·.2.2.2.1) = (List.range (nS b - 1)).map (spnF b 0) := by
  have lr := rowsB_len b 0 0
  have lq := h.length_eq
  refine List.ext_getElem? fun i => ?_
  rw [List.getElem?_map, List.getElem?_map]
  by_cases hi : i < nS b - 1
  · have : i ∈ (rowsB b 0 0).map Prod.fst := (rows_keys b 0 0).mem_iff.mpr (List.mem_range'_1.mpr ⟨Nat.zero_le _, by omega⟩)
    obtain ⟨row, hr, e⟩ := List.mem_map.mp this
    have e : row.1 = i := e
    have := hat row hr
    rw [e] at this
    rw [this, List.getElem?_range hi]
    show some row.2.2.2.1 = some (spnF b 0 i)
    rw [rows_spans b 0 0 row hr, e]
  · rw [List.getElem?_eq_none (by omega), List.getElem?_eq_none (by rw [List.length_range]; omega)]
    rfl
theorem vc_Tree_init {vs : List V} {H : Hp} (g : Addr × Addr × TR) (h : (ct_Tree_init K a).pre g vs H) : ∃ S, Own S H ∧ r_Tree_init K a (endsC (ct_Tree_init K a) g H) (start N_Tree_init vs) S := by
  obtain ⟨p0, dx, b⟩ := g
  obtain ⟨rfl, h0, hb⟩ := h
  have h0 : H p0 = some (.ins a.Tree dx []) := h0
  have hb : nS b ≤ 64 := hb
  have hp := nS_pos b
  refine ⟨_, Own.only h0, ?_⟩
  refine ⟨fun σ S => ∃ (F : Hp) (p : Addr) (xs : List V), Ext (without H p0) F ∧ SqL K F p xs ∧ allV (rowR K [] F) xs (rowsB b 0 0) ∧ σ = [some (.ref p0), some (.str (tS b)), some (.ref p), none, none] ∧ S = ⟨F, [(p0, .ins a.Tree dx [])]⟩, ?_, ?_⟩
  · refine ⟨Nat.le_trans (txt_small hb) (by decide), ?_⟩
    refine ⟨dx, [], .inl ⟨0, rfl⟩, rfl, ?_⟩
    refine ⟨.inl (by unfold sm64; decide), ?_⟩
    walk_at "b"
    rotate_left
    · rename_i hb2
      have := txt_small hb
      exact absurd (show ((tS b).length : Int) ≤ 3 * 64 - 2 by omega) (by omega)
    refine ⟨b, fun H1 o => ⟨rfl, hb⟩, fun H1 v H' o q => ?_, fun _ _ _ _ _ q => q.elim⟩
    obtain ⟨⟨p, xs, rfl, q1, q2, q3⟩, q4⟩ := q
    have hp1 : H1 p0 = some (.ins a.Tree dx []) := (o.gs (p0, .ins a.Tree dx []) (.head _)).1
    have hp2 := q4 _ _ hp1
    have ne : p ≠ p0 := fun e => by rw [e, hp2] at q2; cases q2
    refine ⟨_, Own.only hp2, ⟨_, SLe.refl _, without H' p0, p, xs, fun c u e => ?_, .inl (.inl (by rw [without_ne ne]; exact q2)), allV_ex (fun v r z => row_without hp2 z) q3, rfl, rfl⟩⟩
    have nc : c ≠ p0 := fun z => by
      rw [z, without_same] at e
      cases e
    rw [without_ne nc]
    exact q4 _ _ (o.fr c u e)
  rintro σ S ⟨F, p, xs, ex, hpx, hrow, rfl, rfl⟩
  have lrb := rowsB_len b 0 0
  have lxs : xs.length = (rowsB b 0 0).length := allV_len hrow
  refine ⟨xs, kfR F, .inr hpx, fun x hx => ?_, fun x hx y hy e => ?_, fun ys q hys hpw => ?_⟩
  · obtain ⟨r, _, hr⟩ := allV_mem hrow x hx
    rw [row_key hr]
    obtain ⟨t, r1, r2, r3, r4, rfl, h1, _⟩ := row_open hr
    exact ⟨t, _, rfl, .inr h1⟩
  · obtain ⟨i, hi⟩ := List.mem_iff_getElem?.mp hx
    obtain ⟨j, hj⟩ := List.mem_iff_getElem?.mp hy
    obtain ⟨r, hr1, hr2⟩ := allV_at hrow hi
    obtain ⟨s, hs1, hs2⟩ := allV_at hrow hj
    rw [row_key hr2, row_key hs2] at e
    have e : r.1 = s.1 := by omega
    have hn : ((rowsB b 0 0).map Prod.fst).Nodup := (rows_keys b 0 0).nodup_iff.mpr (by rw [← List.range_eq_range']; exact List.nodup_range)
    have := nodup_at hn (i := i) (j := j) (x := r.1) (by rw [List.getElem?_map, hr1]; rfl) (by rw [List.getElem?_map, hs1, e]; rfl)
    subst this
    rw [hi] at hj
    exact Option.some.inj hj
  obtain ⟨qs, hq1, hq2⟩ := allV_perm hys hrow
  have hq3 : qs.Pairwise fun x y => x.1 ≤ y.1 := allV_pair (fun v r z => row_key z) hq1 hpw
  have hat := rows_sorted hq2 hq3
  have lqs : qs.length ≤ 100 := by
    rw [hq2.length_eq]
    omega
  refine ⟨1, dx, [], rfl, Nat.zero_lt_succ _, ?_⟩
  have colR : ∀ (G : List (Addr × HO)) (j : Nat) (hj : j < 5), ∀ v r, rowR K [] F v r → ∃ t xs u, v = .ref t ∧ SqT K F t xs ∧ xs[j]? = some u ∧ (j = 1 → NdA K F [] u r.2.1) ∧ (j = 2 → NdA K F [] u r.2.2.1) ∧ (j = 3 → MD K F [] u (prD r.2.2.2.1)) ∧ (j = 0 → MD K F [] u (.int (r.1 : Nat))) := fun G j hj v r hr => by
    obtain ⟨t, r1, r2, r3, r4, rfl, h1, h2, h3, h4⟩ := row_open hr
    have : j = 0 ∨ j = 1 ∨ j = 2 ∨ j = 3 ∨ j = 4 := by omega
    rcases this with rfl | rfl | rfl | rfl | rfl
    · exact ⟨t, _, _, rfl, .inl (.inl h1), rfl, (fun e => absurd e (by decide)), (fun e => absurd e (by decide)), (fun e => absurd e (by decide)), fun _ => .int _⟩
    · exact ⟨t, _, _, rfl, .inl (.inl h1), rfl, (fun _ => h2), (fun e => absurd e (by decide)), (fun e => absurd e (by decide)), (fun e => absurd e (by decide))⟩
    · exact ⟨t, _, _, rfl, .inl (.inl h1), rfl, (fun e => absurd e (by decide)), (fun _ => h3), (fun e => absurd e (by decide)), (fun e => absurd e (by decide))⟩
    · exact ⟨t, _, _, rfl, .inl (.inl h1), rfl, (fun e => absurd e (by decide)), (fun e => absurd e (by decide)), (fun _ => h4), (fun e => absurd e (by decide))⟩
    · exact ⟨t, _, _, rfl, .inl (.inl h1), rfl, (fun e => absurd e (by decide)), (fun e => absurd e (by decide)), (fun e => absurd e (by decide)), (fun e => absurd e (by decide))⟩
  have colA : ∀ (j : Nat) (hj : j < 5), ∀ v r, rowR K [] F v r → ∃ t xs u, v = .ref t ∧ SqT K F t xs ∧ xs[j]? = some u ∧ True := fun j hj v r hr => by
    obtain ⟨t, xs, u, h1, h2, h3, _⟩ := colR [] j hj v r hr
    exact ⟨t, xs, u, h1, h2, h3, trivial⟩
  dsimp only
  refine seq_go ?_
  refine set_col (K := K) (Rv := rowR K [] F) (R' := fun u r => NdA K F [] u r.2.1) (i := 3) (j := 1) (c := 1) (q := q) (vs := ys) (qs := qs) (E := [(q, .lst ys)]) (p0 := p0) ?_ rfl (fun A => .inl ⟨A.length, ?_⟩) hq1 (fun v r hr => ?_) lqs (Nat.lt_of_le_of_lt (len_put (Nat.le_refl 0)) (by decide)) fun w1 D1 t1 hw1 => ?_
  · rfl
  · rw [List.append_assoc]
    exact at_mid
  · obtain ⟨t, ts, u, h1, h2, h3, h4, h5, h6⟩ := colR [] 1 (by decide) v r hr
    exact ⟨t, ts, u, h1, h2, h3, h4 rfl⟩
  dsimp only
  refine seq_go ?_
  refine set_col (K := K) (Rv := rowR K [] F) (R' := fun u r => NdA K F [] u r.2.2.1) (i := 3) (j := 2) (c := 2) (q := q) (vs := ys) (qs := qs) (E := [(t1, .tup w1), (D1, .lst w1), (q, .lst ys)]) (p0 := p0) ?_ rfl (fun A => .inl ⟨A.length + 2, ?_⟩) hq1 (fun v r hr => ?_) lqs (Nat.lt_of_le_of_lt (len_put (len_put (Nat.le_refl 0))) (by decide)) fun w2 D2 t2 hw2 => ?_
  · rfl
  · rw [List.append_assoc, List.getElem?_append_right (by omega), show A.length + 2 - A.length = 2 by omega]
    rfl
  · obtain ⟨t, ts, u, h1, h2, h3, h4, h5, h6⟩ := colR [] 2 (by decide) v r hr
    exact ⟨t, ts, u, h1, h2, h3, h5 rfl⟩
  dsimp only
  refine seq_go ?_
  refine set_col (K := K) (Rv := rowR K [] F) (R' := fun u r => MD K F [] u (prD r.2.2.2.1)) (i := 3) (j := 3) (c := 3) (q := q) (vs := ys) (qs := qs) (E := [(t2, .tup w2), (D2, .lst w2), (t1, .tup w1), (D1, .lst w1), (q, .lst ys)]) (p0 := p0) ?_ rfl (fun A => .inl ⟨A.length + 4, ?_⟩) hq1 (fun v r hr => ?_) lqs (Nat.lt_of_le_of_lt (len_put (len_put (len_put (Nat.le_refl 0)))) (by decide)) fun w3 D3 t3 hw3 => ?_
  · rfl
  · rw [List.append_assoc, List.getElem?_append_right (by omega), show A.length + 4 - A.length = 4 by omega]
    rfl
  · obtain ⟨t, ts, u, h1, h2, h3, h4, h5, h6⟩ := colR [] 3 (by decide) v r hr
    exact ⟨t, ts, u, h1, h2, h3, h6.1 rfl⟩
  dsimp only
  refine seq_go ?_
  refine set_col (K := K) (Rv := rowR K [] F) (R' := fun _ _ => True) (i := 3) (j := 4) (c := 4) (q := q) (vs := ys) (qs := qs) (E := [(t3, .tup w3), (D3, .lst w3), (t2, .tup w2), (D2, .lst w2), (t1, .tup w1), (D1, .lst w1), (q, .lst ys)]) (p0 := p0) ?_ rfl (fun A => .inl ⟨A.length + 6, ?_⟩) hq1 (colA 4 (by decide)) lqs (Nat.lt_of_le_of_lt (len_put (len_put (len_put (len_put (Nat.le_refl 0))))) (by decide)) fun w4 D4 t4 hw4 => ?_
  · rfl
  · rw [List.append_assoc, List.getElem?_append_right (by omega), show A.length + 6 - A.length = 6 by omega]
    rfl
  dsimp only
  refine seq_go ?_
  refine set_col (K := K) (Rv := rowR K [] F) (R' := fun u r => MD K F [] u (.int (r.1 : Nat))) (i := 2) (j := 0) (c := 0) (q := p) (vs := xs) (qs := rowsB b 0 0) (E := [(t4, .tup w4), (D4, .lst w4), (t3, .tup w3), (D3, .lst w3), (t2, .tup w2), (D2, .lst w2), (t1, .tup w1), (D1, .lst w1), (q, .lst ys)]) (p0 := p0) ?_ rfl (fun A => .inr hpx) hrow (fun v r hr => by obtain ⟨t, ts, u, h1, h2, h3, h4, h5, h6⟩ := colR [] 0 (by decide) v r hr; exact ⟨t, ts, u, h1, h2, h3, h6.2 rfl⟩) (by omega) (Nat.lt_of_le_of_lt (len_put (len_put (len_put (len_put (len_put (Nat.le_refl 0)))))) (by decide)) fun w5 D5 t5 hw5 => ?_
  · rfl
  dsimp only
  refine seq_go ?_
  generalize hfs : putF "postorder" (V.ref t5) (putF "bounds" (.ref t4) (putF "spans" (.ref t3) (putF "rights" (.ref t2) (putF "lefts" (.ref t1) (putF "text" (.str (tS b)) []))))) = fs6
  have l6 : fs6.length ≤ 6 := by
    rw [← hfs]
    exact len_put (len_put (len_put (len_put (len_put (len_put (Nat.le_refl 0))))))
  have ft : fs6.lookup ("text" : Str) = some (.str (tS b)) := by
    rw [← hfs]
    exact lk_ne (lk_ne (lk_ne (lk_ne (lk_ne lk_eq))))
  have fsp : fs6.lookup ("spans" : Str) = some (.ref t3) := by
    rw [← hfs]
    exact lk_ne (lk_ne lk_eq)
  have fle : fs6.lookup ("lefts" : Str) = some (.ref t1) := by
    rw [← hfs]
    exact lk_ne (lk_ne (lk_ne (lk_ne lk_eq)))
  have fri : fs6.lookup ("rights" : Str) = some (.ref t2) := by
    rw [← hfs]
    exact lk_ne (lk_ne (lk_ne lk_eq))
  have fpo : fs6.lookup ("postorder" : Str) = some (.ref t5) := by
    rw [← hfs]
    exact lk_eq
  have fwk : fs6.lookup ("walk" : Str) = none := by
    rw [← hfs]
    exact lk_no (lk_no (lk_no (lk_no (lk_no (lk_no rfl)))))
  clear hfs
  show (sSetO a.Tree ("root" : Str) (sVar 0) _) _ [some (.ref p0), some (.str (tS b)), some (.ref p), some (.ref q), none] ⟨F, [(t5, .tup w5), (D5, .lst w5), (t4, .tup w4), (D4, .lst w4), (t3, .tup w3), (D3, .lst w3), (t2, .tup w2), (D2, .lst w2), (t1, .tup w1), (D1, .lst w1), (q, .lst ys), (p0, .ins a.Tree dx fs6)]⟩
  generalize hE : ([(t5, .tup w5), (D5, .lst w5), (t4, .tup w4), (D4, .lst w4), (t3, .tup w3), (D3, .lst w3), (t2, .tup w2), (D2, .lst w2), (t1, .tup w1), (D1, .lst w1), (q, .lst ys)] : List (Addr × HO)) = E6
  have m1 : (t1, HO.tup w1) ∈ E6 := by
    rw [← hE]
    exact .tail _ (.tail _ (.tail _ (.tail _ (.tail _ (.tail _ (.tail _ (.tail _ (.head _))))))))
  have m5 : (t5, HO.tup w5) ∈ E6 := by
    rw [← hE]
    exact .head _
  have m2 : (t2, HO.tup w2) ∈ E6 := by
    rw [← hE]
    exact .tail _ (.tail _ (.tail _ (.tail _ (.tail _ (.tail _ (.head _))))))
  have m3 : (t3, HO.tup w3) ∈ E6 := by
    rw [← hE]
    exact .tail _ (.tail _ (.tail _ (.tail _ (.head _))))
  show (sSetO a.Tree ("root" : Str) (sVar 0) _) _ [some (.ref p0), some (.str (tS b)), some (.ref p), some (.ref q), none] ⟨F, [(t5, .tup w5), (D5, .lst w5), (t4, .tup w4), (D4, .lst w4), (t3, .tup w3), (D3, .lst w3), (t2, .tup w2), (D2, .lst w2), (t1, .tup w1), (D1, .lst w1), (q, .lst ys)] ++ [(p0, .ins a.Tree dx fs6)]⟩
  rw [hE]
  have rest : ∀ r0 : Addr, (sAsg (sCallD (q_lay_ways K a) [] (sCons (sFldO a.Tree ("root" : Str) (sVar 0)) (sCons (sFldO a.Tree ("lefts" : Str) (sVar 0)) (sCons (sFldO a.Tree ("rights" : Str) (sVar 0)) sNil)))) (sgTup K 2 (sgCons (sgFld a.Tree ("preorder" : Str) (sVar 0)) (sgCons (sgFld a.Tree ("ways" : Str) (sVar 0)) sgNil))))
      (endsC (ct_Tree_init K a) (p0, dx, b) H) [some (.ref p0), some (.str (tS b)), some (.ref p), some (.ref q), none] ⟨F, ((r0, .tup [.str (kdS (ndB b 0).1), .int ((ndB b 0).2 : Nat)]) :: E6) ++ [(p0, .ins a.Tree dx (putF "root" (.ref r0) fs6))]⟩ := fun r0 => by
    have sE : ∀ {X : List (Addr × HO)}, ((r0, HO.tup [.str (kdS (ndB b 0).1), .int ((ndB b 0).2 : Nat)]) :: E6) ⊆ ((r0, HO.tup [.str (kdS (ndB b 0).1), .int ((ndB b 0).2 : Nat)]) :: E6) ++ X := fun {X} => List.subset_append_left _ _
    refine ⟨dx, _, _, .inl ⟨_, at_mid⟩, lk_eq, ?_⟩
    refine ⟨dx, _, _, .inl ⟨_, at_mid⟩, lk_ne fle, ?_⟩
    refine ⟨dx, _, _, .inl ⟨_, at_mid⟩, lk_ne fri, ?_⟩
    refine ⟨(b, .ref r0, .ref t1, .ref t2, qs.map (·.2.1), qs.map (·.2.2.1)), fun H1 o => ⟨rfl, hb, ?_, ?_, ?_, ?_⟩, fun H1 v H' o qq => ?_, fun _ _ _ _ _ q => q.elim⟩
    · have : MD K F ((r0, .tup [.str (kdS (ndB b 0).1), .int ((ndB b 0).2 : Nat)]) :: E6) (.ref r0) (ndD (ndB b 0)) := nd_make (ndB b 0) (.inl (.head _))
      exact (this.sub sE).own o
    · have : MD K F ((r0, .tup [.str (kdS (ndB b 0).1), .int ((ndB b 0).2 : Nat)]) :: E6) (.ref t1) (.tuple ((qs.map (·.2.1)).map ndD)) := by
        refine .tup (.inl (.tail _ m1)) ?_
        rw [List.map_map]
        exact (allV_MDs (f := fun r : TR.Row => ndD r.2.1) (allV_ex (fun _ _ z => z.md) hw1)).up
      exact (this.sub sE).own o
    · have : MD K F ((r0, .tup [.str (kdS (ndB b 0).1), .int ((ndB b 0).2 : Nat)]) :: E6) (.ref t2) (.tuple ((qs.map (·.2.2.1)).map ndD)) := by
        refine .tup (.inl (.tail _ m2)) ?_
        rw [List.map_map]
        exact (allV_MDs (f := fun r : TR.Row => ndD r.2.2.1) (allV_ex (fun _ _ z => z.md) hw2)).up
      exact (this.sub sE).own o
    · refine fits_of b 0 0 _ _ fun row hr => ?_
      rw [List.getElem?_map, List.getElem?_map, hat row hr]
      exact ⟨rfl, rfl⟩
    obtain ⟨⟨p7, u, w, rfl, q1, q2⟩, q3⟩ := qq
    have hp1 : H1 p0 = some (.ins a.Tree dx (putF "root" (.ref r0) fs6)) := (o.gs (p0, .ins a.Tree dx (putF "root" (.ref r0) fs6)) (List.mem_append_right _ (.head _))).1
    have hp2 := q3 _ _ hp1
    have h3 : MD K H1 [] (.ref t3) (spsD b) := by
      have e : (qs.map (·.2.2.2.1)) = (List.range (nS b - 1)).map (spnF b 0) := spans_sorted hq2 hat
      have : MD K F ((r0, .tup [.str (kdS (ndB b 0).1), .int ((ndB b 0).2 : Nat)]) :: E6) (.ref t3) (.tuple ((qs.map (·.2.2.2.1)).map prD)) := by
        refine .tup (.inl (.tail _ m3)) ?_
        rw [List.map_map]
        exact (allV_MDs (f := fun r : TR.Row => prD r.2.2.2.1) hw3).up
      rw [e, List.map_map] at this
      exact (this.sub sE).own o
    have mem : ∀ {x : Addr × HO}, x ∈ E6 → H1 x.1 = some x.2 := fun {x} hx => (o.gs x (List.mem_append_left _ (.tail _ hx))).1
    have hL1 : H1 t1 = some (.tup w1) := mem m1
    have hL2 : H1 t2 = some (.tup w2) := mem m2
    have hA1 : allV (AtH H1) w1 (qs.map (·.2.1)) := allV_map (allV_ex (fun _ _ z => z.at (own_F o)) hw1)
    have hA2 : allV (AtH H1) w2 (qs.map (·.2.2.1)) := allV_map (allV_ex (fun _ _ z => z.at (own_F o)) hw2)
    have hP : MD K H1 [] (.ref t5) (.tuple ((rowsB b 0 0).map fun r => .int (r.1 : Nat))) := by
      have : MD K F ((r0, .tup [.str (kdS (ndB b 0).1), .int ((ndB b 0).2 : Nat)]) :: E6) (.ref t5) (.tuple ((rowsB b 0 0).map fun r => .int (r.1 : Nat))) := .tup (.inl (.tail _ m5)) (allV_MDs (f := fun r : TR.Row => .int (r.1 : Nat)) hw5).up
      exact (this.sub sE).own o
    have hO : AtH H1 (.ref r0) (ndB b 0) := ⟨r0, rfl, (o.gs (r0, .tup [.str (kdS (ndB b 0).1), .int ((ndB b 0).2 : Nat)]) (.head _)).1⟩
    refine ⟨_, Own.only hp2, ?_⟩
    refine ⟨[u, w], .inr (without_tI hp2 q1), rfl, ?_⟩
    refine ⟨0, dx, _, rfl, Nat.lt_of_le_of_lt (len_put l6) (by decide), ?_⟩
    refine ⟨0, dx, _, rfl, Nat.lt_of_le_of_lt (len_put (len_put l6)) (by decide), ?_⟩
    intro H2 o2
    refine ⟨rfl, ⟨⟨p0, dx, _, w, .ref t3, rfl, (o2.gs _ (.head _)).1, lk_ne (lk_ne (lk_ne ft)), lk_eq, (md_without hp2 q2).ext (own_F o2), lk_ne (lk_ne (lk_ne fsp)), (md_without hp2 (h3.ext q3)).ext (own_F o2)⟩, hb, ⟨p0, dx, _, t1, t2, w1, w2, .ref t5, .ref r0, qs.map (·.2.1), qs.map (·.2.2.1), rfl, (o2.gs _ (.head _)).1, lk_ne (lk_ne (lk_ne fle)), own_F o2 _ _ (tup_without hp2 (q3 _ _ hL1)), allV_ex (fun _ _ z => (atH_without hp2 (z.ext q3)).ext (own_F o2)) hA1, lk_ne (lk_ne (lk_ne fri)), own_F o2 _ _ (tup_without hp2 (q3 _ _ hL2)), allV_ex (fun _ _ z => (atH_without hp2 (z.ext q3)).ext (own_F o2)) hA2, lk_ne (lk_ne (lk_ne fpo)), (md_without hp2 (hP.ext q3)).ext (own_F o2), lk_ne (lk_ne lk_eq), (atH_without hp2 (hO.ext q3)).ext (own_F o2), lk_no (lk_no (lk_no fwk)), fun row hr => by rw [List.getElem?_map, List.getElem?_map, hat row hr]; exact ⟨rfl, rfl⟩⟩⟩, fun c u nc e => ?_⟩
    · refine own_F o2 _ _ ?_
      show without H' p0 c = _
      rw [without_ne nc]
      exact q3 _ _ (own_F o _ _ (ex _ _ (by rw [without_ne nc]; exact e)))
  refine .inl ⟨xs, .inr hpx, ?_⟩
  cases b with
  | leaf =>
    have : xs = [] := List.length_eq_zero_iff.mp lxs
    subst this
    refine ⟨show 2 ≤ sizeLine by decide, fun r0 => ?_⟩
    refine ⟨((r0, HO.tup [.str (kdS (ndB leaf 0).1), .int ((ndB leaf 0).2 : Nat)]) :: E6).length, dx, fs6, at_mid (E := (r0, HO.tup [.str (kdS (ndB leaf 0).1), .int ((ndB leaf 0).2 : Nat)]) :: E6), by omega, ?_⟩
    have := rest r0
    rw [← set_mid (E := (r0, HO.tup [.str (kdS (ndB leaf 0).1), .int ((ndB leaf 0).2 : Nat)]) :: E6) (x := (p0, .ins a.Tree dx fs6))] at this
    exact this
  | node l r =>
    obtain ⟨x, hx, hr⟩ : ∃ x, xs[xs.length - 1]? = some x ∧ rowR K [] F x (0 + nS l - 1, ndB l 0, ndB r (0 + nS l), (0, 0 + nS l + nS r - 1), (0, 0 + (txt (node l r)).length)) := by
      have hl : 0 < xs.length := by
        rw [lxs]
        show 0 < (rowsB l 0 1 ++ (rowsB r (0 + nS l) (0 + 1 + (txt l).length) ++ [_])).length
        rw [List.length_append, List.length_append, List.length_singleton]
        omega
      obtain ⟨y, hy1, hy2⟩ := allV_at hrow (List.getElem?_eq_getElem (show xs.length - 1 < xs.length by omega))
      refine ⟨_, List.getElem?_eq_getElem (by omega), ?_⟩
      have ey : y = (0 + nS l - 1, ndB l 0, ndB r (0 + nS l), (0, 0 + nS l + nS r - 1), (0, 0 + (txt (node l r)).length)) := by
        have e2 : (rowsB (node l r) 0 0)[xs.length - 1]? = some (0 + nS l - 1, ndB l 0, ndB r (0 + nS l), (0, 0 + nS l + nS r - 1), (0, 0 + (txt (node l r)).length)) := by
          rw [lxs]
          show (rowsB l 0 (0 + 1) ++ (rowsB r (0 + nS l) (0 + 1 + (txt l).length) ++ [_]))[(rowsB l 0 (0 + 1) ++ (rowsB r (0 + nS l) (0 + 1 + (txt l).length) ++ [_])).length - 1]? = _
          rw [← List.append_assoc, List.length_append, List.length_singleton, Nat.add_sub_cancel, List.getElem?_append_right (Nat.le_refl _), Nat.sub_self]
          rfl
        rw [e2] at hy1
        exact (Option.some.inj hy1).symm
      rw [← ey]
      exact hy2
    have ne : (!xs.isEmpty) = true := by
      cases xs with
      | nil => cases hx
      | cons => rfl
    rw [ne]
    refine ⟨xs, x, .inl (.inr hpx), atI_last hx, ?_⟩
    obtain ⟨t, r1, r2, r3, r4, rfl, h1, _⟩ := row_open hr
    refine ⟨_, _, .inr (.inr (.inl (.inl h1))), atI_at (i := 0) rfl, ?_⟩
    refine ⟨show 2 ≤ sizeLine by decide, fun r0 => ?_⟩
    refine ⟨((r0, HO.tup [.str (kdS (ndB (node l r) 0).1), .int ((ndB (node l r) 0).2 : Nat)]) :: E6).length, dx, fs6, at_mid (E := (r0, HO.tup [.str (kdS (ndB (node l r) 0).1), .int ((ndB (node l r) 0).2 : Nat)]) :: E6), by omega, ?_⟩
    have := rest r0
    rw [← set_mid (E := (r0, HO.tup [.str (kdS (ndB (node l r) 0).1), .int ((ndB (node l r) 0).2 : Nat)]) :: E6) (x := (p0, .ins a.Tree dx fs6))] at this
    exact this
end
section
variable {K : PySem.W.Frag} {a : Ads}
open TR
theorem at_midB {E M B : List (Addr × HO)} {x : Addr × HO} : ((E ++ x :: M) ++ B)[E.length]? = some x := by
  rw [List.append_assoc, List.cons_append]
  exact at_mid
theorem set_midB {E M B : List (Addr × HO)} {x y : Addr × HO} : ((E ++ x :: M) ++ B).set E.length y = (E ++ y :: M) ++ B := by
  rw [List.append_assoc, List.cons_append, set_mid, List.append_assoc, List.cons_append]
theorem lc_putB {P : SH → Prop} {F : Hp} {E M B : List (Addr × HO)} {D : Addr} {acc : List V} {y : V} (ha : acc.length < sizeLine) (h : P ⟨F, (E ++ (D, .lst (acc ++ [y])) :: M) ++ B⟩) :
    ∃ k acc', (SH.mk F ((E ++ (D, .lst acc) :: M) ++ B)).G[k]? = some (D, .lst acc') ∧ acc'.length < sizeLine ∧ Wk P ((SH.mk F ((E ++ (D, .lst acc) :: M) ++ B)).put k D (.lst (acc' ++ [y]))) := by
  refine ⟨E.length, acc, at_midB, ha, _, SLe.refl _, ?_⟩
  show P ⟨F, ((E ++ (D, .lst acc) :: M) ++ B).set E.length (D, .lst (acc ++ [y]))⟩
  rw [set_midB]
  exact h
theorem allV_split {α : Type} {R : V → α → Prop} : ∀ {xs ys : List α} {vs : List V}, allV R vs (xs ++ ys) → ∃ v1 v2, vs = v1 ++ v2 ∧ allV R v1 xs ∧ allV R v2 ys
  | [], ys, vs, h => ⟨[], vs, rfl, trivial, h⟩
  | x :: xs, ys, [], h => h.elim
  | x :: xs, ys, v :: vs, h => by
    obtain ⟨v1, v2, e, a1, a2⟩ := allV_split (xs := xs) h.2
    exact ⟨v :: v1, v2, by rw [e]; rfl, ⟨h.1, a1⟩, a2⟩
theorem allV_set {α : Type} {R : V → α → Prop} {v : V} {x : α} (r : R v x) : ∀ {vs : List V} {xs : List α} (_ : allV R vs xs) (i : Nat), allV R (vs.set i v) (xs.set i x)
  | [], [], _, _ => trivial
  | _ :: _, _ :: _, h, 0 => ⟨r, h.2⟩
  | _ :: _, _ :: _, h, i + 1 => ⟨h.1, allV_set r h.2 i⟩
  | [], _ :: _, h, _ => h.elim
  | _ :: _, [], h, _ => h.elim
theorem set_take {α : Type} {X Y : List α} {j : Nat} {x : α} (h : X[j]? = some x) (hl : X.length = Y.length) : (X.take j ++ Y.drop j).set j x = X.take (j + 1) ++ Y.drop (j + 1) := by
  obtain ⟨hj, e⟩ := List.getElem?_eq_some_iff.mp h
  have lt : (X.take j).length = j := by
    rw [List.length_take]
    omega
  rw [List.set_append_right _ _ (by omega), lt, Nat.sub_self, take_more h, List.append_assoc]
  congr 1
  rw [← List.getElem_cons_drop (h := show j < Y.length by omega)]
  rfl
theorem mid_len {l r : TR} {o j : Nat} : (midW l r o j).length = nS l + nS r := by
  unfold midW
  rw [List.length_append, List.length_take, List.length_drop, List.length_append, wayB_len, wayB_len, wayB_len]
  show min j (nS l + nS r) + _ = _
  omega
theorem mid_set {l r : TR} {o j : Nat} {w : Way} (h : (wayB (node l r) o)[j]? = some w) : (midW l r o j).set j w = midW l r o (j + 1) := by
  unfold midW
  exact set_take h (by rw [List.length_append, wayB_len, wayB_len, wayB_len]; rfl)
theorem mid_zero {l r : TR} {o : Nat} : midW l r o 0 = wayB l o ++ wayB r (o + nS l) := rfl
theorem mid_all {l r : TR} {o : Nat} : midW l r o (nS l + nS r) = wayB (node l r) o := by
  unfold midW
  rw [List.take_of_length_le (by rw [wayB_len]; exact Nat.le_refl _), List.drop_of_length_le (by rw [List.length_append, wayB_len, wayB_len]; exact Nat.le_refl _), List.append_nil]
theorem mid_at {l r : TR} {o j : Nat} (hj : j < nS l + nS r) : ∃ w, (midW l r o j)[j]? = some w ∧ (wayB (node l r) o)[j]? = some ((o + nS l - 1, decide (j < nS l)) :: w) := by
  have hl : (wayB l o ++ wayB r (o + nS l)).length = nS l + nS r := by rw [List.length_append, wayB_len, wayB_len]
  obtain ⟨w, hw⟩ : ∃ w, (wayB l o ++ wayB r (o + nS l))[j]? = some w := ⟨_, List.getElem?_eq_getElem (by omega)⟩
  refine ⟨w, ?_, mid_get hw⟩
  have lt : ((wayB (node l r) o).take j).length = j := by
    rw [List.length_take, wayB_len]
    show min j (nS l + nS r) = j
    omega
  unfold midW
  rw [List.getElem?_append_right (by omega), lt, Nat.sub_self, List.getElem?_drop, Nat.add_zero]
  exact hw
theorem tS_node (l r : TR) : (("(" : Str) ++ tS l ++ tS r ++ ")") = tS (node l r) := by
  refine TL.ext_tl ?_
  rw [TL.tl_append, TL.tl_append, TL.tl_append]
  show [40] ++ txt l ++ txt r ++ [41] = 40 :: (txt l ++ (txt r ++ [41]))
  rw [List.append_assoc, List.append_assoc]
  rfl
/-- a piece: a list of a text and two numbers -/
def pcM (E : List (Addr × HO)) (v : V) (q : TR × Nat) : Prop := ∃ p, v = .ref p ∧ (p, HO.lst [.str (tS q.1), .int (q.2 : Nat), .int ((q.2 + nS q.1 - 1 : Nat) : Int)]) ∈ E
def wyM (K : PySem.W.Frag) (F : Hp) (E : List (Addr × HO)) (v : V) (w : Way) : Prop := ∃ p xs, v = .ref p ∧ (p, HO.lst xs) ∈ E ∧ MDs K F E xs (w.map stD)
theorem pcM.sub {E E' : List (Addr × HO)} {v : V} {q : TR × Nat} (h : pcM E v q) (s : E ⊆ E') : pcM E' v q := let ⟨p, e, h⟩ := h; ⟨p, e, s h⟩
theorem wyM.sub {F : Hp} {E E' : List (Addr × HO)} {v : V} {w : Way} (h : wyM K F E v w) (s : E ⊆ E') : wyM K F E' v w := let ⟨p, xs, e, h, m⟩ := h; ⟨p, xs, e, s h, m.sub s⟩
theorem pcs_leaf : ∀ (n o : Nat), pcs (List.replicate n leaf) o = (List.range' o n).map fun k => (leaf, k)
  | 0, _ => rfl
  | n + 1, o => by
    show (leaf, o) :: pcs (List.replicate n leaf) (o + 1) = _
    rw [pcs_leaf n (o + 1)]
    rfl
theorem fw_leaf : ∀ (n o : Nat), fw (List.replicate n leaf) o = List.replicate n []
  | 0, _ => rfl
  | n + 1, o => by
    show [] :: fw (List.replicate n leaf) (o + 1) = _
    rw [fw_leaf n (o + 1)]
    rfl
theorem szs_leaf : ∀ n : Nat, szs (List.replicate n leaf) = n
  | 0 => rfl
  | n + 1 => by
    show 1 + szs (List.replicate n leaf) = n + 1
    rw [szs_leaf n, Nat.add_comm]
theorem LR_int (c : Bool) : atI ("LR" : Str).cps.toList (if c = true then 1 else 0) = some (cdB (!c)) := by cases c <;> rfl
/-- the ways of a joined pair -/
theorem walk_ways {D : sEnds} {F : Hp} {E M B : List (Addr × HO)} {pw pl : Addr} {wv : List V} {l r : TR} {o : Nat} {X Z : List Way} {x0 x1 x2 x3 x5 x6 x8 x9 : Option V}
    (hpl : (pl, HO.lst [.str (tS l), .int (o : Nat), .int ((o + nS l - 1 : Nat) : Int)]) ∈ E ++ M) (hX : X.length = o) (hw : allV (wyM K F (E ++ M)) wv (X ++ (wayB l o ++ wayB r (o + nS l)) ++ Z)) (hn : o + nS l + nS r ≤ 64) (hwl : ∀ w ∈ wayB l o ++ wayB r (o + nS l), w.length ≤ 64) {hi : Int} (ehi : hi = ((o + nS l + nS r : Nat) : Int))
    (k : ∀ E2 wv2 x9', E ++ M ⊆ E2 ++ M → allV (wyM K F (E2 ++ M)) wv2 (X ++ wayB (node l r) o ++ Z) → D.nx [x0, x1, x2, x3, some (.ref pw), x5, x6, some (.ref pl), x8, x9'] ⟨F, (E2 ++ (pw, .lst wv2) :: M) ++ B⟩)
    {ta : sA} (hta : ∀ Q, Q [.int (o : Nat), .int hi] ⟨F, (E ++ (pw, .lst wv) :: M) ++ B⟩ → ta D.ex [x0, x1, x2, x3, some (.ref pw), x5, x6, some (.ref pl), x8, x9] ⟨F, (E ++ (pw, .lst wv) :: M) ++ B⟩ Q) :
    sFor (siR2 ta) (sgName 9) (sAsg (sOp oAdd (sLst (sCons (sTup (sCons (sOp (oIx K) (sVar 7) (sC (.int 2))) (sCons (sOp (oIx K) (sC (.str ("LR" : Str))) (sCall1 nInt (sCons (sOp oGt (sVar 9) (sOp (oIx K) (sVar 7) (sC (.int 2)))) (sNil)))) (sNil)))) (sNil))) (sOp (oIx K) (sVar 4) (sVar 9))) (sgSub (sVar 4) (sVar 9))) D [x0, x1, x2, x3, some (.ref pw), x5, x6, some (.ref pl), x8, x9] ⟨F, (E ++ (pw, .lst wv) :: M) ++ B⟩ := by
  subst ehi
  have pl0 := nS_pos l
  refine hta _ ?_
  refine ⟨by unfold rngOk; omega, by unfold rngOk; omega, ?_⟩
  have en : (((o + nS l + nS r : Nat) : Int) - ((o : Nat) : Int)).toNat = nS l + nS r := by omega
  rw [en]
  refine ⟨fun j σ S => ∃ (E2 : List (Addr × HO)) (wv2 : List V) (x9 : Option V), j ≤ nS l + nS r ∧ E ++ M ⊆ E2 ++ M ∧ allV (wyM K F (E2 ++ M)) wv2 (X ++ midW l r o j ++ Z) ∧ σ = [x0, x1, x2, x3, some (.ref pw), x5, x6, some (.ref pl), x8, x9] ∧ S = ⟨F, (E2 ++ (pw, .lst wv2) :: M) ++ B⟩, ?_, fun _ _ _ _ _ => trivial, ?_, ?_⟩
  · exact ⟨E, wv, x9, Nat.zero_le _, List.Subset.refl _, hw, rfl, rfl⟩
  · rintro j σ S hj ⟨E2, wv2, x9, _, hs, hw2, rfl, rfl⟩
    have hj : j < nS l + nS r := hj
    refine yldR_go ?_
    rw [show ((o : Nat) : Int) + (j : Nat) = ((o + j : Nat) : Int) by omega]
    refine nm_go ?_
    have up : ∀ {A : List (Addr × HO)}, E2 ++ M ⊆ (A ++ ((E2 ++ (pw, HO.lst wv2) :: M) ++ B)) := fun {A} z hz => List.mem_append_right _ (List.mem_append_left _ (sub_mid hz))
    have hplm : mL K F (E2 ++ M) pl [.str (tS l), .int (o : Nat), .int ((o + nS l - 1 : Nat) : Int)] := .inl (hs hpl)
    obtain ⟨w, hw1, hw3⟩ := mid_at (o := o) hj
    have hidx : (X ++ midW l r o j ++ Z)[o + j]? = some w := by
      rw [List.append_assoc, List.getElem?_append_right (by omega), hX, show o + j - o = j by omega, List.getElem?_append_left (by rw [mid_len]; exact hj)]
      exact hw1
    have hlw : wv2.length = (X ++ midW l r o j ++ Z).length := allV_len hw2
    obtain ⟨v, hv⟩ : ∃ v, wv2[o + j]? = some v := ⟨_, List.getElem?_eq_getElem (by rw [hlw]; exact (List.getElem?_eq_some_iff.mp hidx).1)⟩
    obtain ⟨w', hw', pv, xs, rfl, hpv, hxs⟩ := allV_at hw2 hv
    rw [hidx] at hw'
    cases hw'
    have lw : w.length ≤ 64 := by
      have hb := mid_get (l := l) (r := r) (o := o) (k := j) (w := w)
      refine hwl w ?_
      have : (wayB l o ++ wayB r (o + nS l))[j]? = some w := by
        have hl : (wayB l o ++ wayB r (o + nS l)).length = nS l + nS r := by rw [List.length_append, wayB_len, wayB_len]
        obtain ⟨w2, hw2⟩ : ∃ w2, (wayB l o ++ wayB r (o + nS l))[j]? = some w2 := ⟨_, List.getElem?_eq_getElem (by omega)⟩
        have h5 := mid_get hw2
        rw [hw3] at h5
        have h6 := Option.some.inj h5
        rw [hw2]
        exact congrArg some (List.cons.inj h6).2.symm
      exact List.mem_of_getElem? this
    have lxs : xs.length = w.length := by rw [hxs.len, List.length_map]
    have eside : (!decide (((o + nS l - 1 : Nat) : Int) < ((o + j : Nat) : Int))) = decide (j < nS l) := by
      by_cases h : j < nS l
      · rw [decide_eq_true h, decide_eq_false (by omega)]
        rfl
      · rw [decide_eq_false h, decide_eq_true (by omega)]
        rfl
    refine ⟨_, _, .inl (hplm.s (up (A := []))), atI_at (i := 2) rfl, ?_⟩
    refine ⟨_, _, .inl (hplm.s (up (A := []))), atI_at (i := 2) rfl, ?_⟩
    refine ⟨by decide, _, LR_int _, ?_⟩
    rw [eside]
    refine ⟨show 2 ≤ sizeLine by decide, fun t1 => ?_⟩
    refine ⟨show 1 ≤ sizeLine by decide, fun l1 => ?_⟩
    refine ⟨wv2, _, .inl (.inl ⟨E2.length + 2, at_midB⟩), atI_at hv, ?_⟩
    obtain ⟨ipv, hipv⟩ := List.mem_iff_getElem?.mp (up (A := [(l1, HO.lst [.ref t1]), (t1, .tup [.int ((o + nS l - 1 : Nat) : Int), .str ⟨#[cdB (decide (j < nS l))]⟩])]) hpv)
    refine ⟨_, _, .inl ⟨0, rfl⟩, .inl ⟨ipv, hipv⟩, ?_, fun l2 => ?_⟩
    · show 1 + xs.length ≤ sizeLine
      exact Nat.le_trans (show _ ≤ 100 by omega) (by decide)
    refine ⟨E2.length + 3, wv2, o + j, at_midB, ixN_nat (by rw [hlw]; exact (List.getElem?_eq_some_iff.mp hidx).1), ?_⟩
    refine ⟨_, SLe.refl _, (l2, .lst ([.ref t1] ++ xs)) :: (l1, .lst [.ref t1]) :: (t1, .tup [.int ((o + nS l - 1 : Nat) : Int), .str ⟨#[cdB (decide (j < nS l))]⟩]) :: E2, wv2.set (o + j) (.ref l2), _, hj, fun z hz => .tail _ (.tail _ (.tail _ (hs hz))), ?_, rfl, ?_⟩
    · have e2 : (X ++ midW l r o j ++ Z).set (o + j) ((o + nS l - 1, decide (j < nS l)) :: w) = X ++ midW l r o (j + 1) ++ Z := by
        rw [List.append_assoc, List.set_append_right _ _ (by omega), hX, show o + j - o = j by omega, List.set_append_left _ _ (by rw [mid_len]; exact hj), mid_set hw3, List.append_assoc]
      rw [← e2]
      refine allV_set ?_ (allV_ex (fun _ _ z => z.sub fun z hz => .tail _ (.tail _ (.tail _ hz))) hw2) _
      refine ⟨l2, _, rfl, .head _, ?_⟩
      exact .cons (.tup (.inl (.tail _ (.tail _ (.head _)))) (.cons (.int _) (.cons (.str _) .nil))) (hxs.sub fun z hz => .tail _ (.tail _ (.tail _ hz)))
    · exact congrArg (SH.mk F) (set_midB (E := (l2, HO.lst ([.ref t1] ++ xs)) :: (l1, .lst [.ref t1]) :: (t1, .tup [.int ((o + nS l - 1 : Nat) : Int), .str ⟨#[cdB (decide (j < nS l))]⟩]) :: E2))
  · rintro σ S ⟨E2, wv2, x9, _, hs, hw2, rfl, rfl⟩
    have hw2 : allV (wyM K F (E2 ++ M)) wv2 (X ++ midW l r o (nS l + nS r) ++ Z) := hw2
    rw [mid_all] at hw2
    exact k E2 wv2 x9 hs hw2
end
section
variable {K : PySem.W.Frag} {a : Ads}
open TR
theorem cut_take {xs : List V} {m : Nat} (h : m ≤ xs.length) : cutV xs none (some (m : Int)) = xs.take m := by
  unfold cutV
  rw [HT.sIx_none, HT.sIx_nat, Nat.min_eq_left h, Nat.sub_zero, List.drop_zero]
theorem tS_len (t : TR) : (tS t).length + 2 = 3 * nS t := by
  have := txt_len t
  show (txt t).toArray.size + 2 = _
  rw [List.size_toArray]
  exact this
theorem szs_mem {ts : List TR} {t : TR} (h : t ∈ ts) : nS t ≤ szs ts := by
  induction ts with
  | nil => nomatch h
  | cons s ts ih =>
    show _ ≤ nS s + szs ts
    cases h with
    | head => omega
    | tail _ h =>
      have := ih h
      omega
theorem fw_short {ts : List TR} {o : Nat} : ∀ w ∈ fw ts o, w.length < szs ts := by
  induction ts generalizing o with
  | nil => exact fun w h => nomatch h
  | cons t ts ih =>
    intro w h
    show _ < nS t + szs ts
    rcases List.mem_append.mp h with h | h
    · have := way_len t o w h
      omega
    · have := ih w h
      have := nS_pos t
      omega
theorem cut_drop {xs : List V} {m : Nat} (h : m ≤ xs.length) : cutV xs (some (m : Int)) none = xs.drop m := by
  unfold cutV
  rw [HT.sIx_none, HT.sIx_nat, Nat.min_eq_left h]
  exact List.take_of_length_le (by rw [List.length_drop]; omega)
theorem vc_l_tree {vs : List V} {H : Hp} (g : Addr × Addr × Bx × Nat) (h : (ct_l_tree K).pre g vs H) : ∃ S, Own S H ∧ r_l_tree K a (endsC (ct_l_tree K) g H) (start N_l_tree vs) S := by
  refine body_box g h fun b m x n F eg eF hms hok e => ?_
  subst eg
  subst e
  obtain ⟨h1, h2⟩ := hok
  have h1 : 1 ≤ n := h1
  have h2 : n ≤ 64 := h2
  refine use_takeB (E := []) 6 (by rfl) hms (by decide) fun y lean hy hlean => ?_
  refine ⟨by unfold rngOk; omega, fun pp => ?_⟩
  refine ⟨fun i S => ∃ (E : List (Addr × HO)) (pv : List V), allV (pcM E) pv ((List.range' 0 i).map fun k => (leaf, k)) ∧ S = ⟨F, (E ++ [(pp, .lst pv)]) ++ boxG b m y⟩, ⟨[], [], trivial, rfl⟩, fun _ _ _ _ => trivial, ?_, ?_⟩
  · rintro i S hi ⟨E, pv, hpv, rfl⟩
    have hi : i < ((n : Nat) : Int).toNat := hi
    rw [Int.toNat_natCast] at hi
    have lpv : pv.length = i := by rw [allV_len hpv, List.length_map, List.length_range']
    refine yldR_go ?_
    rw [Int.zero_add]
    refine nm_go ⟨rfl, ?_⟩
    refine ⟨show 3 ≤ sizeLine by decide, fun q => ?_⟩
    refine lc_putB (E := (q, .lst [.str ".", .int (i : Nat), .int (i : Nat)]) :: E) (M := []) (small_of (show pv.length ≤ 64 by omega) (by decide)) ⟨_, _, ?_, rfl⟩
    rw [List.range'_concat, List.map_append, Nat.zero_add, Nat.one_mul]
    exact allV_snoc ⟨q, rfl, .head _⟩ (allV_ex (fun _ _ z => z.sub fun z hz => .tail _ hz) hpv)
  rintro S ⟨E1, pv1, hpv1, rfl⟩
  have hpv1 : allV (pcM E1) pv1 ((List.range' 0 ((n : Nat) : Int).toNat).map fun k => (leaf, k)) := hpv1
  rw [Int.toNat_natCast, ← pcs_leaf] at hpv1
  generalize hM : E1 ++ [(pp, HO.lst pv1)] = M
  have sM : E1 ⊆ M := by
    rw [← hM]
    exact List.subset_append_left _ _
  have mpp : (pp, HO.lst pv1) ∈ M := by
    rw [← hM]
    exact List.mem_append_right _ (.head _)
  clear hM
  refine ⟨by unfold rngOk; omega, fun pw => ?_⟩
  refine ⟨fun i S => ∃ (E : List (Addr × HO)) (wv : List V), allV (wyM K F (E ++ M)) wv (List.replicate i []) ∧ S = ⟨F, (E ++ (pw, .lst wv) :: M) ++ boxG b m y⟩, ⟨[], [], trivial, rfl⟩, fun _ _ _ _ => trivial, ?_, ?_⟩
  · rintro i S hi ⟨E, wv, hwv, rfl⟩
    have hi : i < ((n : Nat) : Int).toNat := hi
    rw [Int.toNat_natCast] at hi
    have lwv : wv.length = i := by rw [allV_len hwv, List.length_replicate]
    refine yldR_go (nm_go ⟨rfl, ?_⟩)
    refine ⟨show 0 ≤ sizeLine by decide, fun q => ?_⟩
    refine lc_putB (E := (q, .lst []) :: E) (M := M) (small_of (show wv.length ≤ 64 by omega) (by decide)) ⟨_, _, ?_, rfl⟩
    rw [List.replicate_succ']
    exact allV_snoc ⟨q, [], rfl, .head _, .nil⟩ (allV_ex (fun _ _ z => z.sub fun z hz => .tail _ hz) hwv)
  rintro S ⟨E2, wv2, hwv2, rfl⟩
  have hwv2 : allV (wyM K F (E2 ++ M)) wv2 (List.replicate ((n : Nat) : Int).toNat []) := hwv2
  rw [Int.toNat_natCast, ← fw_leaf n 0] at hwv2
  refine ⟨by unfold rngOk; omega, ?_⟩
  have en : (((n : Nat) : Int) - 1).toNat = n - 1 := by omega
  rw [en]
  refine ⟨fun i σ S => ∃ (y : Bx) (E : List (Addr × HO)) (ts : List TR) (pp : Addr) (pv wv : List V) (x5 x6 x7 x8 x9 : Option V), ts.length + i = n ∧ szs ts = n ∧ y.ms ≠ [] ∧ (pp, HO.lst pv) ∈ E ++ M ∧ allV (pcM (E ++ M)) pv (pcs ts 0) ∧ allV (wyM K F (E ++ M)) wv (fw ts 0) ∧ σ = [some (.ref b), some (.int (n : Nat)), some (.int (lean : Nat)), some (.ref pp), some (.ref pw), x5, x6, x7, x8, x9] ∧ S = ⟨F, (E ++ (pw, .lst wv) :: M) ++ boxG b m y⟩, ?_, fun _ _ _ _ _ => trivial, ?_, ?_⟩
  · exact ⟨y, E2, List.replicate n leaf, pp, pv1, wv2, _, _, _, _, _, by rw [List.length_replicate]; rfl, szs_leaf n, hy, List.mem_append_right _ mpp, allV_ex (fun _ _ z => z.sub fun z hz => List.mem_append_right _ (sM hz)) hpv1, hwv2, rfl, rfl⟩
  · rintro i σ S hi ⟨y, E, ts, pp, pv, wv, x5, x6, x7, x8, x9, hts, hsz, hy, hpp, hpv, hwv, rfl, rfl⟩
    have hi : i < n - 1 := hi
    have lpv : pv.length = ts.length := by rw [allV_len hpv, pcs_len]
    have up : ∀ {A B : List (Addr × HO)} {w : List V}, E ++ M ⊆ (A ++ ((E ++ (pw, HO.lst w) :: M) ++ B)) := fun {A B w} z hz => List.mem_append_right _ (List.mem_append_left _ (sub_mid hz))
    have mpv : mL K F (E ++ M) pp pv := .inl hpp
    refine yldR_go (nm_go ?_)
    refine ⟨pv, .inl (mpv.s (up (A := []))), ?_⟩
    refine use_join (E := E ++ (pw, .lst wv) :: M) lean (ts.length - 1) ?_ hy (by omega) (by omega) fun y r hy hr => ?_
    · show [V.ref b, .int (lean : Nat), .int ((pv.length : Nat) - 1)] = _
      rw [lpv, show ((ts.length : Nat) : Int) - 1 = ((ts.length - 1 : Nat) : Int) by omega]
    obtain ⟨A, l, r', B, rfl, hA⟩ := at_two (ts := ts) (i := r) (by omega)
    have hA : A.length = r := hA
    have hpv' := hpv
    rw [pcs_app] at hpv'
    obtain ⟨pA, pR, rfl, hpA, hpR⟩ := allV_split hpv'
    have lpA : pA.length = r := by rw [allV_len hpA, pcs_len, hA]
    obtain ⟨vl, pR, rfl⟩ : ∃ v t, pR = v :: t := by
      cases pR with
      | nil => exact hpR.elim
      | cons v t => exact ⟨v, t, rfl⟩
    obtain ⟨vr, pB, rfl⟩ : ∃ v t, pR = v :: t := by
      cases pR with
      | nil => exact hpR.2.elim
      | cons v t => exact ⟨v, t, rfl⟩
    obtain ⟨⟨pl, rfl, mpl⟩, ⟨pr, rfl, mpr⟩, hpB⟩ := hpR
    have hsz' : szs A + (nS l + (nS r' + szs B)) = n := by rw [← hsz, szs_app]; rfl
    generalize ho : szs A = o at hsz' mpl mpr hpB
    have mpl : (pl, HO.lst [.str (tS l), .int (o : Nat), .int ((o + nS l - 1 : Nat) : Int)]) ∈ E ++ M := by
      have : (0 + o) = o := Nat.zero_add o
      rw [this] at mpl
      exact mpl
    have mpr : (pr, HO.lst [.str (tS r'), .int ((o + nS l : Nat) : Int), .int ((o + nS l + nS r' - 1 : Nat) : Int)]) ∈ E ++ M := by
      have : (0 + o) = o := Nat.zero_add o
      rw [this] at mpr
      exact mpr
    have pl0 := nS_pos l
    have pr0 := nS_pos r'
    have gl : (pA ++ V.ref pl :: V.ref pr :: pB)[r]? = some (.ref pl) := by
      rw [List.getElem?_append_right (by omega), lpA, Nat.sub_self]
      rfl
    have gr : (pA ++ V.ref pl :: V.ref pr :: pB)[r + 1]? = some (.ref pr) := by
      rw [List.getElem?_append_right (by omega), lpA, show r + 1 - r = 1 by omega]
      rfl
    refine ⟨_, _, .inl (mpv.s (up (A := []))), atI_at gl, ?_⟩
    refine ⟨_, _, .inl (mpv.s (up (A := []))), atI_at (i := r + 1) gr, ?_⟩
    have llm : mL K F (E ++ M) pl [.str (tS l), .int (o : Nat), .int ((o + nS l - 1 : Nat) : Int)] := .inl mpl
    have rrm : mL K F (E ++ M) pr [.str (tS r'), .int ((o + nS l : Nat) : Int), .int ((o + nS l + nS r' - 1 : Nat) : Int)] := .inl mpr
    have efw : fw (A ++ l :: r' :: B) 0 = fw A 0 ++ (wayB l o ++ wayB r' (o + nS l)) ++ fw B (o + nS l + nS r') := by
      rw [fw_app, ho, Nat.zero_add]
      show fw A 0 ++ (wayB l o ++ (wayB r' (o + nS l) ++ fw B (o + nS l + nS r'))) = _
      rw [List.append_assoc, List.append_assoc]
    have hwv' := hwv
    rw [efw] at hwv'
    dsimp only
    refine seq_go ?_
    show sFor (siR2 _) _ _ _ [some (.ref b), some (.int (n : Nat)), some (.int (lean : Nat)), some (.ref pp), some (.ref pw), _, some (.int (r : Nat)), some (.ref pl), some (.ref pr), x9] ⟨F, (E ++ (pw, .lst wv) :: M) ++ boxG b m y⟩
    refine walk_ways (K := K) (l := l) (r := r') (o := o) (X := fw A 0) (Z := fw B (o + nS l + nS r')) (pl := pl) (E := E) (M := M) (wv := wv) mpl (by rw [fw_len, ho]) hwv' (by omega) (fun w hw => ?_) (hi := ((o + nS l + nS r' - 1 : Nat) : Int) + 1) (by omega) (fun E3 wv3 x9' hs3 hw3 => ?_) (fun Q q => ?_)
    · have : w ∈ fw (A ++ l :: r' :: B) 0 := by
        rw [efw]
        exact List.mem_append_left _ (List.mem_append_right _ hw)
      have := fw_short w this
      omega
    · have up3 : ∀ {A' B' : List (Addr × HO)} {w : List V}, E ++ M ⊆ (A' ++ ((E3 ++ (pw, HO.lst w) :: M) ++ B')) := fun {A' B' w} z hz => List.mem_append_right _ (List.mem_append_left _ (sub_mid (hs3 hz)))
      have lts : (A ++ l :: r' :: B).length = r + 2 + B.length := by
        rw [List.length_append, hA]
        show r + (B.length + 1 + 1) = _
        omega
      have lpvv : (pA ++ V.ref pl :: V.ref pr :: pB).length = r + 2 + B.length := by rw [lpv, lts]
      refine .inl ⟨_, mpv.s (up3 (A' := [])), fun r1 => ?_⟩
      rw [cut_take (m := r) (by omega)]
      refine ⟨_, _, .inl (llm.s (up3 (A' := [_]))), atI_at (i := 0) rfl, ?_⟩
      have e1 := tS_len l
      have e2 := tS_len r'
      refine ⟨?_, ?_⟩
      · show 1 + (tS l).length ≤ sizeLine
        exact Nat.le_trans (show _ ≤ 500 by omega) (by decide)
      refine ⟨_, _, .inl (rrm.s (up3 (A' := [_]))), atI_at (i := 0) rfl, ?_⟩
      refine ⟨?_, ?_⟩
      · rw [TL.len_tl, TL.tl_append, List.length_append]
        show 1 + (txt l).length + (tS r').length ≤ sizeLine
        have : (txt l).length = (tS l).length := rfl
        exact Nat.le_trans (show _ ≤ 500 by omega) (by decide)
      refine ⟨?_, ?_⟩
      · rw [TL.len_tl, TL.tl_append, TL.tl_append, List.length_append, List.length_append]
        show 1 + (txt l).length + (txt r').length + 1 ≤ sizeLine
        have : (txt l).length = (tS l).length := rfl
        have : (txt r').length = (tS r').length := rfl
        exact Nat.le_trans (show _ ≤ 500 by omega) (by decide)
      rw [tS_node]
      refine ⟨_, _, .inl (llm.s (up3 (A' := [_]))), atI_at (i := 1) rfl, ?_⟩
      refine ⟨_, _, .inl (rrm.s (up3 (A' := [_]))), atI_at (i := 2) rfl, ?_⟩
      refine ⟨show 3 ≤ sizeLine by decide, fun q1 => ?_⟩
      refine ⟨show 1 ≤ sizeLine by decide, fun q2 => ?_⟩
      refine ⟨_, _, .inl ⟨2, rfl⟩, .inl ⟨0, rfl⟩, ?_, fun q3 => ?_⟩
      · rw [List.length_take]
        show min r _ + 1 ≤ sizeLine
        exact Nat.le_trans (show _ ≤ 500 by omega) (by decide)
      refine .inl ⟨_, mpv.s (up3 (A' := [_, _, _, _])), fun r4 => ?_⟩
      have ec : cutV (pA ++ V.ref pl :: V.ref pr :: pB) (some ((r : Int) + 2)) none = pB := by
        have := cut_drop (xs := pA ++ V.ref pl :: V.ref pr :: pB) (m := r + 2) (by omega)
        rw [show ((r : Int) + 2) = ((r + 2 : Nat) : Int) by omega, this, List.drop_append, lpA, show r + 2 - r = 2 by omega, List.drop_of_length_le (by omega)]
        rfl
      rw [ec]
      have et : (pA ++ V.ref pl :: V.ref pr :: pB).take r = pA := by
        rw [← lpA, List.take_left]
      rw [et]
      refine ⟨_, _, .inl ⟨1, rfl⟩, .inl ⟨0, rfl⟩, ?_, fun q5 => ?_⟩
      · rw [List.length_append]
        show pA.length + 1 + pB.length ≤ sizeLine
        have : pB.length ≤ 64 := by
          have : (pA ++ V.ref pl :: V.ref pr :: pB).length = pA.length + (pB.length + 1 + 1) := by rw [List.length_append]; rfl
          omega
        exact Nat.le_trans (show _ ≤ 500 by omega) (by decide)
      refine ⟨_, SLe.refl _, y, (q5, .lst ((pA ++ [.ref q1]) ++ pB)) :: (r4, .lst pB) :: (q3, .lst (pA ++ [.ref q1])) :: (q2, .lst [.ref q1]) :: (q1, .lst [.str (tS (node l r')), .int (o : Nat), .int ((o + nS l + nS r' - 1 : Nat) : Int)]) :: (r1, .lst pA) :: E3, A ++ node l r' :: B, q5, _, wv3, _, _, _, _, _, ?_, ?_, hy, .head _, ?_, ?_, rfl, rfl⟩
      · rw [List.length_append]
        rw [lts] at hts
        show A.length + (B.length + 1) + (i + 1) = n
        omega
      · rw [szs_app, ho]
        show o + (nS l + nS r' + szs B) = n
        omega
      · have s6 : E ++ M ⊆ ((q5, HO.lst ((pA ++ [.ref q1]) ++ pB)) :: (r4, .lst pB) :: (q3, .lst (pA ++ [.ref q1])) :: (q2, .lst [.ref q1]) :: (q1, .lst [.str (tS (node l r')), .int (o : Nat), .int ((o + nS l + nS r' - 1 : Nat) : Int)]) :: (r1, .lst pA) :: E3) ++ M := fun z hz => .tail _ (.tail _ (.tail _ (.tail _ (.tail _ (.tail _ (hs3 hz))))))
        have key : ∀ N, E ++ M ⊆ N → (q1, HO.lst [.str (tS (node l r')), .int (o : Nat), .int ((o + nS l + nS r' - 1 : Nat) : Int)]) ∈ N → allV (pcM N) ((pA ++ [.ref q1]) ++ pB) (pcs (A ++ node l r' :: B) 0) := fun N sN mN => by
          rw [pcs_app, List.append_assoc, ho, Nat.zero_add]
          refine allV_append (allV_ex (fun _ _ (z : pcM (E ++ M) _ _) => z.sub sN) hpA) (show allV _ (V.ref q1 :: pB) ((node l r', o) :: pcs B (o + (nS l + nS r'))) from ⟨⟨q1, rfl, ?_⟩, allV_ex (fun _ _ (z : pcM (E ++ M) _ _) => z.sub sN) ?_⟩)
          · show (q1, HO.lst [.str (tS (node l r')), .int (o : Nat), .int ((o + (nS l + nS r') - 1 : Nat) : Int)]) ∈ _
            rw [← Nat.add_assoc]
            exact mN
          · rw [← Nat.add_assoc]
            rw [Nat.zero_add] at hpB
            exact hpB
        exact key _ s6 (.tail _ (.tail _ (.tail _ (.tail _ (.head _)))))
      · have e5 : fw (A ++ node l r' :: B) 0 = fw A 0 ++ wayB (node l r') o ++ fw B (o + nS l + nS r') := by
          rw [fw_app, ho, Nat.zero_add, List.append_assoc]
          show fw A 0 ++ (wayB (node l r') o ++ fw B (o + (nS l + nS r'))) = _
          rw [← Nat.add_assoc]
        rw [e5]
        exact allV_ex (fun _ _ z => z.sub fun z hz => .tail _ (.tail _ (.tail _ (.tail _ (.tail _ (.tail _ hz)))))) hw3
    · refine ⟨_, _, .inl (llm.s (up (A := []))), atI_at (i := 1) rfl, ?_⟩
      refine ⟨_, _, .inl (rrm.s (up (A := []))), atI_at (i := 2) rfl, ?_⟩
      exact q
  · rintro σ S ⟨y, E, ts, pp, pv, wv, x5, x6, x7, x8, x9, hts, hsz, hy, hpp, hpv, hwv, rfl, rfl⟩
    have hts : ts.length + (n - 1) = n := hts
    obtain ⟨t, rfl⟩ := List.length_eq_one_iff.mp (show ts.length = 1 by omega)
    have lpv : pv.length = 1 := by rw [allV_len hpv, pcs_len]; rfl
    obtain ⟨v, rfl⟩ := List.length_eq_one_iff.mp lpv
    obtain ⟨⟨p1, rfl, mp1⟩, _⟩ := hpv
    have up : ∀ {A B : List (Addr × HO)} {w : List V}, E ++ M ⊆ (A ++ ((E ++ (pw, HO.lst w) :: M) ++ B)) := fun {A B w} z hz => List.mem_append_right _ (List.mem_append_left _ (sub_mid hz))
    have mpv : mL K F (E ++ M) pp [.ref p1] := .inl hpp
    have mp1' : mL K F (E ++ M) p1 [.str (tS t), .int ((0 : Nat) : Int), .int ((0 + nS t - 1 : Nat) : Int)] := .inl mp1
    refine ⟨_, _, .inl (mpv.s (up (A := []))), atI_at (i := 0) rfl, ?_⟩
    refine ⟨_, _, .inl (mp1'.s (up (A := []))), atI_at (i := 0) rfl, ?_⟩
    refine ⟨show 2 ≤ sizeLine by decide, fun p => ?_⟩
    have hn : nS t = n := by
      rw [← hsz]
      rfl
    have hwv : allV (wyM K F (E ++ M)) wv (wayB t 0 ++ []) := hwv
    rw [List.append_nil] at hwv
    intro H' o'
    subst eF
    refine end_box (E := (p, .tup [.str (tS t), .ref pw]) :: (E ++ (pw, .lst wv) :: M)) o' hy fun H3 o3 => ⟨t, p, .ref pw, hn, rfl, o3.u (.inl ⟨0, rfl⟩), pw, wv, rfl, o3.l (.inl ⟨E.length + 1, at_mid⟩), allV_ex (fun v w ⟨q, xs, eq, hq, hx⟩ => ?_) hwv⟩
    have sub : E ++ M ⊆ ((p, HO.tup [.str (tS t), .ref pw]) :: (E ++ (pw, .lst wv) :: M)) := fun z hz => .tail _ (sub_mid hz)
    exact ⟨q, xs, eq, .inr ((mL.sub (K := K) (.inl hq) sub).own o3), (hx.sub sub).own o3⟩
end
section
variable {K : PySem.W.Frag} {a : Ads}
open TR
theorem hit_more {st : List Nat} {w : Way} {i : Nat} {s : Nat × Bool} (h : w[i]? = some s) : hitL st (w.take (i + 1)) = (hitL st (w.take i)).set s.1 (cdB s.2) := by
  rw [take_more h]
  unfold hitL
  rw [List.foldl_append]
  rfl
theorem lwyR.ext {F F' : Hp} {v : V} {w : Way} (h : lwyR K [] F v w) (e : Ext F F') : lwyR K [] F' v w := by
  obtain ⟨p, xs, h1, h2, h3⟩ := h
  exact ⟨p, xs, h1, h2.ext e, h3.ext e⟩
theorem lwsR.ext {F F' : Hp} {v : V} {b : TR} (h : lwsR K F v b) (e : Ext F F') : lwsR K F' v b := by
  obtain ⟨p, xs, h1, h2, h3⟩ := h
  exact ⟨p, xs, h1, SqL.up e h2, allV_ex (fun _ _ z => lwyR.ext z e) h3⟩
theorem prH_make {H : Hp} {p : Addr} {q : Nat × Nat} (h : H p = some (.tup [.int (q.1 : Nat), .int (q.2 : Nat)])) : MD K H [] (.ref p) (prD q) :=
  .tup (.inr (.inl (.inl h))) (.cons (.int _) (.cons (.int _) .nil))
theorem pr_open {F : Hp} {G : List (Addr × HO)} {v : V} {q : Nat × Nat} (h : MD K F G v (prD q)) : ∃ p, v = .ref p ∧ mT K F G p [.int (q.1 : Nat), .int (q.2 : Nat)] := by
  obtain ⟨p, xs, rfl, hp, hx⟩ := h.tupI
  cases hx with
  | cons h1 hx =>
    cases hx with
    | cons h2 hx =>
      cases hx
      rw [h1.intI, h2.intI] at hp
      exact ⟨p, rfl, hp⟩
theorem L_is (c : Bool) : decide (V.str ⟨#[cdB c]⟩ = V.str "L") = c := by cases c <;> decide +kernel
theorem add_s {x y : List Nat} {S : SH} {Q : V → SH → Prop} (h : x.length + y.length ≤ 200) (k : Q (.str (pS (x ++ y))) S) : oAdd (.str (pS x)) (.str (pS y)) S Q := by
  refine ⟨?_, ?_⟩
  · rw [pS_len, pS_len]
    exact Nat.le_trans h (by decide)
  · rw [pS_app]
    exact k
theorem set_cut {l : List Nat} {f c : Nat} (h : f < l.length) : l.take f ++ [c] ++ l.drop (f + 1) = l.set f c := by
  rw [List.set_eq_take_append_cons_drop, if_pos h, List.append_assoc]
  rfl
theorem vc_l_hit {vs : List V} {H : Hp} (g : List Nat × V × Way) (h : (ct_l_hit K).pre g vs H) : ∃ S, Own S H ∧ r_l_hit K a (endsC (ct_l_hit K) g H) (start N_l_hit vs) S := by
  obtain ⟨st, v, w⟩ := g
  obtain ⟨rfl, ⟨p, xs, e1, hp, hx⟩, hsm, hl⟩ := h
  have e1 : v = .ref p := e1
  subst e1
  have hx : MDs K H [] xs (w.map stD) := hx
  have hsm : ∀ s ∈ w, s.1 < st.length := hsm
  have hl : st.length ≤ 64 := hl
  have lx : xs.length = w.length := by rw [hx.len, List.length_map]
  refine ⟨⟨H, []⟩, Own.base H, ?_⟩
  refine .inl ⟨xs, hp.s (fun _ z => nomatch z), ?_⟩
  refine ⟨fun i σ S => ∃ x2 x3, σ = [some (.str (pS (hitL st (w.take i)))), some (.ref p), x2, x3] ∧ S = ⟨H, []⟩, ⟨none, none, rfl, rfl⟩, ?_, ?_, ?_⟩
  · rintro i σ S _ ⟨x2, x3, rfl, rfl⟩
    exact hp.s fun _ z => nomatch z
  · rintro i σ S hi ⟨x2, x3, rfl, rfl⟩ v hv
    have hi : i < xs.length := hi
    obtain ⟨d, hd, mv⟩ := hx.at hv
    obtain ⟨s, hs⟩ : ∃ s, w[i]? = some s := ⟨_, List.getElem?_eq_getElem (by omega)⟩
    rw [List.getElem?_map, hs] at hd
    cases hd
    obtain ⟨pt, rfl, hpt⟩ := st_open mv
    have hf := hsm s (List.mem_of_getElem? hs)
    refine ⟨_, hpt.s (fun _ z => nomatch z), rfl, ?_⟩
    have hlen : (hitL st (w.take i)).length = st.length := hitL_len _ _
    have hline : (pS (hitL st (w.take i))).length ≤ sizeLine := pS_line (by omega)
    refine ⟨hline, ?_⟩
    rw [cut_to]
    refine var_go (v := .str (sdS s.2)) (by rfl) (add_s (x := (hitL st (w.take i)).take s.1) (y := [cdB s.2]) (by rw [List.length_take, hlen, List.length_singleton]; omega) ?_)
    refine ⟨hline, ?_⟩
    rw [show cutS (pS (hitL st (w.take i))) (some ((s.1 : Int) + 1)) none = pS ((hitL st (w.take i)).drop (s.1 + 1)) from cut_from _ (s.1 + 1)]
    refine add_s (x := (hitL st (w.take i)).take s.1 ++ [cdB s.2]) (y := (hitL st (w.take i)).drop (s.1 + 1)) (by rw [List.length_append, List.length_take, List.length_drop, hlen, List.length_singleton]; omega) ?_
    refine ⟨_, SLe.refl _, some (.int (s.1 : Nat)), some (.str (sdS s.2)), ?_, rfl⟩
    rw [set_cut (f := s.1) (c := cdB s.2) (by rw [hlen]; exact hf), hit_more hs]
    rfl
  · rintro σ S ⟨x2, x3, rfl, rfl⟩
    have en : (itL K p xs).n = w.length := lx
    rw [en, List.take_length]
    exact fun H' o' => ⟨rfl, fun c u e => o'.fr c u e⟩
theorem use_hit {W : sWX} {σ : L2.St} {F : Hp} {G : List (Addr × HO)} {Q : V → SH → Prop} {vs : List V} (st : List Nat) (v : V) (w : Way) (e : vs = [.str (pS st), v]) (hv : lwyR K [] F v w) (h1 : ∀ s ∈ w, s.1 < st.length) (h2 : st.length ≤ 64)
    (k : Q (.str (pS (hitL st w))) ⟨F, G⟩) : rC (ct_l_hit K) W vs σ ⟨F, G⟩ Q :=
  ⟨(st, v, w), fun H o => ⟨e, hv.ext (own_F o), h1, h2⟩, fun H v H' o q => ⟨_, o.ex q.2, by rw [q.1]; exact k⟩, fun _ _ _ _ _ q => q.elim⟩
end
section
variable {K : PySem.W.Frag} {a : Ads}
open TR
theorem fin_new {H H' : Hp} {G : List (Addr × HO)} {p : Addr} {l : List Int} (o : Own ⟨H, G⟩ H') (m : (p, HO.lst (iV l)) ∈ G) : newI l H (.ref p) H' ∧ Ext H H' := ⟨⟨p, rfl, (o.gs _ m).2, (o.gs _ m).1⟩, own_F o⟩
theorem iV_len (l : List Int) : (iV l).length = l.length := List.length_map _
theorem iVat {l : List Int} {i : Nat} {x : Int} (h : l[i]? = some x) : (iV l)[i]? = some (.int x) := by
  unfold iV
  rw [List.getElem?_map, h]
  rfl
theorem cut_one (x : V) (xs : List V) : cutV (x :: xs) (some 1) none = xs := by
  unfold cutV
  rw [HT.sIx_none]
  show ((x :: xs).drop (HT.sIx xs.length.succ 0 (some ((1 : Nat) : Int)))).take _ = _
  rw [HT.sIx_nat, show min 1 xs.length.succ = 1 by omega]
  show xs.take _ = _
  exact List.take_of_length_le (by show _ ≤ (x :: xs).length - 1; exact Nat.le_refl _)
/-- the rest of both: [1, l[0] - 1] + l[1:] -/
theorem shut_rest {H : Hp} {G : List (Addr × HO)} {p : Addr} {x : Int} {xs : List Int} {σ : L2.St} {W : sWX} {Q : V → SH → Prop} (hσ : σ[0]? = some (some (.ref p))) (hp : SqL K H p (iV (x :: xs))) (hl : xs.length ≤ 99)
    (k : ∀ q1 q2 q3 : Addr, Q (.ref q3) ⟨H, (q3, .lst (iV (1 :: (x - 1) :: xs))) :: (q2, .lst (iV xs)) :: (q1, .lst [.int 1, .int (x - 1)]) :: G⟩) :
    sOp oAdd (sLst (sCons (sC (.int 1)) (sCons (sOp oSub (sOp (oIx K) (sVar 0) (sC (.int 0))) (sC (.int 1))) (sNil)))) (sSl K (sVar 0) (sPart (sC (.int 1))) sNoP) W σ ⟨H, G⟩ Q := by
  refine op_go (lst_go (cons_go (c_go (cons_go (op_go (op_go (var_go (v := .ref p) hσ (c_go ⟨iV (x :: xs), .int x, .inl (.inr hp), atI_at (i := 0) rfl, ?_⟩))))))))
  refine c_go (sub_g (nil_go ⟨show 2 ≤ sizeLine by decide, fun q1 => ?_⟩))
  refine var_go (v := .ref p) hσ ?_
  refine .inl ⟨iV (x :: xs), .inr hp, fun q2 => ?_⟩
  rw [show cutV (iV (x :: xs)) (some 1) none = iV xs from cut_one _ _]
  refine ⟨[.int 1, .int (x - 1)], iV xs, .inl ⟨1, rfl⟩, .inl ⟨0, rfl⟩, ?_, fun q3 => k q1 q2 q3⟩
  rw [iV_len]
  show 2 + xs.length ≤ sizeLine
  exact Nat.le_trans (show 2 + xs.length ≤ 101 by omega) (by decide)
theorem vc_subtree_polynomial {vs : List V} {H : Hp} (g : V × List Int) (h : (ct_shut K).pre g vs H) : ∃ S, Own S H ∧ r_subtree_polynomial K a (endsC (ct_shut K) g H) (start N_subtree_polynomial vs) S := by
  obtain ⟨v, l⟩ := g
  obtain ⟨rfl, ⟨p, e, hp⟩, h1, h2⟩ := h
  have e : v = .ref p := e
  subst e
  have hp : SqL K H p (iV l) := hp
  have h1 : 1 ≤ l.length := h1
  have h2 : l.length ≤ 100 := h2
  refine ⟨⟨H, []⟩, Own.base H, ?_⟩
  cases l with
  | nil => exact absurd h1 (by decide)
  | cons x xs =>
    have rest : ∀ (D : x :: xs ≠ [1]), sRet (sOp oAdd (sLst (sCons (sC (.int 1)) (sCons (sOp oSub (sOp (oIx K) (sVar 0) (sC (.int 0))) (sC (.int 1))) (sNil)))) (sSl K (sVar 0) (sPart (sC (.int 1))) sNoP)) (endsC (ct_shut K) (.ref p, x :: xs) H) [some (.ref p)] ⟨H, []⟩ := fun D => by
      refine ret_go (shut_rest (p := p) rfl hp (by have : xs.length + 1 ≤ 100 := h2; omega) fun q1 q2 q3 => ?_)
      intro H' o'
      have es : shut (x :: xs) = 1 :: (x - 1) :: xs := by
        unfold shut
        rw [if_neg D]
        rfl
      show newI (shut (x :: xs)) H _ H' ∧ _
      rw [es]
      exact fin_new o' (.head _)
    refine seq_go (ifT_go (and_go (tst_go (op_go (call1_go (cons_go (var_go (v := .ref p) (by rfl) (nil_go ⟨iV (x :: xs), .inl (.inr hp), ?_⟩))))))))
    refine c_go (eq_i (c := decide (xs = [])) (decide_eq_decide.mpr ?_) ?_)
    · rw [iV_len]
      show ((xs.length + 1 : Nat) : Int) = 1 ↔ xs = []
      rw [← List.length_eq_zero_iff]
      omega
    cases hc : decide (xs = []) with
    | true =>
      have hc := of_decide_eq_true hc
      subst hc
      refine tst_go (op_go (op_go (var_go (v := .ref p) (by rfl) (c_go ⟨iV [x], .int x, .inl (.inr hp), atI_at (i := 0) rfl, ?_⟩))))
      refine c_go (eq_i (c := decide (x = 1)) rfl ?_)
      cases hx : decide (x = 1) with
      | true =>
        have hx := of_decide_eq_true hx
        subst hx
        refine ret_go (lst_go (cons_go (c_go (nil_go ⟨show 1 ≤ sizeLine by decide, fun q => ?_⟩))))
        intro H' o'
        exact fin_new (l := [1]) o' (.head _)
      | false => exact nx_go (rest fun z => of_decide_eq_false hx (List.cons.inj z).1)
    | false => exact nx_go (rest fun z => of_decide_eq_false hc (List.cons.inj z).2)
theorem li_lay : ∀ l : List Int, PyData.canLayAll0 (l.map PyData.int) = true
  | [] => rfl
  | n :: ns => by
    show (PyData.canLay0 (.int _) && PyData.canLayAll0 (ns.map PyData.int)) = true
    rw [li_lay ns]
    rfl
theorem li_deep : ∀ l : List Int, PyData.depthAll (l.map PyData.int) = 0
  | [] => rfl
  | n :: ns => by
    show max (PyData.depth (.int _)) (PyData.depthAll (ns.map PyData.int)) = 0
    rw [li_deep ns]
    rfl
theorem li_shaped (l : List Int) : SeqAt.shaped (.list (l.map PyData.int)) = true := by
  unfold SeqAt.shaped
  rw [show (PyData.list (l.map PyData.int)).canLay0 = PyData.canLayAll0 (l.map PyData.int) from rfl, li_lay, Bool.true_and]
  refine decide_eq_true ?_
  rw [show (PyData.list (l.map PyData.int)).depth = PyData.depthAll (l.map PyData.int) + 1 from rfl, li_deep]
  decide
theorem li_dp {H : Hp} : ∀ l : List Int, DpAll K H (iV l) (l.map PyData.int)
  | [] => .nil
  | x :: l => .cons (.int x) (li_dp l)
theorem one_eqv : ∀ l : List Int, PyData.eqv (.list (l.map PyData.int)) (.list [.int 1]) = decide (l = [1])
  | [] => rfl
  | [x] => by
    have e : PyData.eqv (.list [.int x]) (.list [.int 1]) = (decide (x = 1) && true) := rfl
    show PyData.eqv (.list [.int x]) (.list [.int 1]) = _
    rw [e, Bool.and_true]
    by_cases h : x = 1
    · rw [h]; rfl
    · rw [decide_eq_false h, decide_eq_false fun z => h (List.cons.inj z).1]
  | x :: y :: l => by
    have e : PyData.eqv (.list (PyData.int x :: PyData.int y :: l.map PyData.int)) (.list [.int 1]) = (decide (x = 1) && false) := rfl
    show PyData.eqv (.list (PyData.int x :: PyData.int y :: l.map PyData.int)) (.list [.int 1]) = _
    rw [e, Bool.and_false, decide_eq_false fun z => by cases (List.cons.inj z).2]
end
section
variable {K : PySem.W.Frag} {a : Ads}
open TR
theorem vc_l_shut {vs : List V} {H : Hp} (g : V × List Int) (h : (ct_shut K).pre g vs H) : ∃ S, Own S H ∧ r_l_shut K a (endsC (ct_shut K) g H) (start N_l_shut vs) S := by
  obtain ⟨v, l⟩ := g
  obtain ⟨rfl, ⟨p, e, hp⟩, h1, h2⟩ := h
  have e : v = .ref p := e
  subst e
  have hp : SqL K H p (iV l) := hp
  have h1 : 1 ≤ l.length := h1
  have h2 : l.length ≤ 100 := h2
  refine ⟨⟨H, []⟩, Own.base H, ?_⟩
  refine seq_go (ifT_go (tst_go (op_go (var_go (v := .ref p) (by rfl) (lst_go (cons_go (c_go (nil_go ⟨show 1 ≤ sizeLine by decide, fun q => ?_⟩))))))))
  refine ⟨.list (l.map PyData.int), .list [.int 1], fun H' o => .lst (SqL.up (own_F o) hp) (li_dp l), fun H' o => .lst (.of (o.gs (q, .lst (iV [1])) (.head _)).1) (li_dp [1]), li_shaped l, li_shaped [1], ?_⟩
  rw [one_eqv]
  cases hc : decide (l = [1]) with
  | true =>
    have hc := of_decide_eq_true hc
    subst hc
    refine ret_go (lst_go (cons_go (c_go (nil_go ⟨show 1 ≤ sizeLine by decide, fun r => ?_⟩))))
    intro H' o'
    exact fin_new (l := [1]) o' (.head _)
  | false =>
    have hc := of_decide_eq_false hc
    refine nx_go ?_
    cases l with
    | nil => exact absurd h1 (by decide)
    | cons x xs =>
      try dsimp only
      refine ret_go (shut_rest (σ := [some (.ref p)]) (p := p) (x := x) (xs := xs) (by rfl) hp (by have : xs.length + 1 ≤ 100 := h2; omega) fun q1 q2 q3 => ?_)
      intro H' o'
      have es : shut (x :: xs) = 1 :: (x - 1) :: xs := by
        unfold shut
        rw [if_neg hc]
        rfl
      show newI (shut (x :: xs)) H _ H' ∧ _
      rw [es]
      exact fin_new o' (.head _)
theorem vc_trail_polynomial {vs : List V} {H : Hp} (g : Nat × V × List Int) (h : (ct_trail K).pre g vs H) : ∃ S, Own S H ∧ r_trail_polynomial K a (endsC (ct_trail K) g H) (start N_trail_polynomial vs) S := by
  obtain ⟨n, v, l⟩ := g
  obtain ⟨rfl, ⟨p, e, hp⟩, hs, h1, h2, h3⟩ := h
  have e : v = .ref p := e
  subst e
  have hp : SqL K H p (iV l) := hp
  have hs : smI l := hs
  have h1 : 1 ≤ l.length := h1
  have h2 : l.length ≤ 100 := h2
  have h3 : n ≤ 64 := h3
  refine ⟨⟨H, []⟩, Own.base H, ?_⟩
  refine seq_go (ifT_go (tst_go (op_go (var_go (v := .int (n : Nat)) (by rfl) (c_go (eq_i (c := decide (n = 0)) (decide_eq_decide.mpr (by omega)) ?_))))))
  cases hn : decide (n = 0) with
  | true =>
    have hn := of_decide_eq_true hn
    subst hn
    refine ret_go (lst_go (cons_go (c_go (nil_go ⟨show 1 ≤ sizeLine by decide, fun r => ?_⟩))))
    intro H' o'
    exact fin_new (l := [1]) o' (.head _)
  | false =>
    have hn := of_decide_eq_false hn
    refine nx_go ?_
    refine seq_go (set_go (op_go (lst_go (cons_go (c_go (nil_go ⟨show 1 ≤ sizeLine by decide, fun q => ?_⟩))))))
    refine .inl ⟨iV l, .inr hp, fun D => ?_⟩
    refine ⟨fun i S => S = ⟨H, [(D, .lst (iV ((l.take i).map (· * 2 ^ n)))), (q, .lst [.int 1])]⟩, rfl, fun i S _ e => by subst e; exact .inr hp, ?_, ?_⟩
    · rintro i S hi rfl w hw
      have hi : i < (iV l).length := hi
      rw [iV_len] at hi
      obtain ⟨x, hx⟩ : ∃ x, l[i]? = some x := ⟨_, List.getElem?_eq_getElem hi⟩
      rw [iVat hx] at hw
      cases hw
      have sx := hs x (List.mem_of_getElem? hx)
      refine ⟨rfl, ?_⟩
      refine op_go (var_go (v := .int x) (by rfl) (var_go (v := .int (n : Nat)) (by rfl) ⟨⟨by omega, by omega, by omega⟩, ?_⟩))
      refine ⟨0, iV ((l.take i).map (· * 2 ^ n)), rfl, ?_, ⟨_, SLe.refl _, ?_⟩⟩
      · rw [iV_len, List.length_map, List.length_take]
        exact Nat.lt_of_le_of_lt (Nat.min_le_right _ _) (Nat.lt_of_le_of_lt h2 (by decide))
      · show SH.mk H [(D, .lst (iV ((l.take i).map (· * 2 ^ n)) ++ [.int (x * 2 ^ n)])), (q, .lst [.int 1])] = _
        rw [List.take_add_one, hx]
        unfold iV
        simp
    · rintro S rfl
      have en : (itL K p (iV l)).n = l.length := iV_len l
      rw [en, List.take_length]
      refine ⟨[.int 1], iV (l.map (· * 2 ^ n)), .inl ⟨1, rfl⟩, .inl ⟨0, rfl⟩, ?_, fun r => ?_⟩
      · rw [iV_len, List.length_map]
        show 1 + l.length ≤ sizeLine
        exact Nat.le_trans (show 1 + l.length ≤ 101 by omega) (by decide)
      try dsimp only
      cases l with
      | nil => exact absurd h1 (by decide)
      | cons x xs =>
        refine seq_go (asg_go (op_go (op_go (var_go (v := .ref r) (by rfl) (c_go ⟨.int 1 :: iV ((x :: xs).map (· * 2 ^ n)), .int (x * 2 ^ n), .inl (.inl ⟨0, rfl⟩), atI_at (i := 1) rfl, ?_⟩)))))
        refine c_go (sub_g ?_)
        refine ⟨0, .int 1 :: iV ((x :: xs).map (· * 2 ^ n)), 1, rfl, ixN_nat (i := 1) (by show 1 < (iV ((x :: xs).map (· * 2 ^ n))).length + 1; rw [iV_len]; exact Nat.succ_lt_succ (Nat.succ_pos _)), ?_⟩
        try dsimp only
        refine ret_go (var_go (i := 2) (v := .ref r) (by rfl) ?_)
        intro H' o'
        have es : trl n (x :: xs) = 1 :: (x * 2 ^ n - 1) :: xs.map (· * 2 ^ n) := by
          unfold trl
          rw [if_neg hn]
          rfl
        show newI (trl n (x :: xs)) H _ H' ∧ _
        rw [es]
        exact fin_new o' (.head _)
end
section
variable {K : PySem.W.Frag} {a : Ads}
open TR
theorem adr_snoc (c : List Int) : ∀ (ys : List Int) (p : Nat) (y : Int), adr c p (ys ++ [y]) = addAt (adr c p ys) (p + ys.length) y := by
  intro ys
  induction ys generalizing c with
  | nil => exact fun p y => rfl
  | cons z ys ih =>
    intro p y
    show adr (addAt c p z) (p + 1) (ys ++ [y]) = addAt (adr (addAt c p z) (p + 1) ys) (p + (ys.length + 1)) y
    rw [ih, show p + 1 + ys.length = p + (ys.length + 1) by omega]
theorem mulB_snoc (b : List Int) : ∀ (xs c : List Int) (p : Nat) (x : Int), mulB c p b (xs ++ [x]) = adr (mulB c p b xs) (p + xs.length) (b.map (x * ·)) := by
  intro xs
  induction xs with
  | nil => exact fun c p x => rfl
  | cons z xs ih =>
    intro c p x
    show mulB (adr c p (b.map (z * ·))) (p + 1) b (xs ++ [x]) = adr (mulB (adr c p (b.map (z * ·))) (p + 1) b xs) (p + (xs.length + 1)) (b.map (x * ·))
    rw [ih, show p + 1 + xs.length = p + (xs.length + 1) by omega]
theorem sm_of {l : List Int} (h : smI l) {i : Nat} {x : Int} (hx : l[i]? = some x) : sm64 x := by
  have := h x (List.mem_of_getElem? hx)
  unfold sm64
  omega
theorem iV_rep (n : Nat) : (List.replicate n [V.int 0]).flatten = iV (zer n) := by
  unfold iV zer
  rw [List.map_replicate]
  induction n with
  | zero => rfl
  | succ n ih =>
    rw [List.replicate_succ, List.flatten_cons, ih, List.replicate_succ]
    rfl
/-- one number added in place -/
theorem put_add {F : Hp} {E G : List (Addr × HO)} {D : Addr} {c : List Int} {y : Int} {j : Nat} {σ : L2.St} {Q : L2.St → SH → Prop} (hj : j < c.length) (h : Q σ ⟨F, E ++ (D, .lst (iV (addAt c j y))) :: G⟩) :
    ∃ n xs j', (SH.mk F (E ++ (D, .lst (iV c)) :: G)).G[n]? = some (D, .lst xs) ∧ ixN xs.length (j : Int) = some j' ∧ Q σ (SH.put ⟨F, E ++ (D, .lst (iV c)) :: G⟩ n D (.lst (xs.set j' (.int ((c[j]?).getD 0 + y))))) := by
  refine sub_go (by rw [iV_len]; exact hj) ?_
  rw [show (iV c).set j (.int ((c[j]?).getD 0 + y)) = iV (addAt c j y) by unfold iV addAt; rw [List.map_set]]
  exact h
theorem at_add {F : Hp} {E G : List (Addr × HO)} {D : Addr} {c : List Int} {j : Nat} (hj : j < c.length) : (sL K ⟨F, E ++ (D, .lst (iV c)) :: G⟩ D (iV c) ∨ sU K ⟨F, E ++ (D, .lst (iV c)) :: G⟩ D (iV c)) ∧ atI (iV c) (j : Int) = some (.int ((c[j]?).getD 0)) := by
  refine ⟨.inl (.inl ⟨E.length, at_mid⟩), ?_⟩
  refine atI_at ?_
  rw [iVat (List.getElem?_eq_getElem hj), List.getElem?_eq_getElem hj]
  rfl
end
section
variable {K : PySem.W.Frag} {a : Ads}
open TR
theorem sg2_go {i j : Nat} {W : sWX} {u v : V} {σ : L2.St} {S : SH} {Q : L2.St → SH → Prop} (h : Q ((σ.set i (some u)).set j (some v)) S) : sgCons (sgName i) (sgCons (sgName j) sgNil) W [u, v] σ S Q := h
theorem rep_ok {n : Nat} (h : n ≤ 1000) : (-(2 ^ 63) ≤ (n : Int) ∧ (n : Int) < 2 ^ 63) ∧ [V.int 0].length * (n : Int).toNat ≤ sizeLine := by
  refine ⟨by omega, ?_⟩
  show 1 * (n : Int).toNat ≤ sizeLine
  rw [Int.toNat_natCast, Nat.one_mul]
  exact Nat.le_trans h (by decide)
theorem take_len {α : Type} {l : List α} {i : Nat} (h : i ≤ l.length) : (l.take i).length = i := by
  rw [List.length_take]
  omega
theorem vc_poly_product {vs : List V} {H : Hp} (g : V × List Int × V × List Int) (h : (ct_two K pprod).pre g vs H) : ∃ S, Own S H ∧ r_poly_product K a (endsC (ct_two K pprod) g H) (start N_poly_product vs) S := by
  obtain ⟨v1, l, v2, m⟩ := g
  obtain ⟨rfl, ⟨p, e1, hp⟩, ⟨q, e2, hq⟩, sl, sm, hl1, hm1, hl2, hm2⟩ := h
  have e1 : v1 = .ref p := e1
  have e2 : v2 = .ref q := e2
  subst e1 e2
  have hp : SqL K H p (iV l) := hp
  have hq : SqL K H q (iV m) := hq
  have sl : smI l := sl
  have hl1 : 1 ≤ l.length := hl1
  have hm1 : 1 ≤ m.length := hm1
  have hl2 : l.length ≤ 100 := hl2
  have hm2 : m.length ≤ 100 := hm2
  refine ⟨⟨H, []⟩, Own.base H, ?_⟩
  refine seq_go (set_go (op_go (lst_go (cons_go (c_go (nil_go ⟨show 1 ≤ sizeLine by decide, fun z => ?_⟩))))))
  refine op_go (op_go (call1_go (cons_go (var_go (v := .ref p) (by rfl) (nil_go ⟨iV l, .inl (.inr hp), ?_⟩)))))
  refine call1_go (cons_go (var_go (v := .ref q) (by rfl) (nil_go ⟨iV m, .inl (.inr hq), ?_⟩)))
  refine add_g (c_go (sub_g ?_))
  have en : (((iV l).length : Nat) : Int) + ((iV m).length : Nat) - 1 = ((l.length + m.length - 1 : Nat) : Int) := by
    rw [iV_len, iV_len]
    omega
  rw [en]
  have zl : (zer (l.length + m.length - 1)).length = l.length + m.length - 1 := List.length_replicate
  generalize hn : l.length + m.length - 1 = n at zl
  obtain ⟨b1, b2⟩ := rep_ok (n := n) (by omega)
  refine ⟨[.int 0], .inl ⟨0, rfl⟩, b1, b2, fun D => ?_⟩
  rw [Int.toNat_natCast, iV_rep]
  try dsimp only
  refine seq_go ?_
  refine ⟨iV l, .inr hp, ?_⟩
  refine ⟨fun i σ S => ∃ (E : List (Addr × HO)) (x3 x4 x5 x6 x7 : Option V), σ = [some (.ref p), some (.ref q), some (.ref D), x3, x4, x5, x6, x7] ∧ S = ⟨H, E ++ (D, .lst (iV (mulB (zer n) 0 m (l.take i)))) :: [(z, .lst [.int 0])]⟩, ⟨[], none, none, none, none, none, rfl, rfl⟩, ?_, ?_, ?_⟩
  · rintro i σ S _ ⟨E, x3, x4, x5, x6, x7, rfl, rfl⟩
    exact .inr hp
  · rintro i σ S hi ⟨E, x3, x4, x5, x6, x7, rfl, rfl⟩ v hv r
    have hi : i < (iV l).length := hi
    rw [iV_len] at hi
    obtain ⟨x, hx⟩ : ∃ x, l[i]? = some x := ⟨_, List.getElem?_eq_getElem hi⟩
    rw [iVat hx] at hv
    cases hv
    have hmore : mulB (zer n) 0 m (l.take (i + 1)) = adr (mulB (zer n) 0 m (l.take i)) i (m.map (x * ·)) := by
      rw [List.take_add_one, hx]
      show mulB (zer n) 0 m (l.take i ++ [x]) = _
      rw [mulB_snoc, take_len (Nat.le_of_lt hi), Nat.zero_add]
    have cl : (mulB (zer n) 0 m (l.take i)).length = n := by rw [mulB_len, zl]
    generalize mulB (zer n) 0 m (l.take i) = c at hmore cl
    refine ⟨[.int (i : Nat), .int x], .inl ⟨0, rfl⟩, rfl, sg2_go ?_⟩
    refine ⟨iV m, .inr hq, ?_⟩
    refine ⟨fun j σ S => ∃ (E : List (Addr × HO)) (x5 x6 x7 : Option V), σ = [some (.ref p), some (.ref q), some (.ref D), some (.int (i : Nat)), some (.int x), x5, x6, x7] ∧ S = ⟨H, E ++ (D, .lst (iV (adr c i ((m.take j).map (x * ·))))) :: [(z, .lst [.int 0])]⟩, ⟨(r, .tup [.int (i : Nat), .int x]) :: E, x5, x6, x7, rfl, rfl⟩, ?_, ?_, ?_⟩
    · rintro j σ S _ ⟨E, x5, x6, x7, rfl, rfl⟩
      exact .inr hq
    · rintro j σ S hj ⟨E, x5, x6, x7, rfl, rfl⟩ v hv r2
      have hj : j < (iV m).length := hj
      rw [iV_len] at hj
      obtain ⟨y, hy⟩ : ∃ y, m[j]? = some y := ⟨_, List.getElem?_eq_getElem hj⟩
      rw [iVat hy] at hv
      cases hv
      have hmr : adr c i ((m.take (j + 1)).map (x * ·)) = addAt (adr c i ((m.take j).map (x * ·))) (i + j) (x * y) := by
        rw [List.take_add_one, hy]
        show adr c i ((m.take j ++ [y]).map (x * ·)) = _
        rw [List.map_append]
        show adr c i ((m.take j).map (x * ·) ++ [x * y]) = _
        rw [adr_snoc, List.length_map, take_len (Nat.le_of_lt hj)]
      have dl : (adr c i ((m.take j).map (x * ·))).length = n := by rw [adr_len, cl]
      generalize adr c i ((m.take j).map (x * ·)) = d at hmr dl
      have hk : i + j < d.length := by omega
      refine ⟨[.int (j : Nat), .int y], .inl ⟨0, rfl⟩, rfl, sg2_go ?_⟩
      refine seq_go (set_go (op_go (var_go (v := .int (i : Nat)) (by rfl) (var_go (v := .int (j : Nat)) (by rfl) (add_g ?_)))))
      rw [show ((i : Nat) : Int) + (j : Nat) = ((i + j : Nat) : Int) by omega]
      obtain ⟨t1, t2⟩ := at_add (K := K) (F := H) (E := (r2, .tup [.int (j : Nat), .int y]) :: E) (G := [(z, .lst [.int 0])]) (D := D) hk
      try dsimp only
      refine asg_go (op_go (op_go (var_go (v := .ref D) (by rfl) (var_go (v := .int (i + j : Nat)) (by rfl) ⟨_, _, t1, t2, ?_⟩))))
      refine op_go (var_go (v := .int x) (by rfl) (var_go (v := .int y) (by rfl) ⟨.inl (sm_of sl hx), add_g ?_⟩))
      refine var_go (v := .ref D) (by rfl) (var_go (v := .int (i + j : Nat)) (by rfl) (put_add (E := (r2, .tup [.int (j : Nat), .int y]) :: E) hk ?_))
      refine ⟨_, SLe.refl _, (r2, .tup [.int (j : Nat), .int y]) :: E, some (.int (j : Nat)), some (.int y), some (.int (i + j : Nat)), rfl, ?_⟩
      rw [hmr]
    · rintro σ S ⟨E, x5, x6, x7, rfl, rfl⟩
      have em : (itE K q (iV m)).n = m.length := iV_len m
      rw [em, List.take_length]
      refine ⟨_, SLe.refl _, E, some (.int (i : Nat)), some (.int x), x5, x6, x7, rfl, ?_⟩
      rw [hmore]
  · rintro σ S ⟨E, x3, x4, x5, x6, x7, rfl, rfl⟩
    have el : (itE K p (iV l)).n = l.length := iV_len l
    rw [el, List.take_length]
    try dsimp only
    refine ret_go (var_go (i := 2) (v := .ref D) (by rfl) ?_)
    intro H' o'
    show newI (pprod l m) H _ H' ∧ _
    unfold pprod
    rw [hn]
    exact fin_new o' (List.mem_append_right _ (.head _))
end
section
variable {K : PySem.W.Frag} {a : Ads}
open TR
theorem rngN {n : Nat} (h : n ≤ 1000) : rngOk (n : Int) := by
  unfold rngOk
  omega
theorem vc_l_times {vs : List V} {H : Hp} (g : V × List Int × V × List Int) (h : (ct_two K pprod).pre g vs H) : ∃ S, Own S H ∧ r_l_times K a (endsC (ct_two K pprod) g H) (start N_l_times vs) S := by
  obtain ⟨v1, l, v2, m⟩ := g
  obtain ⟨rfl, ⟨p, e1, hp⟩, ⟨q, e2, hq⟩, sl, sm, hl1, hm1, hl2, hm2⟩ := h
  have e1 : v1 = .ref p := e1
  have e2 : v2 = .ref q := e2
  subst e1 e2
  have hp : SqL K H p (iV l) := hp
  have hq : SqL K H q (iV m) := hq
  have sl : smI l := sl
  have hl1 : 1 ≤ l.length := hl1
  have hm1 : 1 ≤ m.length := hm1
  have hl2 : l.length ≤ 100 := hl2
  have hm2 : m.length ≤ 100 := hm2
  refine ⟨⟨H, []⟩, Own.base H, ?_⟩
  refine seq_go (set_go (op_go (lst_go (cons_go (c_go (nil_go ⟨show 1 ≤ sizeLine by decide, fun z => ?_⟩))))))
  refine op_go (op_go (call1_go (cons_go (var_go (v := .ref p) (by rfl) (nil_go ⟨iV l, .inl (.inr hp), ?_⟩)))))
  refine call1_go (cons_go (var_go (v := .ref q) (by rfl) (nil_go ⟨iV m, .inl (.inr hq), ?_⟩)))
  refine add_g (c_go (sub_g ?_))
  have en : (((iV l).length : Nat) : Int) + ((iV m).length : Nat) - 1 = ((l.length + m.length - 1 : Nat) : Int) := by
    rw [iV_len, iV_len]
    omega
  rw [en]
  have zl : (zer (l.length + m.length - 1)).length = l.length + m.length - 1 := List.length_replicate
  generalize hn : l.length + m.length - 1 = n at zl
  obtain ⟨b1, b2⟩ := rep_ok (n := n) (by omega)
  refine ⟨[.int 0], .inl ⟨0, rfl⟩, b1, b2, fun D => ?_⟩
  rw [Int.toNat_natCast, iV_rep]
  try dsimp only
  refine seq_go ?_
  refine ⟨iV l, .inl (.inr hp), ?_⟩
  rw [iV_len]
  refine ⟨rngN (by omega), ?_⟩
  refine ⟨fun i σ S => ∃ (E : List (Addr × HO)) (x3 x4 : Option V), σ = [some (.ref p), some (.ref q), some (.ref D), x3, x4] ∧ S = ⟨H, E ++ (D, .lst (iV (mulB (zer n) 0 m (l.take i)))) :: [(z, .lst [.int 0])]⟩, ⟨[], none, none, rfl, rfl⟩, fun _ _ _ _ _ => trivial, ?_, ?_⟩
  · rintro i σ S hi ⟨E, x3, x4, rfl, rfl⟩
    have hi : i < ((l.length : Nat) : Int).toNat := hi
    rw [Int.toNat_natCast] at hi
    refine yldR_go ?_
    rw [Int.zero_add]
    refine nm_go ?_
    obtain ⟨x, hx⟩ : ∃ x, l[i]? = some x := ⟨_, List.getElem?_eq_getElem hi⟩
    have hmore : mulB (zer n) 0 m (l.take (i + 1)) = adr (mulB (zer n) 0 m (l.take i)) i (m.map (x * ·)) := by
      rw [List.take_add_one, hx]
      show mulB (zer n) 0 m (l.take i ++ [x]) = _
      rw [mulB_snoc, take_len (Nat.le_of_lt hi), Nat.zero_add]
    have cl : (mulB (zer n) 0 m (l.take i)).length = n := by rw [mulB_len, zl]
    generalize mulB (zer n) 0 m (l.take i) = c at hmore cl
    refine ⟨iV m, .inl (.inr hq), ?_⟩
    rw [iV_len]
    refine ⟨rngN (by omega), ?_⟩
    refine ⟨fun j σ S => ∃ (x4 : Option V), σ = [some (.ref p), some (.ref q), some (.ref D), some (.int (i : Nat)), x4] ∧ S = ⟨H, E ++ (D, .lst (iV (adr c i ((m.take j).map (x * ·))))) :: [(z, .lst [.int 0])]⟩, ⟨x4, rfl, rfl⟩, fun _ _ _ _ _ => trivial, ?_, ?_⟩
    · rintro j σ S hj ⟨x4, rfl, rfl⟩
      have hj : j < ((m.length : Nat) : Int).toNat := hj
      rw [Int.toNat_natCast] at hj
      refine yldR_go ?_
      rw [Int.zero_add]
      refine nm_go ?_
      obtain ⟨y, hy⟩ : ∃ y, m[j]? = some y := ⟨_, List.getElem?_eq_getElem hj⟩
      have hmr : adr c i ((m.take (j + 1)).map (x * ·)) = addAt (adr c i ((m.take j).map (x * ·))) (i + j) (x * y) := by
        rw [List.take_add_one, hy]
        show adr c i ((m.take j ++ [y]).map (x * ·)) = _
        rw [List.map_append]
        show adr c i ((m.take j).map (x * ·) ++ [x * y]) = _
        rw [adr_snoc, List.length_map, take_len (Nat.le_of_lt hj)]
      have dl : (adr c i ((m.take j).map (x * ·))).length = n := by rw [adr_len, cl]
      generalize adr c i ((m.take j).map (x * ·)) = d at hmr dl
      have hk : i + j < d.length := by omega
      obtain ⟨t1, t2⟩ := at_add (K := K) (F := H) (E := E) (G := [(z, .lst [.int 0])]) (D := D) hk
      have ij : ((i : Nat) : Int) + (j : Nat) = ((i + j : Nat) : Int) := by omega
      refine asg_go (op_go (op_go (var_go (v := .ref D) (by rfl) (op_go (var_go (v := .int (i : Nat)) (by rfl) (var_go (v := .int (j : Nat)) (by rfl) (add_g ?_)))))))
      rw [ij]
      refine ⟨_, _, t1, t2, ?_⟩
      refine op_go (op_go (var_go (v := .ref p) (by rfl) (var_go (v := .int (i : Nat)) (by rfl) ⟨iV l, .int x, .inl (.inr hp), atI_at (iVat hx), ?_⟩)))
      refine op_go (var_go (v := .ref q) (by rfl) (var_go (v := .int (j : Nat)) (by rfl) ⟨iV m, .int y, .inl (.inr hq), atI_at (iVat hy), ?_⟩))
      refine ⟨.inl (sm_of sl hx), add_g ?_⟩
      refine var_go (v := .ref D) (by rfl) (op_go (var_go (v := .int (i : Nat)) (by rfl) (var_go (v := .int (j : Nat)) (by rfl) (add_g ?_))))
      rw [ij]
      refine put_add hk ?_
      refine ⟨_, SLe.refl _, some (.int (j : Nat)), rfl, ?_⟩
      rw [hmr]
    · rintro σ S ⟨x4, rfl, rfl⟩
      have em : (itR 0 ((m.length : Nat) : Int).toNat).n = m.length := Int.toNat_natCast _
      rw [em, List.take_length]
      refine ⟨_, SLe.refl _, E, some (.int (i : Nat)), x4, rfl, ?_⟩
      rw [hmore]
  · rintro σ S ⟨E, x3, x4, rfl, rfl⟩
    have el : (itR 0 ((l.length : Nat) : Int).toNat).n = l.length := Int.toNat_natCast _
    rw [el, List.take_length]
    try dsimp only
    refine ret_go (var_go (i := 2) (v := .ref D) (by rfl) ?_)
    intro H' o'
    show newI (pprod l m) H _ H' ∧ _
    unfold pprod
    rw [hn]
    exact fin_new o' (List.mem_append_right _ (.head _))
theorem max_nat (x y : Nat) : (if ((y : Nat) : Int) > (x : Nat) then ((y : Nat) : Int) else (x : Nat)) = ((max x y : Nat) : Int) := by
  split <;> omega
theorem max_go {x y : Nat} {S : SH} {Q : V → SH → Prop} (h : Q (.int (max x y : Nat)) S) : nMax2 [.int (x : Nat), .int (y : Nat)] S Q := by
  show Q (.int (if ((y : Nat) : Int) > (x : Nat) then ((y : Nat) : Int) else (x : Nat))) S
  rw [max_nat]
  exact h
theorem vc_l_plus {vs : List V} {H : Hp} (g : V × List Int × V × List Int) (h : (ct_two K psum).pre g vs H) : ∃ S, Own S H ∧ r_l_plus K a (endsC (ct_two K psum) g H) (start N_l_plus vs) S := by
  obtain ⟨v1, l, v2, m⟩ := g
  obtain ⟨rfl, ⟨p, e1, hp⟩, ⟨q, e2, hq⟩, sl, sm, hl1, hm1, hl2, hm2⟩ := h
  have e1 : v1 = .ref p := e1
  have e2 : v2 = .ref q := e2
  subst e1 e2
  have hp : SqL K H p (iV l) := hp
  have hq : SqL K H q (iV m) := hq
  have hl2 : l.length ≤ 100 := hl2
  have hm2 : m.length ≤ 100 := hm2
  refine ⟨⟨H, []⟩, Own.base H, ?_⟩
  refine seq_go (set_go (op_go (lst_go (cons_go (c_go (nil_go ⟨show 1 ≤ sizeLine by decide, fun z => ?_⟩))))))
  refine call1_go (cons_go (call1_go (cons_go (var_go (v := .ref p) (by rfl) (nil_go ⟨iV l, .inl (.inr hp), ?_⟩)))))
  refine cons_go (call1_go (cons_go (var_go (v := .ref q) (by rfl) (nil_go ⟨iV m, .inl (.inr hq), nil_go ?_⟩))))
  rw [iV_len, iV_len]
  refine max_go ?_
  have zl : (zer (max l.length m.length)).length = max l.length m.length := List.length_replicate
  generalize hn : max l.length m.length = n at zl
  obtain ⟨b1, b2⟩ := rep_ok (n := n) (by omega)
  refine ⟨[.int 0], .inl ⟨0, rfl⟩, b1, b2, fun D => ?_⟩
  rw [Int.toNat_natCast, iV_rep]
  try dsimp only
  have one : ∀ (s : Addr) (ys c : List Int) (k : Nat), SqL K H s (iV ys) → c.length = n → ys.length ≤ n → ∀ j y, ys[j]? = some y → adr c 0 (ys.take (j + 1)) = addAt (adr c 0 (ys.take j)) j y ∧ (adr c 0 (ys.take j)).length = n ∧ j < n := fun s ys c k _ hc hy j y e => by
    have hj : j < ys.length := (List.getElem?_eq_some_iff.mp e).1
    refine ⟨?_, by rw [adr_len, hc], by omega⟩
    rw [List.take_add_one, e]
    show adr c 0 (ys.take j ++ [y]) = _
    rw [adr_snoc, take_len (Nat.le_of_lt hj), Nat.zero_add]
  refine seq_go ?_
  refine ⟨iV l, .inl (.inr hp), ?_⟩
  rw [iV_len]
  refine ⟨rngN (by omega), ?_⟩
  refine ⟨fun i σ S => ∃ (x3 : Option V), σ = [some (.ref p), some (.ref q), some (.ref D), x3] ∧ S = ⟨H, [] ++ (D, .lst (iV (adr (zer n) 0 (l.take i)))) :: [(z, .lst [.int 0])]⟩, ⟨none, rfl, rfl⟩, fun _ _ _ _ _ => trivial, ?_, ?_⟩
  · rintro i σ S hi ⟨x3, rfl, rfl⟩
    have hi : i < ((l.length : Nat) : Int).toNat := hi
    rw [Int.toNat_natCast] at hi
    refine yldR_go ?_
    rw [Int.zero_add]
    refine nm_go ?_
    obtain ⟨x, hx⟩ : ∃ x, l[i]? = some x := ⟨_, List.getElem?_eq_getElem hi⟩
    obtain ⟨f1, f2, f3⟩ := one p l (zer n) 0 hp zl (by omega) i x hx
    generalize adr (zer n) 0 (l.take i) = d at f1 f2
    have hk : i < d.length := by omega
    obtain ⟨t1, t2⟩ := at_add (K := K) (F := H) (E := []) (G := [(z, .lst [.int 0])]) (D := D) hk
    refine asg_go (op_go (op_go (var_go (v := .ref D) (by rfl) (var_go (v := .int (i : Nat)) (by rfl) ⟨_, _, t1, t2, ?_⟩))))
    refine op_go (var_go (v := .ref p) (by rfl) (var_go (v := .int (i : Nat)) (by rfl) ⟨iV l, .int x, .inl (.inr hp), atI_at (iVat hx), add_g ?_⟩))
    refine var_go (v := .ref D) (by rfl) (var_go (v := .int (i : Nat)) (by rfl) (put_add hk ?_))
    refine ⟨_, SLe.refl _, some (.int (i : Nat)), rfl, ?_⟩
    rw [f1]
  · rintro σ S ⟨x3, rfl, rfl⟩
    have el : (itR 0 ((l.length : Nat) : Int).toNat).n = l.length := Int.toNat_natCast _
    rw [el, List.take_length]
    have cl : (adr (zer n) 0 l).length = n := by rw [adr_len, zl]
    generalize hc : adr (zer n) 0 l = c at cl
    try dsimp only
    refine seq_go ?_
    refine ⟨iV m, .inl (.inr hq), ?_⟩
    rw [iV_len]
    refine ⟨rngN (by omega), ?_⟩
    refine ⟨fun i σ S => ∃ (x3 : Option V), σ = [some (.ref p), some (.ref q), some (.ref D), x3] ∧ S = ⟨H, [] ++ (D, .lst (iV (adr c 0 (m.take i)))) :: [(z, .lst [.int 0])]⟩, ⟨x3, rfl, rfl⟩, fun _ _ _ _ _ => trivial, ?_, ?_⟩
    · rintro i σ S hi ⟨x3, rfl, rfl⟩
      have hi : i < ((m.length : Nat) : Int).toNat := hi
      rw [Int.toNat_natCast] at hi
      refine yldR_go ?_
      rw [Int.zero_add]
      refine nm_go ?_
      obtain ⟨x, hx⟩ : ∃ x, m[i]? = some x := ⟨_, List.getElem?_eq_getElem hi⟩
      obtain ⟨f1, f2, f3⟩ := one q m c 0 hq cl (by omega) i x hx
      generalize adr c 0 (m.take i) = d at f1 f2
      have hk : i < d.length := by omega
      obtain ⟨t1, t2⟩ := at_add (K := K) (F := H) (E := []) (G := [(z, .lst [.int 0])]) (D := D) hk
      refine asg_go (op_go (op_go (var_go (v := .ref D) (by rfl) (var_go (v := .int (i : Nat)) (by rfl) ⟨_, _, t1, t2, ?_⟩))))
      refine op_go (var_go (v := .ref q) (by rfl) (var_go (v := .int (i : Nat)) (by rfl) ⟨iV m, .int x, .inl (.inr hq), atI_at (iVat hx), add_g ?_⟩))
      refine var_go (v := .ref D) (by rfl) (var_go (v := .int (i : Nat)) (by rfl) (put_add hk ?_))
      refine ⟨_, SLe.refl _, some (.int (i : Nat)), rfl, ?_⟩
      rw [f1]
    · rintro σ S ⟨x3, rfl, rfl⟩
      have em : (itR 0 ((m.length : Nat) : Int).toNat).n = m.length := Int.toNat_natCast _
      rw [em, List.take_length]
      try dsimp only
      refine ret_go (var_go (i := 2) (v := .ref D) (by rfl) ?_)
      intro H' o'
      show newI (psum l m) H _ H' ∧ _
      unfold psum
      rw [hn, hc]
      exact fin_new o' (List.mem_append_right _ (.head _))
end
section
variable {K : PySem.W.Frag} {a : Ads}
open TR
def r_row (K : PySem.W.Frag) : sS := sFor (siEn K (sCons (sVar 3) (sNil))) (sgTup K 2 (sgCons (sgName 4) (sgCons (sgName 5) (sgNil)))) (sAsg (sOp oAdd (sOp (oIx K) (sVar 2) (sVar 4)) (sVar 5)) (sgSub (sVar 2) (sVar 4)))
theorem row_go {H : Hp} {p q D s : Addr} {ys c : List Int} {n : Nat} {E N : List (Addr × HO)} {x4 x5 : Option V} {De : sEnds} (hs : SqL K H s (iV ys)) (hc : c.length = n) (hy : ys.length ≤ n)
    (k : ∀ (E' : List (Addr × HO)) (x4 x5 : Option V), E ⊆ E' → De.nx [some (.ref p), some (.ref q), some (.ref D), some (.ref s), x4, x5] ⟨H, E' ++ (D, .lst (iV (adr c 0 ys))) :: N⟩) :
    r_row K De [some (.ref p), some (.ref q), some (.ref D), some (.ref s), x4, x5] ⟨H, E ++ (D, .lst (iV c)) :: N⟩ := by
  refine ⟨iV ys, .inr hs, ?_⟩
  refine ⟨fun i σ S => ∃ (E' : List (Addr × HO)) (x4 x5 : Option V), E ⊆ E' ∧ σ = [some (.ref p), some (.ref q), some (.ref D), some (.ref s), x4, x5] ∧ S = ⟨H, E' ++ (D, .lst (iV (adr c 0 (ys.take i)))) :: N⟩, ⟨E, x4, x5, List.Subset.refl _, rfl, rfl⟩, ?_, ?_, ?_⟩
  · rintro i σ S _ ⟨E, x4, x5, _, rfl, rfl⟩
    exact .inr hs
  · rintro i σ S hi ⟨E', x4, x5, hE, rfl, rfl⟩ v hv r
    have hi : i < (iV ys).length := hi
    rw [iV_len] at hi
    obtain ⟨y, hyy⟩ : ∃ y, ys[i]? = some y := ⟨_, List.getElem?_eq_getElem hi⟩
    rw [iVat hyy] at hv
    cases hv
    have f1 : adr c 0 (ys.take (i + 1)) = addAt (adr c 0 (ys.take i)) i y := by
      rw [List.take_add_one, hyy]
      show adr c 0 (ys.take i ++ [y]) = _
      rw [adr_snoc, take_len (Nat.le_of_lt hi), Nat.zero_add]
    have dl : (adr c 0 (ys.take i)).length = n := by rw [adr_len, hc]
    generalize adr c 0 (ys.take i) = d at f1 dl
    have hk : i < d.length := by omega
    refine ⟨[.int (i : Nat), .int y], .inl ⟨0, rfl⟩, rfl, sg2_go ?_⟩
    obtain ⟨t1, t2⟩ := at_add (K := K) (F := H) (E := (r, .tup [.int (i : Nat), .int y]) :: E') (G := N) (D := D) hk
    refine asg_go (op_go (op_go (var_go (v := .ref D) (by rfl) (var_go (v := .int (i : Nat)) (by rfl) ⟨_, _, t1, t2, ?_⟩))))
    refine var_go (v := .int y) (by rfl) (add_g ?_)
    refine var_go (v := .ref D) (by rfl) (var_go (v := .int (i : Nat)) (by rfl) (put_add (E := (r, .tup [.int (i : Nat), .int y]) :: E') hk ?_))
    refine ⟨_, SLe.refl _, (r, .tup [.int (i : Nat), .int y]) :: E', some (.int (i : Nat)), some (.int y), fun w hw => List.mem_cons_of_mem _ (hE hw), rfl, ?_⟩
    rw [f1]
  · rintro σ S ⟨E', x4, x5, hE, rfl, rfl⟩
    have em : (itE K s (iV ys)).n = ys.length := iV_len ys
    rw [em, List.take_length]
    exact k E' x4 x5 hE
theorem vc_poly_sum {vs : List V} {H : Hp} (g : V × List Int × V × List Int) (h : (ct_two K psum).pre g vs H) : ∃ S, Own S H ∧ r_poly_sum K a (endsC (ct_two K psum) g H) (start N_poly_sum vs) S := by
  obtain ⟨v1, l, v2, m⟩ := g
  obtain ⟨rfl, ⟨p, e1, hp⟩, ⟨q, e2, hq⟩, sl, sm, hl1, hm1, hl2, hm2⟩ := h
  have e1 : v1 = .ref p := e1
  have e2 : v2 = .ref q := e2
  subst e1 e2
  have hp : SqL K H p (iV l) := hp
  have hq : SqL K H q (iV m) := hq
  have hl2 : l.length ≤ 100 := hl2
  have hm2 : m.length ≤ 100 := hm2
  refine ⟨⟨H, []⟩, Own.base H, ?_⟩
  refine seq_go (set_go (op_go (lst_go (cons_go (c_go (nil_go ⟨show 1 ≤ sizeLine by decide, fun z => ?_⟩))))))
  refine call1_go (cons_go (call1_go (cons_go (var_go (v := .ref p) (by rfl) (nil_go ⟨iV l, .inl (.inr hp), ?_⟩)))))
  refine cons_go (call1_go (cons_go (var_go (v := .ref q) (by rfl) (nil_go ⟨iV m, .inl (.inr hq), nil_go ?_⟩))))
  rw [iV_len, iV_len]
  refine max_go ?_
  have zl : (zer (max l.length m.length)).length = max l.length m.length := List.length_replicate
  generalize hn : max l.length m.length = n at zl
  obtain ⟨b1, b2⟩ := rep_ok (n := n) (by omega)
  refine ⟨[.int 0], .inl ⟨0, rfl⟩, b1, b2, fun D => ?_⟩
  rw [Int.toNat_natCast, iV_rep]
  try dsimp only
  refine seq_go ?_
  refine ⟨show 2 ≤ sizeLine by decide, fun t => ?_⟩
  refine .inr ⟨[.ref p, .ref q], .inl ⟨0, rfl⟩, ?_⟩
  refine ⟨fun i σ S => ∃ (E : List (Addr × HO)) (x3 x4 x5 : Option V), (t, HO.tup [.ref p, .ref q]) ∈ E ∧ σ = [some (.ref p), some (.ref q), some (.ref D), x3, x4, x5] ∧
    S = ⟨H, E ++ (D, .lst (iV (if i = 0 then zer n else if i = 1 then adr (zer n) 0 l else adr (adr (zer n) 0 l) 0 m))) :: [(z, .lst [.int 0])]⟩, ⟨[(t, .tup [.ref p, .ref q])], none, none, none, .head _, rfl, rfl⟩, ?_, ?_, ?_⟩
  · rintro i σ S _ ⟨E, x3, x4, x5, hm, rfl, rfl⟩
    obtain ⟨k, hk⟩ := List.mem_iff_getElem?.mp (List.mem_append_left ((D, HO.lst (iV (if i = 0 then zer n else if i = 1 then adr (zer n) 0 l else adr (adr (zer n) 0 l) 0 m))) :: [(z, .lst [.int 0])]) hm)
    exact .inl ⟨k, hk⟩
  · rintro i σ S hi ⟨E, x3, x4, x5, hm, rfl, rfl⟩ v hv
    have hi : i < 2 := hi
    rcases (show i = 0 ∨ i = 1 by omega) with rfl | rfl
    · cases hv
      refine nm_go ?_
      refine row_go (c := zer n) (ys := l) (n := n) hp zl (by omega) fun E' x4 x5 hE => ?_
      exact ⟨_, SLe.refl _, E', some (.ref p), x4, x5, hE hm, rfl, rfl⟩
    · cases hv
      refine nm_go ?_
      refine row_go (c := adr (zer n) 0 l) (ys := m) (n := n) hq (by rw [adr_len, zl]) (by omega) fun E' x4 x5 hE => ?_
      exact ⟨_, SLe.refl _, E', some (.ref q), x4, x5, hE hm, rfl, rfl⟩
  · rintro σ S ⟨E, x3, x4, x5, hm, rfl, rfl⟩
    try dsimp only
    refine ret_go (var_go (i := 2) (v := .ref D) (by rfl) ?_)
    intro H' o'
    show newI (psum l m) H _ H' ∧ _
    unfold psum
    rw [hn]
    exact fin_new o' (List.mem_append_right _ (.head _))
/-- the calls, beside tracked lists -/
theorem newI_F {l : List Int} {H H' F : Hp} {v : V} (h : newI l H v H') (e : Ext F H) : newI l F v H' := by
  obtain ⟨p, h1, h2, h3⟩ := h
  refine ⟨p, h1, ?_, h3⟩
  cases q : F p with
  | none => rfl
  | some o =>
    rw [e _ _ q] at h2
    cases h2
end
section
variable {K : PySem.W.Frag} {a : Ads}
open TR
/-- a call's heap: what was made stays -/
theorem own_hidA {F : Hp} {G : List (Addr × HO)} {H H' : Hp} (o : Own ⟨F, G⟩ H) (e : Ext H H') : Own ⟨hid G H', G⟩ H' ∧ Ext F (hid G H') := by
  refine ⟨⟨fun c u h => ?_, fun q hq => ⟨e _ _ (o.gs q hq).1, ?_⟩, o.nd⟩, fun c u h => ?_⟩
  · have h : (if c ∈ G.map (·.1) then none else H' c) = some u := h
    split at h
    · cases h
    · exact h
  · show (if q.1 ∈ G.map (·.1) then none else H' q.1) = none
    rw [if_pos (List.mem_map.mpr ⟨q, hq, rfl⟩)]
  · have ne : c ∉ G.map (·.1) := fun z => by
      obtain ⟨q, hq, rfl⟩ := List.mem_map.mp z
      have : F q.1 = none := (o.gs q hq).2
      rw [this] at h
      cases h
    show (if c ∈ G.map (·.1) then none else H' c) = some u
    rw [if_neg ne]
    exact e _ _ (o.fr c u h)
theorem hid_new {F : Hp} {G : List (Addr × HO)} {H H' : Hp} {p : Addr} {u : HO} (o : Own ⟨F, G⟩ H) (h1 : H p = none) (h2 : H' p = some u) : hid G H' p = some u := by
  have ne : p ∉ G.map (·.1) := fun z => by
    obtain ⟨q, hq, rfl⟩ := List.mem_map.mp z
    rw [(o.gs q hq).1] at h1
    cases h1
  show (if p ∈ G.map (·.1) then none else H' p) = some u
  rw [if_neg ne]
  exact h2
theorem new_hid {F : Hp} {G : List (Addr × HO)} {H H' : Hp} {v : V} {l : List Int} (o : Own ⟨F, G⟩ H) (e : Ext H H') (h : newI l H v H') : ∃ F2 p, Own ⟨F2, G⟩ H' ∧ Ext F F2 ∧ v = .ref p ∧ SqL K F2 p (iV l) := by
  obtain ⟨p, rfl, h1, h2⟩ := h
  obtain ⟨o2, e2⟩ := own_hidA o e
  exact ⟨_, p, o2, e2, rfl, .of (hid_new o h1 h2)⟩
theorem use_two {f : List Int → List Int → List Int} {W : sWX} {σ : L2.St} {F : Hp} {G : List (Addr × HO)} {Q : V → SH → Prop} {vs : List V} (p q : Addr) (l m : List Int) (e : vs = [.ref p, .ref q]) (hp : sL K ⟨F, G⟩ p (iV l)) (hq : sL K ⟨F, G⟩ q (iV m)) (sl : smI l) (sm : smI m)
    (hl : 1 ≤ l.length ∧ 1 ≤ m.length ∧ l.length ≤ 100 ∧ m.length ≤ 100) (k : ∀ F2 p', Ext F F2 → SqL K F2 p' (iV (f l m)) → Q (.ref p') ⟨F2, G⟩) : rC (ct_two K f) W vs σ ⟨F, G⟩ Q :=
  ⟨(.ref p, l, .ref q, m), fun H o => ⟨e, ⟨p, rfl, o.l hp⟩, ⟨q, rfl, o.l hq⟩, sl, sm, hl⟩, fun H v H' o r => by
    obtain ⟨F2, p', o2, e2, rfl, h⟩ := new_hid (K := K) o r.2 r.1
    exact ⟨_, o2, k F2 p' e2 h⟩, fun _ _ _ _ _ q => q.elim⟩
theorem use_shut {W : sWX} {σ : L2.St} {F : Hp} {G : List (Addr × HO)} {Q : V → SH → Prop} {vs : List V} (p : Addr) (l : List Int) (e : vs = [.ref p]) (hp : sL K ⟨F, G⟩ p (iV l)) (hl : 1 ≤ l.length ∧ l.length ≤ 100)
    (k : ∀ F2 p', Ext F F2 → SqL K F2 p' (iV (shut l)) → Q (.ref p') ⟨F2, G⟩) : rC (ct_shut K) W vs σ ⟨F, G⟩ Q :=
  ⟨(.ref p, l), fun H o => ⟨e, ⟨p, rfl, o.l hp⟩, hl⟩, fun H v H' o r => by
    obtain ⟨F2, p', o2, e2, rfl, h⟩ := new_hid (K := K) o r.2 r.1
    exact ⟨_, o2, k F2 p' e2 h⟩, fun _ _ _ _ _ q => q.elim⟩
theorem use_trail {W : sWX} {σ : L2.St} {F : Hp} {G : List (Addr × HO)} {Q : V → SH → Prop} {vs : List V} (n : Nat) (p : Addr) (l : List Int) (e : vs = [.int (n : Nat), .ref p]) (hp : sL K ⟨F, G⟩ p (iV l)) (sl : smI l) (hl : 1 ≤ l.length ∧ l.length ≤ 100 ∧ n ≤ 64)
    (k : ∀ F2 p', Ext F F2 → SqL K F2 p' (iV (trl n l)) → Q (.ref p') ⟨F2, G⟩) : rC (ct_trail K) W vs σ ⟨F, G⟩ Q :=
  ⟨(n, .ref p, l), fun H o => ⟨e, ⟨p, rfl, o.l hp⟩, sl, hl⟩, fun H v H' o r => by
    obtain ⟨F2, p', o2, e2, rfl, h⟩ := new_hid (K := K) o r.2 r.1
    exact ⟨_, o2, k F2 p' e2 h⟩, fun _ _ _ _ _ q => q.elim⟩
theorem vc_Tree_top {vs : List V} {H : Hp} (g : Addr × Addr × List (Str × V) × V) (h : (ct_Tree_top a).pre g vs H) : ∃ S, Own S H ∧ r_Tree_top K a (endsC (ct_Tree_top a) g H) (start N_Tree_top vs) S := by
  obtain ⟨p, dx, fs, ro⟩ := g
  obtain ⟨rfl, h1, h2⟩ := h
  exact ⟨⟨H, []⟩, Own.base H, dx, fs, ro, .inr h1, h2, fun H' o => ⟨rfl, own_F o⟩⟩
theorem use_top {W : sWX} {σ : L2.St} {S : SH} {Q : V → SH → Prop} {p dx : Addr} {fs : List (Str × V)} {ro : V} {i : Nat} (hi : σ[i]? = some (some (.ref p))) (h1 : S.F p = some (.ins a.Tree dx fs)) (h2 : fs.lookup ("root" : Str) = some ro) (k : Q ro S) : sProO a.Tree (q_Tree_top K a) (sVar i) W σ S Q := by
  refine var_go hi ?_
  refine ⟨dx, fs, .inr h1, (p, dx, fs, ro), fun H o => ⟨rfl, o.fr _ _ h1, h2⟩, fun H v' H' o q => ⟨S, o.ex q.2, trivial, ?_⟩, fun _ _ _ _ _ q => q.elim⟩
  rw [q.1]
  exact k
end
namespace TR
/-! ### the nodes that the postorder has laid so far -/
abbrev NEnv := Nat × Nat → Option (TR × Nat)
def stepE (e : NEnv) (row : Row) : Option NEnv := match e row.2.1, e row.2.2.1 with
  | some (l, o), some (r, o2) => if o2 = o + nS l ∧ row.1 = o + nS l - 1 ∧ nS l + nS r ≤ 64 then some (fun nd => if nd = (2, row.1) then some (node l r, o) else e nd) else none
  | _, _ => none
def runE : List Row → NEnv → Option NEnv
  | [], e => some e
  | row :: rows, e => (stepE e row).bind (runE rows)
theorem runE_app : ∀ (A B : List Row) (e : NEnv), runE (A ++ B) e = (runE A e).bind (runE B)
  | [], B, e => rfl
  | row :: A, B, e => by
    show (stepE e row).bind (runE (A ++ B)) = ((stepE e row).bind (runE A)).bind (runE B)
    cases stepE e row with
    | none => rfl
    | some e2 => exact runE_app A B e2
theorem stepE_some {e e' : NEnv} {row : Row} (h : stepE e row = some e') : ∃ l r o, e row.2.1 = some (l, o) ∧ e row.2.2.1 = some (r, o + nS l) ∧ row.1 = o + nS l - 1 ∧ nS (node l r) ≤ 64 ∧ ∀ nd, e' nd = if nd = (2, row.1) then some (node l r, o) else e nd := by
  unfold stepE at h
  split at h
  · rename_i l o r o2 h1 h2
    split at h
    · rename_i hc
      obtain ⟨c1, c2, c3⟩ := hc
      subst c1
      cases h
      exact ⟨l, r, o, h1, h2, c2, c3, fun _ => rfl⟩
    · cases h
  · cases h
theorem runE_ok : ∀ (b : TR) (o p : Nat) (e : NEnv), (∀ j, o ≤ j → j < o + nS b → e (1, j) = some (leaf, j)) → nS b ≤ 64 →
    ∃ e', runE (rowsB b o p) e = some e' ∧ e' (ndB b o) = some (b, o) ∧ ∀ nd : Nat × Nat, (nd.1 = 1 ∨ nd.2 < o ∨ o + nS b - 1 ≤ nd.2) → e' nd = e nd
  | leaf, o, p, e, h, _ => ⟨e, rfl, h o (Nat.le_refl _) (Nat.lt_succ_self _), fun _ _ => rfl⟩
  | node l r, o, p, e, h, hb => by
    have p1 := nS_pos l
    have p2 := nS_pos r
    have hb : nS l + nS r ≤ 64 := hb
    have h : ∀ j, o ≤ j → j < o + (nS l + nS r) → e (1, j) = some (leaf, j) := h
    obtain ⟨e1, a1, a2, a3⟩ := runE_ok l o (p + 1) e (fun j h1 h2 => h j h1 (by omega)) (by omega)
    obtain ⟨e2, b1, b2, b3⟩ := runE_ok r (o + nS l) (p + 1 + (txt l).length) e1 (fun j h1 h2 => by rw [a3 (1, j) (.inl rfl)]; exact h j (by omega) (by omega)) (by omega)
    have el : e2 (ndB l o) = some (l, o) := by
      rw [b3 (ndB l o) ?_, a2]
      cases l with
      | leaf => exact .inl rfl
      | node l1 l2 =>
        have q1 := nS_pos l1
        have q2 := nS_pos l2
        refine .inr (.inl ?_)
        show o + nS l1 - 1 < o + (nS l1 + nS l2)
        omega
    refine ⟨fun nd => if nd = (2, o + nS l - 1) then some (node l r, o) else e2 nd, ?_, ?_, fun nd hnd => ?_⟩
    · show runE (rowsB l o (p + 1) ++ (rowsB r (o + nS l) (p + 1 + (txt l).length) ++ [_])) e = _
      rw [runE_app, a1]
      show runE (rowsB r (o + nS l) (p + 1 + (txt l).length) ++ [_]) e1 = _
      rw [runE_app, b1]
      show (stepE e2 _).bind (runE []) = _
      have es : stepE e2 (o + nS l - 1, ndB l o, ndB r (o + nS l), (o, o + nS l + nS r - 1), (p, p + (txt (node l r)).length)) = some (fun nd => if nd = (2, o + nS l - 1) then some (node l r, o) else e2 nd) := by
        unfold stepE
        show (match e2 (ndB l o), e2 (ndB r (o + nS l)) with
          | some (l', o'), some (r', o2) => if o2 = o' + nS l' ∧ o + nS l - 1 = o' + nS l' - 1 ∧ nS l' + nS r' ≤ 64 then some (fun nd => if nd = (2, o + nS l - 1) then some (node l' r', o') else e2 nd) else none
          | _, _ => none) = _
        rw [el, b2]
        show (if o + nS l = o + nS l ∧ o + nS l - 1 = o + nS l - 1 ∧ nS l + nS r ≤ 64 then _ else _) = _
        rw [if_pos ⟨rfl, rfl, hb⟩]
      rw [es]
      rfl
    · show (if ndB (node l r) o = (2, o + nS l - 1) then some (node l r, o) else e2 (ndB (node l r) o)) = _
      exact if_pos rfl
    · have hnd : nd.1 = 1 ∨ nd.2 < o ∨ o + (nS l + nS r) - 1 ≤ nd.2 := hnd
      show (if nd = (2, o + nS l - 1) then _ else _) = _
      rw [if_neg, b3, a3]
      · rcases hnd with z | z | z
        · exact .inl z
        · exact .inr (.inl z)
        · exact .inr (.inr (by omega))
      · rcases hnd with z | z | z
        · exact .inl z
        · exact .inr (.inl (by omega))
        · exact .inr (.inr (by omega))
      · intro z
        rw [z] at hnd
        rcases hnd with z | z | z
        · have z : (2 : Nat) = 1 := z
          omega
        · have z : o + nS l - 1 < o := z
          omega
        · have z : o + (nS l + nS r) - 1 ≤ o + nS l - 1 := z
          omega
/-- all slots stand -/
def e0N (n : Nat) : NEnv := fun nd => if nd.1 = 1 ∧ nd.2 < n then some (leaf, nd.2) else none
theorem run_all {b : TR} (hb : nS b ≤ 64) : ∃ e', runE (rowsB b 0 0) (e0N (nS b)) = some e' ∧ e' (ndB b 0) = some (b, 0) := by
  obtain ⟨e', h1, h2, _⟩ := runE_ok b 0 0 (e0N (nS b)) (fun j _ h2 => by
    unfold e0N
    rw [if_pos ⟨rfl, by omega⟩]) hb
  exact ⟨e', h1, h2⟩
theorem run_step {rows : List Row} {e e1 e2 : NEnv} {i : Nat} {row : Row} (h : runE rows e = some e2) (hi : runE (rows.take i) e = some e1) (hr : rows[i]? = some row) : ∃ e', stepE e1 row = some e' ∧ runE (rows.take (i + 1)) e = some e' := by
  have es : rows = rows.take i ++ (row :: rows.drop (i + 1)) := by
    have hl := (List.getElem?_eq_some_iff.mp hr)
    obtain ⟨hl, he⟩ := hl
    rw [← he, List.getElem_cons_drop, List.take_append_drop]
  rw [es, runE_app, hi] at h
  have h : (stepE e1 row).bind (runE (rows.drop (i + 1))) = some e2 := h
  cases q : stepE e1 row with
  | none => rw [q] at h; cases h
  | some e' =>
    refine ⟨e', rfl, ?_⟩
    rw [List.take_add_one, hr]
    show runE (rows.take i ++ [row]) e = _
    rw [runE_app, hi]
    show (stepE e1 row).bind (runE []) = _
    rw [q]
    rfl
end TR
section
variable {K : PySem.W.Frag} {a : Ads}
open TR
/-! ### a dict by nodes -/
def kN (n : Nat × Nat) : List Key := [.inr (kdS n.1), .inl (n.2 : Nat)]
theorem kN_inj {m n : Nat × Nat} (hm : m.1 = 1 ∨ m.1 = 2) (hn : n.1 = 1 ∨ n.1 = 2) (h : kN m = kN n) : m = n := by
  obtain ⟨m1, m2⟩ := m
  obtain ⟨n1, n2⟩ := n
  have h1 : kdS m1 = kdS n1 := Sum.inr.inj (List.cons.inj h).1
  have h2 : (m2 : Int) = (n2 : Nat) := Sum.inl.inj (List.cons.inj (List.cons.inj h).2).1
  have e2 : m2 = n2 := by omega
  have ne : kdS 1 ≠ kdS 2 := by decide +kernel
  have hm : m1 = 1 ∨ m1 = 2 := hm
  have hn : n1 = 1 ∨ n1 = 2 := hn
  rcases hm with rfl | rfl <;> rcases hn with rfl | rfl
  · rw [e2]
  · exact absurd h1 ne
  · exact absurd h1.symm ne
  · rw [e2]
def LE (K : PySem.W.Frag) (F : Hp) (E : List (Addr × HO)) (p : Addr) (l : List Int) : Prop := (p, HO.lst (iV l)) ∈ E ∨ SqL K F p (iV l)
theorem LE.s {F : Hp} {E X : List (Addr × HO)} {p : Addr} {l : List Int} (h : LE K F E p l) : sL K ⟨F, E ++ X⟩ p (iV l) := by
  rcases h with h | h
  · exact .inl (List.mem_iff_getElem?.mp (List.mem_append_left _ h))
  · exact .inr h
theorem LE.mono {F F2 : Hp} {E E2 : List (Addr × HO)} {p : Addr} {l : List Int} (h : LE K F E p l) (e : Ext F F2) (s : E ⊆ E2) : LE K F2 E2 p l := h.elim (fun z => .inl (s z)) fun z => .inr (SqL.up e z)
structure RepD (K : PySem.W.Frag) (F : Hp) (E : List (Addr × HO)) (kvs : List (List Key × V)) (e : NEnv) (f : TR → Nat → List Int) : Prop where
  at_ : ∀ nd t o, e nd = some (t, o) → (nd.1 = 1 ∨ nd.1 = 2) ∧ ∃ p, valV kvs (kN nd) = some (.ref p) ∧ LE K F E p (f t o)
theorem RepD.mono {F F2 : Hp} {E E2 : List (Addr × HO)} {kvs : List (List Key × V)} {e : NEnv} {f : TR → Nat → List Int} (h : RepD K F E kvs e f) (x : Ext F F2) (s : E ⊆ E2) : RepD K F2 E2 kvs e f :=
  ⟨fun nd t o q => let ⟨h1, p, h2, h3⟩ := h.at_ nd t o q; ⟨h1, p, h2, h3.mono x s⟩⟩
theorem RepD.put {F : Hp} {E : List (Addr × HO)} {kvs : List (List Key × V)} {e e' : NEnv} {f : TR → Nat → List Int} (h : RepD K F E kvs e f) {n : Nat × Nat} {t : TR} {o : Nat} {p : Addr} (hn : n.1 = 1 ∨ n.1 = 2) (he : ∀ nd, e' nd = if nd = n then some (t, o) else e nd) (hp : LE K F E p (f t o)) :
    RepD K F E (putK kvs (kN n) (.ref p)) e' f := by
  refine ⟨fun nd t' o' q => ?_⟩
  rw [he] at q
  split at q
  · rename_i en
    cases q
    subst en
    exact ⟨hn, p, by rw [valV_put, if_pos rfl], hp⟩
  · rename_i en
    obtain ⟨h1, p', h2, h3⟩ := h.at_ nd t' o' q
    exact ⟨h1, p', by rw [valV_put, if_neg fun z => en (kN_inj h1 hn z)]; exact h2, h3⟩
theorem e0_put (i : Nat) : ∀ nd : Nat × Nat, e0N (i + 1) nd = if nd = (1, i) then some (leaf, i) else e0N i nd := fun nd => by
  obtain ⟨n1, n2⟩ := nd
  unfold e0N
  show (if n1 = 1 ∧ n2 < i + 1 then some (leaf, n2) else none) = if (n1, n2) = (1, i) then some (leaf, i) else if n1 = 1 ∧ n2 < i then some (leaf, n2) else none
  by_cases h : (n1, n2) = (1, i)
  · rw [if_pos h]
    cases h
    exact if_pos ⟨rfl, Nat.lt_succ_self _⟩
  · rw [if_neg h]
    by_cases h1 : n1 = 1 ∧ n2 < i
    · rw [if_pos h1, if_pos ⟨h1.1, by omega⟩]
    · rw [if_neg h1, if_neg]
      rintro ⟨z1, z2⟩
      have : n2 = i := by
        by_cases q : n2 < i
        · exact absurd ⟨z1, q⟩ h1
        · omega
      exact h (by rw [z1, this])
/-- d[..] = v, the dict tracked last -/
theorem dput_go {F : Hp} {E : List (Addr × HO)} {d b : Addr} {kvs : List (List Key × V)} {n : Nat × Nat} {v : V} {z : L2.St} {Q : L2.St → SH → Prop} (hb : (b, HO.tup [.str (kdS n.1), .int (n.2 : Nat)]) ∈ E) (hl : kvs.length < sizeLine) (h : Q z ⟨F, E ++ [(d, .dT (putK kvs (kN n) v))]⟩) :
    ∃ (i : Nat) (kvs' : List (List Key × V)) (k : List Key), (SH.mk F (E ++ [(d, .dT kvs)])).G[i]? = some (d, .dT kvs') ∧ At ⟨F, E ++ [(d, .dT kvs)]⟩ b (.tup (k.map kV)) ∧ kvs'.length < sizeLine ∧ Q z (SH.put ⟨F, E ++ [(d, .dT kvs)]⟩ i d (.dT (putK kvs' k v))) := by
  refine ⟨E.length, kvs, kN n, at_mid, .inl (List.mem_iff_getElem?.mp (List.mem_append_left _ hb)), hl, ?_⟩
  show Q z ⟨F, (E ++ [(d, HO.dT kvs)]).set E.length (d, HO.dT (putK kvs (kN n) v))⟩
  rw [set_mid]
  exact h
end
section
variable {K : PySem.W.Frag} {a : Ads}
open TR
theorem out_small {b : TR} (hb : nS b ≤ 64) : 1 ≤ (outT b).length ∧ (outT b).length ≤ 100 ∧ smI (outT b) ∧ 1 ≤ (shut (outT b)).length ∧ (shut (outT b)).length ≤ 100 ∧ smI (shut (outT b)) := by
  obtain ⟨h1, h2⟩ := out_len b
  have h3 : widT b + 1 ≤ nS b := by
    have : ∀ b : TR, widT b + 1 ≤ nS b := by
      intro b
      induction b with
      | leaf => exact Nat.le_refl _
      | node l r il ir =>
        have p1 := isLf_le l
        have p2 := isLf_le r
        show widT l + widT r + max (isLf l) (isLf r) + 1 ≤ nS l + nS r
        omega
    exact this b
  have h4 := isLf_le b
  exact ⟨(good_out b).len, by omega, small_out hb, shut_pos _, by omega, small_shut (good_out b) (sum_out b) hb⟩
/-- all slots' lists are laid -/
theorem from_slots {H : Hp} {tv : V} {b : TR} {fv : V} {d : Addr} {D : sEnds} {x3 x4 x5 x6 x7 x8 : Option V} (hT : TreeAt K a H tv b)
    (k : ∀ (E : List (Addr × HO)) (kvs : List (List Key × V)) (x3 : Option V), RepD K H E kvs (e0N (nS b)) (fun t _ => outT t) → kvs.length ≤ nS b → D.nx [some tv, some fv, some (.ref d), x3, x4, x5, x6, x7, x8] ⟨H, E ++ [(d, .dT kvs)]⟩) :
    (sFor (siR1 (sCons (sLenO a.Tree (q_Tree_len K a) (sVar 0)) (sNil))) (sgName 3) (sDPutT (sVar 2) (sTup (sCons (sC (.str ("slot" : Str))) (sCons (sVar 3) (sNil)))) (sLst (sCons (sC (.int 1)) (sNil))))) D [some tv, some fv, some (.ref d), x3, x4, x5, x6, x7, x8] ⟨H, [(d, .dT [])]⟩ := by
  have hsm := hT.sm
  refine use_len (W := D.ex) (i := 0) (σ := [some tv, some fv, some (.ref d), x3, x4, x5, x6, x7, x8]) (fun H' o => hT.ext (own_F o)) hT ?_ (by rfl)
  refine ⟨rngN (by omega), ?_⟩
  refine ⟨fun i σ S => ∃ (E : List (Addr × HO)) (kvs : List (List Key × V)) (x3 : Option V), RepD K H E kvs (e0N i) (fun t _ => outT t) ∧ kvs.length ≤ i ∧ σ = [some tv, some fv, some (.ref d), x3, x4, x5, x6, x7, x8] ∧ S = ⟨H, E ++ [(d, .dT kvs)]⟩,
    ⟨[], [], x3, ⟨fun nd t o q => ?_⟩, Nat.le_refl _, rfl, rfl⟩, fun _ _ _ _ _ => trivial, ?_, ?_⟩
  · unfold e0N at q
    rw [if_neg fun z => Nat.not_lt_zero _ z.2] at q
    cases q
  · rintro i σ S hi ⟨E, kvs, x3, hr, hl, rfl, rfl⟩
    have hi : i < ((nS b : Nat) : Int).toNat := hi
    rw [Int.toNat_natCast] at hi
    refine yldR_go ?_
    rw [Int.zero_add]
    refine nm_go ?_
    refine lst_go (cons_go (c_go (nil_go ⟨show 1 ≤ sizeLine by decide, fun lp => ?_⟩)))
    refine var_go (v := .ref d) (by rfl) ?_
    refine tup_go (cons_go (c_go (cons_go (var_go (v := .int (i : Nat)) (by rfl) (nil_go ⟨show 2 ≤ sizeLine by decide, fun kt => ?_⟩)))))
    refine dput_go (E := (kt, .tup [.str "slot", .int (i : Nat)]) :: (lp, .lst [.int 1]) :: E) (n := (1, i)) (.head _) (Nat.lt_of_le_of_lt hl (Nat.lt_of_lt_of_le hi (Nat.le_trans hsm (by decide)))) ?_
    refine ⟨_, SLe.refl _, (kt, .tup [.str "slot", .int (i : Nat)]) :: (lp, .lst [.int 1]) :: E, putK kvs (kN (1, i)) (.ref lp), some (.int (i : Nat)), ?_, ?_, rfl, rfl⟩
    · exact (hr.mono (Ext.refl _) fun z hz => .tail _ (.tail _ hz)).put (t := leaf) (o := i) (.inl rfl) (e0_put i) (.inl (.tail _ (.head _)))
    · have := length_putK kvs (kN (1, i)) (.ref lp)
      omega
  · rintro σ S ⟨E, kvs, x3, hr, hl, rfl, rfl⟩
    have en : (itR 0 ((nS b : Nat) : Int).toNat).n = nS b := Int.toNat_natCast _
    rw [en] at hr hl
    exact k E kvs x3 hr hl
end
section
variable {K : PySem.W.Frag} {a : Ads}
open TR
/-- the last call: what it returns is new -/
theorem new_hidN {F : Hp} {G : List (Addr × HO)} {H H' : Hp} {v : V} {l : List Int} (o : Own ⟨F, G⟩ H) (e : Ext H H') (h : newI l H v H') : ∃ F2 p, Own ⟨F2, G⟩ H' ∧ Ext F F2 ∧ v = .ref p ∧ F p = none ∧ F2 p = some (.lst (iV l)) := by
  obtain ⟨p, rfl, h1, h2⟩ := h
  obtain ⟨o2, e2⟩ := own_hidA o e
  refine ⟨_, p, o2, e2, rfl, ?_, hid_new o h1 h2⟩
  cases q : F p with
  | none => rfl
  | some u =>
    have := o.fr _ _ q
    rw [h1] at this
    cases this
theorem use_shutN {W : sWX} {σ : L2.St} {F : Hp} {G : List (Addr × HO)} {Q : V → SH → Prop} {vs : List V} (p : Addr) (l : List Int) (e : vs = [.ref p]) (hp : sL K ⟨F, G⟩ p (iV l)) (hl : 1 ≤ l.length ∧ l.length ≤ 100)
    (k : ∀ F2 p', Ext F F2 → F p' = none → F2 p' = some (.lst (iV (shut l))) → Q (.ref p') ⟨F2, G⟩) : rC (ct_shut K) W vs σ ⟨F, G⟩ Q :=
  ⟨(.ref p, l), fun H o => ⟨e, ⟨p, rfl, o.l hp⟩, hl⟩, fun H v H' o r => by
    obtain ⟨F2, p', o2, e2, rfl, h1, h2⟩ := new_hidN o r.2 r.1
    exact ⟨_, o2, k F2 p' e2 h1 h2⟩, fun _ _ _ _ _ q => q.elim⟩
theorem none_of {H F : Hp} {p : Addr} (e : Ext H F) (h : F p = none) : H p = none := by
  cases q : H p with
  | none => rfl
  | some u =>
    have := e _ _ q
    rw [h] at this
    cases this
theorem wid_lt : ∀ b : TR, widT b + 1 ≤ nS b
  | leaf => Nat.le_refl _
  | node l r => by
    have p1 := isLf_le l
    have p2 := isLf_le r
    have h1 := wid_lt l
    have h2 := wid_lt r
    show widT l + widT r + max (isLf l) (isLf r) + 1 ≤ nS l + nS r
    omega
theorem allV_get {α : Type} {R : V → α → Prop} : ∀ {vs : List V} {xs : List α}, allV R vs xs → ∀ {i : Nat} {x : α}, xs[i]? = some x → ∃ v, vs[i]? = some v ∧ R v x
  | [], [], _, i, v, e => by cases e
  | v0 :: vs, x0 :: xs, h, 0, v, e => by
    cases e
    exact ⟨v0, rfl, h.1⟩
  | v0 :: vs, x0 :: xs, h, i + 1, v, e => allV_get h.2 (i := i) e
  | [], _ :: _, h, _, _, _ => h.elim
  | _ :: _, [], h, _, _, _ => h.elim
theorem dget_go {F : Hp} {E : List (Addr × HO)} {kvs : List (List Key × V)} {d q : Addr} {n : Nat × Nat} {v : V} {Q : V → SH → Prop} (hq : F q = some (.tup [.str (kdS n.1), .int (n.2 : Nat)])) (hv : valV kvs (kN n) = some v) (h : Q v ⟨F, E ++ [(d, .dT kvs)]⟩) :
    ∃ kvs' k v', At ⟨F, E ++ [(d, .dT kvs)]⟩ d (.dT kvs') ∧ At ⟨F, E ++ [(d, .dT kvs)]⟩ q (.tup (k.map kV)) ∧ valV kvs' k = some v' ∧ Q v' ⟨F, E ++ [(d, .dT kvs)]⟩ :=
  ⟨kvs, kN n, v, .inl ⟨E.length, at_mid⟩, .inr hq, hv, h⟩
theorem vc_spread_from {vs : List V} {H : Hp} (g : V × TR × V × TY) (h : (ct_spread K a resFr).pre g vs H) : ∃ S, Own S H ∧ r_spread_from K a (endsC (ct_spread K a resFr) g H) (start N_spread_from vs) S := by
  obtain ⟨tv, b, fv, ft⟩ := g
  obtain ⟨e0, hT0, hf, hs⟩ := h
  have e0 : vs = [tv, fv] := e0
  subst e0
  have hT : TreeAt K a H tv b := hT0
  clear hT0
  have hsm : nS b ≤ 64 := hT.sm
  refine ⟨⟨H, []⟩, Own.base H, ?_⟩
  refine seq_go (drop_go (calld_go (cons_go (var_go (v := tv) (by rfl) (cons_go (var_go (v := fv) (by rfl) (nil_go ?_)))))))
  refine use_flags false tv b fv ft (by rfl) (fun H' o => hT.ext (own_F o)) (fun H' o => hf.ex (own_F o)) hs (fun hok => ?_) fun hbad d => ?_
  · try dsimp only
    refine seq_go (set_go ?_)
    intro d
    try dsimp only
    refine seq_go (from_slots (x3 := none) hT fun E0 kvs0 x3 hr0 hl0 => ?_)
    try dsimp only
    obtain ⟨p2, dx2, fs2, tl, tr, wl, wr, po, ro, L, R, rfl, m2, m3, m4, m5, m6, m7, m8, m9, m10, m11, m12, m13, m14⟩ := hT.more
    obtain ⟨t, xs, rfl, ht, hxs⟩ := m10.tupI
    have hxs : xs = nV ((rowsB b 0 0).map (·.1)) := by
      refine MDs.ints (K := K) (F := H) (G := []) ?_
      rw [List.map_map]
      exact hxs
    have ht : SqT K H t xs := (show sU K ⟨H, []⟩ t xs from ht.s (fun _ z => nomatch z)).elim (fun ⟨i, hi⟩ => by cases hi) id
    have lx : xs.length = (rowsB b 0 0).length := by rw [hxs, nV_len, List.length_map]
    have lr := rowsB_len b 0 0
    obtain ⟨eE, run, root⟩ := run_all hsm
    refine seq_go ?_
    refine var_go (v := .ref p2) (by rfl) ?_
    refine ⟨dx2, fs2, t, xs, .inr m2, m13, m9, .inr ht, ?_⟩
    refine ⟨fun i σ S => ∃ (F : Hp) (E : List (Addr × HO)) (kvs : List (List Key × V)) (e : NEnv) (x4 x5 x6 x7 x8 : Option V), Ext H F ∧ runE ((rowsB b 0 0).take i) (e0N (nS b)) = some e ∧ RepD K F E kvs e (fun t _ => outT t) ∧ kvs.length ≤ nS b + i ∧
      σ = [some (.ref p2), some fv, some (.ref d), x3, x4, x5, x6, x7, x8] ∧ S = ⟨F, E ++ [(d, .dT kvs)]⟩, ⟨H, E0, kvs0, _, none, none, none, none, none, Ext.refl _, rfl, hr0, hl0, rfl, rfl⟩, ?_, ?_, ?_⟩
    · rintro i σ S _ ⟨F, E, kvs, e, x4, x5, x6, x7, x8, ex, _, _, _, rfl, rfl⟩
      exact .inr (SqT.up ex ht)
    · rintro i x σ S hx ⟨F, E, kvs, e, x4, x5, x6, x7, x8, ex, hrun, hr, hl, rfl, rfl⟩
      obtain ⟨row, hrow, rfl⟩ : ∃ row, (rowsB b 0 0)[i]? = some row ∧ x = .int (row.1 : Nat) := by
        rw [hxs] at hx
        unfold nV at hx
        rw [List.getElem?_map, List.getElem?_map] at hx
        cases q : (rowsB b 0 0)[i]? with
        | none => rw [q] at hx; cases hx
        | some row => rw [q] at hx; cases hx; exact ⟨row, rfl, rfl⟩
      have hi : i < (rowsB b 0 0).length := (List.getElem?_eq_some_iff.mp hrow).1
      obtain ⟨e', hst, hrun'⟩ := TR.run_step run hrun hrow
      obtain ⟨l, r, o, n1, n2, n3, n4, n5⟩ := stepE_some hst
      obtain ⟨_, pl, vl, el⟩ := hr.at_ _ _ _ n1
      obtain ⟨_, pr, vr, er⟩ := hr.at_ _ _ _ n2
      have n4 : nS l + nS r ≤ 64 := n4
      have q1 := nS_pos l
      have q2 := nS_pos r
      obtain ⟨l1, l2, l3, l4, l5, l6⟩ := out_small (b := l) (by omega)
      obtain ⟨r1, r2, r3, r4, r5, r6⟩ := out_small (b := r) (by omega)
      obtain ⟨hL, hR⟩ := m14 row (List.mem_of_getElem? hrow)
      obtain ⟨vlf, wl1, ql, rfl, wl2⟩ := allV_get m5 hL
      obtain ⟨vrt, wr1, qr, rfl, wr2⟩ := allV_get m8 hR
      refine nm_go ?_
      refine seq_go ?_
      refine cons_go (var_go (v := .ref d) (by rfl) (op_go (var_go (v := .ref p2) (by rfl) ⟨dx2, fs2, .ref tl, .inr (ex _ _ m2), m3, var_go (v := .int (row.1 : Nat)) (by rfl) ⟨wl, .ref ql, .inr (.inr (SqT.of (ex _ _ m4))), atI_at wl1, ?_⟩⟩)))
      try dsimp only
      refine ⟨kvs, kN row.2.1, .ref pl, .inl ⟨E.length, at_mid⟩, .inr (ex _ _ wl2), vl, ?_⟩
      refine cons_go (var_go (v := .ref d) (by rfl) (op_go (var_go (v := .ref p2) (by rfl) ⟨dx2, fs2, .ref tr, .inr (ex _ _ m2), m6, var_go (v := .int (row.1 : Nat)) (by rfl) ⟨wr, .ref qr, .inr (.inr (SqT.of (ex _ _ m7))), atI_at wr1, ?_⟩⟩)))
      try dsimp only
      refine ⟨kvs, kN row.2.2.1, .ref pr, .inl ⟨E.length, at_mid⟩, .inr (ex _ _ wr2), vr, nil_go ?_⟩
      try dsimp only
      refine seq_go (set_go (calld_go (cons_go (var_go (v := .ref pl) (by rfl) (cons_go (calld_go (cons_go (var_go (v := .ref pr) (by rfl) (nil_go ?_)))))))))
      refine use_shut pr (outT r) (by rfl) er.s ⟨r1, r2⟩ fun F2 p3 e2 h3 => nil_go ?_
      refine use_two pl p3 (outT l) (shut (outT r)) (by rfl) (el.mono e2 (List.Subset.refl _)).s (.inr h3) l3 r6 ⟨l1, r4, l2, r5⟩ fun F3 p4 e3 h4 => ?_
      try dsimp only
      refine seq_go (set_go (calld_go (cons_go (var_go (v := .ref pr) (by rfl) (cons_go (calld_go (cons_go (var_go (v := .ref pl) (by rfl) (nil_go ?_)))))))))
      refine use_shut pl (outT l) (by rfl) (el.mono (e2.trans e3) (List.Subset.refl _)).s ⟨l1, l2⟩ fun F4 p5 e4 h5 => nil_go ?_
      refine use_two pr p5 (outT r) (shut (outT l)) (by rfl) (er.mono ((e2.trans e3).trans e4) (List.Subset.refl _)).s (.inr h5) r3 l6 ⟨r1, l4, r2, l5⟩ fun F5 p6 e5 h6 => ?_
      try dsimp only
      refine calld_go (cons_go (var_go (v := .ref p4) (by rfl) (cons_go (var_go (v := .ref p6) (by rfl) (nil_go ?_)))))
      have g1 := good_pprod (good_out l) (good_shut (good_out r))
      have g2 := good_pprod (good_out r) (good_shut (good_out l))
      have s1 : (pprod (outT l) (shut (outT r))).sum ≤ 2 ^ (nS (node l r) - 1) ∧ (pprod (outT r) (shut (outT l))).sum ≤ 2 ^ (nS (node l r) - 1) := by
        rw [pprod_sum _ _ l1 r4, pprod_sum _ _ r1 l4, shut_sum _ r1, shut_sum _ l1, sum_out, sum_out, ← pow_nS l r, Int.mul_comm (2 ^ (nS r - 1)) (2 ^ (nS l - 1))]
        have : (0 : Int) ≤ 2 ^ (nS l - 1) * 2 ^ (nS r - 1) := Int.mul_nonneg (Int.pow_nonneg (by decide)) (Int.pow_nonneg (by decide))
        omega
      have y1 := (out_len l).1
      have y2 := (out_len l).2
      have y3 := (out_len r).1
      have y4 := (out_len r).2
      have y5 := wid_lt l
      have y6 := wid_lt r
      have y7 := isLf_le l
      have y8 := isLf_le r
      refine use_two p4 p6 _ _ (by rfl) (.inr (SqL.up (e4.trans e5) h4)) (.inr h6) (small_of g1 s1.1 n4) (small_of g2 s1.2 n4) ⟨g1.len, g2.len, by rw [pprod_len, y1, y4]; omega, by rw [pprod_len, y3, y2]; omega⟩ fun F6 p7 e6 h7 => ?_
      refine var_go (v := .ref d) (by rfl) ?_
      refine tup_go (cons_go (c_go (cons_go (var_go (v := .int (row.1 : Nat)) (by rfl) (nil_go ⟨show 2 ≤ sizeLine by decide, fun kt => ?_⟩)))))
      refine dput_go (E := (kt, .tup [.str "fork", .int (row.1 : Nat)]) :: E) (n := (2, row.1)) (.head _) (Nat.lt_of_le_of_lt hl (Nat.lt_of_le_of_lt (show nS b + i ≤ 128 by omega) (by decide))) ?_
      have eF : Ext F F6 := (((e2.trans e3).trans e4).trans e5).trans e6
      refine ⟨_, SLe.refl _, F6, (kt, .tup [.str "fork", .int (row.1 : Nat)]) :: E, putK kvs (kN (2, row.1)) (.ref p7), e', _, _, _, _, _, ex.trans eF, hrun', ?_, ?_, rfl, rfl⟩
      · exact (hr.mono eF fun z hz => .tail _ hz).put (t := node l r) (o := o) (.inr rfl) n5 (.inr h7)
      · have := length_putK kvs (kN (2, row.1)) (.ref p7)
        omega
    · rintro σ S ⟨F, E, kvs, e, x4, x5, x6, x7, x8, ex, hrun, hr, hl, rfl, rfl⟩
      rw [lx, List.take_length, run] at hrun
      cases hrun
      obtain ⟨_, pp, vp, ep⟩ := hr.at_ _ _ _ root
      obtain ⟨o1, o2, o3, o4, o5, o6⟩ := out_small hsm
      obtain ⟨qo, rfl, ho⟩ := m12
      try dsimp only
      refine ret_go (calld_go (cons_go ?_))
      refine var_go (i := 2) (v := .ref d) (by rfl) ?_
      refine use_top (i := 0) (p := p2) (dx := dx2) (fs := fs2) (ro := .ref qo) (σ := [some (.ref p2), some fv, some (.ref d), x3, x4, x5, x6, x7, x8]) (by rfl) (ex _ _ m2) m11 ?_
      refine ⟨kvs, kN (ndB b 0), .ref pp, .inl ⟨E.length, at_mid⟩, .inr (ex _ _ ho), vp, nil_go ?_⟩
      refine use_shutN pp (outT b) (by rfl) ep.s ⟨o1, o2⟩ fun F2 p3 e2 h3 h4 => ?_
      intro H' o'
      exact ⟨hok, fun fl _ => ⟨p3, rfl, none_of ex h3, own_F o' _ _ h4⟩, (ex.trans e2).trans (own_F o')⟩
  · intro H' o'
    exact ⟨hbad, rfl, d, rfl, (o'.gs (d, .xd [("flags", fv)]) (.head _)).2, own_F o', (o'.gs (d, .xd [("flags", fv)]) (.head _)).1⟩
end
section
variable {K : PySem.W.Frag} {a : Ads}
open TR
theorem vc_l_same {vs : List V} {H : Hp} (g : V × V × List Int) (h : (ct_l_same K).pre g vs H) : ∃ S, Own S H ∧ r_l_same K a (endsC (ct_l_same K) g H) (start N_l_same vs) S := by
  obtain ⟨u, v, ns⟩ := g
  obtain ⟨rfl, ⟨p, e1, hp⟩, ⟨q, e2, hq⟩, hl⟩ := h
  have e1 : u = .ref p := e1
  have e2 : v = .ref q := e2
  subst e1
  subst e2
  have hp : SqL K H p (iV ns) := hp
  have hq : SqL K H q (iV ns) := hq
  have hl : ns.length ≤ 100 := hl
  refine ⟨⟨H, []⟩, Own.base H, ?_⟩
  refine ⟨.list, .inl ⟨rfl, iV ns, .inr hp⟩, ?_⟩
  refine ⟨iV ns, .inl (.inr hp), ?_⟩
  refine ⟨iV ns, .inl (.inr hq), ?_⟩
  refine ne_i (c := false) (decide_eq_true rfl) ?_
  refine ⟨iV ns, .inl (.inr hq), ?_⟩
  rw [iV_len]
  refine ⟨by unfold rngOk; omega, ?_⟩
  refine ⟨fun i σ S => ∃ x2, σ = [some (.ref p), some (.ref q), x2] ∧ S = ⟨H, []⟩, ⟨none, rfl, rfl⟩, fun _ _ _ _ _ => trivial, ?_, ?_⟩
  · rintro i σ S hi ⟨x2, rfl, rfl⟩
    have hi : i < ((ns.length : Nat) : Int).toNat := hi
    rw [Int.toNat_natCast] at hi
    refine yldR_go ?_
    rw [Int.zero_add]
    refine nm_go ?_
    obtain ⟨n, hn⟩ : ∃ n, ns[i]? = some n := ⟨_, List.getElem?_eq_getElem hi⟩
    refine ⟨iV ns, _, .inl (.inr hp), atI_at (iVat hn), ?_⟩
    refine use_lisI n (by rfl) ?_
    refine ⟨iV ns, _, .inl (.inr hp), atI_at (iVat hn), ?_⟩
    refine ⟨iV ns, _, .inl (.inr hq), atI_at (iVat hn), ?_⟩
    refine ne_i (c := false) (decide_eq_true rfl) ?_
    exact ⟨_, SLe.refl _, _, rfl, rfl⟩
  · rintro σ S ⟨x2, rfl, rfl⟩
    exact fun H' o' => ⟨rfl, fun c u e => o'.fr c u e⟩
theorem use_same {W : sWX} {σ : L2.St} {S : SH} {Q : V → SH → Prop} {vs : List V} (p q : Addr) (l : List Int) (e : vs = [.ref p, .ref q]) (hp : sL K S p (iV l)) (hq : sL K S q (iV l)) (hl : l.length ≤ 100) (h : Q (.bl true) S) : rC (ct_l_same K) W vs σ S Q :=
  ⟨(.ref p, .ref q, l), fun H o => ⟨e, ⟨p, rfl, o.l hp⟩, ⟨q, rfl, o.l hq⟩, hl⟩, fun H v H' o r => ⟨S, o.ex r.2, by rw [r.1]; exact h⟩, fun _ _ _ _ _ q => q.elim⟩
end
namespace TR
def slotC (r : Row) : Bool := r.2.1.1 == 1 || r.2.2.1.1 == 1
theorem nd_lf (b : TR) (o : Nat) : ((ndB b o).1 == 1) = decide (isLf b = 1) := by
  cases b <;> rfl
theorem wid_rows : ∀ (b : TR) (o p : Nat), (rowsB b o p).countP slotC = widT b
  | leaf, _, _ => rfl
  | node l r, o, p => by
    have h1 := wid_rows l o (p + 1)
    have h2 := wid_rows r (o + nS l) (p + 1 + (txt l).length)
    have q1 := isLf_le l
    have q2 := isLf_le r
    show (rowsB l o (p + 1) ++ (rowsB r (o + nS l) (p + 1 + (txt l).length) ++ [_])).countP slotC = widT l + widT r + max (isLf l) (isLf r)
    rw [List.countP_append, List.countP_append, h1, h2, List.countP_singleton]
    have e : slotC (o + nS l - 1, ndB l o, ndB r (o + nS l), (o, o + nS l + nS r - 1), (p, p + (txt (node l r)).length)) = (decide (isLf l = 1) || decide (isLf r = 1)) := by
      show ((ndB l o).1 == 1 || (ndB r (o + nS l)).1 == 1) = _
      rw [nd_lf, nd_lf]
    rw [e]
    by_cases a1 : isLf l = 1 <;> by_cases a2 : isLf r = 1 <;> simp [a1, a2] <;> omega
/-- counted fork by fork -/
theorem wid_forks {b : TR} {q : Nat → Bool} (hq : ∀ row ∈ rowsB b 0 0, q row.1 = slotC row) : (List.range (nS b - 1)).countP q = widT b := by
  have hp : ((rowsB b 0 0).map Prod.fst).Perm (List.range (nS b - 1)) := by
    rw [List.range_eq_range']
    exact rows_keys b 0 0
  rw [← hp.countP_eq, List.countP_map, ← wid_rows b 0 0]
  refine List.countP_congr fun row hr => ?_
  show q row.1 = true ↔ _
  rw [hq row hr]
end TR
section
variable {K : PySem.W.Frag} {a : Ads}
open TR
theorem kd_in : ∀ x ∈ [1, 2], ∀ y ∈ [1, 2], inV (.str "slot") [.str (kdS x), .str (kdS y)] = (x == 1 || y == 1) := by decide +kernel
theorem nd_12 (b : TR) (o : Nat) : (ndB b o).1 ∈ [1, 2] := by
  cases b with
  | leaf => exact .head _
  | node l r => exact .tail _ (.head _)
theorem rows_12 : ∀ (b : TR) (o p : Nat), ∀ row ∈ rowsB b o p, row.2.1.1 ∈ [1, 2] ∧ row.2.2.1.1 ∈ [1, 2]
  | leaf, _, _, row, h => nomatch h
  | node l r, o, p, row, h => by
    rcases List.mem_append.mp h with h | h
    · exact rows_12 l _ _ row h
    · rcases List.mem_append.mp h with h | h
      · exact rows_12 r _ _ row h
      · rw [List.mem_singleton.mp h]
        exact ⟨nd_12 l o, nd_12 r _⟩
theorem row_of {b : TR} {f : Nat} (h : f + 1 < nS b) : ∃ row ∈ rowsB b 0 0, row.1 = f := by
  have : f ∈ (rowsB b 0 0).map Prod.fst := (rows_keys b 0 0).mem_iff.mpr (List.mem_range'_1.mpr ⟨Nat.zero_le _, by omega⟩)
  obtain ⟨row, hr, e⟩ := List.mem_map.mp this
  exact ⟨row, hr, e⟩
theorem vc_greatest_distance {vs : List V} {H : Hp} (g : V × TR) (h : (ct_tree_n K a widT).pre g vs H) : ∃ S, Own S H ∧ r_greatest_distance K a (endsC (ct_tree_n K a widT) g H) (start N_greatest_distance vs) S := by
  obtain ⟨tv, b⟩ := g
  obtain ⟨e0, hT0⟩ := h
  have e0 : vs = [tv] := e0
  subst e0
  have hT : TreeAt K a H tv b := hT0
  have hsm : nS b ≤ 64 := hT.sm
  obtain ⟨p2, dx2, fs2, tl, tr, wl, wr, po, ro, L, R, rfl, m2, m3, m4, m5, m6, m7, m8, m9, m10, m11, m12, m13, m14⟩ := hT.more
  refine ⟨⟨H, []⟩, Own.base H, ?_⟩
  refine ret_go (call1_go (cons_go ?_))
  refine use_forks (W := (endsC (ct_tree_n K a widT) (.ref p2, b) H).ex) (i := 0) (σ := [some (.ref p2), none]) (fun H' o => hT.ext (own_F o)) hT ?_ (by rfl)
  refine ⟨rngN (by omega), fun D => ?_⟩
  let q : Nat → Bool := fun f => (L[f]?.getD (0, 0)).1 == 1 || (R[f]?.getD (0, 0)).1 == 1
  have hq : ∀ row ∈ rowsB b 0 0, q row.1 = slotC row := fun row hr => by
    obtain ⟨h1, h2⟩ := m14 row hr
    show ((L[row.1]?.getD (0, 0)).1 == 1 || (R[row.1]?.getD (0, 0)).1 == 1) = _
    rw [h1, h2]
    rfl
  refine ⟨fun i S => ∃ E : List (Addr × HO), S = ⟨H, E ++ [(D, .lst (((List.range i).filter q).map fun n => V.int (n : Nat)))]⟩, ⟨[], rfl⟩, fun _ _ _ _ => trivial, ?_, ?_⟩
  · rintro i S hi ⟨E, rfl⟩
    have hi : i < (((nS b - 1 : Nat) : Int)).toNat := hi
    rw [Int.toNat_natCast] at hi
    obtain ⟨row, hr, hrow⟩ := row_of (b := b) (f := i) (by omega)
    obtain ⟨hL, hR⟩ := m14 row hr
    rw [hrow] at hL hR
    obtain ⟨v1, wl1, ql, rfl, wl2⟩ := allV_get m5 hL
    obtain ⟨v2, wr1, qr, rfl, wr2⟩ := allV_get m8 hR
    obtain ⟨k1, k2⟩ := rows_12 b 0 0 row hr
    have eq : q i = (row.2.1.1 == 1 || row.2.2.1.1 == 1) := by
      rw [← hrow, hq row hr]
      rfl
    refine yldR_go ?_
    rw [Int.zero_add]
    refine nm_go ⟨rfl, ?_⟩
    refine tst_go (op_go (c_go (tup_go (cons_go (op_go (op_go (var_go (v := .ref p2) (by rfl) ⟨dx2, fs2, .ref tl, .inr m2, m3, var_go (v := .int (i : Nat)) (by rfl) ⟨wl, .ref ql, .inr (.inr (SqT.of m4)), atI_at wl1, c_go ⟨_, .str (kdS row.2.1.1), .inr (.inr (SqT.of wl2)), atI_at (i := 0) rfl, ?_⟩⟩⟩)))))))
    refine cons_go (op_go (op_go (var_go (v := .ref p2) (by rfl) ⟨dx2, fs2, .ref tr, .inr m2, m6, var_go (v := .int (i : Nat)) (by rfl) ⟨wr, .ref qr, .inr (.inr (SqT.of m7)), atI_at wr1, c_go ⟨_, .str (kdS row.2.2.1.1), .inr (.inr (SqT.of wr2)), atI_at (i := 0) rfl, nil_go ⟨show 2 ≤ sizeLine by decide, fun kt => ?_⟩⟩⟩⟩)))
    refine ⟨[.str (kdS row.2.1.1), .str (kdS row.2.2.1.1)], .inr (.inl ⟨0, rfl⟩), rfl, rfl, ?_⟩
    rw [if_neg Bool.false_ne_true, (kd_in _ k1 _ k2).trans eq.symm]
    cases hc : q i with
    | true =>
      refine var_go (v := .int (i : Nat)) (by rfl) ?_
      refine ⟨((kt, HO.tup [.str (kdS row.2.1.1), .str (kdS row.2.2.1.1)]) :: E).length, _, at_mid, ?_, ⟨_, SLe.refl _, (kt, HO.tup [.str (kdS row.2.1.1), .str (kdS row.2.2.1.1)]) :: E, ?_⟩⟩
      · rw [List.length_map]
        exact Nat.lt_of_le_of_lt (List.length_filter_le _ _) (by rw [List.length_range]; exact Nat.lt_of_lt_of_le hi (Nat.le_trans (Nat.le_trans (Nat.sub_le _ _) hsm) (by decide)))
      · show SH.mk H ((((kt, HO.tup [.str (kdS row.2.1.1), .str (kdS row.2.2.1.1)]) :: E) ++ [(D, HO.lst _)]).set ((kt, HO.tup [.str (kdS row.2.1.1), .str (kdS row.2.2.1.1)]) :: E).length (D, HO.lst _)) = _
        rw [set_mid, List.range_succ, List.filter_append, List.map_append]
        simp [hc]
    | false =>
      refine ⟨_, SLe.refl _, (kt, HO.tup [.str (kdS row.2.1.1), .str (kdS row.2.2.1.1)]) :: E, ?_⟩
      rw [List.range_succ, List.filter_append, List.map_append]
      simp [hc]
  · rintro S ⟨E, rfl⟩
    have en : (itR 0 (((nS b - 1 : Nat) : Int)).toNat).n = nS b - 1 := Int.toNat_natCast _
    rw [en]
    refine nil_go ⟨_, .inl (.inl ⟨E.length, at_mid⟩), ?_⟩
    intro H' o'
    refine ⟨?_, own_F o'⟩
    rw [List.length_map, ← List.countP_eq_length_filter, wid_forks hq]
end
section
variable {K : PySem.W.Frag} {a : Ads}
open TR
def eacV (k : Nat) : List V := (eacL k).map fun s => V.str (pS s)
theorem each_lc {H : Hp} {E : List (Addr × HO)} {q : Addr} {i : Nat} {c : Nat} {z : V} {W : sWX} {σ : L2.St} {x2 : Option V} {x3 : Option V} {Q : V → SH → Prop} (hσ : σ = [some z, some (.ref q), x2, x3]) (hi : i ≤ 5) (hq : (q, HO.lst (eacV i)) ∈ E) (hk : ∀ D, Q (.ref D) ⟨H, (D, .lst ((eacL i).map fun s => .str (pS (s ++ [c])))) :: E⟩) :
    sLc (siSeq K (sVar 1)) (sgName 3) (sYes) (sOp oAdd (sVar 3) (sC (.str (pS [c])))) [3] W σ ⟨H, E⟩ Q := by
  subst hσ
  have hL : ∀ G : List (Addr × HO), E ⊆ G → sL K ⟨H, G⟩ q (eacV i) := fun G hG => .inl (List.mem_iff_getElem?.mp (hG hq))
  refine .inl ⟨eacV i, hL E (List.Subset.refl _), fun D => ?_⟩
  refine ⟨fun j S => S = ⟨H, (D, .lst (((eacL i).take j).map fun s => .str (pS (s ++ [c])))) :: E⟩, rfl, fun j S _ e => by subst e; exact hL _ fun w hw => .tail _ hw, ?_, ?_⟩
  · rintro j S hj rfl v hv
    have hj : j < (eacV i).length := hj
    have hj2 : j < (eacL i).length := by unfold eacV at hj; rw [List.length_map] at hj; exact hj
    obtain ⟨s, hs⟩ : ∃ s, (eacL i)[j]? = some s := ⟨_, List.getElem?_eq_getElem hj2⟩
    unfold eacV at hv
    rw [List.getElem?_map, hs] at hv
    cases hv
    have hl := (eac_flt i s (List.mem_of_getElem? hs)).1
    refine ⟨rfl, ?_⟩
    refine op_go (var_go (v := .str (pS s)) (by rfl) (c_go (add_s (x := s) (y := [c]) (by rw [hl]; show i + 1 ≤ 200; omega) ?_)))
    refine ⟨0, _, rfl, ?_, ⟨_, SLe.refl _, ?_⟩⟩
    · rw [List.length_map, List.length_take, eac_len]
      have : 2 ^ i ≤ 2 ^ 5 := Nat.pow_le_pow_right (by decide) hi
      exact Nat.lt_of_le_of_lt (Nat.le_trans (Nat.min_le_right _ _) this) (by decide)
    · show SH.mk H ((D, HO.lst (((eacL i).take j).map (fun s => .str (pS (s ++ [c]))) ++ [.str (pS (s ++ [c]))])) :: E) = _
      rw [List.take_add_one, hs]
      simp
  · rintro S rfl
    have en : (itL K q (eacV i)).n = (eacL i).length := List.length_map _
    rw [en, List.take_length]
    exact hk D
theorem vc_l_each {vs : List V} {H : Hp} (k : Nat) (h : (ct_l_each K).pre k vs H) : ∃ S, Own S H ∧ r_l_each K a (endsC (ct_l_each K) k H) (start N_l_each vs) S := by
  obtain ⟨e0, hk⟩ := h
  have e0 : vs = [.int (k : Nat)] := e0
  subst e0
  refine ⟨⟨H, []⟩, Own.base H, ?_⟩
  refine seq_go (set_go (lst_go (cons_go (c_go (nil_go ⟨show 1 ≤ sizeLine by decide, fun q0 => ?_⟩)))))
  try dsimp only
  refine seq_go ?_
  refine ⟨rngN (by omega), ?_⟩
  refine ⟨fun i σ S => ∃ (E : List (Addr × HO)) (q : Addr) (x2 x3 : Option V), (q, HO.lst (eacV i)) ∈ E ∧ σ = [some (.int (k : Nat)), some (.ref q), x2, x3] ∧ S = ⟨H, E⟩, ⟨_, q0, none, none, .head _, rfl, rfl⟩, fun _ _ _ _ _ => trivial, ?_, ?_⟩
  · rintro i σ S hi ⟨E, q, x2, x3, hq, rfl, rfl⟩
    have hi : i < ((k : Nat) : Int).toNat := hi
    rw [Int.toNat_natCast] at hi
    have hl : (eacL i).length ≤ 32 := by
      rw [eac_len]
      exact Nat.le_trans (Nat.pow_le_pow_right (by decide) (show i ≤ 5 by omega)) (by decide)
    refine yldR_go ?_
    rw [Int.zero_add]
    refine nm_go ?_
    refine set_go (op_go ?_)
    refine each_lc (c := 76) (by rfl) (by omega) hq fun D1 => ?_
    refine each_lc (c := 82) (i := i) (by rfl) (by omega) (.tail _ hq) fun D2 => ?_
    refine ⟨_, _, .inl ⟨1, rfl⟩, .inl ⟨0, rfl⟩, ?_, fun r => ?_⟩
    · rw [List.length_map, List.length_map]
      exact Nat.le_trans (show (eacL i).length + (eacL i).length ≤ 64 by omega) (by decide)
    · refine ⟨_, SLe.refl _, _, r, _, _, ?_, rfl, rfl⟩
      have e : eacV (i + 1) = (eacL i).map (fun s => V.str (pS (s ++ [76]))) ++ (eacL i).map (fun s => V.str (pS (s ++ [82]))) := by
        unfold eacV
        show ((eacL i).map (· ++ [76]) ++ (eacL i).map (· ++ [82])).map _ = _
        rw [List.map_append, List.map_map, List.map_map]
        rfl
      rw [e]
      exact .head _
  · rintro σ S ⟨E, q, x2, x3, hq, rfl, rfl⟩
    have en : (itR 0 ((k : Nat) : Int).toNat).n = k := Int.toNat_natCast _
    rw [en] at hq
    try dsimp only
    refine ret_go (var_go (i := 1) (v := .ref q) (by rfl) ?_)
    intro H' o'
    exact ⟨⟨q, rfl, (o'.gs _ hq).2, (o'.gs _ hq).1⟩, own_F o'⟩
end
section
variable {K : PySem.W.Frag} {a : Ads}
open TR
/-! ### two dicts by nodes -/
theorem at_mid2 {E N : List (Addr × HO)} {x y : Addr × HO} : (E ++ x :: y :: N)[E.length + 1]? = some y := by
  rw [List.getElem?_append_right (Nat.le_succ _), show E.length + 1 - E.length = 1 by omega]
  rfl
theorem set_mid2 {E N : List (Addr × HO)} {x y z : Addr × HO} : (E ++ x :: y :: N).set (E.length + 1) z = E ++ x :: z :: N := by
  rw [List.set_append_right _ _ (Nat.le_succ _), show E.length + 1 - E.length = 1 by omega]
  rfl
theorem dputA_go {F : Hp} {E N : List (Addr × HO)} {d b : Addr} {kvs : List (List Key × V)} {n : Nat × Nat} {v : V} {z : L2.St} {Q : L2.St → SH → Prop} (hb : (b, HO.tup [.str (kdS n.1), .int (n.2 : Nat)]) ∈ E) (hl : kvs.length < sizeLine) (h : Q z ⟨F, E ++ (d, .dT (putK kvs (kN n) v)) :: N⟩) :
    ∃ (i : Nat) (kvs' : List (List Key × V)) (k : List Key), (SH.mk F (E ++ (d, .dT kvs) :: N)).G[i]? = some (d, .dT kvs') ∧ At ⟨F, E ++ (d, .dT kvs) :: N⟩ b (.tup (k.map kV)) ∧ kvs'.length < sizeLine ∧ Q z (SH.put ⟨F, E ++ (d, .dT kvs) :: N⟩ i d (.dT (putK kvs' k v))) := by
  refine ⟨E.length, kvs, kN n, at_mid, .inl (List.mem_iff_getElem?.mp (List.mem_append_left _ hb)), hl, ?_⟩
  show Q z ⟨F, (E ++ (d, HO.dT kvs) :: N).set E.length (d, HO.dT (putK kvs (kN n) v))⟩
  rw [set_mid]
  exact h
theorem dputB_go {F : Hp} {E N : List (Addr × HO)} {x : Addr × HO} {d b : Addr} {kvs : List (List Key × V)} {n : Nat × Nat} {v : V} {z : L2.St} {Q : L2.St → SH → Prop} (hb : (b, HO.tup [.str (kdS n.1), .int (n.2 : Nat)]) ∈ E) (hl : kvs.length < sizeLine) (h : Q z ⟨F, E ++ x :: (d, .dT (putK kvs (kN n) v)) :: N⟩) :
    ∃ (i : Nat) (kvs' : List (List Key × V)) (k : List Key), (SH.mk F (E ++ x :: (d, .dT kvs) :: N)).G[i]? = some (d, .dT kvs') ∧ At ⟨F, E ++ x :: (d, .dT kvs) :: N⟩ b (.tup (k.map kV)) ∧ kvs'.length < sizeLine ∧ Q z (SH.put ⟨F, E ++ x :: (d, .dT kvs) :: N⟩ i d (.dT (putK kvs' k v))) := by
  refine ⟨E.length + 1, kvs, kN n, at_mid2, .inl (List.mem_iff_getElem?.mp (List.mem_append_left _ hb)), hl, ?_⟩
  show Q z ⟨F, (E ++ x :: (d, HO.dT kvs) :: N).set (E.length + 1) (d, HO.dT (putK kvs (kN n) v))⟩
  rw [set_mid2]
  exact h
structure RepI (kvs : List (List Key × V)) (e : NEnv) (f : TR → Nat → Nat) : Prop where
  at_ : ∀ nd t o, e nd = some (t, o) → (nd.1 = 1 ∨ nd.1 = 2) ∧ valV kvs (kN nd) = some (.int (f t o : Nat))
theorem RepI.put {kvs : List (List Key × V)} {e e' : NEnv} {f : TR → Nat → Nat} (h : RepI kvs e f) {n : Nat × Nat} {t : TR} {o : Nat} {v : V} (hn : n.1 = 1 ∨ n.1 = 2) (he : ∀ nd, e' nd = if nd = n then some (t, o) else e nd) (hv : v = .int (f t o : Nat)) :
    RepI (putK kvs (kN n) v) e' f := by
  subst hv
  refine ⟨fun nd t' o' q => ?_⟩
  rw [he] at q
  split at q
  · rename_i en
    cases q
    subst en
    exact ⟨hn, by rw [valV_put, if_pos rfl]⟩
  · rename_i en
    obtain ⟨h1, h2⟩ := h.at_ nd t' o' q
    exact ⟨h1, by rw [valV_put, if_neg fun z => en (kN_inj h1 hn z)]; exact h2⟩
/-- what the nodes are -/
def NdOk (e : NEnv) : Prop := ∀ nd t o, e nd = some (t, o) → nd = ndB t o
theorem ndOk0 (n : Nat) : NdOk (e0N n) := fun nd t o q => by
  unfold e0N at q
  split at q
  · rename_i h
    cases q
    exact Prod.ext h.1 rfl
  · cases q
theorem ndOk_step {e e' : NEnv} {row : TR.Row} (h : NdOk e) (hs : stepE e row = some e') : NdOk e' := fun nd t o q => by
  obtain ⟨l, r, o', n1, n2, n3, n4, n5⟩ := stepE_some hs
  rw [n5] at q
  split at q
  · rename_i en
    cases q
    rw [en, n3]
    rfl
  · exact h nd t o q
theorem ndOk_run : ∀ {rows : List TR.Row} {e e' : NEnv}, NdOk e → runE rows e = some e' → NdOk e'
  | [], e, e', h, hr => by
    cases hr
    exact h
  | row :: rows, e, e', h, hr => by
    have hr : (stepE e row).bind (runE rows) = some e' := hr
    cases q : stepE e row with
    | none => rw [q] at hr; cases hr
    | some e2 =>
      rw [q] at hr
      exact ndOk_run (ndOk_step h q) hr
theorem ndB_ne {l r : TR} {o : Nat} : ndB l o ≠ (2, o + nS l - 1) ∧ ndB r (o + nS l) ≠ (2, o + nS l - 1) := by
  constructor
  · cases l with
    | leaf => exact fun h => by have := congrArg Prod.fst h; cases this
    | node l1 l2 =>
      intro h
      have h : o + nS l1 - 1 = o + (nS l1 + nS l2) - 1 := congrArg Prod.snd h
      have p1 := nS_pos l1
      have p2 := nS_pos l2
      omega
  · cases r with
    | leaf => exact fun h => by have := congrArg Prod.fst h; cases this
    | node l1 l2 =>
      intro h
      have h : o + nS l + nS l1 - 1 = o + nS l - 1 := congrArg Prod.snd h
      have p1 := nS_pos l1
      have p2 := nS_pos l
      omega
theorem han_small (m : Nat → Bool) {b : TR} {o : Nat} (hb : nS b ≤ 64) : 1 ≤ (hanT m b o).length ∧ (hanT m b o).length ≤ nS b ∧ (hanT m b o).length ≤ 100 ∧ smI (hanT m b o) ∧ lenT m b o ≤ 64 := by
  have h1 := (int_len m b o).1
  rw [int_han, List.length_map] at h1
  have h2 := wid_lt b
  have h3 := isLf_le b
  have h4 := lenT_lt m b o
  exact ⟨(good_han m b o).len, by omega, by omega, small_han m hb, by omega⟩
theorem trl_small (m : Nat → Bool) {b : TR} {o : Nat} (hb : nS b ≤ 64) : 1 ≤ (trl (lenT m b o) (hanT m b o)).length ∧ (trl (lenT m b o) (hanT m b o)).length ≤ 100 ∧ smI (trl (lenT m b o) (hanT m b o)) := by
  rw [to_law]
  have h1 := (int_len m b o).2
  have h2 := wid_lt b
  exact ⟨shut_pos _, by omega, small_shut (good_int m b o) (sum_int m b o) hb⟩
/-- both slots' entries are laid -/
theorem to_slots {H : Hp} {tv : V} {b : TR} {fv : V} {dl dh : Addr} {m : Nat → Bool} {D : sEnds} {x4 x5 x6 x7 x8 : Option V} (hT : TreeAt K a H tv b)
    (k : ∀ (E : List (Addr × HO)) (kh kl : List (List Key × V)) (x4 : Option V), RepD K H E kh (e0N (nS b)) (hanT m) → RepI kl (e0N (nS b)) (lenT m) → kh.length ≤ nS b → kl.length ≤ nS b → D.nx [some tv, some fv, some (.ref dl), some (.ref dh), x4, x5, x6, x7, x8] ⟨H, E ++ [(dh, .dT kh), (dl, .dT kl)]⟩) :
    (sFor (siR1 (sCons (sLenO a.Tree (q_Tree_len K a) (sVar 0)) (sNil))) (sgName 4) (sSeq (sDPutT (sVar 2) (sTup (sCons (sC (.str ("slot" : Str))) (sCons (sVar 4) (sNil)))) (sC (.int 0))) (sDPutT (sVar 3) (sTup (sCons (sC (.str ("slot" : Str))) (sCons (sVar 4) (sNil)))) (sLst (sCons (sC (.int 1)) (sNil)))))) D [some tv, some fv, some (.ref dl), some (.ref dh), x4, x5, x6, x7, x8] ⟨H, [(dh, .dT []), (dl, .dT [])]⟩ := by
  have hsm := hT.sm
  refine use_len (W := D.ex) (i := 0) (σ := [some tv, some fv, some (.ref dl), some (.ref dh), x4, x5, x6, x7, x8]) (fun H' o => hT.ext (own_F o)) hT ?_ (by rfl)
  refine ⟨rngN (by omega), ?_⟩
  refine ⟨fun i σ S => ∃ (E : List (Addr × HO)) (kh kl : List (List Key × V)) (x4 : Option V), RepD K H E kh (e0N i) (hanT m) ∧ RepI kl (e0N i) (lenT m) ∧ kh.length ≤ i ∧ kl.length ≤ i ∧ σ = [some tv, some fv, some (.ref dl), some (.ref dh), x4, x5, x6, x7, x8] ∧ S = ⟨H, E ++ [(dh, .dT kh), (dl, .dT kl)]⟩,
    ⟨[], [], [], x4, ⟨fun nd t o q => ?_⟩, ⟨fun nd t o q => ?_⟩, Nat.le_refl _, Nat.le_refl _, rfl, rfl⟩, fun _ _ _ _ _ => trivial, ?_, ?_⟩
  · unfold e0N at q
    rw [if_neg fun z => Nat.not_lt_zero _ z.2] at q
    cases q
  · unfold e0N at q
    rw [if_neg fun z => Nat.not_lt_zero _ z.2] at q
    cases q
  · rintro i σ S hi ⟨E, kh, kl, x4, hr, hrl, hlh, hll, rfl, rfl⟩
    have hi : i < ((nS b : Nat) : Int).toNat := hi
    rw [Int.toNat_natCast] at hi
    have bd : i < sizeLine := Nat.lt_of_lt_of_le hi (Nat.le_trans hsm (by decide))
    refine yldR_go ?_
    rw [Int.zero_add]
    refine nm_go ?_
    refine seq_go (c_go ?_)
    refine var_go (v := .ref dl) (by rfl) ?_
    refine tup_go (cons_go (c_go (cons_go (var_go (v := .int (i : Nat)) (by rfl) (nil_go ⟨show 2 ≤ sizeLine by decide, fun kt => ?_⟩)))))
    refine dputB_go (E := (kt, .tup [.str "slot", .int (i : Nat)]) :: E) (n := (1, i)) (.head _) (Nat.lt_of_le_of_lt hll bd) ?_
    try dsimp only
    refine lst_go (cons_go (c_go (nil_go ⟨show 1 ≤ sizeLine by decide, fun lp => ?_⟩)))
    refine var_go (v := .ref dh) (by rfl) ?_
    refine tup_go (cons_go (c_go (cons_go (var_go (v := .int (i : Nat)) (by rfl) (nil_go ⟨show 2 ≤ sizeLine by decide, fun kt2 => ?_⟩)))))
    refine dputA_go (E := (kt2, .tup [.str "slot", .int (i : Nat)]) :: (lp, .lst [.int 1]) :: (kt, .tup [.str "slot", .int (i : Nat)]) :: E) (n := (1, i)) (.head _) (Nat.lt_of_le_of_lt hlh bd) ?_
    refine ⟨_, SLe.refl _, (kt2, .tup [.str "slot", .int (i : Nat)]) :: (lp, .lst [.int 1]) :: (kt, .tup [.str "slot", .int (i : Nat)]) :: E, putK kh (kN (1, i)) (.ref lp), putK kl (kN (1, i)) (.int 0), some (.int (i : Nat)), ?_, ?_, ?_, ?_, rfl, rfl⟩
    · exact (hr.mono (Ext.refl _) fun z hz => .tail _ (.tail _ (.tail _ hz))).put (t := leaf) (o := i) (.inl rfl) (e0_put i) (.inl (.tail _ (.head _)))
    · exact hrl.put (t := leaf) (o := i) (.inl rfl) (e0_put i) rfl
    · have := length_putK kh (kN (1, i)) (.ref lp)
      omega
    · have := length_putK kl (kN (1, i)) (.int 0)
      omega
  · rintro σ S ⟨E, kh, kl, x4, hr, hrl, hlh, hll, rfl, rfl⟩
    have en : (itR 0 ((nS b : Nat) : Int).toNat).n = nS b := Int.toNat_natCast _
    rw [en] at hr hrl hlh hll
    exact k E kh kl x4 hr hrl hlh hll
theorem use_trailN {W : sWX} {σ : L2.St} {F : Hp} {G : List (Addr × HO)} {Q : V → SH → Prop} {vs : List V} (n : Nat) (p : Addr) (l : List Int) (e : vs = [.int (n : Nat), .ref p]) (hp : sL K ⟨F, G⟩ p (iV l)) (sl : smI l) (hl : 1 ≤ l.length ∧ l.length ≤ 100 ∧ n ≤ 64)
    (k : ∀ F2 p', Ext F F2 → F p' = none → F2 p' = some (.lst (iV (trl n l))) → Q (.ref p') ⟨F2, G⟩) : rC (ct_trail K) W vs σ ⟨F, G⟩ Q :=
  ⟨(n, .ref p, l), fun H o => ⟨e, ⟨p, rfl, o.l hp⟩, sl, hl⟩, fun H v H' o r => by
    obtain ⟨F2, p', o2, e2, rfl, h1, h2⟩ := new_hidN o r.2 r.1
    exact ⟨_, o2, k F2 p' e2 h1 h2⟩, fun _ _ _ _ _ q => q.elim⟩
theorem R_is (c : Bool) : decide (V.str ⟨#[cdB c]⟩ = V.str "R") = !c := by cases c <;> decide +kernel
/-- the shown side and the other one -/
theorem sides_of {F : Hp} {e : NEnv} {m : Nat → Bool} {row : TR.Row} {l r : TR} {o : Nat} {ql qr : Addr} (n1 : e row.2.1 = some (l, o)) (n2 : e row.2.2.1 = some (r, o + nS l)) (n3 : row.1 = o + nS l - 1) (h1 : F ql = some (.tup [.str (kdS row.2.1.1), .int (row.2.1.2 : Nat)])) (h2 : F qr = some (.tup [.str (kdS row.2.2.1.1), .int (row.2.2.1.2 : Nat)])) (hn : NdOk e) (hs : nS (node l r) ≤ 64) :
    ∃ (qs qo : Addr) (ns no : Nat × Nat) (ts to : TR) (os oo : Nat), (if m row.1 then (ql, qr) else (qr, ql)) = (qs, qo) ∧ F qs = some (.tup [.str (kdS ns.1), .int (ns.2 : Nat)]) ∧ F qo = some (.tup [.str (kdS no.1), .int (no.2 : Nat)]) ∧ e ns = some (ts, os) ∧ e no = some (to, oo) ∧ ns ≠ (2, row.1) ∧ no ≠ (2, row.1) ∧
      lenT m (node l r) o = lenT m ts os + 1 ∧ hanT m (node l r) o = pprod (hanT m ts os) (trl (lenT m to oo) (hanT m to oo)) ∧ nS ts ≤ 64 ∧ nS to ≤ 64 := by
  have p1 := nS_pos l
  have p2 := nS_pos r
  have hs : nS l + nS r ≤ 64 := hs
  have w1 := hn _ _ _ n1
  have w2 := hn _ _ _ n2
  obtain ⟨z1, z2⟩ := ndB_ne (l := l) (r := r) (o := o)
  rw [← w1, ← n3] at z1
  rw [← w2, ← n3] at z2
  have e1 : lenT m (node l r) o = (if m (o + nS l - 1) then lenT m l o else lenT m r (o + nS l)) + 1 := rfl
  have e2 : hanT m (node l r) o = if m (o + nS l - 1) then pprod (hanT m l o) (trl (lenT m r (o + nS l)) (hanT m r (o + nS l))) else pprod (hanT m r (o + nS l)) (trl (lenT m l o) (hanT m l o)) := rfl
  rw [← n3] at e1 e2
  cases hm : m row.1 with
  | true =>
    rw [hm] at e1 e2
    exact ⟨ql, qr, row.2.1, row.2.2.1, l, r, o, o + nS l, rfl, h1, h2, n1, n2, z1, z2, e1, e2, by omega, by omega⟩
  | false =>
    rw [hm] at e1 e2
    exact ⟨qr, ql, row.2.2.1, row.2.1, r, l, o + nS l, o, rfl, h2, h1, n2, n1, z2, z1, e1, e2, by omega, by omega⟩
end
section
variable {K : PySem.W.Frag} {a : Ads}
open TR
theorem vc_spread_to {vs : List V} {H : Hp} (g : V × TR × V × TY) (h : (ct_spread K a resTo).pre g vs H) : ∃ S, Own S H ∧ r_spread_to K a (endsC (ct_spread K a resTo) g H) (start N_spread_to vs) S := by
  obtain ⟨tv, b, fv, ft⟩ := g
  obtain ⟨e0, hT0, hf, hs⟩ := h
  have e0 : vs = [tv, fv] := e0
  subst e0
  have hT : TreeAt K a H tv b := hT0
  clear hT0
  have hsm : nS b ≤ 64 := hT.sm
  refine ⟨⟨H, []⟩, Own.base H, ?_⟩
  refine seq_go (drop_go (calld_go (cons_go (var_go (v := tv) (by rfl) (cons_go (var_go (v := fv) (by rfl) (nil_go ?_)))))))
  refine use_flags false tv b fv ft (by rfl) (fun H' o => hT.ext (own_F o)) (fun H' o => hf.ex (own_F o)) hs (fun hok => ?_) fun hbad d => ?_
  · try dsimp only
    obtain ⟨fl, rfl, hfl⟩ : ∃ fl, fv = .str (fS fl) ∧ fl.length + 1 = nS b := by
      cases fv with
      | str u =>
        obtain ⟨fl, rfl, h⟩ := flOk_fl hok
        exact ⟨fl, rfl, h⟩
      | non => exact absurd hok Bool.false_ne_true
      | bl _ => exact absurd hok Bool.false_ne_true
      | int _ => exact absurd hok Bool.false_ne_true
      | ref _ => exact absurd hok Bool.false_ne_true
      | byt _ => exact absurd hok Bool.false_ne_true
      | flt _ => exact absurd hok Bool.false_ne_true
      | ty _ => exact absurd hok Bool.false_ne_true
    refine seq_go (set_go ?_)
    intro dl
    try dsimp only
    refine seq_go (set_go ?_)
    intro dh
    try dsimp only
    refine seq_go (to_slots (m := mF fl) hT fun E0 kh0 kl0 x4 hr0 hrl0 hlh0 hll0 => ?_)
    try dsimp only
    obtain ⟨p2, dx2, fs2, tl, tr, wl, wr, po, ro, L, R, rfl, m2, m3, m4, m5, m6, m7, m8, m9, m10, m11, m12, m13, m14⟩ := hT.more
    obtain ⟨t, xs, rfl, ht, hxs⟩ := m10.tupI
    have hxs : xs = nV ((rowsB b 0 0).map (·.1)) := by
      refine MDs.ints (K := K) (F := H) (G := []) ?_
      rw [List.map_map]
      exact hxs
    have ht : SqT K H t xs := (show sU K ⟨H, []⟩ t xs from ht.s (fun _ z => nomatch z)).elim (fun ⟨i, hi⟩ => by cases hi) id
    have lx : xs.length = (rowsB b 0 0).length := by rw [hxs, nV_len, List.length_map]
    have lr := rowsB_len b 0 0
    obtain ⟨eE, run, root⟩ := run_all hsm
    refine seq_go ?_
    refine var_go (v := .ref p2) (by rfl) ?_
    refine ⟨dx2, fs2, t, xs, .inr m2, m13, m9, .inr ht, ?_⟩
    refine ⟨fun i σ S => ∃ (F : Hp) (E : List (Addr × HO)) (kh kl : List (List Key × V)) (e : NEnv) (x5 x6 x7 x8 : Option V), Ext H F ∧ runE ((rowsB b 0 0).take i) (e0N (nS b)) = some e ∧ RepD K F E kh e (hanT (mF fl)) ∧ RepI kl e (lenT (mF fl)) ∧ kh.length ≤ nS b + i ∧ kl.length ≤ nS b + i ∧
      σ = [some (.ref p2), some (.str (fS fl)), some (.ref dl), some (.ref dh), x4, x5, x6, x7, x8] ∧ S = ⟨F, E ++ [(dh, .dT kh), (dl, .dT kl)]⟩, ⟨H, E0, kh0, kl0, _, none, none, none, none, Ext.refl _, rfl, hr0, hrl0, hlh0, hll0, rfl, rfl⟩, ?_, ?_, ?_⟩
    · rintro i σ S _ ⟨F, E, kh, kl, e, x5, x6, x7, x8, ex, _, _, _, _, _, rfl, rfl⟩
      exact .inr (SqT.up ex ht)
    · rintro i x σ S hx ⟨F, E, kh, kl, e, x5, x6, x7, x8, ex, hrun, hr, hrl, hlh, hll, rfl, rfl⟩
      obtain ⟨row, hrow, rfl⟩ : ∃ row, (rowsB b 0 0)[i]? = some row ∧ x = .int (row.1 : Nat) := by
        rw [hxs] at hx
        unfold nV at hx
        rw [List.getElem?_map, List.getElem?_map] at hx
        cases q : (rowsB b 0 0)[i]? with
        | none => rw [q] at hx; cases hx
        | some row => rw [q] at hx; cases hx; exact ⟨row, rfl, rfl⟩
      have hi : i < (rowsB b 0 0).length := (List.getElem?_eq_some_iff.mp hrow).1
      obtain ⟨e', hst, hrun'⟩ := TR.run_step run hrun hrow
      obtain ⟨l, r, o, n1, n2, n3, n4, n5⟩ := stepE_some hst
      obtain ⟨hL, hR⟩ := m14 row (List.mem_of_getElem? hrow)
      obtain ⟨vlf, wl1, ql, rfl, wl2⟩ := allV_get m5 hL
      obtain ⟨vrt, wr1, qr, rfl, wr2⟩ := allV_get m8 hR
      obtain ⟨qs, qo, ns, no, ts, to, os, oo, hif, s1, s2, es, eo, ds, dn, el, eh, bs, bo⟩ := sides_of (m := mF fl) n1 n2 n3 (ex _ _ wl2) (ex _ _ wr2) (ndOk_run (ndOk0 _) hrun) n4
      have hfr : row.1 < fl.length := by
        have := (rows_keys b 0 0).mem_iff.mp (List.mem_map.mpr ⟨row, List.mem_of_getElem? hrow, rfl⟩)
        have := (List.mem_range'_1.mp this).2
        omega
      have hc : fl[row.1]? = some (mF fl row.1) := by
        show fl[row.1]? = some (fl[row.1]?.getD false)
        rw [List.getElem?_eq_getElem hfr]
        rfl
      refine nm_go ?_
      refine seq_go ?_
      refine cons_go (op_go (var_go (v := .ref p2) (by rfl) ⟨dx2, fs2, .ref tl, .inr (ex _ _ m2), m3, var_go (v := .int (row.1 : Nat)) (by rfl) ⟨wl, .ref ql, .inr (.inr (SqT.of (ex _ _ m4))), atI_at wl1, ?_⟩⟩))
      refine cons_go (op_go (var_go (v := .ref p2) (by rfl) ⟨dx2, fs2, .ref tr, .inr (ex _ _ m2), m6, var_go (v := .int (row.1 : Nat)) (by rfl) ⟨wr, .ref qr, .inr (.inr (SqT.of (ex _ _ m7))), atI_at wr1, nil_go ?_⟩⟩))
      try dsimp only
      refine cut_go (fun σ' S' => σ' = [some (.ref p2), some (.str (fS fl)), some (.ref dl), some (.ref dh), x4, some (.int (row.1 : Nat)), some (.ref qs), some (.ref qo), x8] ∧ S' = ⟨F, E ++ [(dh, .dT kh), (dl, .dT kl)]⟩) ?_ ?_
      · refine ifT_go (tst_go (op_go (op_go (var_go (v := .str (fS fl)) (by rfl) (var_go (v := .int (row.1 : Nat)) (by rfl) ⟨fS_line (by omega), _, fS_at hc, ?_⟩)))))
        refine c_go (eq_s (R_is (mF fl row.1)) ?_)
        cases hm : mF fl row.1 with
        | true =>
          rw [hm] at hif
          have h1 : ql = qs := congrArg Prod.fst hif
          have h2 : qr = qo := congrArg Prod.snd hif
          subst h1
          subst h2
          exact ⟨_, SLe.refl _, rfl, rfl⟩
        | false =>
          rw [hm] at hif
          have h1 : qr = qs := congrArg Prod.fst hif
          have h2 : ql = qo := congrArg Prod.snd hif
          subst h1
          subst h2
          exact ⟨_, SLe.refl _, rfl, rfl⟩
      · rintro σ' S' ⟨rfl, rfl⟩
        obtain ⟨_, vls⟩ := hrl.at_ _ _ _ es
        have bl : kl.length < sizeLine := Nat.lt_of_le_of_lt hll (Nat.lt_of_le_of_lt (show nS b + i ≤ 128 by omega) (by decide))
        have bh : kh.length < sizeLine := Nat.lt_of_le_of_lt hlh (Nat.lt_of_le_of_lt (show nS b + i ≤ 128 by omega) (by decide))
        refine seq_go ?_
        refine op_go (var_go (v := .ref dl) (by rfl) (var_go (v := .ref qs) (by rfl) ⟨kl, kN ns, _, .inl ⟨E.length + 1, at_mid2⟩, .inr s1, vls, c_go (add_g ?_)⟩))
        refine var_go (v := .ref dl) (by rfl) ?_
        refine tup_go (cons_go (c_go (cons_go (var_go (v := .int (row.1 : Nat)) (by rfl) (nil_go ⟨show 2 ≤ sizeLine by decide, fun kt => ?_⟩)))))
        refine dputB_go (E := (kt, .tup [.str "fork", .int (row.1 : Nat)]) :: E) (n := (2, row.1)) (.head _) bl ?_
        try dsimp only
        have hrl' : RepI (putK kl (kN (2, row.1)) (.int (((lenT (mF fl) ts os : Nat) : Int) + 1))) e' (lenT (mF fl)) := hrl.put (t := node l r) (o := o) (.inr rfl) n5 (by rw [el]; rfl)
        generalize hkl : putK kl (kN (2, row.1)) (.int (((lenT (mF fl) ts os : Nat) : Int) + 1)) = kl' at hrl' ⊢
        have ekl : kl'.length ≤ kl.length + 1 := by rw [← hkl]; exact length_putK _ _ _
        have eo' : e' no = some (to, oo) := by rw [n5, if_neg dn]; exact eo
        obtain ⟨_, vlo⟩ := hrl'.at_ _ _ _ eo'
        obtain ⟨_, po', vpo, lpo⟩ := hr.at_ _ _ _ eo
        obtain ⟨_, ps, vps, lps⟩ := hr.at_ _ _ _ es
        obtain ⟨g1, g2, g3, g4, g5⟩ := han_small (mF fl) (b := to) (o := oo) bo
        obtain ⟨k1, k2, k3, k4, k5⟩ := han_small (mF fl) (b := ts) (o := os) bs
        obtain ⟨t1, t2, t3⟩ := trl_small (mF fl) (b := to) (o := oo) bo
        refine seq_go (set_go (calld_go (cons_go (var_go (v := .ref dl) (by rfl) (var_go (v := .ref qo) (by rfl) ⟨kl', kN no, _, .inl ⟨((kt, HO.tup [.str "fork", .int (row.1 : Nat)]) :: E).length + 1, at_mid2⟩, .inr s2, vlo, ?_⟩)))))
        refine cons_go (var_go (v := .ref dh) (by rfl) (var_go (v := .ref qo) (by rfl) ⟨kh, kN no, .ref po', .inl ⟨((kt, HO.tup [.str "fork", .int (row.1 : Nat)]) :: E).length, at_mid⟩, .inr s2, vpo, nil_go ?_⟩))
        refine use_trail (lenT (mF fl) to oo) po' (hanT (mF fl) to oo) (by rfl) (lpo.mono (Ext.refl _) fun z hz => List.mem_cons_of_mem _ hz).s g4 ⟨g1, g3, g5⟩ fun F2 p3 e2 h3 => ?_
        try dsimp only
        refine calld_go (cons_go (var_go (v := .ref dh) (by rfl) (var_go (v := .ref qs) (by rfl) ⟨kh, kN ns, .ref ps, .inl ⟨((kt, HO.tup [.str "fork", .int (row.1 : Nat)]) :: E).length, at_mid⟩, .inr (e2 _ _ s1), vps, cons_go (var_go (v := .ref p3) (by rfl) (nil_go ?_))⟩)))
        refine use_two ps p3 (hanT (mF fl) ts os) (trl (lenT (mF fl) to oo) (hanT (mF fl) to oo)) (by rfl) (lps.mono e2 fun z hz => List.mem_cons_of_mem _ hz).s (.inr h3) k4 t3 ⟨k1, t1, k3, t2⟩ fun F3 p4 e3 h4 => ?_
        refine var_go (v := .ref dh) (by rfl) ?_
        refine tup_go (cons_go (c_go (cons_go (var_go (v := .int (row.1 : Nat)) (by rfl) (nil_go ⟨show 2 ≤ sizeLine by decide, fun kt2 => ?_⟩)))))
        refine dputA_go (E := (kt2, .tup [.str "fork", .int (row.1 : Nat)]) :: (kt, .tup [.str "fork", .int (row.1 : Nat)]) :: E) (n := (2, row.1)) (.head _) bh ?_
        refine ⟨_, SLe.refl _, F3, (kt2, .tup [.str "fork", .int (row.1 : Nat)]) :: (kt, .tup [.str "fork", .int (row.1 : Nat)]) :: E, putK kh (kN (2, row.1)) (.ref p4), kl', e', _, _, _, _, (ex.trans e2).trans e3, hrun', ?_, hrl', ?_, ?_, rfl, rfl⟩
        · exact (hr.mono (e2.trans e3) fun z hz => .tail _ (.tail _ hz)).put (t := node l r) (o := o) (.inr rfl) n5 (.inr (by rw [eh]; exact h4))
        · have := length_putK kh (kN (2, row.1)) (.ref p4)
          omega
        · omega
    · rintro σ S ⟨F, E, kh, kl, e, x5, x6, x7, x8, ex, hrun, hr, hrl, hlh, hll, rfl, rfl⟩
      rw [lx, List.take_length, run] at hrun
      cases hrun
      obtain ⟨_, pp, vp, ep⟩ := hr.at_ _ _ _ root
      obtain ⟨_, vl⟩ := hrl.at_ _ _ _ root
      obtain ⟨g1, g2, g3, g4, g5⟩ := han_small (mF fl) (b := b) (o := 0) hsm
      obtain ⟨qo, rfl, ho⟩ := m12
      try dsimp only
      refine ret_go (calld_go (cons_go ?_))
      refine var_go (i := 2) (v := .ref dl) (by rfl) ?_
      refine use_top (i := 0) (p := p2) (dx := dx2) (fs := fs2) (ro := .ref qo) (σ := [some (.ref p2), some (.str (fS fl)), some (.ref dl), some (.ref dh), x4, x5, x6, x7, x8]) (by rfl) (ex _ _ m2) m11 ?_
      refine ⟨kl, kN (ndB b 0), _, .inl ⟨E.length + 1, at_mid2⟩, .inr (ex _ _ ho), vl, cons_go ?_⟩
      refine var_go (i := 3) (v := .ref dh) (by rfl) ?_
      refine use_top (i := 0) (p := p2) (dx := dx2) (fs := fs2) (ro := .ref qo) (σ := [some (.ref p2), some (.str (fS fl)), some (.ref dl), some (.ref dh), x4, x5, x6, x7, x8]) (by rfl) (ex _ _ m2) m11 ?_
      refine ⟨kh, kN (ndB b 0), .ref pp, .inl ⟨E.length, at_mid⟩, .inr (ex _ _ ho), vp, nil_go ?_⟩
      refine use_trailN (lenT (mF fl) b 0) pp (hanT (mF fl) b 0) (by rfl) ep.s g4 ⟨g1, g3, g5⟩ fun F2 p3 e2 h3 h4 => ?_
      intro H' o'
      refine ⟨hok, fun fl' e => ?_, (ex.trans e2).trans (own_F o')⟩
      have : fl = fl' := fS_inj (V.str.inj e)
      subst this
      refine ⟨p3, rfl, none_of ex h3, ?_⟩
      show H' p3 = some (.lst (iV (shut (intT (mF fl) b 0))))
      rw [← to_law]
      exact own_F o' _ _ h4
  · intro H' o'
    exact ⟨hbad, rfl, d, rfl, (o'.gs (d, .xd [("flags", fv)]) (.head _)).2, own_F o', (o'.gs (d, .xd [("flags", fv)]) (.head _)).1⟩
end
section
variable {K : PySem.W.Frag} {a : Ads}
open TR
/-! ### the law's own count: a stack of parts -/
abbrev StS := List (TR × Nat) × Nat
def stepS (n : Nat) (s : StS) (c : Nat) : Option StS :=
  if c = 46 then (if s.2 < n then some ((leaf, s.2) :: s.1, s.2 + 1) else none)
  else if c = 41 then (match s.1 with
    | (r, o2) :: (l, o) :: rest => if o2 = o + nS l ∧ o + nS l + nS r ≤ n then some ((node l r, o) :: rest, s.2) else none
    | _ => none)
  else some s
def runS (n : Nat) : List Nat → StS → Option StS
  | [], s => some s
  | c :: cs, s => (stepS n s c).bind (runS n cs)
theorem runS_app (n : Nat) : ∀ (xs ys : List Nat) (s : StS), runS n (xs ++ ys) s = (runS n xs s).bind (runS n ys)
  | [], ys, s => rfl
  | x :: xs, ys, s => by
    show (stepS n s x).bind (runS n (xs ++ ys)) = ((stepS n s x).bind (runS n xs)).bind (runS n ys)
    cases stepS n s x with
    | none => rfl
    | some s2 => exact runS_app n xs ys s2
theorem runS_txt (n : Nat) : ∀ (b : TR) (o : Nat) (st : List (TR × Nat)), o + nS b ≤ n → runS n (txt b) (st, o) = some ((b, o) :: st, o + nS b)
  | leaf, o, st, h => by
    have h : o + 1 ≤ n := h
    show (stepS n (st, o) 46).bind (runS n []) = _
    unfold stepS
    rw [if_pos rfl]
    show (if o < n then _ else none : Option StS).bind _ = _
    rw [if_pos (by omega)]
    rfl
  | node l r, o, st, h => by
    have h : o + (nS l + nS r) ≤ n := h
    show (stepS n (st, o) 40).bind (runS n (txt l ++ (txt r ++ [41]))) = _
    have e0 : stepS n (st, o) 40 = some (st, o) := by
      unfold stepS
      rw [if_neg (by decide), if_neg (by decide)]
    rw [e0]
    show runS n (txt l ++ (txt r ++ [41])) (st, o) = _
    rw [runS_app, runS_txt n l o st (by omega)]
    show runS n (txt r ++ [41]) ((l, o) :: st, o + nS l) = _
    rw [runS_app, runS_txt n r (o + nS l) _ (by omega)]
    show (stepS n ((r, o + nS l) :: (l, o) :: st, o + nS l + nS r) 41).bind (runS n []) = _
    unfold stepS
    rw [if_neg (by decide), if_pos rfl]
    show (if o + nS l = o + nS l ∧ o + nS l + nS r ≤ n then _ else none : Option StS).bind _ = _
    rw [if_pos ⟨rfl, by omega⟩]
    show some ((node l r, o) :: st, o + nS l + nS r) = some ((node l r, o) :: st, o + (nS l + nS r))
    rw [Nat.add_assoc]
theorem stepS_some {n : Nat} {s s' : StS} {c : Nat} (h : stepS n s c = some s') : (c = 46 ∧ s.2 < n ∧ s' = ((leaf, s.2) :: s.1, s.2 + 1)) ∨ (c ≠ 46 ∧ c = 41 ∧ ∃ l r o rest, s.1 = (r, o + nS l) :: (l, o) :: rest ∧ o + nS l + nS r ≤ n ∧ s' = ((node l r, o) :: rest, s.2)) ∨ (c ≠ 46 ∧ c ≠ 41 ∧ s' = s) := by
  unfold stepS at h
  split at h
  · rename_i hc
    split at h
    · rename_i h2
      exact .inl ⟨hc, h2, (Option.some.inj h).symm⟩
    · cases h
  · rename_i hc
    split at h
    · rename_i hc2
      split at h
      · rename_i r o2 l o rest e
        split at h
        · rename_i h2
          obtain ⟨h2, h3⟩ := h2
          rw [h2] at e
          exact .inr (.inl ⟨hc, hc2, l, r, o, rest, e, h3, (Option.some.inj h).symm⟩)
        · cases h
      · cases h
    · rename_i hc2
      exact .inr (.inr ⟨hc, hc2, (Option.some.inj h).symm⟩)
theorem runS_step {n : Nat} {t : List Nat} {i c : Nat} {s0 s fin : StS} (hc : t[i]? = some c) (h : runS n (t.take i) s0 = some s) (hf : runS n t s0 = some fin) : ∃ s3, stepS n s c = some s3 ∧ runS n (t.take (i + 1)) s0 = some s3 := by
  obtain ⟨hi, hc2⟩ := List.getElem?_eq_some_iff.mp hc
  have e : t.take i ++ c :: t.drop (i + 1) = t := by rw [← hc2, List.getElem_cons_drop, List.take_append_drop]
  have hf2 : runS n (t.take i ++ c :: t.drop (i + 1)) s0 = some fin := by rw [e]; exact hf
  rw [runS_app, h] at hf2
  have hf3 : (stepS n s c).bind (runS n (t.drop (i + 1))) = some fin := hf2
  cases hs : stepS n s c with
  | none =>
    rw [hs] at hf3
    cases hf3
  | some s3 =>
    refine ⟨s3, rfl, ?_⟩
    rw [take_more hc, runS_app, h]
    show (stepS n s c).bind (fun s2 => some s2) = _
    rw [hs]
    rfl
/-- a part -/
def PartT (E : List (Addr × HO)) (p : Addr) (t : TR) (o : Nat) (q1 q2 : Addr) : Prop := (p, HO.tup [.int ((o + nS t - 1 : Nat) : Int), .ref q1, .ref q2, .int (isLf t : Nat)]) ∈ E
def partM (K : PySem.W.Frag) (m : Nat → Bool) (F : Hp) (E : List (Addr × HO)) (v : V) (q : TR × Nat) : Prop := ∃ p q1 q2, v = .ref p ∧ PartT E p q.1 q.2 q1 q2 ∧ LE K F E q1 (intT m q.1 q.2) ∧ LE K F E q2 (outT q.1)
theorem partM.mono {m : Nat → Bool} {F F2 : Hp} {E E2 : List (Addr × HO)} {v : V} {q : TR × Nat} (h : partM K m F E v q) (e : Ext F F2) (s : E ⊆ E2) : partM K m F2 E2 v q :=
  let ⟨p, q1, q2, h1, h2, h3, h4⟩ := h; ⟨p, q1, q2, h1, s h2, h3.mono e s, h4.mono e s⟩
theorem allV_pop {α : Type} {R : V → α → Prop} {vs : List V} {x : α} {st : List α} (h : allV R vs (x :: st).reverse) : ∃ vs' v, vs = vs' ++ [v] ∧ allV R vs' st.reverse ∧ R v x := by
  rw [List.reverse_cons] at h
  obtain ⟨v1, v2, e, h1, h2⟩ := allV_split h
  cases v2 with
  | nil => exact h2.elim
  | cons v v2 =>
    cases v2 with
    | nil => exact ⟨v1, v, e, h1, h2.1⟩
    | cons _ _ => exact h2.2.elim
theorem part_sides {m : Nat → Bool} {F : Hp} {E : List (Addr × HO)} {l r : TR} {o : Nat} {pl pr ql1 ql2 qr1 qr2 : Addr} (h1 : PartT E pl l o ql1 ql2) (h2 : PartT E pr r (o + nS l) qr1 qr2) (h3 : LE K F E ql1 (intT m l o)) (h4 : LE K F E qr1 (intT m r (o + nS l))) (hs : nS l + nS r ≤ 64) :
    ∃ (pn pf qn qn2 qf qf2 : Addr) (tn tf : TR) (on of_ : Nat), (if m (o + nS l - 1) then V.ref pl else .ref pr) = .ref pn ∧ (if m (o + nS l - 1) then V.ref pr else .ref pl) = .ref pf ∧ PartT E pn tn on qn qn2 ∧ PartT E pf tf of_ qf qf2 ∧ LE K F E qn (intT m tn on) ∧ LE K F E qf (intT m tf of_) ∧
      nS tn ≤ 64 ∧ nS tf ≤ 64 ∧ intT m (node l r) o = (pprod (intT m tn on) (shut (intT m tf of_))).map (2 * ·) := by
  have e : intT m (node l r) o = (if m (o + nS l - 1) then pprod (intT m l o) (shut (intT m r (o + nS l))) else pprod (intT m r (o + nS l)) (shut (intT m l o))).map (2 * ·) := rfl
  have p1 := nS_pos l
  have p2 := nS_pos r
  cases hm : m (o + nS l - 1) with
  | true =>
    rw [hm] at e
    exact ⟨pl, pr, ql1, ql2, qr1, qr2, l, r, o, o + nS l, rfl, rfl, h1, h2, h3, h4, by omega, by omega, e⟩
  | false =>
    rw [hm] at e
    exact ⟨pr, pl, qr1, qr2, ql1, ql2, r, l, o + nS l, o, rfl, rfl, h2, h1, h4, h3, by omega, by omega, e⟩
theorem pick_go {c : Bool} {i j : Nat} {u v w : V} {W : sWX} {σ : L2.St} {S : SH} {R : V → SH → Prop} (hi : σ[i]? = some (some u)) (hj : σ[j]? = some (some v)) (hw : (if c then u else v) = w) (h : R w S) : sIf (fun _ _ S Q => Q c S) (sVar i) (sVar j) W σ S R := by
  subst hw
  cases c with
  | true => exact var_go (W := W) hi h
  | false => exact var_go (W := W) hj h
end
section
variable {K : PySem.W.Frag} {a : Ads}
open TR
theorem int_small (m : Nat → Bool) {b : TR} {o : Nat} (hb : nS b ≤ 64) : 1 ≤ (intT m b o).length ∧ (intT m b o).length ≤ 100 ∧ smI (intT m b o) ∧ 1 ≤ (shut (intT m b o)).length ∧ (shut (intT m b o)).length ≤ 100 ∧ smI (shut (intT m b o)) := by
  obtain ⟨h1, h2⟩ := int_len m b o
  have h3 := wid_lt b
  have h4 := isLf_le b
  exact ⟨(good_int m b o).len, by omega, small_int m hb, shut_pos _, by omega, small_shut (good_int m b o) (sum_int m b o) hb⟩
theorem lt_line {n : Nat} (h : n ≤ 200) : n < sizeLine := Nat.lt_of_le_of_lt h (by decide)
def widS (st : List (TR × Nat)) : Nat := (st.map fun q => widT q.1).sum
theorem ixp {F : Hp} {E N : List (Addr × HO)} {p : Addr} {xs : List V} {i : Nat} {v : V} {Q : V → SH → Prop} (h : (p, HO.tup xs) ∈ E) (e : xs[i]? = some v) (q : Q v ⟨F, E ++ N⟩) : oIx K (.ref p) (.int (i : Nat)) ⟨F, E ++ N⟩ Q :=
  ⟨xs, v, .inr (.inl (List.mem_iff_getElem?.mp (List.mem_append_left _ h))), atI_at e, q⟩
/-- what a turn keeps -/
def InvS (K : PySem.W.Frag) (b : TR) (fl : List Bool) (H : Hp) (ps : Addr) (i : Nat) (σ : L2.St) (S : SH) : Prop := ∃ (F : Hp) (E : List (Addr × HO)) (sv : List V) (st : List (TR × Nat)) (k : Nat) (x5 x6 x7 x8 x9 x10 x11 x12 x13 x14 : Option V), Ext H F ∧ runS (nS b) ((txt b).take i) ([], 0) = some (st, k) ∧ st.length ≤ i ∧ allV (partM K (mF fl) F E) sv st.reverse ∧
  σ = [some (.str (tS b)), some (.str (fS fl)), some (.ref ps), some (.int ((k : Nat) - 1)), some (.int (widS st : Nat)), x5, x6, x7, x8, x9, x10, x11, x12, x13, x14] ∧ S = ⟨F, E ++ [(ps, .lst sv)]⟩
def r_spB (K : PySem.W.Frag) (a : Ads) : sS := (sSeq (sSet (sMt K "list" mPop (sVar 2) sNil) 6) (sSeq (sSet (sMt K "list" mPop (sVar 2) sNil) 7) (sSeq (sSet (sIf (sTst (sOp (oEq K) (sOp (oIx K) (sVar 1) (sOp (oIx K) (sVar 7) (sC (.int 0)))) (sC (.str ("L" : Str))))) (sVar 7) (sVar 6)) 8) (sSeq (sSet (sIf (sTst (sOp (oEq K) (sOp (oIx K) (sVar 1) (sOp (oIx K) (sVar 7) (sC (.int 0)))) (sC (.str ("L" : Str))))) (sVar 6) (sVar 7)) 9) (sSeq (sSet (sLc (siSeq K (sCallD (q_l_times K a) [] (sCons (sOp (oIx K) (sVar 8) (sC (.int 1))) (sCons (sCallD (q_l_shut K a) [] (sCons (sOp (oIx K) (sVar 9) (sC (.int 1))) (sNil))) (sNil))))) (sgName 14) (sYes) (sOp oMul (sC (.int 2)) (sVar 14)) [14]) 10) (sSeq (sSet (sCallD (q_l_times K a) [] (sCons (sOp (oIx K) (sVar 7) (sC (.int 2))) (sCons (sCallD (q_l_shut K a) [] (sCons (sOp (oIx K) (sVar 6) (sC (.int 2))) (sNil))) (sNil)))) 11) (sSeq (sSet (sCallD (q_l_times K a) [] (sCons (sOp (oIx K) (sVar 6) (sC (.int 2))) (sCons (sCallD (q_l_shut K a) [] (sCons (sOp (oIx K) (sVar 7) (sC (.int 2))) (sNil))) (sNil)))) 12) (sSeq (sSet (sOp oAdd (sVar 4) (sCall1 nMax2 (sCons (sOp (oIx K) (sVar 7) (sC (.int 3))) (sCons (sOp (oIx K) (sVar 6) (sC (.int 3))) (sNil))))) 4) (sDrop (sMt K "list" mAppend (sVar 2) (sCons (sTup (sCons (sOp (oIx K) (sVar 6) (sC (.int 0))) (sCons (sVar 10) (sCons (sCallD (q_l_plus K a) [] (sCons (sVar 11) (sCons (sVar 12) (sNil)))) (sCons (sC (.int 0)) (sNil)))))) (sNil))))))))))))
theorem spB_go {b : TR} {fl : List Bool} {H F : Hp} {E : List (Addr × HO)} {ps : Addr} {i k o : Nat} {l r : TR} {rest : List (TR × Nat)} {sv : List V} {x5 x6 x7 x8 x9 x10 x11 x12 x13 x14 : Option V} {D : sEnds} (ex : Ext H F) (hfl : fl.length + 1 = nS b) (hb : nS b ≤ 64) (hi : i < (txt b).length)
    (hrun : runS (nS b) ((txt b).take (i + 1)) ([], 0) = some ((node l r, o) :: rest, k)) (hst : rest.length + 2 ≤ i) (hsm : o + nS l + nS r ≤ nS b) (hsv : allV (partM K (mF fl) F E) sv ((r, o + nS l) :: (l, o) :: rest).reverse)
    (hD : ∀ σ S, InvS K b fl H ps (i + 1) σ S → D.nx σ S) :
    r_spB K a D [some (.str (tS b)), some (.str (fS fl)), some (.ref ps), some (.int ((k : Nat) - 1)), some (.int (widS ((r, o + nS l) :: (l, o) :: rest) : Nat)), x5, x6, x7, x8, x9, x10, x11, x12, x13, x14] ⟨F, E ++ [(ps, .lst sv)]⟩ := by
  have tl := txt_len b
  have np1 := nS_pos l
  have np2 := nS_pos r
  obtain ⟨sv1, v1, rfl, hsv1, pr, qr1, qr2, rfl, Pr, hr1, hr2⟩ := allV_pop hsv
  obtain ⟨sv2, v2, rfl, hsv2, pl, ql1, ql2, rfl, Pl, hl1, hl2⟩ := allV_pop hsv1
  have lsv : sv2.length = rest.length := by rw [allV_len hsv2, List.length_reverse]
  have Pr : PartT E pr r (o + nS l) qr1 qr2 := Pr
  have Pl : PartT E pl l o ql1 ql2 := Pl
  have hr1 : LE K F E qr1 (intT (mF fl) r (o + nS l)) := hr1
  have hr2 : LE K F E qr2 (outT r) := hr2
  have hl1 : LE K F E ql1 (intT (mF fl) l o) := hl1
  have hl2 : LE K F E ql2 (outT l) := hl2
  obtain ⟨pn, pf, qn, qn2, qf, qf2, tn, tf, on, of_, hw1, hw2, Pn, Pf, hn, hf, bn, bf, eN⟩ := part_sides Pl Pr hl1 hr1 (by omega)
  have hfr : o + nS l - 1 < fl.length := by omega
  have hc : fl[o + nS l - 1]? = some (mF fl (o + nS l - 1)) := by
    show fl[o + nS l - 1]? = some (fl[o + nS l - 1]?.getD false)
    rw [List.getElem?_eq_getElem hfr]
    rfl
  obtain ⟨a1, a2, a3, a4, a5, a6⟩ := int_small (mF fl) (b := tn) (o := on) bn
  obtain ⟨c1, c2, c3, c4, c5, c6⟩ := int_small (mF fl) (b := tf) (o := of_) bf
  obtain ⟨l1, l2, l3, l4, l5, l6⟩ := out_small (b := l) (by omega)
  obtain ⟨r1, r2, r3, r4, r5, r6⟩ := out_small (b := r) (by omega)
  refine seq_go (set_go (mt_go (var_go (v := .ref ps) (by rfl) ⟨tyR, nil_go (pop_at ?_)⟩)))
  try dsimp only
  refine seq_go (set_go (mt_go (var_go (v := .ref ps) (by rfl) ⟨tyR, nil_go (pop_at ?_)⟩)))
  try dsimp only
  refine seq_go (set_go (ifE_go (tst_go (op_go (op_go (var_go (v := .str (fS fl)) (by rfl) (op_go (var_go (v := .ref pl) (by rfl) (c_go (ixp (i := 0) Pl rfl ⟨fS_line (by omega), _, fS_at hc, c_go (eq_s (L_is _) ?_)⟩))))))))))
  try dsimp only
  show sIf (fun _ _ S Q => Q (mF fl (o + nS l - 1)) S) (sVar 7) (sVar 6) _ _ _ _
  refine pick_go (u := .ref pl) (v := .ref pr) (by rfl) (by rfl) hw1 ?_
  try dsimp only
  refine seq_go (set_go (ifE_go (tst_go (op_go (op_go (var_go (v := .str (fS fl)) (by rfl) (op_go (var_go (v := .ref pl) (by rfl) (c_go (ixp (i := 0) Pl rfl ⟨fS_line (by omega), _, fS_at hc, c_go (eq_s (L_is _) ?_)⟩))))))))))
  try dsimp only
  show sIf (fun _ _ S Q => Q (mF fl (o + nS l - 1)) S) (sVar 6) (sVar 7) _ _ _ _
  refine pick_go (u := .ref pr) (v := .ref pl) (by rfl) (by rfl) hw2 ?_
  try dsimp only
  refine seq_go (set_go ?_)
  refine calld_go (cons_go (op_go (var_go (v := .ref pn) (by rfl) (c_go (ixp (i := 1) Pn rfl (cons_go (calld_go (cons_go (op_go (var_go (v := .ref pf) (by rfl) (c_go (ixp (i := 1) Pf rfl (nil_go ?_)))))))))))))
  refine use_shut qf (intT (mF fl) tf of_) (by rfl) hf.s ⟨c1, c2⟩ fun F2 p2 e2 h2 => nil_go ?_
  refine use_two qn p2 (intT (mF fl) tn on) (shut (intT (mF fl) tf of_)) (by rfl) (hn.mono e2 (List.Subset.refl _)).s (.inr h2) a3 c6 ⟨a1, c4, a2, c5⟩ fun F3 p3 e3 h3 => ?_
  have lL : (pprod (intT (mF fl) tn on) (shut (intT (mF fl) tf of_))).length ≤ 200 := by rw [pprod_len]; omega
  generalize hL : pprod (intT (mF fl) tn on) (shut (intT (mF fl) tf of_)) = L at h3 lL eN
  refine .inl ⟨iV L, .inr h3, ?_⟩
  intro D1
  refine ⟨fun j S => S = ⟨F3, (D1, .lst (iV ((L.take j).map (2 * ·)))) :: (E ++ [(ps, .lst sv2)])⟩, rfl, fun j S _ e => by subst e; exact .inr h3, ?_, ?_⟩
  · rintro j S hj rfl v hv
    have hj : j < (iV L).length := hj
    rw [iV_len] at hj
    obtain ⟨x, hx⟩ : ∃ x, L[j]? = some x := ⟨_, List.getElem?_eq_getElem hj⟩
    rw [iVat hx] at hv
    cases hv
    refine nm_go ⟨by rfl, ?_⟩
    refine op_go (c_go (var_go (v := .int x) (by rfl) ⟨.inl ⟨by decide, by decide⟩, ?_⟩))
    refine ⟨0, _, rfl, ?_, ⟨_, SLe.refl _, ?_⟩⟩
    · rw [iV_len, List.length_map, List.length_take]
      exact lt_line (show min j L.length ≤ 200 by omega)
    · show SH.mk F3 ((D1, HO.lst (iV ((L.take j).map (2 * ·)) ++ [.int (2 * x)])) :: (E ++ [(ps, .lst sv2)])) = _
      rw [take_more hx, List.map_append]
      unfold iV
      rw [List.map_append]
      rfl
  rintro S rfl
  have en : (itL K p3 (iV L)).n = L.length := iV_len L
  rw [en, List.take_length]
  try dsimp only
  rw [← eN]
  have E3 : Ext F F3 := e2.trans e3
  refine seq_go (set_go (calld_go (cons_go (op_go (var_go (v := .ref pl) (by rfl) (c_go (ixp (E := (D1, HO.lst (iV (intT (mF fl) (node l r) o))) :: E) (i := 2) (List.mem_cons_of_mem _ Pl) rfl (cons_go (calld_go (cons_go (op_go (var_go (v := .ref pr) (by rfl) (c_go (ixp (E := (D1, HO.lst (iV (intT (mF fl) (node l r) o))) :: E) (i := 2) (List.mem_cons_of_mem _ Pr) rfl (nil_go ?_)))))))))))))))
  refine use_shut qr2 (outT r) (by rfl) (hr2.mono E3 fun z hz => List.mem_cons_of_mem _ hz).s ⟨r1, r2⟩ fun F4 p4 e4 h4 => nil_go ?_
  refine use_two ql2 p4 (outT l) (shut (outT r)) (by rfl) (hl2.mono (E3.trans e4) fun z hz => List.mem_cons_of_mem _ hz).s (.inr h4) l3 r6 ⟨l1, r4, l2, r5⟩ fun F5 p5 e5 h5 => ?_
  try dsimp only
  have E5 : Ext F F5 := (E3.trans e4).trans e5
  refine seq_go (set_go (calld_go (cons_go (op_go (var_go (v := .ref pr) (by rfl) (c_go (ixp (E := (D1, HO.lst (iV (intT (mF fl) (node l r) o))) :: E) (i := 2) (List.mem_cons_of_mem _ Pr) rfl (cons_go (calld_go (cons_go (op_go (var_go (v := .ref pl) (by rfl) (c_go (ixp (E := (D1, HO.lst (iV (intT (mF fl) (node l r) o))) :: E) (i := 2) (List.mem_cons_of_mem _ Pl) rfl (nil_go ?_)))))))))))))))
  refine use_shut ql2 (outT l) (by rfl) (hl2.mono E5 fun z hz => List.mem_cons_of_mem _ hz).s ⟨l1, l2⟩ fun F6 p6 e6 h6 => nil_go ?_
  refine use_two qr2 p6 (outT r) (shut (outT l)) (by rfl) (hr2.mono (E5.trans e6) fun z hz => List.mem_cons_of_mem _ hz).s (.inr h6) r3 l6 ⟨r1, l4, r2, l5⟩ fun F7 p7 e7 h7 => ?_
  try dsimp only
  have E7 : Ext F F7 := (E5.trans e6).trans e7
  have h5 : SqL K F7 p5 (iV (pprod (outT l) (shut (outT r)))) := SqL.up (e6.trans e7) h5
  refine seq_go (set_go (op_go (var_go (by rfl) (call1_go (cons_go (op_go (var_go (v := .ref pl) (by rfl) (c_go (ixp (E := (D1, HO.lst (iV (intT (mF fl) (node l r) o))) :: E) (i := 3) (List.mem_cons_of_mem _ Pl) rfl (cons_go (op_go (var_go (v := .ref pr) (by rfl) (c_go (ixp (E := (D1, HO.lst (iV (intT (mF fl) (node l r) o))) :: E) (i := 3) (List.mem_cons_of_mem _ Pr) rfl (nil_go (max_go (add_g ?_)))))))))))))))))
  try dsimp only
  have ew : ((widS ((r, o + nS l) :: (l, o) :: rest) : Nat) : Int) + ((max (isLf l) (isLf r) : Nat) : Int) = ((widS ((node l r, o) :: rest) : Nat) : Int) := by
    show ((widT r + (widT l + widS rest) : Nat) : Int) + ((max (isLf l) (isLf r) : Nat) : Int) = ((widT l + widT r + max (isLf l) (isLf r) + widS rest : Nat) : Int)
    omega
  rw [ew]
  have g1 := good_pprod (good_out l) (good_shut (good_out r))
  have g2 := good_pprod (good_out r) (good_shut (good_out l))
  have n4 : nS (node l r) ≤ 64 := by show nS l + nS r ≤ 64; omega
  have s1 : (pprod (outT l) (shut (outT r))).sum ≤ 2 ^ (nS (node l r) - 1) ∧ (pprod (outT r) (shut (outT l))).sum ≤ 2 ^ (nS (node l r) - 1) := by
    rw [pprod_sum _ _ l1 r4, pprod_sum _ _ r1 l4, shut_sum _ r1, shut_sum _ l1, sum_out, sum_out, ← pow_nS l r, Int.mul_comm (2 ^ (nS r - 1)) (2 ^ (nS l - 1))]
    have : (0 : Int) ≤ 2 ^ (nS l - 1) * 2 ^ (nS r - 1) := Int.mul_nonneg (Int.pow_nonneg (by decide)) (Int.pow_nonneg (by decide))
    omega
  have y1 := (out_len l).1
  have y2 := (out_len l).2
  have y3 := (out_len r).1
  have y4 := (out_len r).2
  have y5 := wid_lt l
  have y6 := wid_lt r
  have y7 := isLf_le l
  have y8 := isLf_le r
  refine drop_go (mt_go (var_go (v := .ref ps) (by rfl) ⟨tyR (E := (D1, HO.lst (iV (intT (mF fl) (node l r) o))) :: E), ?_⟩))
  refine cons_go (tup_go (cons_go (op_go (var_go (v := .ref pr) (by rfl) (c_go (ixp (E := (D1, HO.lst (iV (intT (mF fl) (node l r) o))) :: E) (i := 0) (List.mem_cons_of_mem _ Pr) rfl (cons_go (var_go (v := .ref D1) (by rfl) (cons_go (calld_go (cons_go (var_go (v := .ref p5) (by rfl) (cons_go (var_go (v := .ref p7) (by rfl) (nil_go ?_)))))))))))))))
  refine use_two p5 p7 _ _ (by rfl) (.inr h5) (.inr h7) (small_of g1 s1.1 n4) (small_of g2 s1.2 n4) ⟨g1.len, g2.len, by rw [pprod_len, y1, y4]; omega, by rw [pprod_len, y3, y2]; omega⟩ fun F8 p8 e8 h8 => ?_
  refine cons_go (c_go (nil_go ⟨show 4 ≤ sizeLine by decide, fun pt => nil_go ?_⟩))
  have E8 : Ext F F8 := E7.trans e8
  refine app_go (E := (pt, _) :: (D1, HO.lst (iV (intT (mF fl) (node l r) o))) :: E) (lt_line (show sv2.length ≤ 200 by omega)) ?_
  refine hD _ _ ⟨F8, (pt, .tup [.int ((o + nS l + nS r - 1 : Nat) : Int), .ref D1, .ref p8, .int 0]) :: (D1, HO.lst (iV (intT (mF fl) (node l r) o))) :: E, sv2 ++ [.ref pt], (node l r, o) :: rest, k, x5, _, _, _, _, _, _, _, x13, x14, ex.trans E8, hrun, ?_, ?_, rfl, rfl⟩
  · show rest.length + 1 ≤ i + 1
    omega
  · rw [List.reverse_cons]
    refine allV_snoc ⟨pt, D1, p8, rfl, ?_, .inl (.tail _ (.head _)), .inr h8⟩ (allV_ex (fun _ _ z => z.mono E8 fun z hz => .tail _ (.tail _ hz)) hsv2)
    show (pt, HO.tup [.int ((o + (nS l + nS r) - 1 : Nat) : Int), .ref D1, .ref p8, .int ((0 : Nat) : Int)]) ∈ _
    rw [← Nat.add_assoc]
    exact .head _
end
section
variable {K : PySem.W.Frag} {a : Ads}
open TR
theorem dot_is (c : Nat) : decide (V.str ⟨#[c]⟩ = V.str ".") = decide (c = 46) := decide_eq_decide.mpr ⟨fun h => ch_eq (h.trans ch_dot), fun e => by rw [e]; rfl⟩
theorem close_is (c : Nat) : decide (V.str ⟨#[c]⟩ = V.str ")") = decide (c = 41) := decide_eq_decide.mpr ⟨fun h => ch_eq (h.trans ch_close), fun e => by rw [e]; rfl⟩
theorem neg_go {i : Int} {W : sWX} {σ : L2.St} {S : SH} {Q : V → SH → Prop} (h : Q (.int (-i)) S) : s1Op oNeg (sC (.int i)) W σ S Q := h
theorem vc_l_spreads {vs : List V} {H : Hp} (g : TR × List Bool) (h : (ct_l_spreads K).pre g vs H) : ∃ S, Own S H ∧ r_l_spreads K a (endsC (ct_l_spreads K) g H) (start N_l_spreads vs) S := by
  obtain ⟨b, fl⟩ := g
  obtain ⟨e0, hfl, hb⟩ := h
  have e0 : vs = [.str (tS b), .str (fS fl)] := e0
  have hfl : fl.length + 1 = nS b := hfl
  have hb : nS b ≤ 64 := hb
  subst e0
  have tl := txt_len b
  have hfin : runS (nS b) (txt b) ([], 0) = some ([(b, 0)], 0 + nS b) := runS_txt (nS b) b 0 [] (by omega)
  refine ⟨⟨H, []⟩, Own.base H, ?_⟩
  refine seq_go (set_go (lst_go (nil_go ⟨Nat.zero_le _, fun ps => ?_⟩)))
  try dsimp only
  refine seq_go (set_go (neg_go ?_))
  try dsimp only
  refine seq_go (set_go (c_go ?_))
  try dsimp only
  refine seq_go ?_
  refine ⟨fun i σ S => InvS K b fl H ps i σ S, ⟨H, [], [], [], 0, none, none, none, none, none, none, none, none, none, none, Ext.refl _, rfl, Nat.le_refl _, trivial, rfl, rfl⟩, fun _ _ _ _ _ => trivial, ?_, ?_⟩
  · rintro i σ S hi ⟨F, E, sv, st, k, x5, x6, x7, x8, x9, x10, x11, x12, x13, x14, ex, hrun, hst, hsv, rfl, rfl⟩ c hc
    have hc : (txt b)[i]? = some c := by
      have : (tS b).cps.toList[i]? = some c := by
        rw [Array.getElem?_toList]
        exact hc
      exact this
    have hi : i < (txt b).length := (List.getElem?_eq_some_iff.mp hc).1
    obtain ⟨s3, hs3, hrun3⟩ := runS_step hc hrun hfin
    have lsv : sv.length = st.length := by rw [allV_len hsv, List.length_reverse]
    refine nm_go ?_
    rcases stepS_some hs3 with ⟨rfl, hk, rfl⟩ | ⟨h46, rfl, l, r, o, rest, est, hsm, rfl⟩ | ⟨h46, h41, rfl⟩
    · refine cut_go (fun σ' S' => InvS K b fl H ps (i + 1) σ' S' ∧ σ'[5]? = some (some (.str ⟨#[46]⟩))) ?_ ?_
      · refine ifT_go (tst_go (op_go (var_go (v := .str ⟨#[46]⟩) (by rfl) (c_go (eq_s (c := true) (by rw [dot_is]; rfl) ?_)))))
        try dsimp only
        refine seq_go (set_go (op_go (var_go (v := .int ((k : Nat) - 1)) (by rfl) (c_go (add_g ?_)))))
        try dsimp only
        rw [show ((k : Nat) : Int) - 1 + 1 = ((k : Nat) : Int) by omega]
        refine drop_go (mt_go (var_go (v := .ref ps) (by rfl) ⟨tyR, ?_⟩))
        refine cons_go (tup_go (cons_go (var_go (v := .int (k : Nat)) (by rfl) (cons_go (lst_go (cons_go (c_go (nil_go ⟨show 1 ≤ sizeLine by decide, fun q1 => ?_⟩))))))))
        refine cons_go (lst_go (cons_go (c_go (nil_go ⟨show 1 ≤ sizeLine by decide, fun q2 => ?_⟩))))
        refine cons_go (c_go (nil_go ⟨show 4 ≤ sizeLine by decide, fun pt => nil_go ?_⟩))
        refine app_go (E := (pt, .tup [.int (k : Nat), .ref q1, .ref q2, .int 1]) :: (q2, .lst [.int 1]) :: (q1, .lst [.int 1]) :: E) (lt_line (by omega)) ?_
        refine ⟨_, SLe.refl _, ⟨F, (pt, .tup [.int (k : Nat), .ref q1, .ref q2, .int 1]) :: (q2, .lst [.int 1]) :: (q1, .lst [.int 1]) :: E, sv ++ [.ref pt], (leaf, k) :: st, k + 1, some (.str ⟨#[46]⟩), x6, x7, x8, x9, x10, x11, x12, x13, x14, ex, hrun3, ?_, ?_, ?_, rfl⟩, rfl⟩
        · show st.length + 1 ≤ i + 1
          omega
        · rw [List.reverse_cons]
          exact allV_snoc ⟨pt, q1, q2, rfl, .head _, .inl (.tail _ (.tail _ (.head _))), .inl (.tail _ (.head _))⟩ (allV_ex (fun _ _ z => z.mono (Ext.refl _) fun z hz => .tail _ (.tail _ (.tail _ hz))) hsv)
        · have e3 : (((k + 1 : Nat) : Int) - 1) = (k : Nat) := by omega
          have e4 : widS ((leaf, k) :: st) = widS st := Nat.zero_add _
          rw [e3, e4]
          rfl
      · rintro σ' S' ⟨hI, h5⟩
        refine ifT_go (tst_go (op_go (var_go (v := .str ⟨#[46]⟩) h5 (c_go (eq_s (c := false) (by rw [close_is]; rfl) ?_)))))
        exact ⟨_, SLe.refl _, hI⟩
    · have est : st = (r, o + nS l) :: (l, o) :: rest := est
      subst est
      have hst : rest.length + 1 + 1 ≤ i := hst
      refine cut_go (fun σ' S' => σ' = [some (.str (tS b)), some (.str (fS fl)), some (.ref ps), some (.int ((k : Nat) - 1)), some (.int (widS ((r, o + nS l) :: (l, o) :: rest) : Nat)), some (.str ⟨#[41]⟩), x6, x7, x8, x9, x10, x11, x12, x13, x14] ∧ S' = ⟨F, E ++ [(ps, .lst sv)]⟩) ?_ ?_
      · refine ifT_go (tst_go (op_go (var_go (v := .str ⟨#[41]⟩) (by rfl) (c_go (eq_s (c := false) (by rw [dot_is]; rfl) ?_)))))
        exact ⟨_, SLe.refl _, rfl, rfl⟩
      · rintro σ' S' ⟨rfl, rfl⟩
        refine ifT_go (tst_go (op_go (var_go (v := .str ⟨#[41]⟩) (by rfl) (c_go (eq_s (c := true) (by rw [close_is]; rfl) ?_)))))
        show r_spB K a _ _ _
        exact spB_go ex hfl hb hi hrun3 (by omega) hsm hsv (fun σ S h => ⟨_, SLe.refl _, h⟩)
    · refine cut_go (fun σ' S' => σ' = [some (.str (tS b)), some (.str (fS fl)), some (.ref ps), some (.int ((k : Nat) - 1)), some (.int (widS st : Nat)), some (.str ⟨#[c]⟩), x6, x7, x8, x9, x10, x11, x12, x13, x14] ∧ S' = ⟨F, E ++ [(ps, .lst sv)]⟩) ?_ ?_
      · refine ifT_go (tst_go (op_go (var_go (v := .str ⟨#[c]⟩) (by rfl) (c_go (eq_s (c := false) (by rw [dot_is]; exact decide_eq_false h46) ?_)))))
        exact ⟨_, SLe.refl _, rfl, rfl⟩
      · rintro σ' S' ⟨rfl, rfl⟩
        refine ifT_go (tst_go (op_go (var_go (v := .str ⟨#[c]⟩) (by rfl) (c_go (eq_s (c := false) (by rw [close_is]; exact decide_eq_false h41) ?_)))))
        exact ⟨_, SLe.refl _, F, E, sv, st, k, _, x6, x7, x8, x9, x10, x11, x12, x13, x14, ex, hrun3, Nat.le_succ_of_le hst, hsv, rfl, rfl⟩
  · rintro σ S ⟨F, E, sv, st, k, x5, x6, x7, x8, x9, x10, x11, x12, x13, x14, ex, hrun, hst, hsv, rfl, rfl⟩
    have en : (itS (tS b)).n = (txt b).length := by show (txt b).toArray.size = _; rw [List.size_toArray]
    rw [en, List.take_length, hfin] at hrun
    cases hrun
    obtain ⟨sv1, v1, rfl, _, pb, q1, q2, rfl, Pb, hl1, hl2⟩ := allV_pop hsv
    have Pb : PartT E pb b 0 q1 q2 := Pb
    have hl1 : LE K F E q1 (intT (mF fl) b 0) := hl1
    have hl2 : LE K F E q2 (outT b) := hl2
    obtain ⟨c1, c2, c3, c4, c5, c6⟩ := int_small (mF fl) (b := b) (o := 0) hb
    obtain ⟨l1, l2, l3, l4, l5, l6⟩ := out_small (b := b) hb
    try dsimp only
    refine seq_go (set_go (mt_go (var_go (v := .ref ps) (by rfl) ⟨tyR, nil_go (pop_at ?_)⟩)))
    try dsimp only
    refine ret_go (tup_go (cons_go (calld_go (cons_go (op_go (var_go (v := .ref pb) (by rfl) (c_go (ixp (i := 1) Pb rfl (nil_go ?_)))))))))
    refine use_shutN q1 (intT (mF fl) b 0) (by rfl) hl1.s ⟨c1, c2⟩ fun F2 p2 e2 n2 h2 => ?_
    refine cons_go (calld_go (cons_go (op_go (var_go (v := .ref pb) (by rfl) (c_go (ixp (i := 2) Pb rfl (nil_go ?_)))))))
    refine use_shutN q2 (outT b) (by rfl) (hl2.mono e2 (List.Subset.refl _)).s ⟨l1, l2⟩ fun F3 p3 e3 n3 h3 => ?_
    refine cons_go (var_go (v := .int (widS [(b, 0)] : Nat)) (by rfl) (nil_go ⟨show 3 ≤ sizeLine by decide, fun p => ?_⟩))
    intro H' o'
    have oF := own_F o'
    refine ⟨⟨p, p2, p3, rfl, none_of ((ex.trans e2).trans e3) (o'.gs _ (.head _)).2, none_of ex n2, none_of (ex.trans e2) n3, (o'.gs _ (.head _)).1, oF _ _ (e3 _ _ h2), oF _ _ h3⟩, ((ex.trans e2).trans e3).trans oF⟩
end
section
variable {K : PySem.W.Frag} {a : Ads}
open TR
/-! ### the levels of a search -/
def sV (l : List (List Nat)) : List V := l.map fun s => V.str (pS s)
theorem sV_len (l : List (List Nat)) : (sV l).length = l.length := List.length_map _
theorem sVat {l : List (List Nat)} {i : Nat} {s : List Nat} (h : l[i]? = some s) : (sV l)[i]? = some (.str (pS s)) := by
  unfold sV
  rw [List.getElem?_map, h]
  rfl
theorem sV_snoc (l : List (List Nat)) (s : List Nat) : sV (l ++ [s]) = sV l ++ [.str (pS s)] := List.map_append
section
variable {S : Type} [DecidableEq S]
theorem expL_in : ∀ (xs : List S) (x : S) (q : List S × List S), x ∈ (expL xs q).1 → expL (xs ++ [x]) q = expL xs q
  | [], x, q, h => if_pos h
  | y :: ys, x, q, h => expL_in ys x _ h
theorem expL_no : ∀ (xs : List S) (x : S) (q : List S × List S), x ∉ (expL xs q).1 → expL (xs ++ [x]) q = ((expL xs q).1 ++ [x], (expL xs q).2 ++ [x])
  | [], x, q, h => if_neg h
  | y :: ys, x, q, h => expL_no ys x _ h
theorem nexL_snoc (step : S → List S) : ∀ (ys : List S) (y : S) (q : List S × List S), nexL step (ys ++ [y]) q = expL (step y) (nexL step ys q)
  | [], y, q => rfl
  | z :: ys, y, q => nexL_snoc step ys y _
structure QOk (rows : List S) (q : List S × List S) : Prop where
  nd : q.1.Nodup
  s1 : ∀ s ∈ q.1, s ∈ rows
  s2 : ∀ s ∈ q.2, s ∈ rows
  le : q.2.length ≤ q.1.length
theorem nd_len : ∀ {l rows : List S}, l.Nodup → (∀ s ∈ l, s ∈ rows) → l.length ≤ rows.length := by
  intro l
  induction l with
  | nil => exact fun _ _ => Nat.zero_le _
  | cons x l ih =>
    intro rows h1 h2
    have n := List.nodup_cons.mp h1
    have hm := h2 x List.mem_cons_self
    have := ih (rows := rows.erase x) n.2 fun s hs => (List.mem_erase_of_ne (fun e => n.1 (by rw [← e]; exact hs))).mpr (h2 s (List.mem_cons_of_mem _ hs))
    rw [List.length_erase_of_mem hm] at this
    have hp : 0 < rows.length := List.length_pos_of_mem hm
    show l.length + 1 ≤ rows.length
    omega
theorem QOk.len {rows : List S} {q : List S × List S} (h : QOk rows q) : q.1.length ≤ rows.length ∧ q.2.length ≤ rows.length := ⟨nd_len h.nd h.s1, Nat.le_trans h.le (nd_len h.nd h.s1)⟩
theorem QOk.one {rows : List S} {q : List S × List S} (h : QOk rows q) {x : S} (hx : x ∈ rows) : QOk rows (if x ∈ q.1 then q else (q.1 ++ [x], q.2 ++ [x])) := by
  split
  · exact h
  · rename_i hn
    refine ⟨?_, fun s hs => ?_, fun s hs => ?_, ?_⟩
    · refine List.nodup_append.mpr ⟨h.nd, by simp, fun y hy z hz e => ?_⟩
      rw [List.mem_singleton.mp hz] at e
      exact hn (e ▸ hy)
    · rcases List.mem_append.mp hs with hs | hs
      · exact h.s1 s hs
      · rw [List.mem_singleton.mp hs]
        exact hx
    · rcases List.mem_append.mp hs with hs | hs
      · exact h.s2 s hs
      · rw [List.mem_singleton.mp hs]
        exact hx
    · show (q.2 ++ [x]).length ≤ (q.1 ++ [x]).length
      rw [List.length_append, List.length_append]
      have := h.le
      omega
theorem QOk.exp {rows : List S} : ∀ (xs : List S) {q : List S × List S}, QOk rows q → (∀ x ∈ xs, x ∈ rows) → QOk rows (expL xs q)
  | [], _, h, _ => h
  | x :: xs, _, h, hx => QOk.exp xs (h.one (hx x List.mem_cons_self)) fun y hy => hx y (List.mem_cons_of_mem _ hy)
theorem QOk.nex {rows : List S} {step : S → List S} (hs : ∀ s ∈ rows, ∀ t ∈ step s, t ∈ rows) : ∀ (ys : List S) {q : List S × List S}, QOk rows q → (∀ y ∈ ys, y ∈ rows) → QOk rows (nexL step ys q)
  | [], _, h, _ => h
  | y :: ys, _, h, hy => QOk.nex hs ys (h.exp (step y) (hs y (hy y List.mem_cons_self))) fun z hz => hy z (List.mem_cons_of_mem _ hz)
theorem lvlL_nil (step : S → List S) : ∀ (n : Nat) (seen : List S), lvlL step n seen [] = []
  | 0, _ => rfl
  | _ + 1, _ => rfl
theorem lvlL_next (step : S → List S) (n : Nat) (seen : List S) {level : List S} (h : level ≠ []) : lvlL step (n + 1) seen level = level.length :: lvlL step n (nexL step level (seen, [])).1 (nexL step level (seen, [])).2 := by
  cases level with
  | nil => exact absurd rfl h
  | cons y ys => rfl
end
/-- the dict of what was seen -/
structure SeenD (kvs : List (Key × V)) (seen : List (List Nat)) : Prop where
  is : ∀ s, (valV kvs (Sum.inr (pS s) : Key)).isSome = decide (s ∈ seen)
  le : kvs.length ≤ seen.length
theorem SeenD.put {kvs : List (Key × V)} {seen : List (List Nat)} (h : SeenD kvs seen) (x : List Nat) (v : V) : SeenD (putK kvs (Sum.inr (pS x) : Key) v) (seen ++ [x]) := by
  refine ⟨fun s => ?_, ?_⟩
  · rw [valV_put]
    by_cases e : s = x
    · subst e
      rw [if_pos rfl]
      simp
    · rw [if_neg (fun z => e (pS_inj (Sum.inr.inj z))), h.is]
      simp [e]
  · have := length_putK kvs (Sum.inr (pS x) : Key) v
    have := h.le
    rw [List.length_append, List.length_singleton]
    omega
theorem seen_one (x : List Nat) (v : V) : SeenD (putK [] (Sum.inr (pS x) : Key) v) [x] := SeenD.put (kvs := []) (seen := []) ⟨fun s => by simp [valV], Nat.le_refl _⟩ x v
theorem toI_snoc (l : List Nat) (n : Nat) : iV (toI (l ++ [n])) = iV (toI l) ++ [.int (n : Nat)] := by
  unfold iV toI
  rw [List.map_append, List.map_append]
  rfl
end
section
variable {K : PySem.W.Frag} {a : Ads}
open TR
theorem vc_l_levels {vs : List V} {H : Hp} (g : List Nat × Addr × List (List Nat) × (List Nat → List (List Nat))) (h : (ct_l_levels K).pre g vs H) : ∃ S, Own S H ∧ r_l_levels K a (endsC (ct_l_levels K) g H) (start N_l_levels vs) S := by
  obtain ⟨s0, d, rows, step⟩ := g
  obtain ⟨e0, ⟨kvd, hd, hdl, hdk⟩, hs0, hst, hr32, hnd⟩ := h
  have e0 : vs = [.str (pS s0), .ref d] := e0
  subst e0
  have hd : H d = some (.dK kvd) := hd
  have hdl : kvd.length = rows.length := hdl
  have hdk : ∀ s ∈ rows, ∃ p, valV kvd (Sum.inr (pS s) : Key) = some (.ref p) ∧ SqL K H p (sV (step s)) := hdk
  have hs0 : s0 ∈ rows := hs0
  have hst : ∀ s ∈ rows, ∀ t ∈ step s, t ∈ rows := hst
  have hr32 : rows.length ≤ 32 := hr32
  refine ⟨⟨H, []⟩, Own.base H, ?_⟩
  refine seq_go (set_go ?_)
  intro ds
  refine var_go (v := .str (pS s0)) (by rfl) (c_go ⟨0, .inr (pS s0), rfl, rfl, ?_⟩)
  try dsimp only
  refine seq_go (set_go (lst_go (cons_go (var_go (v := .str (pS s0)) (by rfl) (nil_go ⟨show 1 ≤ sizeLine by decide, fun pl0 => ?_⟩)))))
  try dsimp only
  refine seq_go (set_go (lst_go (nil_go ⟨Nat.zero_le _, fun pc => ?_⟩)))
  try dsimp only
  generalize htot : lvlL step (rows.length + 1) [s0] [s0] = tot
  refine cut_go (fun σ' S' => σ'[4]? = some (some (.ref pc)) ∧ ∃ G, S' = ⟨H, (pc, .lst (iV (toI tot))) :: G⟩) ?_ ?_
  · refine ⟨kvd, .inr hd, ?_⟩
    refine ⟨by unfold rngOk; omega, ?_⟩
    have en : ((kvd.length : Int) + 1).toNat = rows.length + 1 := by omega
    rw [en]
    refine ⟨fun i σ S => ∃ (pl : Addr) (seen level : List (List Nat)) (cs : List Nat) (kvs : List (Key × V)) (E : List (Addr × HO)) (x5 x6 x7 x8 : Option V), cs ++ lvlL step (rows.length + 1 - i) seen level = tot ∧ QOk rows (seen, level) ∧ SeenD kvs seen ∧ cs.length ≤ i ∧
      σ = [some (.str (pS s0)), some (.ref d), some (.ref ds), some (.ref pl), some (.ref pc), x5, x6, x7, x8] ∧ S = ⟨H, (pc, .lst (iV (toI cs))) :: (pl, .lst (sV level)) :: (ds, .dK kvs) :: E⟩, ?_, fun _ _ _ _ _ => trivial, ?_, ?_⟩
    · refine ⟨pl0, [s0], [s0], [], _, [], none, none, none, none, htot, ⟨by simp, fun s hs => by rw [List.mem_singleton.mp hs]; exact hs0, fun s hs => by rw [List.mem_singleton.mp hs]; exact hs0, Nat.le_refl _⟩, seen_one s0 (.bl true), Nat.le_refl _, rfl, rfl⟩
    · rintro i σ S hi ⟨pl, seen, level, cs, kvs, E, x5, x6, x7, x8, hcs, hq, hk, hcl, rfl, rfl⟩
      have hi : i < rows.length + 1 := hi
      refine yldR_go ?_
      rw [Int.zero_add]
      refine nm_go ?_
      by_cases hlv : level = []
      · subst hlv
        refine seq_go (ifT_go (not_go (tru_go (var_go (v := .ref pl) (by rfl) (.inl ⟨sV [], .inl ⟨1, rfl⟩, ?_⟩)))))
        rw [lvlL_nil, List.append_nil] at hcs
        subst hcs
        exact ⟨_, SLe.refl _, rfl, _, rfl⟩
      · have hne : (sV level).isEmpty = false := by
          cases level with
          | nil => exact absurd rfl hlv
          | cons _ _ => rfl
        have ll := hq.len.2
        have ll : level.length ≤ rows.length := ll
        refine seq_go (ifT_go (not_go (tru_go (var_go (v := .ref pl) (by rfl) (.inl ⟨sV level, .inl ⟨1, rfl⟩, ?_⟩)))))
        rw [hne]
        try dsimp only
        refine nx_go ?_
        try dsimp only
        refine seq_go (drop_go (mt_go (var_go (v := .ref pc) (by rfl) ⟨.inl ⟨rfl, _, .inl ⟨0, rfl⟩⟩, ?_⟩)))
        refine cons_go (call1_go (cons_go (var_go (v := .ref pl) (by rfl) (nil_go ⟨sV level, .inl (.inl ⟨1, rfl⟩), nil_go ?_⟩))))
        refine app_go (E := []) (lt_line (by rw [iV_len]; unfold toI; rw [List.length_map]; omega)) ?_
        rw [sV_len, ← toI_snoc, List.nil_append]
        try dsimp only
        refine seq_go (set_go (lst_go (nil_go ⟨Nat.zero_le _, fun p6 => ?_⟩)))
        try dsimp only
        refine seq_go ?_
        refine .inl ⟨sV level, .inl ⟨2, rfl⟩, ?_⟩
        have hq0 : QOk rows (seen, ([] : List (List Nat))) := ⟨hq.nd, hq.s1, (fun _ z => nomatch z), Nat.zero_le _⟩
        refine ⟨fun j σ S => ∃ (kvs : List (Key × V)) (x7 x8 : Option V), SeenD kvs (nexL step (level.take j) (seen, [])).1 ∧ σ = [some (.str (pS s0)), some (.ref d), some (.ref ds), some (.ref pl), some (.ref pc), some (.int (i : Nat)), some (.ref p6), x7, x8] ∧
          S = ⟨H, (p6, .lst (sV (nexL step (level.take j) (seen, [])).2)) :: (pc, .lst (iV (toI (cs ++ [level.length])))) :: (pl, .lst (sV level)) :: (ds, .dK kvs) :: E⟩, ⟨kvs, x7, x8, hk, rfl, rfl⟩, ?_, ?_, ?_⟩
        · rintro j σ S _ ⟨kvs, x7, x8, _, rfl, rfl⟩
          exact .inl ⟨2, rfl⟩
        · rintro j σ S hj ⟨kvs, x7, x8, hk, rfl, rfl⟩ v hv
          have hj : j < (sV level).length := hj
          rw [sV_len] at hj
          obtain ⟨s, hs⟩ : ∃ s, level[j]? = some s := ⟨_, List.getElem?_eq_getElem hj⟩
          rw [sVat hs] at hv
          cases hv
          have hsr : s ∈ rows := hq.s2 s (List.mem_of_getElem? hs)
          have hqj : QOk rows (nexL step (level.take j) (seen, [])) := hq0.nex hst _ fun y hy => hq.s2 y (List.mem_of_mem_take hy)
          have hnx : nexL step (level.take (j + 1)) (seen, []) = expL (step s) (nexL step (level.take j) (seen, [])) := by rw [take_more hs, nexL_snoc]
          generalize nexL step (level.take j) (seen, []) = q at hk hqj hnx ⊢
          obtain ⟨p, hp1, hp2⟩ := hdk s hsr
          refine nm_go ?_
          refine ⟨kvd, .inr (pS s), .ref p, .inr hd, rfl, hp1, ?_⟩
          refine .inl ⟨sV (step s), .inr hp2, ?_⟩
          refine ⟨fun m σ S => ∃ (kvs : List (Key × V)) (x8 : Option V), SeenD kvs (expL ((step s).take m) q).1 ∧ σ = [some (.str (pS s0)), some (.ref d), some (.ref ds), some (.ref pl), some (.ref pc), some (.int (i : Nat)), some (.ref p6), some (.str (pS s)), x8] ∧
            S = ⟨H, (p6, .lst (sV (expL ((step s).take m) q).2)) :: (pc, .lst (iV (toI (cs ++ [level.length])))) :: (pl, .lst (sV level)) :: (ds, .dK kvs) :: E⟩, ⟨kvs, x8, hk, rfl, rfl⟩, fun m σ S _ ⟨_, _, _, _, e⟩ => by subst e; exact .inr hp2, ?_, ?_⟩
          · rintro m σ S hm ⟨kvs, x8, hk, rfl, rfl⟩ v hv
            have hm : m < (sV (step s)).length := hm
            rw [sV_len] at hm
            obtain ⟨t, ht⟩ : ∃ t, (step s)[m]? = some t := ⟨_, List.getElem?_eq_getElem hm⟩
            rw [sVat ht] at hv
            cases hv
            have hqm : QOk rows (expL ((step s).take m) q) := hqj.exp _ fun y hy => hst s hsr y (List.mem_of_mem_take hy)
            obtain ⟨b1, b2⟩ := hqm.len
            have b3 := hk.le
            refine nm_go ?_
            refine ifT_go (var_go (v := .str (pS t)) (by rfl) (var_go (v := .ref ds) (by rfl) ⟨kvs, .inr (pS t), .inl ⟨3, rfl⟩, rfl, ?_⟩))
            rw [hk.is]
            by_cases hin : t ∈ (expL ((step s).take m) q).1
            · rw [decide_eq_true hin]
              exact ⟨_, SLe.refl _, kvs, _, by rw [take_more ht, expL_in _ _ _ hin]; exact hk, rfl, by rw [take_more ht, expL_in _ _ _ hin]⟩
            · rw [decide_eq_false hin]
              show sSeq _ _ _ _ _
              refine seq_go (c_go (var_go (v := .ref ds) (by rfl) (var_go (v := .str (pS t)) (by rfl) ⟨3, kvs, .inr (pS t), rfl, rfl, lt_line (by omega), ?_⟩)))
              try dsimp only
              refine drop_go (mt_go (var_go (v := .ref p6) (by rfl) ⟨.inl ⟨rfl, _, .inl ⟨0, rfl⟩⟩, ?_⟩))
              refine cons_go (var_go (v := .str (pS t)) (by rfl) (nil_go ?_))
              refine app_go (E := []) (lt_line (by rw [sV_len]; omega)) ?_
              refine ⟨_, SLe.refl _, putK kvs (.inr (pS t)) (.bl true), _, by rw [take_more ht, expL_no _ _ _ hin]; exact hk.put t _, rfl, ?_⟩
              rw [take_more ht, expL_no _ _ _ hin, sV_snoc]
              rfl
          · rintro σ S ⟨kvs, x8, hk, rfl, rfl⟩
            have e2 : (itL K p (sV (step s))).n = (step s).length := sV_len _
            rw [e2, List.take_length] at hk
            rw [e2, List.take_length]
            exact ⟨_, SLe.refl _, kvs, _, _, by rw [hnx]; exact hk, rfl, by rw [hnx]⟩
        · rintro σ S ⟨kvs, x7, x8, hk, rfl, rfl⟩
          have e2 : (itL K pl (sV level)).n = level.length := sV_len _
          rw [e2, List.take_length] at hk
          rw [e2, List.take_length]
          have hq2 : QOk rows (nexL step level (seen, [])) := hq0.nex hst _ fun y hy => hq.s2 y hy
          have e3 : rows.length + 1 - i = (rows.length + 1 - (i + 1)) + 1 := by omega
          rw [e3, lvlL_next step _ _ hlv] at hcs
          try dsimp only
          refine set_go (var_go (v := .ref p6) (by rfl) ?_)
          refine ⟨_, sle_perm (G0 := (pc, .lst (iV (toI (cs ++ [level.length])))) :: (p6, .lst (sV (nexL step level (seen, [])).2)) :: (ds, .dK kvs) :: (pl, .lst (sV level)) :: E) ?_, p6, _, _, cs ++ [level.length], kvs, _, _, _, _, _, ?_, hq2, hk, ?_, rfl, rfl⟩
          · exact (List.Perm.swap _ _ _).trans (.cons _ (.cons _ (List.Perm.swap _ _ _)))
          · rw [List.append_assoc]
            exact hcs
          · rw [List.length_append]
            exact Nat.succ_le_succ hcl
    · rintro σ S ⟨pl, seen, level, cs, kvs, E, x5, x6, x7, x8, hcs, hq, hk, hcl, rfl, rfl⟩
      have hcs : cs ++ lvlL step (rows.length + 1 - (rows.length + 1)) seen level = tot := hcs
      rw [Nat.sub_self] at hcs
      have hcs : cs ++ [] = tot := hcs
      rw [List.append_nil] at hcs
      subst hcs
      exact ⟨_, SLe.refl _, rfl, _, rfl⟩
  · rintro σ' S' ⟨h4, G, rfl⟩
    refine ret_go (var_go h4 ?_)
    intro H' o'
    show newI (toI (lvlL step (rows.length + 1) [s0] [s0])) H _ H' ∧ _
    rw [htot]
    exact fin_new o' (.head _)
end
section
variable {K : PySem.W.Frag} {a : Ads}
open TR
/-! ### dicts by rows -/
structure KDx (rows : List (List Nat)) (kvs : List (Key × V)) (f : Nat → List Nat → V → Prop) : Prop where
  len : kvs.length = rows.length
  no : ∀ s, s ∉ rows → valV kvs (Sum.inr (pS s) : Key) = none
  at_ : ∀ i s, rows[i]? = some s → ∃ v, valV kvs (Sum.inr (pS s) : Key) = some v ∧ f i s v
theorem putK_new {kvs : List (Key × V)} {k : Key} {v : V} (h : valV kvs k = none) : putK kvs k v = kvs ++ [(k, v)] := by
  unfold putK
  rw [valV_any, h]
  rfl
theorem KDx.put {rows : List (List Nat)} {kvs : List (Key × V)} {f f' : Nat → List Nat → V → Prop} {s : List Nat} {v : V} (h : KDx rows kvs f) (hs : s ∉ rows) (hf : ∀ i t u, i < rows.length → f i t u → f' i t u) (hv : f' rows.length s v) : KDx (rows ++ [s]) (putK kvs (Sum.inr (pS s)) v) f' := by
  refine ⟨?_, fun t ht => ?_, fun i t ht => ?_⟩
  · rw [putK_new (h.no s hs), List.length_append, List.length_append, h.len]
    rfl
  · have h1 : t ≠ s := fun e => ht (by rw [e]; exact List.mem_append_right _ (.head _))
    have h2 : t ∉ rows := fun e => ht (List.mem_append_left _ e)
    rw [valV_put, if_neg fun z => h1 (pS_inj (Sum.inr.inj z))]
    exact h.no t h2
  · by_cases hi : i < rows.length
    · rw [List.getElem?_append_left hi] at ht
      obtain ⟨u, h1, h2⟩ := h.at_ i t ht
      have h3 : t ≠ s := fun e => hs (by rw [← e]; exact List.mem_of_getElem? ht)
      exact ⟨u, by rw [valV_put, if_neg fun z => h3 (pS_inj (Sum.inr.inj z))]; exact h1, hf i t u hi h2⟩
    · rw [List.getElem?_append_right (by omega)] at ht
      have hz : i - rows.length = 0 := by
        have := (List.getElem?_eq_some_iff.mp ht).1
        have : i - rows.length < 1 := this
        omega
      rw [hz] at ht
      cases ht
      have : i = rows.length := by omega
      subst this
      exact ⟨v, by rw [valV_put, if_pos rfl], hv⟩
theorem KDx.mono {rows : List (List Nat)} {kvs : List (Key × V)} {f f' : Nat → List Nat → V → Prop} (h : KDx rows kvs f) (hf : ∀ i t u, rows[i]? = some t → f i t u → f' i t u) : KDx rows kvs f' :=
  ⟨h.len, h.no, fun i s e => let ⟨v, h1, h2⟩ := h.at_ i s e; ⟨v, h1, hf i s v e h2⟩⟩
theorem kdx_nil (f : Nat → List Nat → V → Prop) : KDx [] [] f := ⟨rfl, fun _ _ => rfl, fun i s h => by cases h⟩
/-- the lists behind the rows -/
def bkF (bl : List (Addr × HO)) (ct : List Nat → List (List Nat)) (i : Nat) (s : List Nat) (v : V) : Prop := ∃ p, v = .ref p ∧ bl[i]? = some (p, .lst (sV (ct s)))
def stP (E : List (Addr × HO)) (b : TR) (_ : Nat) (s : List Nat) (v : V) : Prop := ∃ p, v = .ref p ∧ (p, HO.lst (sV (stF b s))) ∈ E
/-- the steps back that are laid so far -/
def bkP (R : List (List Nat)) (b : TR) (i : Nat) (s : List Nat) : List (List Nat) := (R.take i).flatMap fun r => (stF b r).filterMap fun t => if t = s then some r else none
def bkQ (R : List (List Nat)) (b : TR) (i : Nat) (r : List Nat) (m : Nat) (s : List Nat) : List (List Nat) := bkP R b i s ++ ((stF b r).take m).filterMap fun t => if t = s then some r else none
theorem bkQ_zero {R : List (List Nat)} {b : TR} {i : Nat} {r s : List Nat} : bkQ R b i r 0 s = bkP R b i s := by
  unfold bkQ
  rw [List.take_zero]
  exact List.append_nil _
theorem bkQ_more {R : List (List Nat)} {b : TR} {i m : Nat} {r t : List Nat} (h : (stF b r)[m]? = some t) (s : List Nat) : bkQ R b i r (m + 1) s = if t = s then bkQ R b i r m s ++ [r] else bkQ R b i r m s := by
  unfold bkQ
  rw [take_more h, List.filterMap_append]
  split
  · rename_i e
    rw [List.append_assoc]
    congr 1
    congr 1
    simp [e]
  · rename_i e
    congr 1
    simp [e]
theorem bkQ_all {R : List (List Nat)} {b : TR} {i : Nat} {r : List Nat} (h : R[i]? = some r) (s : List Nat) : bkQ R b i r (stF b r).length s = bkP R b (i + 1) s := by
  unfold bkQ bkP
  rw [List.take_length, flat_more h]
theorem bkP_all {b : TR} {k : Nat} (s : List Nat) : bkP (eacL k) b (eacL k).length s = stB k b s := by
  unfold bkP stB
  rw [List.take_length]
theorem nodup_ix {l : List (List Nat)} (h : l.Nodup) {i j : Nat} {x : List Nat} (a : l[i]? = some x) (b : l[j]? = some x) : i = j := nodup_at h a b
theorem KDx.upd {R : List (List Nat)} {kb : List (Key × V)} {bl : List (Addr × HO)} {ct ct' : List Nat → List (List Nat)} {j : Nat} {t r : List Nat} {p : Addr} (h : KDx R kb (bkF bl ct)) (hn : R.Nodup) (hj : R[j]? = some t) (hp : bl[j]? = some (p, .lst (sV (ct t)))) (hc : ∀ u, ct' u = if t = u then ct u ++ [r] else ct u) :
    KDx R kb (bkF (bl.set j (p, .lst (sV (ct t ++ [r])))) ct') := by
  refine h.mono fun i u v hi hf => ?_
  obtain ⟨q, rfl, hq⟩ := hf
  by_cases e : j = i
  · subst e
    rw [hj] at hi
    cases hi
    rw [hp] at hq
    have e1 : p = q := congrArg Prod.fst (Option.some.inj hq)
    subst e1
    refine ⟨p, rfl, ?_⟩
    rw [List.getElem?_set_self (List.getElem?_eq_some_iff.mp hp).1, hc, if_pos rfl]
  · have ne : t ≠ u := fun z => e (nodup_ix hn hj (by rw [z]; exact hi))
    refine ⟨q, rfl, ?_⟩
    rw [List.getElem?_set_ne e, hc, if_neg ne]
    exact hq
/-! ### the calls -/
theorem use_spreadL {res : List Bool → TR → List Int} {W : sWX} {σ : L2.St} {F : Hp} {G : List (Addr × HO)} {Q : V → SH → Prop} {vs : List V} (tv : V) (b : TR) (fl : List Bool) (e : vs = [tv, .str (fS fl)]) (hT : TreeAt K a F tv b) (hl : fl.length + 1 = nS b)
    (k : ∀ F2 p', Ext F F2 → F p' = none → F2 p' = some (.lst (iV (res fl b))) → Q (.ref p') ⟨F2, G⟩) : rC (ct_spread K a res) W vs σ ⟨F, G⟩ Q := by
  have hsm := hT.sm
  refine ⟨(tv, b, .str (fS fl), .str), fun H o => ⟨e, hT.ext (own_F o), rfl, fS_sgn (by omega)⟩, fun H v H' o r => ?_, fun H c d H' o r => ?_⟩
  · obtain ⟨F2, p', o2, e2, rfl, h1, h2⟩ := new_hidN o r.2.2 (r.2.1 fl rfl)
    exact ⟨_, o2, k F2 p' e2 h1 h2⟩
  · have := r.1
    have h2 := flOk_yes (b := b) hl
    have this : flOk false b (.str (fS fl)) = false := this
    rw [h2] at this
    cases this
theorem use_levels {W : sWX} {σ : L2.St} {F : Hp} {G : List (Addr × HO)} {Q : V → SH → Prop} {vs : List V} (s0 : List Nat) (d : Addr) (kvd : List (Key × V)) (rows : List (List Nat)) (step : List Nat → List (List Nat)) (e : vs = [.str (pS s0), .ref d]) (hd : (d, HO.dK kvd) ∈ G) (hl : kvd.length = rows.length)
    (hk : ∀ s ∈ rows, ∃ p, valV kvd (Sum.inr (pS s) : Key) = some (.ref p) ∧ (p, HO.lst (sV (step s))) ∈ G) (h0 : s0 ∈ rows) (hst : ∀ s ∈ rows, ∀ t ∈ step s, t ∈ rows) (h32 : rows.length ≤ 32) (hn : rows.Nodup)
    (k : ∀ F2 p', Ext F F2 → SqL K F2 p' (iV (toI (lvlL step (rows.length + 1) [s0] [s0]))) → Q (.ref p') ⟨F2, G⟩) : rC (ct_l_levels K) W vs σ ⟨F, G⟩ Q :=
  ⟨(s0, d, rows, step), fun H o => ⟨e, ⟨kvd, (o.gs _ hd).1, hl, fun s hs => let ⟨p, h1, h2⟩ := hk s hs; ⟨p, h1, .of (o.gs _ h2).1⟩⟩, h0, hst, h32, hn⟩, fun H v H' o r => by
    obtain ⟨F2, p', o2, e2, rfl, h⟩ := new_hid (K := K) o r.2 r.1
    exact ⟨_, o2, k F2 p' e2 h⟩, fun _ _ _ _ _ q => q.elim⟩
theorem use_each {W : sWX} {σ : L2.St} {F : Hp} {G : List (Addr × HO)} {Q : V → SH → Prop} {vs : List V} (n : Nat) (e : vs = [.int (n : Nat)]) (hn : n ≤ 5) (k : ∀ F2 p', Ext F F2 → SqL K F2 p' (sV (eacL n)) → Q (.ref p') ⟨F2, G⟩) : rC (ct_l_each K) W vs σ ⟨F, G⟩ Q :=
  ⟨n, fun H o => ⟨e, hn⟩, fun H v H' o r => by
    obtain ⟨⟨p, rfl, h1, h2⟩, h3⟩ := r
    obtain ⟨o2, e2⟩ := own_hidA o h3
    exact ⟨_, o2, k _ p e2 (.of (hid_new o h1 h2))⟩, fun _ _ _ _ _ q => q.elim⟩
theorem use_great {W : sWX} {σ : L2.St} {S : SH} {Q : V → SH → Prop} {vs : List V} (tv : V) (b : TR) (e : vs = [tv]) (hT : ∀ H, Own S H → TreeAt K a H tv b) (k : Q (.int (widT b : Nat)) S) : rC (ct_tree_n K a widT) W vs σ S Q :=
  ⟨(tv, b), fun H o => ⟨e, hT H o⟩, fun H v H' o q => ⟨S, o.ex q.2, by rw [q.1]; exact k⟩, fun _ _ _ _ _ q => q.elim⟩
end
section
variable {K : PySem.W.Frag} {a : Ads}
open TR
theorem bkF_len {R : List (List Nat)} {kb : List (Key × V)} {bl : List (Addr × HO)} {ct : List Nat → List (List Nat)} (h : KDx R kb (bkF bl ct)) {i : Nat} {s : List Nat} (e : R[i]? = some s) : ∃ p, valV kb (Sum.inr (pS s) : Key) = some (.ref p) ∧ bl[i]? = some (p, .lst (sV (ct s))) := by
  obtain ⟨v, h1, p, rfl, h2⟩ := h.at_ i s e
  exact ⟨p, h1, h2⟩
theorem notin_take {R : List (List Nat)} (hn : R.Nodup) {i : Nat} {s : List Nat} (e : R[i]? = some s) : s ∉ R.take i := fun h => by
  obtain ⟨j, hj⟩ := List.mem_iff_getElem?.mp h
  rw [List.getElem?_take] at hj
  split at hj
  · rename_i hji
    have := nodup_ix hn e hj
    omega
  · cases hj
theorem back_go {F : Hp} {R : List (List Nat)} {ds db q : Addr} {x0 x1 x2 x6 x7 x8 x9 : Option V} {D : sEnds} (hn : R.Nodup) (h32 : R.length ≤ 32) (hq : SqL K F q (sV R))
    (k : ∀ (kb : List (Key × V)) (bl : List (Addr × HO)) (x6 : Option V), KDx R kb (bkF bl fun _ => []) → bl.length = R.length → D.nx [x0, x1, x2, some (.ref q), some (.ref ds), some (.ref db), x6, x7, x8, x9] ⟨F, (db, .dK kb) :: (ds, .dK []) :: (bl ++ [])⟩) :
    (sFor (siSeq K (sVar 3)) (sgName 6) (sDPutK (sVar 5) (sVar 6) (sLst (sNil)))) D [x0, x1, x2, some (.ref q), some (.ref ds), some (.ref db), x6, x7, x8, x9] ⟨F, [(db, .dK []), (ds, .dK [])]⟩ := by
  refine .inl ⟨sV R, .inr hq, ?_⟩
  refine ⟨fun i σ S => ∃ (kb : List (Key × V)) (bl : List (Addr × HO)) (x6 : Option V), KDx (R.take i) kb (bkF bl fun _ => []) ∧ bl.length = i ∧ σ = [x0, x1, x2, some (.ref q), some (.ref ds), some (.ref db), x6, x7, x8, x9] ∧ S = ⟨F, (db, .dK kb) :: (ds, .dK []) :: bl⟩, ⟨[], [], x6, by rw [List.take_zero]; exact kdx_nil _, rfl, rfl, rfl⟩, ?_, ?_, ?_⟩
  · rintro i σ S _ ⟨_, _, _, _, _, rfl, rfl⟩
    exact .inr hq
  · rintro i σ S hi ⟨kb, bl, x6, hk, hl, rfl, rfl⟩ v hv
    have hi : i < (sV R).length := hi
    rw [sV_len] at hi
    obtain ⟨s, hs⟩ : ∃ s, R[i]? = some s := ⟨_, List.getElem?_eq_getElem hi⟩
    rw [sVat hs] at hv
    cases hv
    have hkl := hk.len
    rw [List.length_take] at hkl
    refine nm_go ?_
    refine lst_go (nil_go ⟨Nat.zero_le _, fun p => ?_⟩)
    refine var_go (v := .ref db) (by rfl) (var_go (v := .str (pS s)) (by rfl) ⟨1, kb, .inr (pS s), rfl, rfl, lt_line (by omega), ?_⟩)
    refine ⟨_, sle_perm (G0 := (db, .dK (putK kb (.inr (pS s)) (.ref p))) :: (ds, .dK []) :: (bl ++ [(p, .lst [])])) ?_, _, bl ++ [(p, .lst [])], some (.str (pS s)), ?_, ?_, rfl, rfl⟩
    · exact (List.perm_append_singleton (p, HO.lst []) ((db, HO.dK (putK kb (.inr (pS s)) (.ref p))) :: (ds, HO.dK []) :: bl)).symm
    · rw [take_more hs]
      refine hk.put (notin_take hn hs) (fun j t u hj ⟨p2, h1, h2⟩ => ⟨p2, h1, ?_⟩) ⟨p, rfl, ?_⟩
      · have : j < bl.length := (List.getElem?_eq_some_iff.mp h2).1
        rw [List.getElem?_append_left this]
        exact h2
      · rw [List.length_take, show min i R.length = bl.length by omega, List.getElem?_append_right (Nat.le_refl _), Nat.sub_self]
        rfl
    · rw [List.length_append, hl]
      rfl
  · rintro σ S ⟨kb, bl, x6, hk, hl, rfl, rfl⟩
    have en : (itL K q (sV R)).n = R.length := sV_len R
    rw [en] at hl
    rw [en, List.take_length] at hk
    have := k kb bl x6 hk hl
    rw [List.append_nil] at this
    exact this
theorem hits_lc {F : Hp} {G : List (Addr × HO)} {b : TR} {r : List Nat} {pw : Addr} {wv : List V} {x0 x1 x3 x4 x5 x7 x8 x9 : Option V} {Q : V → SH → Prop} {W : sWX} (hw : SqL K F pw wv) (hwy : allV (lwyR K [] F) wv (wayB b 0)) (hk : r.length + 1 = nS b) (hb : nS b ≤ 6) (k : ∀ D, Q (.ref D) ⟨F, (D, .lst (sV (stF b r))) :: G⟩) :
    sLc (siSeq K (sVar 2)) (sgName 9) (sYes) (sCallD (q_l_hit K a) [] (sCons (sVar 6) (sCons (sVar 9) (sNil)))) [9] W [x0, x1, some (.ref pw), x3, x4, x5, some (.str (pS r)), x7, x8, x9] ⟨F, G⟩ Q := by
  refine .inl ⟨wv, .inr hw, fun D => ?_⟩
  have lw : wv.length = nS b := by rw [allV_len hwy, wayB_len]
  refine ⟨fun j S => S = ⟨F, (D, .lst (sV ((stF b r).take j))) :: G⟩, rfl, fun j S _ e => by subst e; exact .inr hw, ?_, ?_⟩
  · rintro j S hj rfl v hv
    have hj : j < wv.length := hj
    obtain ⟨w, hw1, hw2⟩ := allV_at hwy hv
    have hm := List.mem_of_getElem? hw1
    refine nm_go ⟨rfl, ?_⟩
    refine calld_go (cons_go (var_go (v := .str (pS r)) (by rfl) (cons_go (var_go (v := v) (by rfl) (nil_go ?_)))))
    refine use_hit r v w (by rfl) hw2 (fun s hs => way_k hk w hm s hs) (by omega) ?_
    refine ⟨0, _, rfl, ?_, ⟨_, SLe.refl _, ?_⟩⟩
    · rw [sV_len, List.length_take]
      exact lt_line (by omega)
    · show SH.mk F ((D, HO.lst (sV ((stF b r).take j) ++ [.str (pS (hitL r w))])) :: G) = _
      have e : (stF b r)[j]? = some (hitL r w) := by
        unfold stF
        rw [List.getElem?_map, hw1]
        rfl
      rw [take_more e, sV_snoc]
  · rintro S rfl
    have en : (itL K pw wv).n = (stF b r).length := by
      show wv.length = _
      unfold stF
      rw [List.length_map, wayB_len, lw]
    rw [en, List.take_length]
    exact k D
theorem stF_R {b : TR} {k : Nat} (hk : k + 1 = nS b) {s : List Nat} (hs : s ∈ eacL k) : ∀ t ∈ stF b s, t ∈ eacL k := fun t ht => eac_mem ((stF_enc hk (eac_flt k s hs)).2 t ht)
theorem stF_len (b : TR) (s : List Nat) : (stF b s).length = nS b := by
  unfold stF
  rw [List.length_map, wayB_len]
theorem bkP_len {b : TR} {R : List (List Nat)} (s : List Nat) : ∀ i, (bkP R b i s).length ≤ i * nS b
  | 0 => by
    unfold bkP
    rw [List.take_zero]
    exact Nat.zero_le _
  | i + 1 => by
    have ih := bkP_len (b := b) (R := R) s i
    cases e : R[i]? with
    | none =>
      have : R.length ≤ i := List.getElem?_eq_none_iff.mp e
      have e1 : bkP R b (i + 1) s = bkP R b i s := by
        unfold bkP
        rw [List.take_of_length_le (by omega), List.take_of_length_le this]
      rw [e1, Nat.add_mul]
      omega
    | some r =>
      rw [← bkQ_all e, Nat.add_mul]
      unfold bkQ
      rw [List.length_append]
      have h1 : (((stF b r).take (stF b r).length).filterMap fun t => if t = s then some r else none).length ≤ nS b := Nat.le_trans (List.length_filterMap_le _ _) (by rw [List.length_take, Nat.min_self, stF_len]; exact Nat.le_refl _)
      omega
theorem bkQ_len {b : TR} {R : List (List Nat)} (i : Nat) (r : List Nat) (m : Nat) (s : List Nat) : (bkQ R b i r m s).length ≤ i * nS b + m := by
  have h1 := bkP_len (b := b) (R := R) s i
  have h2 := List.length_filterMap_le (fun t => if t = s then some r else none) ((stF b r).take m)
  rw [List.length_take] at h2
  unfold bkQ
  rw [List.length_append]
  omega
end
section
variable {K : PySem.W.Frag} {a : Ads}
open TR
theorem steps_go {F : Hp} {b : TR} {n : Nat} {kb : List (Key × V)} {bl0 : List (Addr × HO)} {ds db q pw : Addr} {wv : List V} {x0 x1 x6 x7 x8 x9 : Option V} {D : sEnds} (hn : n + 1 = nS b) (hb : nS b ≤ 6) (hq : SqL K F q (sV (eacL n))) (hw : SqL K F pw wv) (hwy : allV (lwyR K [] F) wv (wayB b 0))
    (h0 : KDx (eacL n) kb (bkF bl0 fun _ => [])) (l0 : bl0.length = (eacL n).length)
    (k : ∀ (ks : List (Key × V)) (bl E : List (Addr × HO)) (x6 x7 x8 : Option V), KDx (eacL n) kb (bkF bl (stB n b)) → KDx (eacL n) ks (stP E b) → D.nx [x0, x1, some (.ref pw), some (.ref q), some (.ref ds), some (.ref db), x6, x7, x8, x9] ⟨F, (db, .dK kb) :: (ds, .dK ks) :: (bl ++ E)⟩) :
    (sFor (siSeq K (sVar 3)) (sgName 6) (sSeq (sDPutK (sVar 4) (sVar 6) (sLc (siSeq K (sVar 2)) (sgName 9) (sYes) (sCallD (q_l_hit K a) [] (sCons (sVar 6) (sCons (sVar 9) (sNil)))) [9])) (sFor (siSeq K (sDGet (sVar 4) (sVar 6))) (sgName 7) (sSeq (sSet (sDGet (sVar 5) (sVar 7)) 8) (sDrop (sMt K "list" mAppend (sVar 8) (sCons (sVar 6) (sNil)))))))) D
      [x0, x1, some (.ref pw), some (.ref q), some (.ref ds), some (.ref db), x6, x7, x8, x9] ⟨F, (db, .dK kb) :: (ds, .dK []) :: (bl0 ++ [])⟩ := by
  have hR32 : (eacL n).length ≤ 32 := by
    rw [eac_len]
    exact Nat.le_trans (Nat.pow_le_pow_right (by decide) (show n ≤ 5 by omega)) (by decide)
  have hnd := eac_nodup n
  refine .inl ⟨sV (eacL n), .inr hq, ?_⟩
  refine ⟨fun i σ S => ∃ (ks : List (Key × V)) (bl E : List (Addr × HO)) (x6 x7 x8 : Option V), KDx (eacL n) kb (bkF bl (bkP (eacL n) b i)) ∧ KDx ((eacL n).take i) ks (stP E b) ∧ bl.length = (eacL n).length ∧ σ = [x0, x1, some (.ref pw), some (.ref q), some (.ref ds), some (.ref db), x6, x7, x8, x9] ∧ S = ⟨F, (db, .dK kb) :: (ds, .dK ks) :: (bl ++ E)⟩, ⟨[], bl0, [], x6, x7, x8, h0, by rw [List.take_zero]; exact kdx_nil _, l0, rfl, rfl⟩, ?_, ?_, ?_⟩
  · rintro i σ S _ ⟨_, _, _, _, _, _, _, _, _, _, rfl⟩
    exact .inr hq
  · rintro i σ S hi ⟨ks, bl, E, x6, x7, x8, hkb, hks, hl, rfl, rfl⟩ v hv
    have hi : i < (sV (eacL n)).length := hi
    rw [sV_len] at hi
    obtain ⟨r, hr⟩ : ∃ r, (eacL n)[i]? = some r := ⟨_, List.getElem?_eq_getElem hi⟩
    rw [sVat hr] at hv
    cases hv
    have hrm := List.mem_of_getElem? hr
    have hrl := (eac_flt n r hrm).1
    have hkl := hks.len
    rw [List.length_take] at hkl
    refine nm_go ?_
    refine seq_go ?_
    refine hits_lc hw hwy (by omega) hb fun D1 => ?_
    refine var_go (v := .ref ds) (by rfl) (var_go (v := .str (pS r)) (by rfl) ⟨2, ks, .inr (pS r), rfl, rfl, lt_line (by omega), ?_⟩)
    have hks' : KDx ((eacL n).take (i + 1)) (putK ks (.inr (pS r)) (.ref D1)) (stP ((D1, .lst (sV (stF b r))) :: E) b) := by
      rw [take_more hr]
      exact hks.put (notin_take hnd hr) (fun j t u hj ⟨p, h1, h2⟩ => ⟨p, h1, .tail _ h2⟩) ⟨D1, rfl, .head _⟩
    have hval : valV (putK ks (.inr (pS r)) (.ref D1)) (.inr (pS r) : Key) = some (.ref D1) := by rw [valV_put, if_pos rfl]
    generalize putK ks (.inr (pS r)) (.ref D1) = ks' at hks' hval ⊢
    try dsimp only
    refine ⟨_, .inr (pS r), .ref D1, .inl ⟨2, rfl⟩, rfl, hval, ?_⟩
    refine .inl ⟨sV (stF b r), .inl ⟨0, rfl⟩, ?_⟩
    refine ⟨fun m σ S => ∃ (bl : List (Addr × HO)) (x7 x8 : Option V), KDx (eacL n) kb (bkF bl (bkQ (eacL n) b i r m)) ∧ bl.length = (eacL n).length ∧ σ = [x0, x1, some (.ref pw), some (.ref q), some (.ref ds), some (.ref db), some (.str (pS r)), x7, x8, x9] ∧ S = ⟨F, (D1, .lst (sV (stF b r))) :: (db, .dK kb) :: (ds, .dK ks') :: (bl ++ E)⟩,
      ⟨bl, x7, x8, hkb.mono (fun j t u _ ⟨p, h1, h2⟩ => ⟨p, h1, by rw [bkQ_zero]; exact h2⟩), hl, rfl, rfl⟩, ?_, ?_, ?_⟩
    · rintro m σ S _ ⟨_, _, _, _, _, _, rfl⟩
      exact .inl ⟨0, rfl⟩
    · rintro m σ S hm ⟨bl, x7, x8, hk, hl, rfl, rfl⟩ v hv
      have hm : m < (sV (stF b r)).length := hm
      rw [sV_len] at hm
      obtain ⟨t, ht⟩ : ∃ t, (stF b r)[m]? = some t := ⟨_, List.getElem?_eq_getElem hm⟩
      rw [sVat ht] at hv
      cases hv
      rw [stF_len] at hm
      obtain ⟨j, hj⟩ := List.mem_iff_getElem?.mp (stF_R hn hrm t (List.mem_of_getElem? ht))
      obtain ⟨p, hv1, hv2⟩ := bkF_len hk hj
      have hjl : j < bl.length := (List.getElem?_eq_some_iff.mp hv2).1
      have hG : ((D1, HO.lst (sV (stF b r))) :: (db, HO.dK kb) :: (ds, HO.dK ks') :: (bl ++ E))[j + 3]? = some (p, .lst (sV (bkQ (eacL n) b i r m t))) := by
        show (bl ++ E)[j]? = _
        rw [List.getElem?_append_left hjl]
        exact hv2
      have bd : i * nS b ≤ 32 * 6 := Nat.mul_le_mul (by omega) hb
      have bq := bkQ_len (b := b) (R := eacL n) i r m t
      refine nm_go ?_
      refine seq_go (set_go (var_go (v := .ref db) (by rfl) (var_go (v := .str (pS t)) (by rfl) ⟨kb, .inr (pS t), .ref p, .inl ⟨1, rfl⟩, rfl, hv1, ?_⟩)))
      try dsimp only
      refine drop_go (mt_go (var_go (v := .ref p) (by rfl) ⟨.inl ⟨rfl, _, .inl ⟨j + 3, hG⟩⟩, ?_⟩))
      refine cons_go (var_go (v := .str (pS r)) (by rfl) (nil_go ?_))
      refine ⟨j + 3, _, hG, lt_line (by rw [sV_len]; omega), ?_⟩
      refine ⟨_, SLe.refl _, bl.set j (p, .lst (sV (bkQ (eacL n) b i r m t ++ [r]))), _, _, hk.upd hnd hj hv2 (fun u => bkQ_more ht u), by rw [List.length_set]; exact hl, rfl, ?_⟩
      show SH.mk F ((D1, HO.lst (sV (stF b r))) :: (db, HO.dK kb) :: (ds, HO.dK ks') :: ((bl ++ E).set j (p, HO.lst (sV (bkQ (eacL n) b i r m t) ++ [.str (pS r)])))) = _
      rw [List.set_append_left _ _ hjl, ← sV_snoc]
    · rintro σ S ⟨bl, x7, x8, hk, hl, rfl, rfl⟩
      have en : (itL K D1 (sV (stF b r))).n = (stF b r).length := sV_len _
      rw [en] at hk
      refine ⟨_, sle_perm (G0 := (db, .dK kb) :: (ds, .dK ks') :: (bl ++ (D1, .lst (sV (stF b r))) :: E)) ?_, ks', bl, (D1, .lst (sV (stF b r))) :: E, _, _, _, hk.mono (fun j t u _ ⟨p, h1, h2⟩ => ⟨p, h1, by rw [← bkQ_all hr]; exact h2⟩), hks', hl, rfl, rfl⟩
      exact (List.Perm.swap _ _ _).trans (.cons _ ((List.Perm.swap _ _ _).trans (.cons _ List.perm_middle.symm)))
  · rintro σ S ⟨ks, bl, E, x6, x7, x8, hkb, hks, hl, rfl, rfl⟩
    have en : (itL K q (sV (eacL n))).n = (eacL n).length := sV_len _
    rw [en, List.take_length] at hks
    rw [en] at hkb
    exact k ks bl E x6 x7 x8 (hkb.mono fun j t u _ ⟨p, h1, h2⟩ => ⟨p, h1, by rw [← bkP_all]; exact h2⟩) hks
theorem int_congr {m m' : Nat → Bool} : ∀ (b : TR) (o : Nat), (∀ f, o ≤ f → f + 1 < o + nS b → m f = m' f) → intT m b o = intT m' b o
  | leaf, _, _ => rfl
  | node l r, o, h => by
    have p1 := nS_pos l
    have p2 := nS_pos r
    have h : ∀ f, o ≤ f → f + 1 < o + (nS l + nS r) → m f = m' f := h
    have e1 := int_congr l o fun f h1 h2 => h f h1 (by omega)
    have e2 := int_congr r (o + nS l) fun f h1 h2 => h f (by omega) (by omega)
    have e3 := h (o + nS l - 1) (by omega) (by omega)
    show (if m (o + nS l - 1) then pprod (intT m l o) (shut (intT m r (o + nS l))) else pprod (intT m r (o + nS l)) (shut (intT m l o))).map (2 * ·) = (if m' (o + nS l - 1) then pprod (intT m' l o) (shut (intT m' r (o + nS l))) else pprod (intT m' r (o + nS l)) (shut (intT m' l o))).map (2 * ·)
    rw [e1, e2, e3]
theorem fl_FlT (fl : List Bool) : FlT fl.length (fl.map cdB) := ⟨List.length_map _, fun c hc => by
  obtain ⟨x, _, e⟩ := List.mem_map.mp hc
  rw [← e]
  exact cd_in x⟩
theorem enc_mF {fl : List Bool} {b : TR} (h : fl.length + 1 = nS b) : intT (fun f => !(enc (fl.map cdB)).testBit f) b 0 = intT (mF fl) b 0 := by
  refine int_congr b 0 fun f _ hf => ?_
  have hf : f < fl.length := by omega
  show (!(enc (fl.map cdB)).testBit f) = fl[f]?.getD false
  rw [enc_bit, List.getElem?_map, List.getElem?_eq_getElem hf]
  show (!decide (some (cdB fl[f]) = some 82)) = fl[f]
  cases fl[f] <;> rfl
end
section
variable {K : PySem.W.Frag} {a : Ads}
open TR
theorem otb_go {b : Bool} {S : SH} {Q : Bool → SH → Prop} (h : Q b S) : oTru K (.bl b) S Q := h
theorem shut_small {l : List Int} {n : Nat} (h : l.length ≤ n) : (shut l).length ≤ n + 1 := by
  rw [shut_len]
  split <;> omega
theorem vc_l_searched {vs : List V} {H : Hp} (g : V × TR × List Bool × V) (h : (ct_l_searched K a).pre g vs H) : ∃ S, Own S H ∧ r_l_searched K a (endsC (ct_l_searched K a) g H) (start N_l_searched vs) S := by
  obtain ⟨tv, b, fl, wv⟩ := g
  obtain ⟨e0, hT0, hw0, hfl, hb⟩ := h
  have e0 : vs = [tv, .str (fS fl), wv] := e0
  subst e0
  have hT : TreeAt K a H tv b := hT0
  obtain ⟨pw, wvs, ew, hw, hwy⟩ := hw0
  have ew : wv = .ref pw := ew
  subst ew
  have hwy : allV (lwyR K [] H) wvs (wayB b 0) := hwy
  have hfl : fl.length + 1 = nS b := hfl
  have hb : nS b ≤ 6 := hb
  have hFT := fl_FlT fl
  have hs0 : fl.map cdB ∈ eacL fl.length := eac_mem hFT
  have hR32 : (eacL fl.length).length ≤ 32 := by
    rw [eac_len]
    exact Nat.le_trans (Nat.pow_le_pow_right (by decide) (show fl.length ≤ 5 by omega)) (by decide)
  have hnd := eac_nodup fl.length
  have hsrc : ∀ s ∈ eacL fl.length, toI (lvlL (stF b) ((eacL fl.length).length + 1) [s] [s]) = shut (outT b) := fun s hs => by
    rw [eac_len]
    exact (search_at hfl hb (eac_flt _ s hs)).1
  have hbak : toI (lvlL (stB fl.length b) ((eacL fl.length).length + 1) [fl.map cdB] [fl.map cdB]) = resTo fl b := by
    rw [eac_len, (search_at hfl hb hFT).2, enc_mF hfl]
    rfl
  have ws1 := (int_len (mF fl) b 0).2
  have ws2 := (out_len b).2
  have wl := wid_lt b
  refine ⟨⟨H, []⟩, Own.base H, ?_⟩
  refine seq_go (set_go (calld_go (cons_go (call1_go (cons_go (var_go (v := .str (fS fl)) (by rfl) (nil_go ⟨fS_line (by omega), ?_⟩)))))))
  rw [fS_len]
  refine nil_go ?_
  refine use_each fl.length (by rfl) (by omega) fun F1 q e1 hq => ?_
  try dsimp only
  refine seq_go (set_go ?_)
  intro ds
  try dsimp only
  refine seq_go (set_go ?_)
  intro db
  try dsimp only
  refine seq_go (back_go hnd hR32 hq fun kb bl0 x6 hkb0 hl0 => ?_)
  try dsimp only
  refine seq_go (steps_go hfl hb hq (SqL.up e1 hw) (allV_ex (fun _ _ z => z.ext e1) hwy) hkb0 hl0 fun ks bl E x6 x7 x8 hkb hks => ?_)
  try dsimp only
  have hT1 := hT.ext e1
  have stepB : ∀ s ∈ eacL fl.length, ∀ t ∈ stB fl.length b s, t ∈ eacL fl.length := fun s hs t ht => eac_mem ((stB_enc hfl (eac_flt _ s hs)).2 t ht)
  have atB : ∀ s ∈ eacL fl.length, ∃ p, valV kb (Sum.inr (pS s) : Key) = some (.ref p) ∧ (p, HO.lst (sV (stB fl.length b s))) ∈ (db, HO.dK kb) :: (ds, HO.dK ks) :: (bl ++ E) := fun s hs => by
    obtain ⟨i, hi⟩ := List.mem_iff_getElem?.mp hs
    obtain ⟨p, h1, h2⟩ := bkF_len hkb hi
    exact ⟨p, h1, .tail _ (.tail _ (List.mem_append_left _ (List.mem_of_getElem? h2)))⟩
  have atF : ∀ s ∈ eacL fl.length, ∃ p, valV ks (Sum.inr (pS s) : Key) = some (.ref p) ∧ (p, HO.lst (sV (stF b s))) ∈ (db, HO.dK kb) :: (ds, HO.dK ks) :: (bl ++ E) := fun s hs => by
    obtain ⟨i, hi⟩ := List.mem_iff_getElem?.mp hs
    obtain ⟨v, h1, p, rfl, h2⟩ := hks.at_ i s hi
    exact ⟨p, h1, .tail _ (.tail _ (List.mem_append_right _ h2))⟩
  have kbl := hkb.len
  have ksl := hks.len
  have mds : (ds, HO.dK ks) ∈ (db, HO.dK kb) :: (ds, HO.dK ks) :: (bl ++ E) := .tail _ (.head _)
  have mdb : (db, HO.dK kb) ∈ (db, HO.dK kb) :: (ds, HO.dK ks) :: (bl ++ E) := .head _
  generalize (db, HO.dK kb) :: (ds, HO.dK ks) :: (bl ++ E) = G at atB atF mds mdb ⊢
  refine seq_go (ifT_go (not_go (tru_go (calld_go (cons_go (calld_go (cons_go (var_go (v := tv) (by rfl) (cons_go (var_go (v := .str (fS fl)) (by rfl) (nil_go ?_)))))))))))
  refine use_spreadL tv b fl (by rfl) hT1 hfl fun F2 p2 e2 n2 h2 => ?_
  refine cons_go (calld_go (cons_go (var_go (v := .str (fS fl)) (by rfl) (cons_go (var_go (v := .ref db) (by rfl) (nil_go ?_))))))
  refine use_levels (fl.map cdB) db kb (eacL fl.length) (stB fl.length b) (by rfl) mdb kbl atB hs0 stepB hR32 hnd fun F3 p3 e3 h3 => nil_go ?_
  rw [hbak] at h3
  refine use_same p2 p3 (resTo fl b) (by rfl) (.inr (.of (e3 _ _ h2))) (.inr h3) (by show (shut (intT (mF fl) b 0)).length ≤ 100; omega) ?_
  refine otb_go (nx_go ?_)
  try dsimp only
  have E3 : Ext H F3 := (e1.trans e2).trans e3
  refine seq_go (ifT_go (not_go (tru_go (calld_go (cons_go (calld_go (cons_go (var_go (v := tv) (by rfl) (cons_go (var_go (v := .str (fS fl)) (by rfl) (nil_go ?_)))))))))))
  refine use_spreadL tv b fl (by rfl) (hT.ext E3) hfl fun F4 p4 e4 n4 h4 => ?_
  refine cons_go (calld_go (cons_go (var_go (v := .str (fS fl)) (by rfl) (cons_go (var_go (v := .ref ds) (by rfl) (nil_go ?_))))))
  refine use_levels (fl.map cdB) ds ks (eacL fl.length) (stF b) (by rfl) mds ksl atF hs0 (fun s hs => stF_R hfl hs) hR32 hnd fun F5 p5 e5 h5 => nil_go ?_
  rw [hsrc _ hs0] at h5
  refine use_same p4 p5 (resFr fl b) (by rfl) (.inr (.of (e5 _ _ h4))) (.inr h5) (by show (shut (outT b)).length ≤ 100; omega) ?_
  refine otb_go (nx_go ?_)
  try dsimp only
  have E5 : Ext H F5 := (E3.trans e4).trans e5
  have hq5 : SqL K F5 q (sV (eacL fl.length)) := SqL.up (((e2.trans e3).trans e4).trans e5) hq
  refine ret_go (op_go (calld_go (cons_go (var_go (v := tv) (by rfl) (nil_go ?_)))))
  refine use_great tv b (by rfl) (fun H' o => hT.ext (E5.trans (own_F o))) ?_
  refine call1_go (cons_go ?_)
  refine .inl ⟨sV (eacL fl.length), .inr hq5, fun D1 => ?_⟩
  refine ⟨fun j S => ∃ F', Ext F5 F' ∧ S = ⟨F', (D1, .lst (iV (List.replicate j ((widT b : Nat) : Int)))) :: G⟩, ⟨F5, Ext.refl _, rfl⟩, ?_, ?_, ?_⟩
  · rintro j S _ ⟨F', e', rfl⟩
    exact .inr (SqL.up e' hq5)
  · rintro j S hj ⟨F', e', rfl⟩ v hv
    have hj : j < (sV (eacL fl.length)).length := hj
    rw [sV_len] at hj
    obtain ⟨s, hs⟩ : ∃ s, (eacL fl.length)[j]? = some s := ⟨_, List.getElem?_eq_getElem hj⟩
    rw [sVat hs] at hv
    cases hv
    have hsm := List.mem_of_getElem? hs
    refine nm_go ⟨rfl, ?_⟩
    refine op_go (call1_go (cons_go (calld_go (cons_go (var_go (v := .str (pS s)) (by rfl) (cons_go (var_go (v := .ref ds) (by rfl) (nil_go ?_))))))))
    refine use_levels s ds ks (eacL fl.length) (stF b) (by rfl) (.tail _ mds) ksl (fun s hs => let ⟨p, h1, h2⟩ := atF s hs; ⟨p, h1, .tail _ h2⟩) hsm (fun s hs => stF_R hfl hs) hR32 hnd fun F6 p6 e6 h6 => nil_go ⟨_, .inl (.inr h6), c_go (sub_g ?_)⟩
    rw [hsrc s hsm, iV_len, ws2, show (((widT b + 1 : Nat) : Int) - 1) = ((widT b : Nat) : Int) by omega]
    refine ⟨0, _, rfl, lt_line (by rw [iV_len, List.length_replicate]; omega), ⟨_, SLe.refl _, F6, e'.trans e6, ?_⟩⟩
    show SH.mk F6 ((D1, HO.lst (iV (List.replicate j ((widT b : Nat) : Int)) ++ [.int (widT b : Nat)])) :: G) = _
    rw [List.replicate_succ']
    unfold iV
    rw [List.map_append]
    rfl
  · rintro S ⟨F', e', rfl⟩
    have en : (itL K q (sV (eacL fl.length))).n = (eacL fl.length).length := sV_len _
    rw [en]
    refine nil_go ⟨List.replicate (eacL fl.length).length ((widT b : Nat) : Int), .inl ⟨0, rfl⟩, ?_, fun m hm _ => ?_⟩
    · rw [List.length_replicate, eac_len]
      exact Nat.pow_pos (by decide)
    · rw [(List.mem_replicate.mp hm).2]
      refine eq_i (c := true) (decide_eq_true rfl) ?_
      intro H' o'
      exact ⟨rfl, (E5.trans e').trans (own_F o')⟩
end
section
variable {K : PySem.W.Frag} {a : Ads}
open TR
theorem use_spreadT {res : List Bool → TR → List Int} {W : sWX} {σ : L2.St} {F : Hp} {G : List (Addr × HO)} {Q : V → SH → Prop} {vs : List V} (tv : V) (b : TR) (fl : List Bool) (e : vs = [tv, .str (fS fl)]) (hT : TreeAt K a F tv b) (hl : fl.length + 1 = nS b)
    (k : ∀ F2 p', Ext F F2 → Q (.ref p') ⟨F2, (p', .lst (iV (res fl b))) :: G⟩) : rC (ct_spread K a res) W vs σ ⟨F, G⟩ Q := by
  have hsm := hT.sm
  refine ⟨(tv, b, .str (fS fl), .str), fun H o => ⟨e, hT.ext (own_F o), rfl, fS_sgn (by omega)⟩, fun H v H' o r => ?_, fun H c d H' o r => ?_⟩
  · obtain ⟨p, rfl, h1, h2⟩ := r.2.1 fl rfl
    obtain ⟨o2, e2⟩ := own_hidA (o.new h1 r.2.2 h2) (Ext.refl _)
    exact ⟨_, o2, k _ p e2⟩
  · have := r.1
    have h2 := flOk_yes (b := b) hl
    have this : flOk false b (.str (fS fl)) = false := this
    rw [h2] at this
    cases this
theorem use_lspreads {W : sWX} {σ : L2.St} {F : Hp} {G : List (Addr × HO)} {Q : V → SH → Prop} {vs : List V} (b : TR) (fl : List Bool) (e : vs = [.str (tS b), .str (fS fl)]) (hl : fl.length + 1 = nS b) (hb : nS b ≤ 64)
    (k : ∀ F2 p q1 q2, Ext F F2 → F2 p = some (.tup [.ref q1, .ref q2, .int (widT b : Nat)]) → F2 q1 = some (.lst (iV (resTo fl b))) → F2 q2 = some (.lst (iV (resFr fl b))) → Q (.ref p) ⟨F2, G⟩) : rC (ct_l_spreads K) W vs σ ⟨F, G⟩ Q :=
  ⟨(b, fl), fun H o => ⟨e, hl, hb⟩, fun H v H' o r => by
    obtain ⟨⟨p, q1, q2, rfl, h1, h2, h3, h4, h5, h6⟩, h7⟩ := r
    obtain ⟨o2, e2⟩ := own_hidA o h7
    exact ⟨_, o2, k _ p q1 q2 e2 (hid_new o h1 h4) (hid_new o h2 h5) (hid_new o h3 h6)⟩, fun _ _ _ _ _ q => q.elim⟩
theorem sum_res {fl : List Bool} {b : TR} (hl : fl.length + 1 = nS b) : (resTo fl b).sum = 1 * 2 ^ ((fl.length : Nat) : Int).toNat ∧ (resFr fl b).sum = 1 * 2 ^ ((fl.length : Nat) : Int).toNat := by
  have e : nS b - 1 = fl.length := by omega
  constructor
  · show (shut (intT (mF fl) b 0)).sum = _
    rw [shut_sum _ (good_int (mF fl) b 0).len, sum_int, e, Int.one_mul, Int.toNat_natCast]
  · show (shut (outT b)).sum = _
    rw [shut_sum _ (good_out b).len, sum_out, e, Int.one_mul, Int.toNat_natCast]
theorem rev_go {F : Hp} {E G : List (Addr × HO)} {D : Addr} {xs : List V} {Q : V → SH → Prop} (h : Q .non ⟨F, E ++ (D, .lst xs.reverse) :: G⟩) : mReverse (.ref D) [] ⟨F, E ++ (D, .lst xs) :: G⟩ Q := by
  refine ⟨E.length, xs, at_mid, ?_⟩
  show Q .non ⟨F, (E ++ (D, HO.lst xs) :: G).set E.length (D, HO.lst xs.reverse)⟩
  rw [set_mid]
  exact h
theorem sg3_go {i j k : Nat} {u v w : V} {W : sWX} {σ : L2.St} {S : SH} {Q : L2.St → SH → Prop} (h : Q (((σ.set i (some u)).set j (some v)).set k (some w)) S) : sgCons (sgName i) (sgCons (sgName j) (sgCons (sgName k) sgNil)) W [u, v, w] σ S Q := h
theorem vc_l_answers {vs : List V} {H : Hp} (g : V × TR × List Bool) (h : (ct_l_answers K a).pre g vs H) : ∃ S, Own S H ∧ r_l_answers K a (endsC (ct_l_answers K a) g H) (start N_l_answers vs) S := by
  obtain ⟨tv, b, fl⟩ := g
  obtain ⟨e0, hT0, hfl⟩ := h
  have e0 : vs = [tv, .str (tS b), .str (fS fl)] := e0
  subst e0
  have hT : TreeAt K a H tv b := hT0
  have hfl : fl.length + 1 = nS b := hfl
  have hb := hT.sm
  have ws1 : (resTo fl b).length ≤ widT b + 1 := (int_len (mF fl) b 0).2
  have ws2 : (resFr fl b).length = widT b + 1 := (out_len b).2
  have wl := wid_lt b
  obtain ⟨s1, s2⟩ := sum_res hfl
  refine ⟨⟨H, []⟩, Own.base H, ?_⟩
  refine seq_go (asg_go (calld_go (cons_go (var_go (v := .str (tS b)) (by rfl) (cons_go (var_go (v := .str (fS fl)) (by rfl) (nil_go ?_)))))))
  refine use_lspreads b fl (by rfl) hfl hb fun F1 p q1 q2 e1 h1 h2 h3 => ?_
  refine ⟨_, .inr (.of h1), rfl, sg3_go ?_⟩
  try dsimp only
  refine seq_go (set_go (calld_go (cons_go (var_go (v := tv) (by rfl) (cons_go (var_go (v := .str (fS fl)) (by rfl) (nil_go ?_)))))))
  refine use_spreadT tv b fl (by rfl) (hT.ext e1) hfl fun F2 p6 e2 => ?_
  try dsimp only
  refine seq_go (set_go (calld_go (cons_go (var_go (v := tv) (by rfl) (cons_go (var_go (v := .str (fS fl)) (by rfl) (nil_go ?_)))))))
  refine use_spreadT tv b fl (by rfl) (hT.ext (e1.trans e2)) hfl fun F3 p7 e3 => ?_
  try dsimp only
  have E3 : Ext F1 F3 := e2.trans e3
  have hq1 : SqL K F3 q1 (iV (resTo fl b)) := .of (E3 _ _ h2)
  have hq2 : SqL K F3 q2 (iV (resFr fl b)) := .of (E3 _ _ h3)
  have hT3 : TreeAt K a F3 tv b := hT.ext (e1.trans E3)
  refine seq_go (ifT_go (or_go (not_go (tru_go (calld_go (cons_go (var_go (v := .ref p6) (by rfl) (cons_go (var_go (v := .ref q1) (by rfl) (nil_go ?_))))))))))
  refine use_same p6 q1 (resTo fl b) (by rfl) (.inl ⟨1, rfl⟩) (.inr hq1) (by omega) ?_
  refine otb_go ?_
  try dsimp only
  refine not_go (tru_go (calld_go (cons_go (var_go (v := .ref p7) (by rfl) (cons_go (var_go (v := .ref q2) (by rfl) (nil_go ?_)))))))
  refine use_same p7 q2 (resFr fl b) (by rfl) (.inl ⟨0, rfl⟩) (.inr hq2) (by omega) ?_
  refine otb_go (nx_go ?_)
  try dsimp only
  refine seq_go (set_go (calld_go (cons_go (var_go (v := tv) (by rfl) (nil_go ?_)))))
  refine use_great tv b (by rfl) (fun H' o => hT3.ext (own_F o)) ?_
  try dsimp only
  refine seq_go (ifT_go (or_go (not_go (tru_go (calld_go (cons_go (var_go (v := .int (widT b : Nat)) (by rfl) (nil_go ?_))))))))
  refine use_lisI _ (by rfl) (otb_go ?_)
  try dsimp only
  refine tst_go (op_go (var_go (v := .int (widT b : Nat)) (by rfl) (var_go (v := .int (widT b : Nat)) (by rfl) (ne_i (c := false) (decide_eq_true rfl) (nx_go ?_)))))
  try dsimp only
  refine seq_go (ifT_go (or_go (tst_go (op_go (op_go (call1_go (cons_go (var_go (v := .ref p6) (by rfl) (nil_go ⟨_, .inl (.inl ⟨1, rfl⟩), c_go (sub_g ?_)⟩)))))))))
  refine var_go (v := .int (widT b : Nat)) (by rfl) (gt_i (c := false) (decide_eq_false (by rw [iV_len]; omega)) ?_)
  try dsimp only
  refine tst_go (op_go (op_go (call1_go (cons_go (var_go (v := .ref p7) (by rfl) (nil_go ⟨_, .inl (.inl ⟨0, rfl⟩), c_go (sub_g ?_)⟩))))))
  refine var_go (v := .int (widT b : Nat)) (by rfl) (ne_i (c := false) (by rw [iV_len, ws2]; exact decide_eq_true (by omega)) (nx_go ?_))
  try dsimp only
  have cp : CPow 1 ((fl.length : Nat) : Int) := ⟨by omega, by omega, by decide⟩
  refine seq_go (ifT_go (or_go (tst_go (op_go (call1_go (cons_go (var_go (v := .ref p6) (by rfl) (nil_go ⟨resTo fl b, .inl ⟨1, rfl⟩, ?_⟩))))))))
  refine op_go (c_go (call1_go (cons_go (var_go (v := .str (fS fl)) (by rfl) (nil_go ⟨fS_line (by omega), ?_⟩)))))
  rw [fS_len]
  refine ⟨cp, ne_i (c := false) (by rw [s1]; exact decide_eq_true rfl) ?_⟩
  try dsimp only
  refine tst_go (op_go (call1_go (cons_go (var_go (v := .ref p7) (by rfl) (nil_go ⟨resFr fl b, .inl ⟨0, rfl⟩, ?_⟩)))))
  refine op_go (c_go (call1_go (cons_go (var_go (v := .str (fS fl)) (by rfl) (nil_go ⟨fS_line (by omega), ?_⟩)))))
  rw [fS_len]
  refine ⟨cp, ne_i (c := false) (by rw [s2]; exact decide_eq_true rfl) (nx_go ?_)⟩
  try dsimp only
  refine seq_go (drop_go (mt_go (var_go (v := .ref p6) (by rfl) ⟨.inl ⟨rfl, _, .inl ⟨1, rfl⟩⟩, nil_go (rev_go (E := [(p7, _)]) ?_)⟩)))
  try dsimp only
  refine seq_go (drop_go (mt_go (var_go (v := .ref p6) (by rfl) ⟨.inl ⟨rfl, _, .inl ⟨1, rfl⟩⟩, cons_go (c_go (nil_go (app_go (E := [(p7, _)]) (lt_line (by rw [List.length_reverse, iV_len]; omega)) ?_)))⟩)))
  try dsimp only
  refine seq_go (drop_go (mt_go (var_go (v := .ref p7) (by rfl) ⟨.inl ⟨rfl, _, .inl ⟨0, rfl⟩⟩, cons_go (c_go (nil_go (app_go (E := []) (lt_line (by rw [iV_len]; omega)) ?_)))⟩)))
  try dsimp only
  refine seq_go (drop_go (mt_go (var_go (v := .ref p7) (by rfl) ⟨.inl ⟨rfl, _, .inl ⟨0, rfl⟩⟩, nil_go (rev_go (E := []) ?_)⟩)))
  try dsimp only
  refine ret_go (andV_go (calld_go (cons_go (calld_go (cons_go (var_go (v := tv) (by rfl) (cons_go (var_go (v := .str (fS fl)) (by rfl) (nil_go ?_)))))))))
  refine use_spreadT tv b fl (by rfl) hT3 hfl fun F4 p8 e4 => ?_
  refine cons_go (var_go (v := .ref q1) (by rfl) (nil_go ?_))
  refine use_same p8 q1 (resTo fl b) (by rfl) (.inl ⟨0, rfl⟩) (.inr (SqL.up e4 hq1)) (by omega) ?_
  try dsimp only
  refine calld_go (cons_go (calld_go (cons_go (var_go (v := tv) (by rfl) (cons_go (var_go (v := .str (fS fl)) (by rfl) (nil_go ?_)))))))
  refine use_spreadT tv b fl (by rfl) (hT3.ext e4) hfl fun F5 p9 e5 => ?_
  refine cons_go (var_go (v := .ref q2) (by rfl) (nil_go ?_))
  refine use_same p9 q2 (resFr fl b) (by rfl) (.inl ⟨0, rfl⟩) (.inr (SqL.up (e4.trans e5) hq2)) (by omega) ?_
  intro H' o'
  exact ⟨rfl, (((e1.trans E3).trans e4).trans e5).trans (own_F o')⟩
theorem use_answers {W : sWX} {σ : L2.St} {F : Hp} {G : List (Addr × HO)} {Q : V → SH → Prop} {vs : List V} (tv : V) (b : TR) (fl : List Bool) (e : vs = [tv, .str (tS b), .str (fS fl)]) (hT : TreeAt K a F tv b) (hl : fl.length + 1 = nS b) (k : Q (.bl true) ⟨F, G⟩) : rC (ct_l_answers K a) W vs σ ⟨F, G⟩ Q :=
  ⟨(tv, b, fl), fun H o => ⟨e, hT.ext (own_F o), hl⟩, fun H v H' o q => ⟨_, o.ex q.2, by rw [q.1]; exact k⟩, fun _ _ _ _ _ q => q.elim⟩
theorem use_searched {W : sWX} {σ : L2.St} {F : Hp} {G : List (Addr × HO)} {Q : V → SH → Prop} {vs : List V} (tv : V) (b : TR) (fl : List Bool) (wv : V) (e : vs = [tv, .str (fS fl), wv]) (hT : TreeAt K a F tv b) (hw : lwsR K F wv b) (hl : fl.length + 1 = nS b) (hb : nS b ≤ 6) (k : Q (.bl true) ⟨F, G⟩) : rC (ct_l_searched K a) W vs σ ⟨F, G⟩ Q :=
  ⟨(tv, b, fl, wv), fun H o => ⟨e, hT.ext (own_F o), hw.ext (own_F o), hl, hb⟩, fun H v H' o q => ⟨_, o.ex q.2, by rw [q.1]; exact k⟩, fun _ _ _ _ _ q => q.elim⟩
end
section
variable {K : PySem.W.Frag} {a : Ads}
open TR
/-! ### texts that can be laid -/
theorem ok_all {x : Str} : PyData.strOk x = true ↔ ∀ c ∈ x.cps.toList, c < 0x110000 := by
  unfold PyData.strOk
  rw [← Array.all_toList, List.all_eq_true]
  exact ⟨fun h c hc => of_decide_eq_true (h c hc), fun h c hc => decide_eq_true (h c hc)⟩
theorem ok_append {x y : Str} (hx : PyData.strOk x = true) (hy : PyData.strOk y = true) : PyData.strOk (x ++ y) = true := by
  rw [ok_all] at hx hy ⊢
  intro c hc
  have hc : c ∈ TL.tl (x ++ y) := hc
  rw [TL.tl_append] at hc
  rcases List.mem_append.mp hc with hc | hc
  · exact hx c hc
  · exact hy c hc
theorem ok_string (s : String) : PyData.strOk (Str.ofString s) = true := by
  rw [ok_all, Str.ofString_eq_toList]
  intro c hc
  obtain ⟨ch, _, rfl⟩ := List.mem_map.mp (show c ∈ s.toList.map Char.toNat from hc)
  have := ch.valid
  unfold UInt32.isValidChar Nat.isValidChar at this
  show ch.val.toNat < 1114112
  omega
theorem fold_repr (q : Nat) : ∀ (l : List Nat) (acc : Array Nat), (l.foldl (fun out c => out ++ (Builtin.Str.reprChar q c).toArray) acc).toList = acc.toList ++ l.flatMap (Builtin.Str.reprChar q)
  | [], acc => by
    rw [List.foldl_nil, List.flatMap_nil, List.append_nil]
  | c :: l, acc => by
    rw [List.foldl_cons, fold_repr q l, Array.toList_append, List.flatMap_cons, List.append_assoc]
theorem repr_list (x : Str) : (reprText x).cps.toList = reprQuote x :: (x.cps.toList.flatMap (Builtin.Str.reprChar (reprQuote x)) ++ [reprQuote x]) := by
  unfold reprText
  show ((x.cps.foldl (fun out c => out ++ (Builtin.Str.reprChar (reprQuote x) c).toArray) #[reprQuote x]).push (reprQuote x)).toList = _
  rw [Array.toList_push, ← Array.foldl_toList, fold_repr]
  rfl
theorem quote_is (x : Str) : reprQuote x = 34 ∨ reprQuote x = 39 := by
  unfold reprQuote
  split
  · exact .inl rfl
  · exact .inr rfl
theorem sign_repr : ∀ q ∈ [34, 39], ∀ c ∈ [76, 82, 63, 46, 108, 120, 33], (Builtin.Str.reprChar q c).length ≤ 1 ∧ (Builtin.Str.reprChar q c).all (fun c => decide (c < 1114112)) = true := by decide +kernel
theorem flat_bound {f : Nat → List Nat} : ∀ l : List Nat, (∀ c ∈ l, (f c).length ≤ 1) → (l.flatMap f).length ≤ l.length
  | [], _ => Nat.le_refl 0
  | c :: l, h => by
    rw [List.flatMap_cons, List.length_append, List.length_cons]
    have h1 := h c (.head _)
    have h2 := flat_bound l fun d hd => h d (.tail _ hd)
    omega
theorem repr_signs {u : Str} (h : sgnOk u) : (reprText u).length ≤ 102 ∧ PyData.strOk (reprText u) = true := by
  have hq : reprQuote u ∈ [34, 39] := by
    rcases quote_is u with e | e
    · rw [e]
      exact .head _
    · rw [e]
      exact .tail _ (.head _)
  have hs := sign_repr (reprQuote u) hq
  constructor
  · rw [TL.len_tl]
    show (reprText u).cps.toList.length ≤ 102
    rw [repr_list, List.length_cons, List.length_append, List.length_singleton]
    have h1 := h.1
    have h2 := flat_bound u.cps.toList fun c hc => (hs c (h.2 c hc)).1
    omega
  · rw [ok_all, repr_list]
    intro c hc
    have q0 : reprQuote u < 0x110000 := by
      rcases quote_is u with e | e
      · rw [e]
        decide
      · rw [e]
        decide
    cases hc with
    | head => exact q0
    | tail _ hc =>
      rcases List.mem_append.mp hc with hc | hc
      · obtain ⟨d, hd, hc⟩ := List.mem_flatMap.mp hc
        exact of_decide_eq_true (List.all_eq_true.mp (hs d (h.2 d hd)).2 c hc)
      · rw [List.mem_singleton.mp hc]
        exact q0
theorem ok_from : ∀ (ts : List Str) (k : Nat) (acc : Str), PyData.strOk acc = true → (∀ t ∈ ts, PyData.strOk t = true) → PyData.strOk (textFrom k acc ts) = true
  | [], _, _, h, _ => h
  | t :: r, k, acc, h, ht => by
    show PyData.strOk (textFrom (k + 1) (acc ++ (if k > 0 then ", " else "" : String) ++ t) r) = true
    exact ok_from r (k + 1) _ (ok_append (ok_append h (ok_string _)) (ht t (.head _))) fun u hu => ht u (.tail _ hu)
theorem shown_strs : ∀ us : List Str, PyData.shownAll (us.map PyData.str) = us.map reprText
  | [] => rfl
  | u :: us => congrArg (reprText u :: ·) (shown_strs us)
theorem strs_show : ∀ us : List Str, PyData.showableAll (us.map PyData.str) = true
  | [] => rfl
  | u :: us => strs_show us
theorem strs_dict : ∀ us : List Str, PyData.hasDictAll (us.map PyData.str) = false
  | [] => rfl
  | u :: us => strs_dict us
theorem strs_deep : ∀ us : List Str, PyData.depthAll (us.map PyData.str) = 0
  | [] => rfl
  | u :: us => by
    show max (PyData.depth (.str u)) (PyData.depthAll (us.map PyData.str)) = 0
    rw [strs_deep us]
    rfl
theorem dp_strs (H : Hp) : ∀ us : List Str, DpAll K H (us.map V.str) (us.map PyData.str)
  | [] => .nil
  | u :: us => .cons (.str u) (dp_strs H us)
/-- bad flags, seen in a heap: a kind, and what repr tells of them -/
def BadV (K : PySem.W.Frag) (H : Hp) (v : V) : Prop := ∃ t z, Ty0 K H v t ∧ RprV K H v z ∧ PyData.strOk z = true
theorem one_repr (u : Str) (h : ∃ c ∈ [76, 82, 63], u = pS [c]) : (reprText u).length = 3 ∧ PyData.strOk (reprText u) = true := by
  obtain ⟨c, hc, rfl⟩ := h
  simp only [List.mem_cons, List.not_mem_nil, or_false] at hc
  rcases hc with rfl | rfl | rfl
  · decide +kernel
  · decide +kernel
  · decide +kernel
theorem sum_three : ∀ us : List Str, (∀ u ∈ us, (reprText u).length = 3) → ((us.map reprText).map (·.length)).sum = 3 * us.length
  | [], _ => rfl
  | u :: us, h => by
    show (reprText u).length + ((us.map reprText).map (·.length)).sum = 3 * (us.length + 1)
    rw [h u (.head _), sum_three us fun x hx => h x (.tail _ hx)]
    omega
theorem list_rpr {H : Hp} {p : Addr} {us : List Str} (hp : H p = some (.lst (us.map V.str))) (hl : us.length ≤ 100) (hu : ∀ u ∈ us, ∃ c ∈ [76, 82, 63], u = pS [c]) : RprV K H (.ref p) (PyData.shown (.list (us.map PyData.str))) ∧ PyData.strOk (PyData.shown (.list (us.map PyData.str))) = true := by
  have es : PyData.shown (.list (us.map PyData.str)) = listText (us.map reprText) := by
    show listText (PyData.shownAll (us.map PyData.str)) = _
    rw [shown_strs]
  constructor
  · refine ⟨_, .lst (.inl (.inl hp)) (dp_strs H us), strs_show us, strs_dict us, ?_, ?_, rfl⟩
    · show PyData.depthAll (us.map PyData.str) + 1 ≤ 60
      rw [strs_deep]
      decide
    · rw [es]
      have h1 := listText_len_le (us.map reprText)
      rw [sum_three us fun u h => (one_repr u (hu u h)).1, List.length_map] at h1
      exact Nat.le_trans (show _ ≤ 1000 by omega) (by decide)
  · rw [es]
    unfold listText
    refine ok_append (ok_from _ _ _ (ok_string "[") fun t ht => ?_) (ok_string "]")
    obtain ⟨u, h, rfl⟩ := List.mem_map.mp ht
    exact (one_repr u (hu u h)).2
/-- the pair that the law compares -/
theorem pair_shaped {x z : Str} (hx : PyData.strOk x = true) (hz : PyData.strOk z = true) : SeqAt.shaped (.tuple [.str x, .str z]) = true := by
  have h : PyData.canLay0 (.tuple [.str x, .str z]) = (PyData.strOk x && (PyData.strOk z && true)) := rfl
  unfold SeqAt.shaped
  rw [h, hx, hz]
  rfl
theorem pair_eqv {x z : Str} (hx : PyData.strOk x = true) (hz : PyData.strOk z = true) : PyData.eqv (.tuple [.str x, .str z]) (.tuple [.str x, .str z]) = true :=
  SeqAt.eqv_refl _ (by
    have h : PyData.canLay0 (.tuple [.str x, .str z]) = (PyData.strOk x && (PyData.strOk z && true)) := rfl
    rw [h, hx, hz]
    rfl)
/-- what the top says of the error -/
structure Kit (K : PySem.W.Frag) (a : Ads) : Prop where
  ef : ExcC K a.InvalidFlags
  ff : PySem.W.exmOne K (.ref a.InvalidFlags) (.ref a.InvalidFlags) = some true
  fs : PySem.W.kitOne K (.ref a.InvalidFlags) (.ref a.InvalidSlot) = some false
  fc : PySem.W.kitOne K (.ref a.InvalidFlags) (.ref a.CacheError) = some true
  fv : PySem.W.kitOne K (.ref a.InvalidFlags) (.type "ValueError") = some true
theorem rpr_ext {H H' : Hp} {x : V} {z : Str} (h : RprV K H x z) (e : Ext H H') : RprV K H' x z := by
  unfold RprV at h ⊢
  split at h
  · exact h
  · exact h
  · exact h
  · exact h
  · obtain ⟨d, h1, h2⟩ := h
    exact ⟨d, dp_ext e d _ h1, h2⟩
  · exact h.elim
def sufF (K : PySem.W.Frag) (a : Ads) (ea : Addr) (cls : Value) (ed : Option Addr) : sS := sSeq (sIfS (sOr (sTru K (sCall1 (nIsY K ea cls ed) (sCons (sVar 3) (sCons (sC (.ref a.InvalidSlot)) (sNil))))) (sOr (sNot (sTru K (sCall1 (nIsY K ea cls ed) (sCons (sVar 3) (sCons (sC (.ref a.CacheError)) (sNil)))))) (sNot (sTru K (sCall1 (nIsY K ea cls ed) (sCons (sVar 3) (sCons (sC (.ty "ValueError")) (sNil)))))))) (sRet (sTup (sCons (sC (.str ("a class of another family" : Str))) (sCons (sC (.str ("" : Str))) (sNil))))) (sNext)) (sRet (sTup (sCons (sC (.str ("InvalidFlags" : Str))) (sCons (sCall1 (nRepr K) (sCons (sXf ea cls ed a.InvalidFlags ("flags" : Str) (sVar 3)) (sNil))) (sNil)))))
theorem suiteF (T : Kit K a) {D : sEnds} {S : SH} {ea dd : Addr} {fv : V} {z : Str} {x0 x1 x2 : Option V} (hz : ∀ H, Own (S.new dd (.xd [("flags", fv)])) H → RprV K H fv z)
    (k : ∀ q, D.rt (.ref q) ((S.new dd (.xd [("flags", fv)])).new q (.tup [.str "InvalidFlags", .str z]))) : sufF K a ea (.ref a.InvalidFlags) (some dd) D [x0, x1, x2, some (.ref ea)] (S.new dd (.xd [("flags", fv)])) := by
  refine ⟨rfl, _, dd, _, false, _, rfl, rfl, T.ef, .inl ⟨0, rfl⟩, fun u r => r, T.fs, ?_⟩
  refine ⟨rfl, _, dd, _, true, _, rfl, rfl, T.ef, .inl ⟨0, rfl⟩, fun u r => r, T.fc, ?_⟩
  refine ⟨rfl, _, dd, _, true, _, rfl, rfl, T.ef, .inl ⟨0, rfl⟩, fun u r => r, T.fv, ?_⟩
  refine ⟨rfl, rfl, dd, _, fv, rfl, .inl ⟨0, rfl⟩, by simp [List.lookup], ?_⟩
  refine ⟨z, hz, ?_⟩
  exact ⟨show 2 ≤ sizeLine by decide, fun q => k q⟩
theorem vc_l_fault (T : Kit K a) {vs : List V} {H : Hp} (g : FaultG) (h : (ct_l_fault K a).pre g vs H) : ∃ S, Own S H ∧ r_l_fault K a (endsC (ct_l_fault K a) g H) (start N_l_fault vs) S := by
  obtain ⟨door, tv, b, fv, ft, z⟩ := g
  obtain ⟨e0, hT0, hft0, hs0, hf0, hr0⟩ := h
  have e0 : vs = [.int door, tv, fv] := e0
  subst e0
  have hT : TreeAt K a H tv b := hT0
  have hft : Ty0 K H fv ft := hft0
  have hs : strOk fv := hs0
  have hf : flOk false b fv = false := hf0
  have hr : RprV K H fv z := hr0
  clear hT0 hft0 hs0 hf0 hr0
  refine ⟨⟨H, []⟩, Own.base H, ?_⟩
  refine ⟨fun _ _ => False, ?_, fun _ _ z => z.elim⟩
  have fin : ∀ {f : Str} {x : V} {d q : Addr} (H' : Hp), Own (((SH.mk H []).new d (.xd [(f, x)])).new q (.tup [.str "InvalidFlags", .str z])) H' → (ct_l_fault K a).post ⟨door, tv, b, fv, ft, z⟩ H (.ref q) H' := fun {f x d q} H' o' => by
    have m := o'.gs (q, .tup [.str "InvalidFlags", .str z]) (.head _)
    exact ⟨⟨q, rfl, m.2, m.1⟩, fun c u e => o'.fr c u e⟩
  have door2 : ∀ (D : sEnds), D.rt = (endsC (ct_l_fault K a) ⟨door, tv, b, fv, ft, z⟩ H).rt → ∀ (res : List Bool → TR → List Int) (H1 : Hp) (c : Value) (d : Option Addr) (H' : Hp) (x0 x1 x2 x3 : Option V), Own ⟨H, []⟩ H1 → (ct_spread K a res).exn (tv, b, fv, ft) H1 c d H' →
      ∃ S', Own S' H' ∧ ∃ bb, PySem.W.exmOne K c (.ref a.InvalidFlags) = some bb ∧ (bb = true → ∀ ea, sufF K a ea c d { nx := fun σ2 S2 => D.nx (σ2.set 3 none) S2, rt := D.rt, bk := fun σ2 S2 => D.bk (σ2.set 3 none) S2, ct := fun σ2 S2 => D.ct (σ2.set 3 none) S2, ex := noW } (List.set [x0, x1, x2, x3] 3 (some (.ref ea))) S') ∧ (bb = false → D.ex c d [x0, x1, x2, x3] S') := by
    intro D eD res H1 c d H' x0 x1 x2 x3 o q
    obtain ⟨_, rfl, dd, rfl, q1, q2, q3⟩ := q
    refine ⟨_, o.new q1 q2 q3, true, T.ff, fun _ ea => ?_, fun y => nomatch y⟩
    refine suiteF T (z := z) (fun H' o' => rpr_ext hr (own_F o')) fun q => ?_
    rw [eD]
    exact fin
  have nope : ∀ {P : Prop}, flOk false b fv = true → P := fun h1 => by
    rw [hf] at h1
    cases h1
  walk_at "b"
  · refine ⟨(tv, b, fv, ft), fun H1 o => ⟨rfl, hT.ext (own_F o), hft.ex (own_F o), hs⟩, fun H1 v H' o q => nope q.1, fun H1 c d H' o q => ?_⟩
    exact door2 _ rfl _ _ _ _ _ _ _ _ _ o q
  · refine ⟨(tv, b, fv, ft), fun H1 o => ⟨rfl, hT.ext (own_F o), hft.ex (own_F o), hs⟩, fun H1 v H' o q => nope q.1, fun H1 c d H' o q => ?_⟩
    exact door2 _ rfl _ _ _ _ _ _ _ _ _ o q
/-- a call of the fault door -/
theorem use_fault {W : sWX} {σ : L2.St} {F : Hp} {G : List (Addr × HO)} {Q : V → SH → Prop} {vs : List V} (g : FaultG) (e : vs = [.int g.door, g.tv, g.fv]) (hT : TreeAt K a F g.tv g.b) (hs : ∀ H, Own ⟨F, G⟩ H → Ty0 K H g.fv g.ft ∧ RprV K H g.fv g.z) (hss : strOk g.fv) (hf : flOk false g.b g.fv = false)
    (k : ∀ p, Q (.ref p) ⟨F, (p, .tup [.str "InvalidFlags", .str g.z]) :: G⟩) : rC (ct_l_fault K a) W vs σ ⟨F, G⟩ Q := by
  refine ⟨g, fun H o => ⟨e, hT.ext (own_F o), (hs H o).1, hss, hf, (hs H o).2⟩, fun H v H' o q => ?_, fun _ _ _ _ _ q => q.elim⟩
  obtain ⟨⟨p, rfl, q1, q2⟩, q3⟩ := q
  exact ⟨_, o.new q1 q3 q2, k p⟩
theorem use_pair {F : Hp} {G : List (Addr × HO)} {p q : Addr} {x z : Str} {Q : V → SH → Prop} (hx : PyData.strOk x = true) (hz : PyData.strOk z = true) (hp : sU K ⟨F, G⟩ p [.str x, .str z]) (hq : sU K ⟨F, G⟩ q [.str x, .str z]) (k : Q (.bl false) ⟨F, G⟩) : oNe K (.ref p) (.ref q) ⟨F, G⟩ Q := by
  refine ⟨.tuple [.str x, .str z], .tuple [.str x, .str z], fun H o => .tup (o.u hp) (.cons (.str _) (.cons (.str _) .nil)), fun H o => .tup (o.u hq) (.cons (.str _) (.cons (.str _) .nil)), pair_shaped hx hz, pair_shaped hx hz, ?_⟩
  rw [pair_eqv hx hz]
  exact k
end
/-! ### the law: its later rows -/
def r_lawU (K : PySem.W.Frag) (a : Ads) : sS := (sSeq (sFor (siR1 (sCons (sC (.int 2)) (sNil))) (sgName 11) (sIfS (sTst (sOp (oNe K) (sCallD (q_l_fault K a) [] (sCons (sVar 11) (sCons (sVar 8) (sCons (sVar 10) (sNil))))) (sTup (sCons (sC (.str ("InvalidFlags" : Str))) (sCons (sCall1 (nRepr K) (sCons (sVar 10) (sNil))) (sNil)))))) (sRet (sC (.bl false))) (sNext))) (sRet (sOp (oEq K) (sFldO a.Tree ("text" : Str) (sVar 8)) (sVar 3))))
def r_lawT (K : PySem.W.Frag) (a : Ads) : sS := (sSeq (sSet (sMakO a.Tree (q_Tree_init K a) (sCons (sVar 3) (sNil))) 8) (sSeq (sFor (siSeq K (sLst (sCons (sVar 5) (sCons (sVar 7) (sCons (sVar 5) (sNil)))))) (sgName 9) (sIfS (sNot (sTru K (sCallD (q_l_answers K a) [] (sCons (sVar 8) (sCons (sVar 3) (sCons (sVar 9) (sNil))))))) (sRet (sC (.bl false))) (sNext))) (sSeq (sIfS (sAnd (sTst (sOp oLt (sVar 2) (sC (.int 7)))) (sNot (sTru K (sCallD (q_l_searched K a) [] (sCons (sVar 8) (sCons (sVar 5) (sCons (sVar 4) (sNil)))))))) (sRet (sC (.bl false))) (sNext)) (sSeq (sSet (sCallD (q_l_bent K a) [] (sCons (sVar 1) (sCons (sVar 5) (sCons (sC (.str ("?.lx" : Str))) (sNil))))) 10) (sSeq (sFor (siR1 (sCons (sC (.int 2)) (sNil))) (sgName 11) (sIfS (sTst (sOp (oNe K) (sCallD (q_l_fault K a) [] (sCons (sVar 11) (sCons (sVar 8) (sCons (sVar 10) (sNil))))) (sTup (sCons (sC (.str ("InvalidFlags" : Str))) (sCons (sCall1 (nRepr K) (sCons (sVar 10) (sNil))) (sNil)))))) (sRet (sC (.bl false))) (sNext))) (sRet (sOp (oEq K) (sFldO a.Tree ("text" : Str) (sVar 8)) (sVar 3))))))))
section
variable {K : PySem.W.Frag} {a : Ads}
open TR
theorem box_lists (b m : Addr) (x : Bx) : Lists (boxG b m x) := fun q hq => by
  cases hq with
  | head => exact ⟨_, rfl⟩
  | tail _ hq =>
    cases hq with
    | head => exact ⟨_, rfl⟩
    | tail _ hq =>
      cases hq with
      | head => exact ⟨_, rfl⟩
      | tail _ hq => nomatch hq
theorem bad_open {q : Bool} {n : Nat} {F H1 H2 : Hp} {E : List (Addr × HO)} {v : V} {b : TR} (hv : BadF q n H1 v H2) (hn : n + 1 = nS b) (o1 : Own ⟨F, E⟩ H1) (ex : Ext H1 H2) :
    ∃ (E' : List (Addr × HO)) (t : TY) (z : Str), Own ⟨F, E' ++ E⟩ H2 ∧ (∀ H, Own ⟨F, E' ++ E⟩ H → Ty0 K H v t ∧ RprV K H v z) ∧ PyData.strOk z = true ∧ strOk v ∧ flOk q b v = false := by
  rcases hv with ⟨u, rfl, h1, h2⟩ | rfl | ⟨p, us, rfl, h1, h2, h3, h4⟩
  · obtain ⟨r1, r2⟩ := repr_signs h1
    refine ⟨[], .str, reprText u, o1.ex ex, fun H o => ⟨rfl, Nat.le_trans r1 (by decide), rfl⟩, r2, h1, ?_⟩
    show (madeL q u && decide (u.cps.toList.length + 1 = nS b)) = false
    rw [← h2, ← hn]
    congr 1
    exact decide_eq_decide.mpr (by omega)
  · exact ⟨[], .non, "None", o1.ex ex, fun H o => ⟨rfl, rfl⟩, ok_string _, trivial, rfl⟩
  · have hr : ∀ H, H p = some (.lst (us.map V.str)) → RprV K H (.ref p) (PyData.shown (.list (us.map PyData.str))) ∧ PyData.strOk (PyData.shown (.list (us.map PyData.str))) = true := fun H hp => list_rpr hp h3 h4
    refine ⟨[(p, .lst (us.map V.str))], .list, PyData.shown (.list (us.map PyData.str)), o1.new h1 ex h2, fun H o => ⟨?_, ?_⟩, (hr H2 h2).2, trivial, rfl⟩
    · exact .inl ⟨rfl, _, .inr (.inl (.inl (o.gs (p, .lst (us.map V.str)) (.head _)).1))⟩
    · exact (hr H (o.gs (p, .lst (us.map V.str)) (.head _)).1).1
theorem walk_lawU {D : sEnds} {F : Hp} {G : List (Addr × HO)} {tv : V} {bt : TR} {v1 : V} {t1 : TY} {z1 : Str} {x0 x1 x2 x4 x5 x6 x7 x9 x11 : Option V} (hT : TreeAt K a F tv bt)
    (b1 : flOk false bt v1 = false) (s1 : strOk v1) (h1 : ∀ H, Own ⟨F, G⟩ H → Ty0 K H v1 t1 ∧ RprV K H v1 z1) (k1 : PyData.strOk z1 = true) (k : ∀ S, D.rt (.bl true) S) :
    r_lawU K a D [x0, x1, x2, some (.str (tS bt)), x4, x5, x6, x7, some tv, x9, some v1, x11] ⟨F, G⟩ := by
  refine ⟨⟨by decide, by decide⟩, ?_⟩
  refine ⟨fun i σ S => ∃ (A : List (Addr × HO)) (x11 : Option V), σ = [x0, x1, x2, some (.str (tS bt)), x4, x5, x6, x7, some tv, x9, some v1, x11] ∧ S = ⟨F, A ++ G⟩, ⟨[], x11, rfl, rfl⟩, fun _ _ _ _ _ => trivial, ?_, ?_⟩
  · rintro i σ S hi ⟨A, x11, rfl, rfl⟩
    refine yldR_go (nm_go ?_)
    have sub : ∀ {A : List (Addr × HO)} {H : Hp}, Own ⟨F, A ++ G⟩ H → Own ⟨F, G⟩ H := fun {A H} o => sle_sub (List.sublist_append_right A G) H o
    refine use_fault ⟨0 + (i : Nat), tv, bt, v1, t1, z1⟩ (by rfl) hT (fun H o => h1 H (sub o)) s1 b1 fun p => ?_
    refine ⟨z1, fun H o => (h1 H (sub (A := _ :: A) o)).2, ?_⟩
    refine ⟨show 2 ≤ sizeLine by decide, fun q => ?_⟩
    refine use_pair (x := "InvalidFlags") (z := z1) (ok_string _) k1 (.inl ⟨1, rfl⟩) (.inl ⟨0, rfl⟩) ?_
    exact ⟨_, SLe.refl _, _ :: _ :: A, _, rfl, rfl⟩
  · rintro σ S ⟨A, x11, rfl, rfl⟩
    obtain ⟨⟨p, dx, fs, w, sp, rfl, h2, h3, h4, h5, h6, h7⟩, h9⟩ := hT
    refine ⟨dx, fs, _, .inr h2, h3, ?_⟩
    have ee : decide (V.str (tS bt) = V.str (tS bt)) = true := decide_eq_true rfl
    show D.rt (V.bl (decide (V.str (tS bt) = V.str (tS bt)))) _
    rw [ee]
    exact k _
theorem use_bent {W : sWX} {vs : List V} {σ : L2.St} {F : Hp} {E : List (Addr × HO)} {b m : Addr} {x : Bx} {Q : V → SH → Prop} (st : List Nat) (q : Bool) (t : TR) (e : vs = [.ref b, .str (pS st), .str (if q then "!.lx" else "?.lx")]) (hx : x.ms ≠ []) (hst : st.length + 1 = nS t) (hsm : nS t ≤ 64) (hp : patOk st)
    (k : ∀ (y : Bx) (v : V) (E' : List (Addr × HO)) (ty : TY) (z : Str), y.ms ≠ [] → (∀ H, Own ⟨F, E' ++ E⟩ H → Ty0 K H v ty ∧ RprV K H v z) → PyData.strOk z = true → strOk v → flOk q t v = false → Q v ⟨F, (E' ++ E) ++ boxG b m y⟩) : rC ct_l_bent W vs σ ⟨F, E ++ boxG b m x⟩ Q := by
  refine use_box (st, q) e hx (fun H o => ⟨by show st.length ≤ 63; omega, hp⟩) fun y H1 v H2 hy o1 o2 ex hres => ?_
  obtain ⟨E', ty, z, o3, h1, h2, h3, h4⟩ := bad_open (K := K) (show BadF q st.length H1 v H2 from hres) hst o1 ex
  exact ⟨F, E' ++ E, o3, k y v E' ty z hy h1 h2 h3 h4⟩
theorem walk_lawT {D : sEnds} {F : Hp} {b m : Addr} {y : Bx} {wv : V} {bt : TR} {fl gl : List Bool} {n : Nat} {x0 x6 x8 x9 x10 x11 : Option V} (hy : y.ms ≠ []) (hn : nS bt = n) (hsm : n ≤ 64) (hl : fl.length + 1 = n) (hg : gl.length = fl.length) (hw : lwsR K F wv bt) (k : ∀ S, D.rt (.bl true) S) :
    r_lawT K a D [x0, some (.ref b), some (.int (n : Nat)), some (.str (tS bt)), some wv, some (.str (fS fl)), x6, some (.str (fS gl)), x8, x9, x10, x11] ⟨F, boxG b m y⟩ := by
  refine fun x dx => ?_
  refine ⟨(x, dx, bt), fun H1 o => ⟨rfl, (o.gs _ (.head _)).1, by show nS bt ≤ 64; omega⟩, fun H1 v H' o q => ?_, fun _ _ _ _ _ q => q.elim⟩
  obtain ⟨q1, q2, q3⟩ := q
  have o1 : Own ⟨F, boxG b m y⟩ (without H1 x) := by
    have nd : (x :: dx :: (boxG b m y).map (·.1)).Nodup := o.nd
    have nx : ∀ q ∈ boxG b m y, q.1 ≠ x := fun q hq e => (List.nodup_cons.mp nd).1 (.tail _ (by rw [← e]; exact List.mem_map.mpr ⟨q, hq, rfl⟩))
    have fx : F x = none := (o.gs (x, .ins a.Tree dx []) (.head _)).2
    refine ⟨fun c u e => ?_, fun q hq => ?_, (List.nodup_cons.mp (List.nodup_cons.mp nd).2).2⟩
    · have ne : c ≠ x := fun z => by
        have e : F c = some u := e
        rw [z, fx] at e
        cases e
      rw [without_ne ne]
      exact o.fr c u e
    · rw [without_ne (nx q hq)]
      exact o.gs q (.tail _ (.tail _ hq))
  have e1 : Ext (without H1 x) H' := fun c u e => by
    have ne : c ≠ x := fun z => by
      rw [z, without_same] at e
      cases e
    rw [without_ne ne] at e
    exact q3 c u ne e
  obtain ⟨o2, e2, k2⟩ := own_hid o1 e1 (box_lists b m y)
  refine ⟨_, o2, q1, ?_⟩
  generalize hid (boxG b m y) H' = F2 at o2 e2 k2
  have hT : TreeAt K a F2 (.ref x) bt := TreeAt.low q2 k2
  have hw2 := hw.ext e2
  clear o1 o2 o q3 e1 k2 q2
  have hl2 : fl.length + 1 = nS bt := by omega
  refine ⟨show 3 ≤ sizeLine by decide, fun lp => ?_⟩
  refine .inl ⟨[.str (fS fl), .str (fS gl), .str (fS fl)], .inl ⟨0, rfl⟩, ?_⟩
  refine ⟨fun i σ S => ∃ (x9 : Option V), σ = [x0, some (.ref b), some (.int (n : Nat)), some (.str (tS bt)), some wv, some (.str (fS fl)), x6, some (.str (fS gl)), some (.ref x), x9, x10, x11] ∧ S = ⟨F2, [(lp, .lst [.str (fS fl), .str (fS gl), .str (fS fl)])] ++ boxG b m y⟩, ⟨_, rfl, rfl⟩, ?_, ?_, ?_⟩
  · rintro i σ S _ ⟨x9, rfl, rfl⟩
    exact .inl ⟨0, rfl⟩
  · rintro i σ S hi ⟨x9, rfl, rfl⟩ w hw0
    obtain ⟨hl3, rfl, hgl⟩ : ∃ hl3, w = .str (fS hl3) ∧ hl3.length + 1 = nS bt := by
      have := List.mem_of_getElem? hw0
      simp only [List.mem_cons, List.not_mem_nil, or_false] at this
      rcases this with e | e | e
      · exact ⟨fl, e, hl2⟩
      · exact ⟨gl, e, by omega⟩
      · exact ⟨fl, e, hl2⟩
    refine use_answers (.ref x) bt hl3 (by rfl) hT hgl ?_
    exact ⟨_, SLe.refl _, _, rfl, rfl⟩
  · rintro σ S ⟨x9, rfl, rfl⟩
    try dsimp only
    have tail : ∀ {σ : L2.St} {D2 : sEnds}, σ = [x0, some (.ref b), some (.int (n : Nat)), some (.str (tS bt)), some wv, some (.str (fS fl)), x6, some (.str (fS gl)), some (.ref x), x9, x10, x11] → D2.rt = D.rt → (sSeq (sSet (sCallD (q_l_bent K a) [] (sCons (sVar 1) (sCons (sVar 5) (sCons (sC (.str ("?.lx" : Str))) (sNil))))) 10) (r_lawU K a)) D2 σ ⟨F2, [(lp, .lst [.str (fS fl), .str (fS gl), .str (fS fl)])] ++ boxG b m y⟩ := by
      intro σ D2 e1 e2
      subst e1
      refine use_bent (E := [(lp, .lst [.str (fS fl), .str (fS gl), .str (fS fl)])]) (K := K) (fl.map cdB) false bt (by rfl) hy (by rw [List.length_map]; exact hl2) (by omega) (pat_fl fl) fun y v1 E1 t1 z1 hy h1 k1 s1 b1 => ?_
      refine walk_lawU (t1 := t1) (z1 := z1) hT b1 s1 (fun H o => h1 H (sle_sub (List.sublist_append_left _ _) H o)) k1 fun S => ?_
      show D2.rt _ _
      rw [e2]
      exact k S
    by_cases h7 : n < 7
    · refine seq_go (ifT_go (and_go (tst_go (op_go (var_go (v := .int (n : Nat)) (by rfl) (c_go (lt_i (c := true) (decide_eq_true (by omega)) ?_)))))))
      try dsimp only
      refine not_go (tru_go (calld_go (cons_go (var_go (v := .ref x) (by rfl) (cons_go (var_go (v := .str (fS fl)) (by rfl) (cons_go (var_go (v := wv) (by rfl) (nil_go ?_)))))))))
      refine use_searched (.ref x) bt fl wv (by rfl) hT hw2 hl2 (by omega) (otb_go (nx_go ?_))
      exact tail rfl rfl
    · refine seq_go (ifT_go (and_go (tst_go (op_go (var_go (v := .int (n : Nat)) (by rfl) (c_go (lt_i (c := false) (decide_eq_false (by omega)) ?_)))))))
      refine nx_go ?_
      exact tail rfl rfl
theorem flip_map {fl : List Bool} {r : Nat} {c : Bool} : (fl.map cdB).set r (cdB c) = (fl.set r c).map cdB := by rw [List.map_set]
theorem vc_law (T : Kit K a) {vs : List V} {H : Hp} (g : Addr × List Int) (h : (ct_law K).pre g vs H) : ∃ S, Own S H ∧ r_law K a (endsC (ct_law K) g H) (start N_law vs) S := by
  obtain ⟨p0, ns⟩ := g
  obtain ⟨rfl, hs⟩ := h
  have hs : SqL K H p0 (ns.map V.int) := hs
  refine ⟨⟨H, []⟩, Own.base H, ?_⟩
  refine ⟨(p0, ns), fun H1 o1 => ⟨rfl, SqL.up (ext0 o1) hs⟩, fun H1 v H2 o1 q => ?_, fun _ _ _ _ _ q => q.elim⟩
  obtain ⟨b, m, x, rfl, f1, f2, f3, hbx, hms, q3⟩ := q
  have ob : Own ⟨H, [] ++ boxG b m x⟩ H2 := box_join hbx ⟨fun c u e => by
    have hc := o1.fr c u e
    have ne : ¬ (c = b ∨ c = x.g ∨ c = m) := fun z => by
      rcases z with rfl | rfl | rfl
      · rw [f1] at hc
        cases hc
      · rw [f2] at hc
        cases hc
      · rw [f3] at hc
        cases hc
    exact (wo_out ne).trans (q3 c u hc), fun _ z => (nomatch z), List.nodup_nil⟩
  refine ⟨_, ob, ?_⟩
  refine use_box (args := fun _ : Unit => []) (ok := fun _ _ => True) (res := fun _ _ v _ => ∃ n : Nat, v = .int (n : Nat) ∧ 1 ≤ n ∧ n ≤ 64) () (by rfl) hms (fun _ _ => trivial) fun y H1 v H3 hy o3 o4 ex hv => ⟨H, [], o4, ?_⟩
  obtain ⟨n, rfl, h1, h2⟩ := hv
  refine use_box (args := fun n : Nat => [V.int (n : Nat)]) (ok := fun n _ => 1 ≤ n ∧ n ≤ 64) (res := fun n _ v H' => ∃ b p wv, nS b = n ∧ v = .ref p ∧ SqT K H' p [.str (tS b), wv] ∧ lwsR K H' wv b) n (by rfl) hy (fun _ _ => ⟨h1, h2⟩) fun y H1 v H4 hy o5 o6 ex2 hv => ?_
  obtain ⟨bt, p, wv, hn, rfl, hp, hw⟩ := hv
  refine ⟨H4, [], Own.base H4, ?_⟩
  refine ⟨_, .inr hp, rfl, ?_⟩
  refine use_box (E := []) (args := fun n : Nat => [V.int (n : Nat)]) (ok := fun n _ => n ≤ 63) (res := fun n _ v _ => ∃ fl, fl.length = n ∧ v = .str (fS fl)) (n - 1) ?_ hy (fun _ _ => by show n - 1 ≤ 63; omega) fun y H1 v H5 hy o7 o8 ex3 hv => ⟨H4, [], o8, ?_⟩
  · show [V.ref b, .int ((n : Nat) - 1)] = _
    rw [show ((n : Nat) : Int) - 1 = ((n - 1 : Nat) : Int) by omega]
  obtain ⟨fl, hfl, rfl⟩ := hv
  have hfl : fl.length = n - 1 := hfl
  refine use_takeB (E := []) ((n : Int) - 1) (by rfl) hy (by omega) fun y r hy hr => ?_
  try dsimp only
  have tl : ∀ (gl : List Bool), gl.length = fl.length → r_lawT K a (endsC (ct_law K) (p0, ns) H) [some (.ref p0), some (.ref b), some (.int (n : Nat)), some (.str (tS bt)), some wv, some (.str (fS fl)), some (.int (r : Nat)), some (.str (fS gl)), none, none, none, none] ⟨H4, boxG b m y⟩ := fun gl hgl => walk_lawT hy hn h2 (by omega) hgl hw fun S H' o' => rfl
  refine seq_go (set_go (ifE_go (tru_go (var_go (v := .str (fS fl)) (by rfl) ⟨fS_line (by omega), ?_⟩))))
  rw [fS_len]
  by_cases h0 : fl.length = 0
  · have e0 : (((fl.length : Nat) : Int) != 0) = false := by rw [h0]; rfl
    rw [e0]
    try dsimp only
    refine var_go (v := .str (fS fl)) (by rfl) ?_
    exact tl fl rfl
  · have e0 : (((fl.length : Nat) : Int) != 0) = true := by
      rw [bne_iff_ne]
      omega
    rw [e0]
    have hrl : r < fl.length := by omega
    obtain ⟨c, hc⟩ : ∃ c, fl[r]? = some c := ⟨_, List.getElem?_eq_getElem hrl⟩
    try dsimp only
    have hline : (pS (fl.map cdB)).length ≤ sizeLine := pS_line (by rw [List.length_map]; omega)
    refine op_go (op_go ?_)
    refine ⟨hline, ?_⟩
    rw [show cutS (fS fl) none (some (r : Int)) = pS ((fl.map cdB).take r) from cut_to _ r]
    refine op_go (c_go (call1_go (cons_go (op_go (op_go (var_go (v := .str (fS fl)) (by rfl) (var_go (v := .int (r : Nat)) (by rfl) ⟨fS_line (by omega), _, fS_at hc, c_go (eq_s (L_is c) (nil_go ?_))⟩)))))))
    refine ⟨by decide, _, LR_int c, ?_⟩
    refine add_s (x := (fl.map cdB).take r) (y := [cdB (!c)]) (by rw [List.length_take, List.length_map, List.length_singleton]; omega) ?_
    refine ⟨hline, ?_⟩
    rw [show cutS (fS fl) (some ((r : Int) + 1)) none = pS ((fl.map cdB).drop (r + 1)) from cut_from _ (r + 1)]
    refine add_s (x := (fl.map cdB).take r ++ [cdB (!c)]) (y := (fl.map cdB).drop (r + 1)) (by rw [List.length_append, List.length_take, List.length_drop, List.length_map, List.length_singleton]; omega) ?_
    rw [set_cut (by rw [List.length_map]; exact hrl), flip_map]
    exact tl (fl.set r (!c)) List.length_set
end
/-! ### each def keeps its promise -/
theorem sp_some {f : List V → Option Ot} {vs : List V} {H : Hp} {Q : VK} {E : XK} (h : spV f vs H Q E) : ∃ o, f vs = some o := by
  unfold spV at h
  split at h
  · exact ⟨_, by assumption⟩
  · exact ⟨_, by assumption⟩
  · exact h.elim
section
variable {P : Program} {w : World} {K : PySem.W.Frag} {mg : Str → Option Value} {base : Heap} {a : Ads}
theorem ok_is_made_of (G : Env P w K mg base a)  {f : Addr} {fd : FuncData} (F : Fun K "is_made_of" "is_made_of" s_is_made_of f fd) : FnOk P w K mg base (L2.CX P w) l_is_made_of f fd ["value", "signs"] (p_is_made_of K a) := by
  refine F.okX (k := l_is_made_of - 1) sc_is_made_of (fun vs H Q E h => ?_) fun cdv A outer s H vs Q E hr h => ⟨_, d_is_made_of G  hr, ?_⟩
  · obtain ⟨g, hg, _⟩ := h
    have e := hg.1
    subst e
    rfl
  · exact body_C h fun g hg => vc_is_made_of g hg
theorem ok_Tree_forks (G : Env P w K mg base a)  {f : Addr} {fd : FuncData} (F : Fun K "forks" "Tree.forks" s_Tree_forks f fd) : FnOk P w K mg base (L2.CX P w) l_Tree_forks f fd ["self"] (p_Tree_forks K a) := by
  refine F.okX (k := l_Tree_forks - 1) sc_Tree_forks (fun vs H Q E h => ?_) fun cdv A outer s H vs Q E hr h => ⟨_, d_Tree_forks G  hr, ?_⟩
  · obtain ⟨g, hg, _⟩ := h
    have e := hg.1
    subst e
    rfl
  · exact body_C h fun g hg => vc_Tree_forks g hg
theorem ok_checked_flags (G : Env P w K mg base a) (T_is_made_of : DefC P w K mg base "is_made_of" ["value", "signs"] l_is_made_of [] (p_is_made_of K a)) (T_Tree_forks : ProC P w K mg base a.Tree "forks" l_Tree_forks (p_Tree_forks K a)) {f : Addr} {fd : FuncData} (F : Fun K "checked_flags" "checked_flags" s_checked_flags f fd) : FnOk P w K mg base (L2.CX P w) l_checked_flags f fd ["tree", "flags"] (p_checked_flags K a) := by
  refine F.okX (k := l_checked_flags - 1) sc_checked_flags (fun vs H Q E h => ?_) fun cdv A outer s H vs Q E hr h => ⟨_, d_checked_flags G T_is_made_of T_Tree_forks hr, ?_⟩
  · obtain ⟨g, hg, _⟩ := h
    have e := hg.1
    subst e
    rfl
  · exact body_C h fun g hg => vc_checked_flags g hg
theorem ok_poly_product (G : Env P w K mg base a)  {f : Addr} {fd : FuncData} (F : Fun K "poly_product" "poly_product" s_poly_product f fd) : FnOk P w K mg base (L2.CX P w) l_poly_product f fd ["first", "second"] (p_poly_product K a) := by
  refine F.okX (k := l_poly_product - 1) sc_poly_product (fun vs H Q E h => ?_) fun cdv A outer s H vs Q E hr h => ⟨_, d_poly_product G  hr, ?_⟩
  · obtain ⟨g, hg, _⟩ := h
    have e := hg.1
    subst e
    rfl
  · exact body_C h fun g hg => vc_poly_product g hg
theorem ok_poly_sum (G : Env P w K mg base a)  {f : Addr} {fd : FuncData} (F : Fun K "poly_sum" "poly_sum" s_poly_sum f fd) : FnOk P w K mg base (L2.CX P w) l_poly_sum f fd ["first", "second"] (p_poly_sum K a) := by
  refine F.okX (k := l_poly_sum - 1) sc_poly_sum (fun vs H Q E h => ?_) fun cdv A outer s H vs Q E hr h => ⟨_, d_poly_sum G  hr, ?_⟩
  · obtain ⟨g, hg, _⟩ := h
    have e := hg.1
    subst e
    rfl
  · exact body_C h fun g hg => vc_poly_sum g hg
theorem ok_trail_polynomial (G : Env P w K mg base a)  {f : Addr} {fd : FuncData} (F : Fun K "trail_polynomial" "trail_polynomial" s_trail_polynomial f fd) : FnOk P w K mg base (L2.CX P w) l_trail_polynomial f fd ["forks", "hanging"] (p_trail_polynomial K a) := by
  refine F.okX (k := l_trail_polynomial - 1) sc_trail_polynomial (fun vs H Q E h => ?_) fun cdv A outer s H vs Q E hr h => ⟨_, d_trail_polynomial G  hr, ?_⟩
  · obtain ⟨g, hg, _⟩ := h
    have e := hg.1
    subst e
    rfl
  · exact body_C h fun g hg => vc_trail_polynomial g hg
theorem ok_Tree_len (G : Env P w K mg base a)  {f : Addr} {fd : FuncData} (F : Fun K "__len__" "Tree.__len__" s_Tree_len f fd) : FnOk P w K mg base (L2.CX P w) l_Tree_len f fd ["self"] (p_Tree_len K a) := by
  refine F.okX (k := l_Tree_len - 1) sc_Tree_len (fun vs H Q E h => ?_) fun cdv A outer s H vs Q E hr h => ⟨_, d_Tree_len G  hr, ?_⟩
  · obtain ⟨g, hg, _⟩ := h
    have e := hg.1
    subst e
    rfl
  · exact body_C h fun g hg => vc_Tree_len g hg
theorem ok_Tree_top (G : Env P w K mg base a)  {f : Addr} {fd : FuncData} (F : Fun K "top" "Tree.top" s_Tree_top f fd) : FnOk P w K mg base (L2.CX P w) l_Tree_top f fd ["self"] (p_Tree_top K a) := by
  refine F.okX (k := l_Tree_top - 1) sc_Tree_top (fun vs H Q E h => ?_) fun cdv A outer s H vs Q E hr h => ⟨_, d_Tree_top G  hr, ?_⟩
  · obtain ⟨g, hg, _⟩ := h
    have e := hg.1
    subst e
    rfl
  · exact body_C h fun g hg => vc_Tree_top g hg
theorem ok_spread_to (G : Env P w K mg base a) (T_checked_flags : DefC P w K mg base "checked_flags" ["tree", "flags"] l_checked_flags [] (p_checked_flags K a)) (T_poly_product : DefC P w K mg base "poly_product" ["first", "second"] l_poly_product [] (p_poly_product K a)) (T_trail_polynomial : DefC P w K mg base "trail_polynomial" ["forks", "hanging"] l_trail_polynomial [] (p_trail_polynomial K a)) (T_Tree_len : MetC P w K mg base a.Tree "__len__" ["self"] l_Tree_len (p_Tree_len K a)) (T_Tree_top : ProC P w K mg base a.Tree "top" l_Tree_top (p_Tree_top K a)) {f : Addr} {fd : FuncData} (F : Fun K "spread_to" "spread_to" s_spread_to f fd) : FnOk P w K mg base (L2.CX P w) l_spread_to f fd ["tree", "flags"] (p_spread_to K a) := by
  refine F.okX (k := l_spread_to - 1) sc_spread_to (fun vs H Q E h => ?_) fun cdv A outer s H vs Q E hr h => ⟨_, d_spread_to G T_checked_flags T_poly_product T_trail_polynomial T_Tree_len T_Tree_top hr, ?_⟩
  · obtain ⟨g, hg, _⟩ := h
    have e := hg.1
    subst e
    rfl
  · exact body_C h fun g hg => vc_spread_to g hg
theorem ok_subtree_polynomial (G : Env P w K mg base a)  {f : Addr} {fd : FuncData} (F : Fun K "subtree_polynomial" "subtree_polynomial" s_subtree_polynomial f fd) : FnOk P w K mg base (L2.CX P w) l_subtree_polynomial f fd ["below"] (p_subtree_polynomial K a) := by
  refine F.okX (k := l_subtree_polynomial - 1) sc_subtree_polynomial (fun vs H Q E h => ?_) fun cdv A outer s H vs Q E hr h => ⟨_, d_subtree_polynomial G  hr, ?_⟩
  · obtain ⟨g, hg, _⟩ := h
    have e := hg.1
    subst e
    rfl
  · exact body_C h fun g hg => vc_subtree_polynomial g hg
theorem ok_spread_from (G : Env P w K mg base a) (T_checked_flags : DefC P w K mg base "checked_flags" ["tree", "flags"] l_checked_flags [] (p_checked_flags K a)) (T_poly_product : DefC P w K mg base "poly_product" ["first", "second"] l_poly_product [] (p_poly_product K a)) (T_poly_sum : DefC P w K mg base "poly_sum" ["first", "second"] l_poly_sum [] (p_poly_sum K a)) (T_subtree_polynomial : DefC P w K mg base "subtree_polynomial" ["below"] l_subtree_polynomial [] (p_subtree_polynomial K a)) (T_Tree_len : MetC P w K mg base a.Tree "__len__" ["self"] l_Tree_len (p_Tree_len K a)) (T_Tree_top : ProC P w K mg base a.Tree "top" l_Tree_top (p_Tree_top K a)) {f : Addr} {fd : FuncData} (F : Fun K "spread_from" "spread_from" s_spread_from f fd) : FnOk P w K mg base (L2.CX P w) l_spread_from f fd ["tree", "flags"] (p_spread_from K a) := by
  refine F.okX (k := l_spread_from - 1) sc_spread_from (fun vs H Q E h => ?_) fun cdv A outer s H vs Q E hr h => ⟨_, d_spread_from G T_checked_flags T_poly_product T_poly_sum T_subtree_polynomial T_Tree_len T_Tree_top hr, ?_⟩
  · obtain ⟨g, hg, _⟩ := h
    have e := hg.1
    subst e
    rfl
  · exact body_C h fun g hg => vc_spread_from g hg
theorem ok_greatest_distance (G : Env P w K mg base a) (T_Tree_forks : ProC P w K mg base a.Tree "forks" l_Tree_forks (p_Tree_forks K a)) {f : Addr} {fd : FuncData} (F : Fun K "greatest_distance" "greatest_distance" s_greatest_distance f fd) : FnOk P w K mg base (L2.CX P w) l_greatest_distance f fd ["tree"] (p_greatest_distance K a) := by
  refine F.okX (k := l_greatest_distance - 1) sc_greatest_distance (fun vs H Q E h => ?_) fun cdv A outer s H vs Q E hr h => ⟨_, d_greatest_distance G T_Tree_forks hr, ?_⟩
  · obtain ⟨g, hg, _⟩ := h
    have e := hg.1
    subst e
    rfl
  · exact body_C h fun g hg => vc_greatest_distance g hg
theorem ok_ends_fork (G : Env P w K mg base a)  {f : Addr} {fd : FuncData} (F : Fun K "ends_fork" "ends_fork" s_ends_fork f fd) : FnOk P w K mg base (L2.CX P w) l_ends_fork f fd ["stack"] (p_ends_fork K a) := by
  refine F.okX (k := l_ends_fork - 1) sc_ends_fork (fun vs H Q E h => ?_) fun cdv A outer s H vs Q E hr h => ⟨_, d_ends_fork G  hr, ?_⟩
  · obtain ⟨g, hg, _⟩ := h
    have e := hg.1
    subst e
    rfl
  · exact body_C h fun g hg => vc_ends_fork g hg
theorem ok_read_forks (G : Env P w K mg base a) (T_ends_fork : DefC P w K mg base "ends_fork" ["stack"] l_ends_fork [] (p_ends_fork K a)) {f : Addr} {fd : FuncData} (F : Fun K "read_forks" "read_forks" s_read_forks f fd) : FnOk P w K mg base (L2.CX P w) l_read_forks f fd ["text"] (p_read_forks K a) := by
  refine F.okX (k := l_read_forks - 1) sc_read_forks (fun vs H Q E h => ?_) fun cdv A outer s H vs Q E hr h => ⟨_, d_read_forks G T_ends_fork hr, ?_⟩
  · obtain ⟨g, hg, _⟩ := h
    have e := hg.1
    subst e
    rfl
  · exact body_C h fun g hg => vc_read_forks g hg
theorem ok_lay_ways (G : Env P w K mg base a)  {f : Addr} {fd : FuncData} (F : Fun K "lay_ways" "lay_ways" s_lay_ways f fd) : FnOk P w K mg base (L2.CX P w) l_lay_ways f fd ["root", "lefts", "rights"] (p_lay_ways K a) := by
  refine F.okX (k := l_lay_ways - 1) sc_lay_ways (fun vs H Q E h => ?_) fun cdv A outer s H vs Q E hr h => ⟨_, d_lay_ways G  hr, ?_⟩
  · obtain ⟨g, hg, _⟩ := h
    have e := hg.1
    subst e
    rfl
  · exact body_C h fun g hg => vc_lay_ways g hg
theorem ok_Tree_init (G : Env P w K mg base a) (T_lay_ways : DefC P w K mg base "lay_ways" ["root", "lefts", "rights"] l_lay_ways [] (p_lay_ways K a)) (T_read_forks : DefC P w K mg base "read_forks" ["text"] l_read_forks [] (p_read_forks K a)) {f : Addr} {fd : FuncData} (F : Fun K "__init__" "Tree.__init__" s_Tree_init f fd) : FnOk P w K mg base (L2.CX P w) l_Tree_init f fd ["self", "text"] (p_Tree_init K a) := by
  refine F.okX (k := l_Tree_init - 1) sc_Tree_init (fun vs H Q E h => ?_) fun cdv A outer s H vs Q E hr h => ⟨_, d_Tree_init G T_lay_ways T_read_forks hr, ?_⟩
  · obtain ⟨g, hg, _⟩ := h
    have e := hg.1
    subst e
    rfl
  · exact body_C h fun g hg => vc_Tree_init g hg
theorem ok_l_is_integer (G : Env P w K mg base a)  {f : Addr} {fd : FuncData} (F : Fun K "_law_is_integer" "_law_is_integer" s_l_is_integer f fd) : FnOk P w K mg base (L2.CX P w) l_l_is_integer f fd ["_law_told"] (p_l_is_integer K a) := by
  refine F.okX (k := l_l_is_integer - 1) sc_l_is_integer (fun vs H Q E h => ?_) fun cdv A outer s H vs Q E hr h => ⟨_, d_l_is_integer G  hr, ?_⟩
  · obtain ⟨g, hg, _⟩ := h
    have e := hg.1
    subst e
    rfl
  · exact body_C h fun g hg => vc_l_is_integer g hg
theorem ok_l_same (G : Env P w K mg base a) (T_l_is_integer : DefC P w K mg base "_law_is_integer" ["_law_told"] l_l_is_integer [] (p_l_is_integer K a)) {f : Addr} {fd : FuncData} (F : Fun K "_law_same" "_law_same" s_l_same f fd) : FnOk P w K mg base (L2.CX P w) l_l_same f fd ["_law_told", "_law_due"] (p_l_same K a) := by
  refine F.okX (k := l_l_same - 1) sc_l_same (fun vs H Q E h => ?_) fun cdv A outer s H vs Q E hr h => ⟨_, d_l_same G T_l_is_integer hr, ?_⟩
  · obtain ⟨g, hg, _⟩ := h
    have e := hg.1
    subst e
    rfl
  · exact body_C h fun g hg => vc_l_same g hg
theorem ok_l_box (G : Env P w K mg base a)  {f : Addr} {fd : FuncData} (F : Fun K "_law_box" "_law_box" s_l_box f fd) : FnOk P w K mg base (L2.CX P w) l_l_box f fd ["_law_script"] (p_l_box K a) := by
  refine F.okX (k := l_l_box - 1) sc_l_box (fun vs H Q E h => ?_) fun cdv A outer s H vs Q E hr h => ⟨_, d_l_box G  hr, ?_⟩
  · obtain ⟨g, hg, _⟩ := h
    have e := hg.1
    subst e
    rfl
  · exact body_C h fun g hg => vc_l_box g hg
theorem ok_l_take (G : Env P w K mg base a)  {f : Addr} {fd : FuncData} (F : Fun K "_law_take" "_law_take" s_l_take f fd) : FnOk P w K mg base (L2.CX P w) l_l_take f fd ["_law_box_here", "_law_size"] (p_l_take K a) := by
  refine F.okX (k := l_l_take - 1) sc_l_take (fun vs H Q E h => ?_) fun cdv A outer s H vs Q E hr h => ⟨_, d_l_take G  hr, ?_⟩
  · obtain ⟨g, hg, _⟩ := h
    have e := hg.1
    subst e
    rfl
  · exact body_C h fun g hg => vc_l_take g hg
theorem ok_l_join (G : Env P w K mg base a) (T_l_take : DefC P w K mg base "_law_take" ["_law_box_here", "_law_size"] l_l_take [] (p_l_take K a)) {f : Addr} {fd : FuncData} (F : Fun K "_law_join" "_law_join" s_l_join f fd) : FnOk P w K mg base (L2.CX P w) l_l_join f fd ["_law_box_here", "_law_lean", "_law_room"] (p_l_join K a) := by
  refine F.okX (k := l_l_join - 1) sc_l_join (fun vs H Q E h => ?_) fun cdv A outer s H vs Q E hr h => ⟨_, d_l_join G T_l_take hr, ?_⟩
  · obtain ⟨g, hg, _⟩ := h
    have e := hg.1
    subst e
    rfl
  · exact body_C h fun g hg => vc_l_join g hg
theorem ok_l_tree (G : Env P w K mg base a) (T_l_join : DefC P w K mg base "_law_join" ["_law_box_here", "_law_lean", "_law_room"] l_l_join [] (p_l_join K a)) (T_l_take : DefC P w K mg base "_law_take" ["_law_box_here", "_law_size"] l_l_take [] (p_l_take K a)) {f : Addr} {fd : FuncData} (F : Fun K "_law_tree" "_law_tree" s_l_tree f fd) : FnOk P w K mg base (L2.CX P w) l_l_tree f fd ["_law_box_here", "_law_slots_here"] (p_l_tree K a) := by
  refine F.okX (k := l_l_tree - 1) sc_l_tree (fun vs H Q E h => ?_) fun cdv A outer s H vs Q E hr h => ⟨_, d_l_tree G T_l_join T_l_take hr, ?_⟩
  · obtain ⟨g, hg, _⟩ := h
    have e := hg.1
    subst e
    rfl
  · exact body_C h fun g hg => vc_l_tree g hg
theorem ok_l_flags (G : Env P w K mg base a) (T_l_take : DefC P w K mg base "_law_take" ["_law_box_here", "_law_size"] l_l_take [] (p_l_take K a)) {f : Addr} {fd : FuncData} (F : Fun K "_law_flags" "_law_flags" s_l_flags f fd) : FnOk P w K mg base (L2.CX P w) l_l_flags f fd ["_law_box_here", "_law_many"] (p_l_flags K a) := by
  refine F.okX (k := l_l_flags - 1) sc_l_flags (fun vs H Q E h => ?_) fun cdv A outer s H vs Q E hr h => ⟨_, d_l_flags G T_l_take hr, ?_⟩
  · obtain ⟨g, hg, _⟩ := h
    have e := hg.1
    subst e
    rfl
  · exact body_C h fun g hg => vc_l_flags g hg
theorem ok_l_slots (G : Env P w K mg base a) (T_l_take : DefC P w K mg base "_law_take" ["_law_box_here", "_law_size"] l_l_take [] (p_l_take K a)) {f : Addr} {fd : FuncData} (F : Fun K "_law_slots" "_law_slots" s_l_slots f fd) : FnOk P w K mg base (L2.CX P w) l_l_slots f fd ["_law_box_here"] (p_l_slots K a) := by
  refine F.okX (k := l_l_slots - 1) sc_l_slots (fun vs H Q E h => ?_) fun cdv A outer s H vs Q E hr h => ⟨_, d_l_slots G T_l_take hr, ?_⟩
  · obtain ⟨g, hg, _⟩ := h
    have e := hg.1
    subst e
    rfl
  · exact body_C h fun g hg => vc_l_slots g hg
theorem ok_l_bent (G : Env P w K mg base a) (T_l_take : DefC P w K mg base "_law_take" ["_law_box_here", "_law_size"] l_l_take [] (p_l_take K a)) {f : Addr} {fd : FuncData} (F : Fun K "_law_bent" "_law_bent" s_l_bent f fd) : FnOk P w K mg base (L2.CX P w) l_l_bent f fd ["_law_box_here", "_law_flags_here", "_law_odd"] (p_l_bent K a) := by
  refine F.okX (k := l_l_bent - 1) sc_l_bent (fun vs H Q E h => ?_) fun cdv A outer s H vs Q E hr h => ⟨_, d_l_bent G T_l_take hr, ?_⟩
  · obtain ⟨g, hg, _⟩ := h
    have e := hg.1
    subst e
    rfl
  · exact body_C h fun g hg => vc_l_bent g hg
theorem ok_l_hit (G : Env P w K mg base a)  {f : Addr} {fd : FuncData} (F : Fun K "_law_hit" "_law_hit" s_l_hit f fd) : FnOk P w K mg base (L2.CX P w) l_l_hit f fd ["_law_flags_here", "_law_way"] (p_l_hit K a) := by
  refine F.okX (k := l_l_hit - 1) sc_l_hit (fun vs H Q E h => ?_) fun cdv A outer s H vs Q E hr h => ⟨_, d_l_hit G  hr, ?_⟩
  · obtain ⟨g, hg, _⟩ := h
    have e := hg.1
    subst e
    rfl
  · exact body_C h fun g hg => vc_l_hit g hg
theorem ok_l_times (G : Env P w K mg base a)  {f : Addr} {fd : FuncData} (F : Fun K "_law_times" "_law_times" s_l_times f fd) : FnOk P w K mg base (L2.CX P w) l_l_times f fd ["_law_first", "_law_second"] (p_l_times K a) := by
  refine F.okX (k := l_l_times - 1) sc_l_times (fun vs H Q E h => ?_) fun cdv A outer s H vs Q E hr h => ⟨_, d_l_times G  hr, ?_⟩
  · obtain ⟨g, hg, _⟩ := h
    have e := hg.1
    subst e
    rfl
  · exact body_C h fun g hg => vc_l_times g hg
theorem ok_l_plus (G : Env P w K mg base a)  {f : Addr} {fd : FuncData} (F : Fun K "_law_plus" "_law_plus" s_l_plus f fd) : FnOk P w K mg base (L2.CX P w) l_l_plus f fd ["_law_first", "_law_second"] (p_l_plus K a) := by
  refine F.okX (k := l_l_plus - 1) sc_l_plus (fun vs H Q E h => ?_) fun cdv A outer s H vs Q E hr h => ⟨_, d_l_plus G  hr, ?_⟩
  · obtain ⟨g, hg, _⟩ := h
    have e := hg.1
    subst e
    rfl
  · exact body_C h fun g hg => vc_l_plus g hg
theorem ok_l_shut (G : Env P w K mg base a)  {f : Addr} {fd : FuncData} (F : Fun K "_law_shut" "_law_shut" s_l_shut f fd) : FnOk P w K mg base (L2.CX P w) l_l_shut f fd ["_law_opened"] (p_l_shut K a) := by
  refine F.okX (k := l_l_shut - 1) sc_l_shut (fun vs H Q E h => ?_) fun cdv A outer s H vs Q E hr h => ⟨_, d_l_shut G  hr, ?_⟩
  · obtain ⟨g, hg, _⟩ := h
    have e := hg.1
    subst e
    rfl
  · exact body_C h fun g hg => vc_l_shut g hg
theorem ok_l_spreads (G : Env P w K mg base a) (T_l_plus : DefC P w K mg base "_law_plus" ["_law_first", "_law_second"] l_l_plus [] (p_l_plus K a)) (T_l_shut : DefC P w K mg base "_law_shut" ["_law_opened"] l_l_shut [] (p_l_shut K a)) (T_l_times : DefC P w K mg base "_law_times" ["_law_first", "_law_second"] l_l_times [] (p_l_times K a)) {f : Addr} {fd : FuncData} (F : Fun K "_law_spreads" "_law_spreads" s_l_spreads f fd) : FnOk P w K mg base (L2.CX P w) l_l_spreads f fd ["_law_text", "_law_flags_here"] (p_l_spreads K a) := by
  refine F.okX (k := l_l_spreads - 1) sc_l_spreads (fun vs H Q E h => ?_) fun cdv A outer s H vs Q E hr h => ⟨_, d_l_spreads G T_l_plus T_l_shut T_l_times hr, ?_⟩
  · obtain ⟨g, hg, _⟩ := h
    have e := hg.1
    subst e
    rfl
  · exact body_C h fun g hg => vc_l_spreads g hg
theorem ok_l_each (G : Env P w K mg base a)  {f : Addr} {fd : FuncData} (F : Fun K "_law_each" "_law_each" s_l_each f fd) : FnOk P w K mg base (L2.CX P w) l_l_each f fd ["_law_many"] (p_l_each K a) := by
  refine F.okX (k := l_l_each - 1) sc_l_each (fun vs H Q E h => ?_) fun cdv A outer s H vs Q E hr h => ⟨_, d_l_each G  hr, ?_⟩
  · obtain ⟨g, hg, _⟩ := h
    have e := hg.1
    subst e
    rfl
  · exact body_C h fun g hg => vc_l_each g hg
theorem ok_l_levels (G : Env P w K mg base a)  {f : Addr} {fd : FuncData} (F : Fun K "_law_levels" "_law_levels" s_l_levels f fd) : FnOk P w K mg base (L2.CX P w) l_l_levels f fd ["_law_start", "_law_steps"] (p_l_levels K a) := by
  refine F.okX (k := l_l_levels - 1) sc_l_levels (fun vs H Q E h => ?_) fun cdv A outer s H vs Q E hr h => ⟨_, d_l_levels G  hr, ?_⟩
  · obtain ⟨g, hg, _⟩ := h
    have e := hg.1
    subst e
    rfl
  · exact body_C h fun g hg => vc_l_levels g hg
theorem ok_l_searched (G : Env P w K mg base a) (T_l_each : DefC P w K mg base "_law_each" ["_law_many"] l_l_each [] (p_l_each K a)) (T_l_hit : DefC P w K mg base "_law_hit" ["_law_flags_here", "_law_way"] l_l_hit [] (p_l_hit K a)) (T_l_levels : DefC P w K mg base "_law_levels" ["_law_start", "_law_steps"] l_l_levels [] (p_l_levels K a)) (T_l_same : DefC P w K mg base "_law_same" ["_law_told", "_law_due"] l_l_same [] (p_l_same K a)) (T_greatest_distance : DefC P w K mg base "greatest_distance" ["tree"] l_greatest_distance [] (p_greatest_distance K a)) (T_spread_from : DefC P w K mg base "spread_from" ["tree", "flags"] l_spread_from [] (p_spread_from K a)) (T_spread_to : DefC P w K mg base "spread_to" ["tree", "flags"] l_spread_to [] (p_spread_to K a)) {f : Addr} {fd : FuncData} (F : Fun K "_law_searched" "_law_searched" s_l_searched f fd) : FnOk P w K mg base (L2.CX P w) l_l_searched f fd ["_law_tree_here", "_law_flags_here", "_law_ways"] (p_l_searched K a) := by
  refine F.okX (k := l_l_searched - 1) sc_l_searched (fun vs H Q E h => ?_) fun cdv A outer s H vs Q E hr h => ⟨_, d_l_searched G T_l_each T_l_hit T_l_levels T_l_same T_greatest_distance T_spread_from T_spread_to hr, ?_⟩
  · obtain ⟨g, hg, _⟩ := h
    have e := hg.1
    subst e
    rfl
  · exact body_C h fun g hg => vc_l_searched g hg
theorem ok_l_answers (G : Env P w K mg base a) (T_l_is_integer : DefC P w K mg base "_law_is_integer" ["_law_told"] l_l_is_integer [] (p_l_is_integer K a)) (T_l_same : DefC P w K mg base "_law_same" ["_law_told", "_law_due"] l_l_same [] (p_l_same K a)) (T_l_spreads : DefC P w K mg base "_law_spreads" ["_law_text", "_law_flags_here"] l_l_spreads [] (p_l_spreads K a)) (T_greatest_distance : DefC P w K mg base "greatest_distance" ["tree"] l_greatest_distance [] (p_greatest_distance K a)) (T_spread_from : DefC P w K mg base "spread_from" ["tree", "flags"] l_spread_from [] (p_spread_from K a)) (T_spread_to : DefC P w K mg base "spread_to" ["tree", "flags"] l_spread_to [] (p_spread_to K a)) {f : Addr} {fd : FuncData} (F : Fun K "_law_answers" "_law_answers" s_l_answers f fd) : FnOk P w K mg base (L2.CX P w) l_l_answers f fd ["_law_tree_here", "_law_text", "_law_flags_here"] (p_l_answers K a) := by
  refine F.okX (k := l_l_answers - 1) sc_l_answers (fun vs H Q E h => ?_) fun cdv A outer s H vs Q E hr h => ⟨_, d_l_answers G T_l_is_integer T_l_same T_l_spreads T_greatest_distance T_spread_from T_spread_to hr, ?_⟩
  · obtain ⟨g, hg, _⟩ := h
    have e := hg.1
    subst e
    rfl
  · exact body_C h fun g hg => vc_l_answers g hg
theorem ok_l_fault (G : Env P w K mg base a) (T : Kit K a) (T_spread_from : DefC P w K mg base "spread_from" ["tree", "flags"] l_spread_from [] (p_spread_from K a)) (T_spread_to : DefC P w K mg base "spread_to" ["tree", "flags"] l_spread_to [] (p_spread_to K a)) {f : Addr} {fd : FuncData} (F : Fun K "_law_fault" "_law_fault" s_l_fault f fd) : FnG P w K mg base l_l_fault f fd ["_law_door", "_law_tree_here", "_law_flags_here"] (p_l_fault K a) := by
  refine fn_ofG (k := l_l_fault - 1) F sc_l_fault (fun vs H Q E h => ?_) fun cdv A outer s H vs Q E hgd hr h => ⟨_, d_l_fault G T_spread_from T_spread_to hgd hr, ?_⟩
  · obtain ⟨g, hg, _⟩ := h
    have e := hg.1
    subst e
    rfl
  · exact body_C h fun g hg => vc_l_fault T g hg
theorem ok_law (G : Env P w K mg base a) (T : Kit K a) (T_l_answers : DefC P w K mg base "_law_answers" ["_law_tree_here", "_law_text", "_law_flags_here"] l_l_answers [] (p_l_answers K a)) (T_l_bent : DefC P w K mg base "_law_bent" ["_law_box_here", "_law_flags_here", "_law_odd"] l_l_bent [] (p_l_bent K a)) (T_l_box : DefC P w K mg base "_law_box" ["_law_script"] l_l_box [] (p_l_box K a)) (T_l_flags : DefC P w K mg base "_law_flags" ["_law_box_here", "_law_many"] l_l_flags [] (p_l_flags K a)) (T_l_searched : DefC P w K mg base "_law_searched" ["_law_tree_here", "_law_flags_here", "_law_ways"] l_l_searched [] (p_l_searched K a)) (T_l_slots : DefC P w K mg base "_law_slots" ["_law_box_here"] l_l_slots [] (p_l_slots K a)) (T_l_take : DefC P w K mg base "_law_take" ["_law_box_here", "_law_size"] l_l_take [] (p_l_take K a)) (T_l_tree : DefC P w K mg base "_law_tree" ["_law_box_here", "_law_slots_here"] l_l_tree [] (p_l_tree K a)) (T_l_fault : DefG P w K mg base "_law_fault" ["_law_door", "_law_tree_here", "_law_flags_here"] l_l_fault (p_l_fault K a)) (T_Tree_init : MakC P w K mg base "Tree" a.Tree ["self", "text"] l_Tree_init (p_Tree_init K a)) {f : Addr} {fd : FuncData} (F : Fun K "law" "law" s_law f fd) : FnG P w K mg base l_law f fd ["_law_script"] (p_law K a) := by
  refine fn_ofG (k := l_law - 1) F sc_law (fun vs H Q E h => ?_) fun cdv A outer s H vs Q E hgd hr h => ⟨_, d_law G T_l_answers T_l_bent T_l_box T_l_flags T_l_searched T_l_slots T_l_take T_l_tree T_l_fault T_Tree_init hgd hr, ?_⟩
  · obtain ⟨g, hg, _⟩ := h
    have e := hg.1
    subst e
    rfl
  · exact body_C h fun g hg => vc_law T g hg
end
/-! ### what the top has written -/
theorem all_mk {l : PySem.W.OpenLaw} {w : World} {K : PySem.W.Frag} {h : Heap} {mg : Str → Option Value} {fa : Addr} {c0 c1 c2 c3 c4 c5 c6 : Addr}
    {tc_c6_MOST : Tok}
    {f0 : Addr} {od0 an0 : Option Addr} {sl0 : Array (Option Value)} {oc0 kV0 dc0 pm0 cd0 ct0 : Value}
    {pp1 : Addr} {pq1 : List Value}
    {f1 : Addr} {od1 an1 : Option Addr} {sl1 : Array (Option Value)} {oc1 kV1 dc1 pm1 cd1 ct1 : Value}
    {f2 : Addr} {od2 an2 : Option Addr} {sl2 : Array (Option Value)} {oc2 kV2 dc2 pm2 cd2 ct2 : Value}
    {f3 : Addr} {od3 an3 : Option Addr} {sl3 : Array (Option Value)} {oc3 kV3 dc3 pm3 cd3 ct3 : Value}
    {f4 : Addr} {od4 an4 : Option Addr} {sl4 : Array (Option Value)} {oc4 kV4 dc4 pm4 cd4 ct4 : Value}
    {f5 : Addr} {od5 an5 : Option Addr} {sl5 : Array (Option Value)} {oc5 kV5 dc5 pm5 cd5 ct5 : Value}
    {f6 : Addr} {od6 an6 : Option Addr} {sl6 : Array (Option Value)} {oc6 kV6 dc6 pm6 cd6 ct6 : Value}
    {pp7 : Addr} {pq7 : List Value}
    {f7 : Addr} {od7 an7 : Option Addr} {sl7 : Array (Option Value)} {oc7 kV7 dc7 pm7 cd7 ct7 : Value}
    {f8 : Addr} {od8 an8 : Option Addr} {sl8 : Array (Option Value)} {oc8 kV8 dc8 pm8 cd8 ct8 : Value}
    {f9 : Addr} {od9 an9 : Option Addr} {sl9 : Array (Option Value)} {oc9 kV9 dc9 pm9 cd9 ct9 : Value}
    {f10 : Addr} {od10 an10 : Option Addr} {sl10 : Array (Option Value)} {oc10 kV10 dc10 pm10 cd10 ct10 : Value}
    {f11 : Addr} {od11 an11 : Option Addr} {sl11 : Array (Option Value)} {oc11 kV11 dc11 pm11 cd11 ct11 : Value}
    {f12 : Addr} {od12 an12 : Option Addr} {sl12 : Array (Option Value)} {oc12 kV12 dc12 pm12 cd12 ct12 : Value}
    {f13 : Addr} {od13 an13 : Option Addr} {sl13 : Array (Option Value)} {oc13 kV13 dc13 pm13 cd13 ct13 : Value}
    {f14 : Addr} {od14 an14 : Option Addr} {sl14 : Array (Option Value)} {oc14 kV14 dc14 pm14 cd14 ct14 : Value}
    {f15 : Addr} {od15 an15 : Option Addr} {sl15 : Array (Option Value)} {oc15 kV15 dc15 pm15 cd15 ct15 : Value}
    {f16 : Addr} {od16 an16 : Option Addr} {sl16 : Array (Option Value)} {oc16 kV16 dc16 pm16 cd16 ct16 : Value}
    {f17 : Addr} {od17 an17 : Option Addr} {sl17 : Array (Option Value)} {oc17 kV17 dc17 pm17 cd17 ct17 : Value}
    {f18 : Addr} {od18 an18 : Option Addr} {sl18 : Array (Option Value)} {oc18 kV18 dc18 pm18 cd18 ct18 : Value}
    {f19 : Addr} {od19 an19 : Option Addr} {sl19 : Array (Option Value)} {oc19 kV19 dc19 pm19 cd19 ct19 : Value}
    {f20 : Addr} {od20 an20 : Option Addr} {sl20 : Array (Option Value)} {oc20 kV20 dc20 pm20 cd20 ct20 : Value}
    {f21 : Addr} {od21 an21 : Option Addr} {sl21 : Array (Option Value)} {oc21 kV21 dc21 pm21 cd21 ct21 : Value}
    {f22 : Addr} {od22 an22 : Option Addr} {sl22 : Array (Option Value)} {oc22 kV22 dc22 pm22 cd22 ct22 : Value}
    {f23 : Addr} {od23 an23 : Option Addr} {sl23 : Array (Option Value)} {oc23 kV23 dc23 pm23 cd23 ct23 : Value}
    {f24 : Addr} {od24 an24 : Option Addr} {sl24 : Array (Option Value)} {oc24 kV24 dc24 pm24 cd24 ct24 : Value}
    {f25 : Addr} {od25 an25 : Option Addr} {sl25 : Array (Option Value)} {oc25 kV25 dc25 pm25 cd25 ct25 : Value}
    {f26 : Addr} {od26 an26 : Option Addr} {sl26 : Array (Option Value)} {oc26 kV26 dc26 pm26 cd26 ct26 : Value}
    {f27 : Addr} {od27 an27 : Option Addr} {sl27 : Array (Option Value)} {oc27 kV27 dc27 pm27 cd27 ct27 : Value}
    {f28 : Addr} {od28 an28 : Option Addr} {sl28 : Array (Option Value)} {oc28 kV28 dc28 pm28 cd28 ct28 : Value}
    {f29 : Addr} {od29 an29 : Option Addr} {sl29 : Array (Option Value)} {oc29 kV29 dc29 pm29 cd29 ct29 : Value}
    {f30 : Addr} {od30 an30 : Option Addr} {sl30 : Array (Option Value)} {oc30 kV30 dc30 pm30 cd30 ct30 : Value}
    {f31 : Addr} {od31 an31 : Option Addr} {sl31 : Array (Option Value)} {oc31 kV31 dc31 pm31 cd31 ct31 : Value}
    {f32 : Addr} {od32 an32 : Option Addr} {sl32 : Array (Option Value)} {oc32 kV32 dc32 pm32 cd32 ct32 : Value}
    {f33 : Addr} {od33 an33 : Option Addr} {sl33 : Array (Option Value)} {oc33 kV33 dc33 pm33 cd33 ct33 : Value}
    {f34 : Addr} {od34 an34 : Option Addr} {sl34 : Array (Option Value)} {oc34 kV34 dc34 pm34 cd34 ct34 : Value}
    {f35 : Addr} {od35 an35 : Option Addr} {sl35 : Array (Option Value)} {oc35 kV35 dc35 pm35 cd35 ct35 : Value}
    {nm_c2 qn_c2 : Str} {N_c2 : Addr} {bs_c2 bm_c2 sub_c2 : List Value} {sn_c2 : List Str} {ab_c2 : Bool} {col_c2 : Option Bool} {dd_c2 : Option Addr} {k0_c2 k1_c2 k2_c2 k3_c2 k5_c2 : Option Value}
    {fic2 : Addr} {odc2 anc2 : Option Addr} {slc2 : Array (Option Value)} {occ2 kVc2 dcc2 pmc2 cdc2 ctc2 : Value}
    {nm_c1 qn_c1 : Str} {N_c1 : Addr} {bs_c1 bm_c1 sub_c1 : List Value} {sn_c1 : List Str} {ab_c1 : Bool} {col_c1 : Option Bool} {dd_c1 : Option Addr} {k0_c1 k1_c1 k2_c1 k3_c1 k5_c1 : Option Value}
    {fic1 : Addr} {odc1 anc1 : Option Addr} {slc1 : Array (Option Value)} {occ1 kVc1 dcc1 pmc1 cdc1 ctc1 : Value}
    {fwc6 : Addr} {odwc6 anwc6 : Option Addr} {slwc6 : Array (Option Value)} {ocwc6 kVwc6 dcwc6 pmwc6 cdwc6 ctwc6 : Value}
    (X : K.In h) (G : h.Ns mainGlobals mg) (hfa : mg "law" = some (.ref fa))
    (ac0 : PySem.W.nsIn K mainGlobals "CacheError" = some (some (.ref c0)))
    (ac1 : PySem.W.nsIn K mainGlobals "InvalidTree" = some (some (.ref c1)))
    (ac2 : PySem.W.nsIn K mainGlobals "InvalidFlags" = some (some (.ref c2)))
    (ac3 : PySem.W.nsIn K mainGlobals "InvalidSlot" = some (some (.ref c3)))
    (ac4 : PySem.W.nsIn K mainGlobals "InvalidFork" = some (some (.ref c4)))
    (ac5 : PySem.W.nsIn K mainGlobals "TooMany" = some (some (.ref c5)))
    (ac6 : PySem.W.nsIn K mainGlobals "Tree" = some (some (.ref c6)))
    (z_ValueError : PySem.W.nsIn K mainGlobals "ValueError" = some none)
    (z_all : PySem.W.nsIn K mainGlobals "all" = some none)
    (z_bool : PySem.W.nsIn K mainGlobals "bool" = some none)
    (z_enumerate : PySem.W.nsIn K mainGlobals "enumerate" = some none)
    (z_int : PySem.W.nsIn K mainGlobals "int" = some none)
    (z_isinstance : PySem.W.nsIn K mainGlobals "isinstance" = some none)
    (z_len : PySem.W.nsIn K mainGlobals "len" = some none)
    (z_list : PySem.W.nsIn K mainGlobals "list" = some none)
    (z_max : PySem.W.nsIn K mainGlobals "max" = some none)
    (z_range : PySem.W.nsIn K mainGlobals "range" = some none)
    (z_repr : PySem.W.nsIn K mainGlobals "repr" = some none)
    (z_sorted : PySem.W.nsIn K mainGlobals "sorted" = some none)
    (z_str : PySem.W.nsIn K mainGlobals "str" = some none)
    (z_sum : PySem.W.nsIn K mainGlobals "sum" = some none)
    (z_tuple : PySem.W.nsIn K mainGlobals "tuple" = some none)
    (opg_c6 : PySem.W.plainGet K c6 Str.empty = true)
    (ohd_c6 : PySem.W.hasDictIn K c6 = true)
    (opo_c6 : PySem.W.plainOver K c6 = true)
    (osa_c6 : PySem.W.findIn K (.ref c6) "__setattr__" = some (some (.builtin "object.__setattr__")))
    (omk_c6 : PySem.W.makesIn K c6 = true)
    (okc_c6 : PySem.W.keepIn K (.ref c6) = true)
    (ona_c6_bounds : PySem.W.findIn K (.ref c6) "bounds" = some none)
    (ona_c6_lefts : PySem.W.findIn K (.ref c6) "lefts" = some none)
    (ona_c6_postorder : PySem.W.findIn K (.ref c6) "postorder" = some none)
    (ona_c6_preorder : PySem.W.findIn K (.ref c6) "preorder" = some none)
    (ona_c6_rights : PySem.W.findIn K (.ref c6) "rights" = some none)
    (ona_c6_root : PySem.W.findIn K (.ref c6) "root" = some none)
    (ona_c6_spans : PySem.W.findIn K (.ref c6) "spans" = some none)
    (ona_c6_text : PySem.W.findIn K (.ref c6) "text" = some none)
    (ona_c6_ways : PySem.W.findIn K (.ref c6) "ways" = some none)
    (oco_c6_MOST : PySem.W.findIn K (.ref c6) "MOST" = some (some (.int 64 tc_c6_MOST)))
    (ocg_c6_MOST : PySem.W.specialIn K (.int 64 tc_c6_MOST) "__get__" = some none)
    (at0 : PySem.W.nsIn K mainGlobals "is_made_of" = some (some (.ref f0)))
    (l0 : K.lookup f0 = some ⟨oc0, od0, .func (PySem.W.fnOf "is_made_of" "is_made_of" (defArgs s_is_made_of) (defBody s_is_made_of) (defScope s_is_made_of) .none kV0 dc0 pm0 an0 cd0 ct0), sl0⟩)
    (co0 : PySem.W.codeIn K cd0 "is_made_of" = true)
    (kp0 : PySem.W.keepIn K (.ref f0) = true)
    (pa1 : PySem.W.findIn K (.ref c6) "forks" = some (some (.ref pp1)))
    (pgt1 : PySem.W.specialIn K (.ref pp1) "__get__" = some (some (.builtin "property.__get__")))
    (pt1 : PySem.W.takesIn K (.ref pp1) = some true)
    (prc1 : PySem.W.recIn K pp1 "property" = some (.ref f1 :: pq1))
    (l1 : K.lookup f1 = some ⟨oc1, od1, .func (PySem.W.fnOf "forks" "Tree.forks" (defArgs s_Tree_forks) (defBody s_Tree_forks) (defScope s_Tree_forks) .none kV1 dc1 pm1 an1 cd1 ct1), sl1⟩)
    (co1 : PySem.W.codeIn K cd1 "Tree.forks" = true)
    (kp1 : PySem.W.keepIn K (.ref f1) = true)
    (at2 : PySem.W.nsIn K mainGlobals "checked_flags" = some (some (.ref f2)))
    (l2 : K.lookup f2 = some ⟨oc2, od2, .func (PySem.W.fnOf "checked_flags" "checked_flags" (defArgs s_checked_flags) (defBody s_checked_flags) (defScope s_checked_flags) .none kV2 dc2 pm2 an2 cd2 ct2), sl2⟩)
    (co2 : PySem.W.codeIn K cd2 "checked_flags" = true)
    (kp2 : PySem.W.keepIn K (.ref f2) = true)
    (at3 : PySem.W.nsIn K mainGlobals "poly_product" = some (some (.ref f3)))
    (l3 : K.lookup f3 = some ⟨oc3, od3, .func (PySem.W.fnOf "poly_product" "poly_product" (defArgs s_poly_product) (defBody s_poly_product) (defScope s_poly_product) .none kV3 dc3 pm3 an3 cd3 ct3), sl3⟩)
    (co3 : PySem.W.codeIn K cd3 "poly_product" = true)
    (kp3 : PySem.W.keepIn K (.ref f3) = true)
    (at4 : PySem.W.nsIn K mainGlobals "poly_sum" = some (some (.ref f4)))
    (l4 : K.lookup f4 = some ⟨oc4, od4, .func (PySem.W.fnOf "poly_sum" "poly_sum" (defArgs s_poly_sum) (defBody s_poly_sum) (defScope s_poly_sum) .none kV4 dc4 pm4 an4 cd4 ct4), sl4⟩)
    (co4 : PySem.W.codeIn K cd4 "poly_sum" = true)
    (kp4 : PySem.W.keepIn K (.ref f4) = true)
    (at5 : PySem.W.nsIn K mainGlobals "trail_polynomial" = some (some (.ref f5)))
    (l5 : K.lookup f5 = some ⟨oc5, od5, .func (PySem.W.fnOf "trail_polynomial" "trail_polynomial" (defArgs s_trail_polynomial) (defBody s_trail_polynomial) (defScope s_trail_polynomial) .none kV5 dc5 pm5 an5 cd5 ct5), sl5⟩)
    (co5 : PySem.W.codeIn K cd5 "trail_polynomial" = true)
    (kp5 : PySem.W.keepIn K (.ref f5) = true)
    (at6 : PySem.W.findIn K (.ref c6) "__len__" = some (some (.ref f6)))
    (fn6 : PySem.W.isFn K (.ref f6) = true)
    (l6 : K.lookup f6 = some ⟨oc6, od6, .func (PySem.W.fnOf "__len__" "Tree.__len__" (defArgs s_Tree_len) (defBody s_Tree_len) (defScope s_Tree_len) .none kV6 dc6 pm6 an6 cd6 ct6), sl6⟩)
    (co6 : PySem.W.codeIn K cd6 "Tree.__len__" = true)
    (kp6 : PySem.W.keepIn K (.ref f6) = true)
    (pa7 : PySem.W.findIn K (.ref c6) "top" = some (some (.ref pp7)))
    (pgt7 : PySem.W.specialIn K (.ref pp7) "__get__" = some (some (.builtin "property.__get__")))
    (pt7 : PySem.W.takesIn K (.ref pp7) = some true)
    (prc7 : PySem.W.recIn K pp7 "property" = some (.ref f7 :: pq7))
    (l7 : K.lookup f7 = some ⟨oc7, od7, .func (PySem.W.fnOf "top" "Tree.top" (defArgs s_Tree_top) (defBody s_Tree_top) (defScope s_Tree_top) .none kV7 dc7 pm7 an7 cd7 ct7), sl7⟩)
    (co7 : PySem.W.codeIn K cd7 "Tree.top" = true)
    (kp7 : PySem.W.keepIn K (.ref f7) = true)
    (at8 : PySem.W.nsIn K mainGlobals "spread_to" = some (some (.ref f8)))
    (l8 : K.lookup f8 = some ⟨oc8, od8, .func (PySem.W.fnOf "spread_to" "spread_to" (defArgs s_spread_to) (defBody s_spread_to) (defScope s_spread_to) .none kV8 dc8 pm8 an8 cd8 ct8), sl8⟩)
    (co8 : PySem.W.codeIn K cd8 "spread_to" = true)
    (kp8 : PySem.W.keepIn K (.ref f8) = true)
    (at9 : PySem.W.nsIn K mainGlobals "subtree_polynomial" = some (some (.ref f9)))
    (l9 : K.lookup f9 = some ⟨oc9, od9, .func (PySem.W.fnOf "subtree_polynomial" "subtree_polynomial" (defArgs s_subtree_polynomial) (defBody s_subtree_polynomial) (defScope s_subtree_polynomial) .none kV9 dc9 pm9 an9 cd9 ct9), sl9⟩)
    (co9 : PySem.W.codeIn K cd9 "subtree_polynomial" = true)
    (kp9 : PySem.W.keepIn K (.ref f9) = true)
    (at10 : PySem.W.nsIn K mainGlobals "spread_from" = some (some (.ref f10)))
    (l10 : K.lookup f10 = some ⟨oc10, od10, .func (PySem.W.fnOf "spread_from" "spread_from" (defArgs s_spread_from) (defBody s_spread_from) (defScope s_spread_from) .none kV10 dc10 pm10 an10 cd10 ct10), sl10⟩)
    (co10 : PySem.W.codeIn K cd10 "spread_from" = true)
    (kp10 : PySem.W.keepIn K (.ref f10) = true)
    (at11 : PySem.W.nsIn K mainGlobals "greatest_distance" = some (some (.ref f11)))
    (l11 : K.lookup f11 = some ⟨oc11, od11, .func (PySem.W.fnOf "greatest_distance" "greatest_distance" (defArgs s_greatest_distance) (defBody s_greatest_distance) (defScope s_greatest_distance) .none kV11 dc11 pm11 an11 cd11 ct11), sl11⟩)
    (co11 : PySem.W.codeIn K cd11 "greatest_distance" = true)
    (kp11 : PySem.W.keepIn K (.ref f11) = true)
    (at12 : PySem.W.nsIn K mainGlobals "ends_fork" = some (some (.ref f12)))
    (l12 : K.lookup f12 = some ⟨oc12, od12, .func (PySem.W.fnOf "ends_fork" "ends_fork" (defArgs s_ends_fork) (defBody s_ends_fork) (defScope s_ends_fork) .none kV12 dc12 pm12 an12 cd12 ct12), sl12⟩)
    (co12 : PySem.W.codeIn K cd12 "ends_fork" = true)
    (kp12 : PySem.W.keepIn K (.ref f12) = true)
    (at13 : PySem.W.nsIn K mainGlobals "read_forks" = some (some (.ref f13)))
    (l13 : K.lookup f13 = some ⟨oc13, od13, .func (PySem.W.fnOf "read_forks" "read_forks" (defArgs s_read_forks) (defBody s_read_forks) (defScope s_read_forks) .none kV13 dc13 pm13 an13 cd13 ct13), sl13⟩)
    (co13 : PySem.W.codeIn K cd13 "read_forks" = true)
    (kp13 : PySem.W.keepIn K (.ref f13) = true)
    (at14 : PySem.W.nsIn K mainGlobals "lay_ways" = some (some (.ref f14)))
    (l14 : K.lookup f14 = some ⟨oc14, od14, .func (PySem.W.fnOf "lay_ways" "lay_ways" (defArgs s_lay_ways) (defBody s_lay_ways) (defScope s_lay_ways) .none kV14 dc14 pm14 an14 cd14 ct14), sl14⟩)
    (co14 : PySem.W.codeIn K cd14 "lay_ways" = true)
    (kp14 : PySem.W.keepIn K (.ref f14) = true)
    (at15 : PySem.W.findIn K (.ref c6) "__init__" = some (some (.ref f15)))
    (fn15 : PySem.W.isFn K (.ref f15) = true)
    (l15 : K.lookup f15 = some ⟨oc15, od15, .func (PySem.W.fnOf "__init__" "Tree.__init__" (defArgs s_Tree_init) (defBody s_Tree_init) (defScope s_Tree_init) .none kV15 dc15 pm15 an15 cd15 ct15), sl15⟩)
    (co15 : PySem.W.codeIn K cd15 "Tree.__init__" = true)
    (kp15 : PySem.W.keepIn K (.ref f15) = true)
    (at16 : PySem.W.nsIn K mainGlobals "_law_is_integer" = some (some (.ref f16)))
    (l16 : K.lookup f16 = some ⟨oc16, od16, .func (PySem.W.fnOf "_law_is_integer" "_law_is_integer" (defArgs s_l_is_integer) (defBody s_l_is_integer) (defScope s_l_is_integer) .none kV16 dc16 pm16 an16 cd16 ct16), sl16⟩)
    (co16 : PySem.W.codeIn K cd16 "_law_is_integer" = true)
    (kp16 : PySem.W.keepIn K (.ref f16) = true)
    (at17 : PySem.W.nsIn K mainGlobals "_law_same" = some (some (.ref f17)))
    (l17 : K.lookup f17 = some ⟨oc17, od17, .func (PySem.W.fnOf "_law_same" "_law_same" (defArgs s_l_same) (defBody s_l_same) (defScope s_l_same) .none kV17 dc17 pm17 an17 cd17 ct17), sl17⟩)
    (co17 : PySem.W.codeIn K cd17 "_law_same" = true)
    (kp17 : PySem.W.keepIn K (.ref f17) = true)
    (at18 : PySem.W.nsIn K mainGlobals "_law_box" = some (some (.ref f18)))
    (l18 : K.lookup f18 = some ⟨oc18, od18, .func (PySem.W.fnOf "_law_box" "_law_box" (defArgs s_l_box) (defBody s_l_box) (defScope s_l_box) .none kV18 dc18 pm18 an18 cd18 ct18), sl18⟩)
    (co18 : PySem.W.codeIn K cd18 "_law_box" = true)
    (kp18 : PySem.W.keepIn K (.ref f18) = true)
    (at19 : PySem.W.nsIn K mainGlobals "_law_take" = some (some (.ref f19)))
    (l19 : K.lookup f19 = some ⟨oc19, od19, .func (PySem.W.fnOf "_law_take" "_law_take" (defArgs s_l_take) (defBody s_l_take) (defScope s_l_take) .none kV19 dc19 pm19 an19 cd19 ct19), sl19⟩)
    (co19 : PySem.W.codeIn K cd19 "_law_take" = true)
    (kp19 : PySem.W.keepIn K (.ref f19) = true)
    (at20 : PySem.W.nsIn K mainGlobals "_law_join" = some (some (.ref f20)))
    (l20 : K.lookup f20 = some ⟨oc20, od20, .func (PySem.W.fnOf "_law_join" "_law_join" (defArgs s_l_join) (defBody s_l_join) (defScope s_l_join) .none kV20 dc20 pm20 an20 cd20 ct20), sl20⟩)
    (co20 : PySem.W.codeIn K cd20 "_law_join" = true)
    (kp20 : PySem.W.keepIn K (.ref f20) = true)
    (at21 : PySem.W.nsIn K mainGlobals "_law_tree" = some (some (.ref f21)))
    (l21 : K.lookup f21 = some ⟨oc21, od21, .func (PySem.W.fnOf "_law_tree" "_law_tree" (defArgs s_l_tree) (defBody s_l_tree) (defScope s_l_tree) .none kV21 dc21 pm21 an21 cd21 ct21), sl21⟩)
    (co21 : PySem.W.codeIn K cd21 "_law_tree" = true)
    (kp21 : PySem.W.keepIn K (.ref f21) = true)
    (at22 : PySem.W.nsIn K mainGlobals "_law_flags" = some (some (.ref f22)))
    (l22 : K.lookup f22 = some ⟨oc22, od22, .func (PySem.W.fnOf "_law_flags" "_law_flags" (defArgs s_l_flags) (defBody s_l_flags) (defScope s_l_flags) .none kV22 dc22 pm22 an22 cd22 ct22), sl22⟩)
    (co22 : PySem.W.codeIn K cd22 "_law_flags" = true)
    (kp22 : PySem.W.keepIn K (.ref f22) = true)
    (at23 : PySem.W.nsIn K mainGlobals "_law_slots" = some (some (.ref f23)))
    (l23 : K.lookup f23 = some ⟨oc23, od23, .func (PySem.W.fnOf "_law_slots" "_law_slots" (defArgs s_l_slots) (defBody s_l_slots) (defScope s_l_slots) .none kV23 dc23 pm23 an23 cd23 ct23), sl23⟩)
    (co23 : PySem.W.codeIn K cd23 "_law_slots" = true)
    (kp23 : PySem.W.keepIn K (.ref f23) = true)
    (at24 : PySem.W.nsIn K mainGlobals "_law_bent" = some (some (.ref f24)))
    (l24 : K.lookup f24 = some ⟨oc24, od24, .func (PySem.W.fnOf "_law_bent" "_law_bent" (defArgs s_l_bent) (defBody s_l_bent) (defScope s_l_bent) .none kV24 dc24 pm24 an24 cd24 ct24), sl24⟩)
    (co24 : PySem.W.codeIn K cd24 "_law_bent" = true)
    (kp24 : PySem.W.keepIn K (.ref f24) = true)
    (at25 : PySem.W.nsIn K mainGlobals "_law_hit" = some (some (.ref f25)))
    (l25 : K.lookup f25 = some ⟨oc25, od25, .func (PySem.W.fnOf "_law_hit" "_law_hit" (defArgs s_l_hit) (defBody s_l_hit) (defScope s_l_hit) .none kV25 dc25 pm25 an25 cd25 ct25), sl25⟩)
    (co25 : PySem.W.codeIn K cd25 "_law_hit" = true)
    (kp25 : PySem.W.keepIn K (.ref f25) = true)
    (at26 : PySem.W.nsIn K mainGlobals "_law_times" = some (some (.ref f26)))
    (l26 : K.lookup f26 = some ⟨oc26, od26, .func (PySem.W.fnOf "_law_times" "_law_times" (defArgs s_l_times) (defBody s_l_times) (defScope s_l_times) .none kV26 dc26 pm26 an26 cd26 ct26), sl26⟩)
    (co26 : PySem.W.codeIn K cd26 "_law_times" = true)
    (kp26 : PySem.W.keepIn K (.ref f26) = true)
    (at27 : PySem.W.nsIn K mainGlobals "_law_plus" = some (some (.ref f27)))
    (l27 : K.lookup f27 = some ⟨oc27, od27, .func (PySem.W.fnOf "_law_plus" "_law_plus" (defArgs s_l_plus) (defBody s_l_plus) (defScope s_l_plus) .none kV27 dc27 pm27 an27 cd27 ct27), sl27⟩)
    (co27 : PySem.W.codeIn K cd27 "_law_plus" = true)
    (kp27 : PySem.W.keepIn K (.ref f27) = true)
    (at28 : PySem.W.nsIn K mainGlobals "_law_shut" = some (some (.ref f28)))
    (l28 : K.lookup f28 = some ⟨oc28, od28, .func (PySem.W.fnOf "_law_shut" "_law_shut" (defArgs s_l_shut) (defBody s_l_shut) (defScope s_l_shut) .none kV28 dc28 pm28 an28 cd28 ct28), sl28⟩)
    (co28 : PySem.W.codeIn K cd28 "_law_shut" = true)
    (kp28 : PySem.W.keepIn K (.ref f28) = true)
    (at29 : PySem.W.nsIn K mainGlobals "_law_spreads" = some (some (.ref f29)))
    (l29 : K.lookup f29 = some ⟨oc29, od29, .func (PySem.W.fnOf "_law_spreads" "_law_spreads" (defArgs s_l_spreads) (defBody s_l_spreads) (defScope s_l_spreads) .none kV29 dc29 pm29 an29 cd29 ct29), sl29⟩)
    (co29 : PySem.W.codeIn K cd29 "_law_spreads" = true)
    (kp29 : PySem.W.keepIn K (.ref f29) = true)
    (at30 : PySem.W.nsIn K mainGlobals "_law_each" = some (some (.ref f30)))
    (l30 : K.lookup f30 = some ⟨oc30, od30, .func (PySem.W.fnOf "_law_each" "_law_each" (defArgs s_l_each) (defBody s_l_each) (defScope s_l_each) .none kV30 dc30 pm30 an30 cd30 ct30), sl30⟩)
    (co30 : PySem.W.codeIn K cd30 "_law_each" = true)
    (kp30 : PySem.W.keepIn K (.ref f30) = true)
    (at31 : PySem.W.nsIn K mainGlobals "_law_levels" = some (some (.ref f31)))
    (l31 : K.lookup f31 = some ⟨oc31, od31, .func (PySem.W.fnOf "_law_levels" "_law_levels" (defArgs s_l_levels) (defBody s_l_levels) (defScope s_l_levels) .none kV31 dc31 pm31 an31 cd31 ct31), sl31⟩)
    (co31 : PySem.W.codeIn K cd31 "_law_levels" = true)
    (kp31 : PySem.W.keepIn K (.ref f31) = true)
    (at32 : PySem.W.nsIn K mainGlobals "_law_searched" = some (some (.ref f32)))
    (l32 : K.lookup f32 = some ⟨oc32, od32, .func (PySem.W.fnOf "_law_searched" "_law_searched" (defArgs s_l_searched) (defBody s_l_searched) (defScope s_l_searched) .none kV32 dc32 pm32 an32 cd32 ct32), sl32⟩)
    (co32 : PySem.W.codeIn K cd32 "_law_searched" = true)
    (kp32 : PySem.W.keepIn K (.ref f32) = true)
    (at33 : PySem.W.nsIn K mainGlobals "_law_answers" = some (some (.ref f33)))
    (l33 : K.lookup f33 = some ⟨oc33, od33, .func (PySem.W.fnOf "_law_answers" "_law_answers" (defArgs s_l_answers) (defBody s_l_answers) (defScope s_l_answers) .none kV33 dc33 pm33 an33 cd33 ct33), sl33⟩)
    (co33 : PySem.W.codeIn K cd33 "_law_answers" = true)
    (kp33 : PySem.W.keepIn K (.ref f33) = true)
    (at34 : PySem.W.nsIn K mainGlobals "_law_fault" = some (some (.ref f34)))
    (l34 : K.lookup f34 = some ⟨oc34, od34, .func (PySem.W.fnOf "_law_fault" "_law_fault" (defArgs s_l_fault) (defBody s_l_fault) (defScope s_l_fault) .none kV34 dc34 pm34 an34 cd34 ct34), sl34⟩)
    (co34 : PySem.W.codeIn K cd34 "_law_fault" = true)
    (kp34 : PySem.W.keepIn K (.ref f34) = true)
    (at35 : PySem.W.nsIn K mainGlobals "law" = some (some (.ref f35)))
    (l35 : K.lookup f35 = some ⟨oc35, od35, .func (PySem.W.fnOf "law" "law" (defArgs s_law) (defBody s_law) (defScope s_law) .none kV35 dc35 pm35 an35 cd35 ct35), sl35⟩)
    (co35 : PySem.W.codeIn K cd35 "law" = true)
    (kp35 : PySem.W.keepIn K (.ref f35) = true)
    (x_c2 : K.lookup c2 = some (excClassObj nm_c2 qn_c2 c2 N_c2 bs_c2 bm_c2 true sn_c2 sub_c2 ab_c2 col_c2 dd_c2 k0_c2 k1_c2 k2_c2 k3_c2 k5_c2 "ValueError.__new__"))
    (rv_c2 : PySem.HandSPX.refsVE bm_c2 = true)
    (sa_c2 : PySem.W.findIn K (.ref c2) "__setattr__" = some (some (.builtin "object.__setattr__")))
    (ex_c2 : PySem.W.subIn K (.ref c2) (.type "BaseException") = some true)
    (ty_c2 : PySem.W.typeIn K (.ref c2) = some (.type "type"))
    (kc_c2 : PySem.W.keepIn K (.ref c2) = true)
    (ga_c2 : PySem.W.findIn K (.ref c2) "__getattribute__" = some (some (.builtin "BaseException.__getattribute__")))
    (gg_c2 : PySem.W.findIn K (.ref c2) "__getattr__" = some none)
    (hd_c2 : PySem.W.hasDictIn K c2 = true)
    (ha_c2 : PySem.W.findIn K (.ref c2) "__class__" = some (some (.builtin "object.__class__")))
    (hn_c2 : PySem.W.specialIn K (.builtin "object.__class__") "__get__" = some (some (.builtin "getset_descriptor.__get__")))
    (ht_c2 : PySem.W.takesIn K (.builtin "object.__class__") = some true)
    (hm_c2 : PySem.W.mroIn K c2 (.type "object") = some true)
    (no_c2 : PySem.W.findIn K (.ref c2) "flags" = some none)
    (fi_c2 : PySem.W.findIn K (.ref c2) "__init__" = some (some (.ref fic2)))
    (ft_c2 : PySem.W.typeIn K (.ref fic2) = some (.type "function"))
    (fl_c2 : K.lookup fic2 = some ⟨occ2, odc2, .func (PySem.W.fnOf "__init__" "InvalidFlags.__init__" (defArgs s_InvalidFlags_init) (defBody s_InvalidFlags_init) (defScope s_InvalidFlags_init) .none kVc2 dcc2 pmc2 anc2 cdc2 ctc2), slc2⟩)
    (fc_c2 : PySem.W.codeIn K cdc2 "InvalidFlags.__init__" = true)
    (fk_c2 : PySem.W.keepIn K (.ref fic2) = true)
    (x_c1 : K.lookup c1 = some (excClassObj nm_c1 qn_c1 c1 N_c1 bs_c1 bm_c1 true sn_c1 sub_c1 ab_c1 col_c1 dd_c1 k0_c1 k1_c1 k2_c1 k3_c1 k5_c1 "ValueError.__new__"))
    (rv_c1 : PySem.HandSPX.refsVE bm_c1 = true)
    (sa_c1 : PySem.W.findIn K (.ref c1) "__setattr__" = some (some (.builtin "object.__setattr__")))
    (ex_c1 : PySem.W.subIn K (.ref c1) (.type "BaseException") = some true)
    (ty_c1 : PySem.W.typeIn K (.ref c1) = some (.type "type"))
    (kc_c1 : PySem.W.keepIn K (.ref c1) = true)
    (ga_c1 : PySem.W.findIn K (.ref c1) "__getattribute__" = some (some (.builtin "BaseException.__getattribute__")))
    (gg_c1 : PySem.W.findIn K (.ref c1) "__getattr__" = some none)
    (hd_c1 : PySem.W.hasDictIn K c1 = true)
    (ha_c1 : PySem.W.findIn K (.ref c1) "__class__" = some (some (.builtin "object.__class__")))
    (hn_c1 : PySem.W.specialIn K (.builtin "object.__class__") "__get__" = some (some (.builtin "getset_descriptor.__get__")))
    (ht_c1 : PySem.W.takesIn K (.builtin "object.__class__") = some true)
    (hm_c1 : PySem.W.mroIn K c1 (.type "object") = some true)
    (no_c1 : PySem.W.findIn K (.ref c1) "text" = some none)
    (fi_c1 : PySem.W.findIn K (.ref c1) "__init__" = some (some (.ref fic1)))
    (ft_c1 : PySem.W.typeIn K (.ref fic1) = some (.type "function"))
    (fl_c1 : K.lookup fic1 = some ⟨occ1, odc1, .func (PySem.W.fnOf "__init__" "InvalidTree.__init__" (defArgs s_InvalidTree_init) (defBody s_InvalidTree_init) (defScope s_InvalidTree_init) .none kVc1 dcc1 pmc1 anc1 cdc1 ctc1), slc1⟩)
    (fc_c1 : PySem.W.codeIn K cdc1 "InvalidTree.__init__" = true)
    (fk_c1 : PySem.W.keepIn K (.ref fic1) = true)
    (wat_c6 : PySem.W.findIn K (.ref c6) "walk" = some (some (.ref fwc6)))
    (wfn_c6 : PySem.W.isFn K (.ref fwc6) = true)
    (wlk_c6 : K.lookup fwc6 = some ⟨ocwc6, odwc6, .func (PySem.W.fnOf "walk" "Tree.walk" (defArgs s_Tree_walk) (defBody s_Tree_walk) (defScope s_Tree_walk) .none kVwc6 dcwc6 pmwc6 anwc6 cdwc6 ctwc6), slwc6⟩)
    (wco_c6 : PySem.W.codeIn K cdwc6 "Tree.walk" = true)
    (wkp_c6 : PySem.W.keepIn K (.ref fwc6) = true)
    (kff : PySem.W.exmOne K (.ref c2) (.ref c2) = some true)
    (kfs : PySem.W.kitOne K (.ref c2) (.ref c3) = some false)
    (kfc : PySem.W.kitOne K (.ref c2) (.ref c0) = some true)
    (kfv : PySem.W.kitOne K (.ref c2) (.type "ValueError") = some true)
    : ∃ fd : FuncData, (∀ (s : Shared) (v : Value), BindsTo s fd ⟨[v], []⟩ [("_law_script", v)]) ∧ ∀ base : Heap, K.In base → base.Ns mainGlobals mg → FnG l.prog w K mg base l_law fa fd ["_law_script"] (p_law K (Ads.mk c0 c1 c2 c3 c4 c5 c6)) := by
  have e := hfa.symm.trans (PySem.W.mg_of X G at35)
  cases e
  refine ⟨PySem.W.fnOf "law" "law" (defArgs s_law) (defBody s_law) (defScope s_law) .none kV35 dc35 pm35 an35 cd35 ct35, fun s v => .of_eq rfl, fun base _ _ => ?_⟩
  have Oc2 : OexC K c2 := ⟨⟨_, _, _, _, _, _, _, _, _, _, _, _, _, _, _, x_c2, rv_c2⟩, sa_c2, ex_c2, ty_c2, kc_c2⟩
  have Ic2 := fun_mk (st := s_InvalidFlags_init) fl_c2 fc_c2 fk_c2
  have e_InvalidFlags : ErrC l.prog w K mg base "InvalidFlags" "flags" c2 := ⟨Oc2, ⟨ga_c2, gg_c2, ex_c2, hd_c2⟩, ⟨ga_c2, gg_c2, ex_c2, hd_c2, ha_c2, hn_c2, ht_c2, hm_c2⟩, no_c2, PySem.W.mg_of X G ac2, _, _, fi_c2, ft_c2, ini_InvalidFlags Oc2 no_c2 Ic2, Ic2.binds (ps := ["self", "flags"]) fun _ _ _ _ _ _ us hl => match us, hl with | [_, _], _ => rfl⟩
  have Oc1 : OexC K c1 := ⟨⟨_, _, _, _, _, _, _, _, _, _, _, _, _, _, _, x_c1, rv_c1⟩, sa_c1, ex_c1, ty_c1, kc_c1⟩
  have Ic1 := fun_mk (st := s_InvalidTree_init) fl_c1 fc_c1 fk_c1
  have e_InvalidTree : ErrC l.prog w K mg base "InvalidTree" "text" c1 := ⟨Oc1, ⟨ga_c1, gg_c1, ex_c1, hd_c1⟩, ⟨ga_c1, gg_c1, ex_c1, hd_c1, ha_c1, hn_c1, ht_c1, hm_c1⟩, no_c1, PySem.W.mg_of X G ac1, _, _, fi_c1, ft_c1, ini_InvalidTree Oc1 no_c1 Ic1, Ic1.binds (ps := ["self", "text"]) fun _ _ _ _ _ _ us hl => match us, hl with | [_, _], _ => rfl⟩
  have G0 : Env l.prog w K mg base (Ads.mk c0 c1 c2 c3 c4 c5 c6) := ⟨PySem.W.mg_none_of X G z_ValueError, PySem.W.mg_none_of X G z_all, PySem.W.mg_none_of X G z_bool, PySem.W.mg_none_of X G z_enumerate, PySem.W.mg_none_of X G z_int, PySem.W.mg_none_of X G z_isinstance, PySem.W.mg_none_of X G z_len, PySem.W.mg_none_of X G z_list, PySem.W.mg_none_of X G z_max, PySem.W.mg_none_of X G z_range, PySem.W.mg_none_of X G z_repr, PySem.W.mg_none_of X G z_sorted, PySem.W.mg_none_of X G z_str, PySem.W.mg_none_of X G z_sum, PySem.W.mg_none_of X G z_tuple, PySem.W.mg_of X G ac0, PySem.W.mg_of X G ac2, PySem.W.mg_of X G ac3, PySem.W.mg_of X G ac1, ⟨opg_c6, ohd_c6, opo_c6, osa_c6⟩, ona_c6_bounds, ona_c6_lefts, ona_c6_postorder, ona_c6_preorder, ona_c6_rights, ona_c6_root, ona_c6_spans, ona_c6_text, ona_c6_ways, ⟨fwc6, "walk", "Tree.walk", defArgs s_Tree_walk, _, _, _, _, _, _, _, _, _, _, defScope s_Tree_walk, _, _, _, _, _, _, _, _, _, _, ⟨wat_c6, wfn_c6, wkp_c6⟩, wlk_c6, wco_c6, ⟨rfl, rfl, rfl, rfl, rfl⟩, fun _ _ _ _ _ => .of_eq rfl⟩, ⟨_, oco_c6_MOST, ⟨_, rfl⟩, ocg_c6_MOST, by decide +kernel⟩, e_InvalidFlags, e_InvalidTree⟩
  have T : Kit K (Ads.mk c0 c1 c2 c3 c4 c5 c6) := ⟨e_InvalidFlags.isc, kff, kfs, kfc, kfv⟩
  have F0 := fun_mk (st := s_is_made_of) l0 co0 kp0
  have O0 : FnOk l.prog w K mg base (L2.CX l.prog w) l_is_made_of f0 _ ["value", "signs"] (p_is_made_of K (Ads.mk c0 c1 c2 c3 c4 c5 c6)) := ok_is_made_of G0  F0
  have T_is_made_of : DefC l.prog w K mg base "is_made_of" ["value", "signs"] l_is_made_of [] (p_is_made_of K (Ads.mk c0 c1 c2 c3 c4 c5 c6)) := ⟨_, _, [], PySem.W.mg_of X G at0, kp0, O0, .nil, F0.binds (ps := ["value", "signs"]) fun _ _ _ _ _ _ us hl => match us, hl with | [_, _], _ => rfl⟩
  have F1 := fun_mk (st := s_Tree_forks) l1 co1 kp1
  have O1 : FnOk l.prog w K mg base (L2.CX l.prog w) l_Tree_forks f1 _ ["self"] (p_Tree_forks K (Ads.mk c0 c1 c2 c3 c4 c5 c6)) := ok_Tree_forks G0  F1
  have T_Tree_forks : ProC l.prog w K mg base c6 "forks" l_Tree_forks (p_Tree_forks K (Ads.mk c0 c1 c2 c3 c4 c5 c6)) := ⟨_, _, _, ⟨pa1, pgt1, pt1, _, prc1⟩, O1, F1.binds (ps := ["self"]) fun _ _ _ _ _ _ us hl => match us, hl with | [_], _ => rfl⟩
  have F2 := fun_mk (st := s_checked_flags) l2 co2 kp2
  have O2 : FnOk l.prog w K mg base (L2.CX l.prog w) l_checked_flags f2 _ ["tree", "flags"] (p_checked_flags K (Ads.mk c0 c1 c2 c3 c4 c5 c6)) := ok_checked_flags G0 T_is_made_of T_Tree_forks F2
  have T_checked_flags : DefC l.prog w K mg base "checked_flags" ["tree", "flags"] l_checked_flags [] (p_checked_flags K (Ads.mk c0 c1 c2 c3 c4 c5 c6)) := ⟨_, _, [], PySem.W.mg_of X G at2, kp2, O2, .nil, F2.binds (ps := ["tree", "flags"]) fun _ _ _ _ _ _ us hl => match us, hl with | [_, _], _ => rfl⟩
  have F3 := fun_mk (st := s_poly_product) l3 co3 kp3
  have O3 : FnOk l.prog w K mg base (L2.CX l.prog w) l_poly_product f3 _ ["first", "second"] (p_poly_product K (Ads.mk c0 c1 c2 c3 c4 c5 c6)) := ok_poly_product G0  F3
  have T_poly_product : DefC l.prog w K mg base "poly_product" ["first", "second"] l_poly_product [] (p_poly_product K (Ads.mk c0 c1 c2 c3 c4 c5 c6)) := ⟨_, _, [], PySem.W.mg_of X G at3, kp3, O3, .nil, F3.binds (ps := ["first", "second"]) fun _ _ _ _ _ _ us hl => match us, hl with | [_, _], _ => rfl⟩
  have F4 := fun_mk (st := s_poly_sum) l4 co4 kp4
  have O4 : FnOk l.prog w K mg base (L2.CX l.prog w) l_poly_sum f4 _ ["first", "second"] (p_poly_sum K (Ads.mk c0 c1 c2 c3 c4 c5 c6)) := ok_poly_sum G0  F4
  have T_poly_sum : DefC l.prog w K mg base "poly_sum" ["first", "second"] l_poly_sum [] (p_poly_sum K (Ads.mk c0 c1 c2 c3 c4 c5 c6)) := ⟨_, _, [], PySem.W.mg_of X G at4, kp4, O4, .nil, F4.binds (ps := ["first", "second"]) fun _ _ _ _ _ _ us hl => match us, hl with | [_, _], _ => rfl⟩
  have F5 := fun_mk (st := s_trail_polynomial) l5 co5 kp5
  have O5 : FnOk l.prog w K mg base (L2.CX l.prog w) l_trail_polynomial f5 _ ["forks", "hanging"] (p_trail_polynomial K (Ads.mk c0 c1 c2 c3 c4 c5 c6)) := ok_trail_polynomial G0  F5
  have T_trail_polynomial : DefC l.prog w K mg base "trail_polynomial" ["forks", "hanging"] l_trail_polynomial [] (p_trail_polynomial K (Ads.mk c0 c1 c2 c3 c4 c5 c6)) := ⟨_, _, [], PySem.W.mg_of X G at5, kp5, O5, .nil, F5.binds (ps := ["forks", "hanging"]) fun _ _ _ _ _ _ us hl => match us, hl with | [_, _], _ => rfl⟩
  have F6 := fun_mk (st := s_Tree_len) l6 co6 kp6
  have O6 : FnOk l.prog w K mg base (L2.CX l.prog w) l_Tree_len f6 _ ["self"] (p_Tree_len K (Ads.mk c0 c1 c2 c3 c4 c5 c6)) := ok_Tree_len G0  F6
  have T_Tree_len : MetC l.prog w K mg base c6 "__len__" ["self"] l_Tree_len (p_Tree_len K (Ads.mk c0 c1 c2 c3 c4 c5 c6)) := ⟨_, _, ⟨at6, fn6, kp6⟩, O6, F6.binds (ps := ["self"]) fun _ _ _ _ _ _ us hl => match us, hl with | [_], _ => rfl⟩
  have F7 := fun_mk (st := s_Tree_top) l7 co7 kp7
  have O7 : FnOk l.prog w K mg base (L2.CX l.prog w) l_Tree_top f7 _ ["self"] (p_Tree_top K (Ads.mk c0 c1 c2 c3 c4 c5 c6)) := ok_Tree_top G0  F7
  have T_Tree_top : ProC l.prog w K mg base c6 "top" l_Tree_top (p_Tree_top K (Ads.mk c0 c1 c2 c3 c4 c5 c6)) := ⟨_, _, _, ⟨pa7, pgt7, pt7, _, prc7⟩, O7, F7.binds (ps := ["self"]) fun _ _ _ _ _ _ us hl => match us, hl with | [_], _ => rfl⟩
  have F8 := fun_mk (st := s_spread_to) l8 co8 kp8
  have O8 : FnOk l.prog w K mg base (L2.CX l.prog w) l_spread_to f8 _ ["tree", "flags"] (p_spread_to K (Ads.mk c0 c1 c2 c3 c4 c5 c6)) := ok_spread_to G0 T_checked_flags T_poly_product T_trail_polynomial T_Tree_len T_Tree_top F8
  have T_spread_to : DefC l.prog w K mg base "spread_to" ["tree", "flags"] l_spread_to [] (p_spread_to K (Ads.mk c0 c1 c2 c3 c4 c5 c6)) := ⟨_, _, [], PySem.W.mg_of X G at8, kp8, O8, .nil, F8.binds (ps := ["tree", "flags"]) fun _ _ _ _ _ _ us hl => match us, hl with | [_, _], _ => rfl⟩
  have F9 := fun_mk (st := s_subtree_polynomial) l9 co9 kp9
  have O9 : FnOk l.prog w K mg base (L2.CX l.prog w) l_subtree_polynomial f9 _ ["below"] (p_subtree_polynomial K (Ads.mk c0 c1 c2 c3 c4 c5 c6)) := ok_subtree_polynomial G0  F9
  have T_subtree_polynomial : DefC l.prog w K mg base "subtree_polynomial" ["below"] l_subtree_polynomial [] (p_subtree_polynomial K (Ads.mk c0 c1 c2 c3 c4 c5 c6)) := ⟨_, _, [], PySem.W.mg_of X G at9, kp9, O9, .nil, F9.binds (ps := ["below"]) fun _ _ _ _ _ _ us hl => match us, hl with | [_], _ => rfl⟩
  have F10 := fun_mk (st := s_spread_from) l10 co10 kp10
  have O10 : FnOk l.prog w K mg base (L2.CX l.prog w) l_spread_from f10 _ ["tree", "flags"] (p_spread_from K (Ads.mk c0 c1 c2 c3 c4 c5 c6)) := ok_spread_from G0 T_checked_flags T_poly_product T_poly_sum T_subtree_polynomial T_Tree_len T_Tree_top F10
  have T_spread_from : DefC l.prog w K mg base "spread_from" ["tree", "flags"] l_spread_from [] (p_spread_from K (Ads.mk c0 c1 c2 c3 c4 c5 c6)) := ⟨_, _, [], PySem.W.mg_of X G at10, kp10, O10, .nil, F10.binds (ps := ["tree", "flags"]) fun _ _ _ _ _ _ us hl => match us, hl with | [_, _], _ => rfl⟩
  have F11 := fun_mk (st := s_greatest_distance) l11 co11 kp11
  have O11 : FnOk l.prog w K mg base (L2.CX l.prog w) l_greatest_distance f11 _ ["tree"] (p_greatest_distance K (Ads.mk c0 c1 c2 c3 c4 c5 c6)) := ok_greatest_distance G0 T_Tree_forks F11
  have T_greatest_distance : DefC l.prog w K mg base "greatest_distance" ["tree"] l_greatest_distance [] (p_greatest_distance K (Ads.mk c0 c1 c2 c3 c4 c5 c6)) := ⟨_, _, [], PySem.W.mg_of X G at11, kp11, O11, .nil, F11.binds (ps := ["tree"]) fun _ _ _ _ _ _ us hl => match us, hl with | [_], _ => rfl⟩
  have F12 := fun_mk (st := s_ends_fork) l12 co12 kp12
  have O12 : FnOk l.prog w K mg base (L2.CX l.prog w) l_ends_fork f12 _ ["stack"] (p_ends_fork K (Ads.mk c0 c1 c2 c3 c4 c5 c6)) := ok_ends_fork G0  F12
  have T_ends_fork : DefC l.prog w K mg base "ends_fork" ["stack"] l_ends_fork [] (p_ends_fork K (Ads.mk c0 c1 c2 c3 c4 c5 c6)) := ⟨_, _, [], PySem.W.mg_of X G at12, kp12, O12, .nil, F12.binds (ps := ["stack"]) fun _ _ _ _ _ _ us hl => match us, hl with | [_], _ => rfl⟩
  have F13 := fun_mk (st := s_read_forks) l13 co13 kp13
  have O13 : FnOk l.prog w K mg base (L2.CX l.prog w) l_read_forks f13 _ ["text"] (p_read_forks K (Ads.mk c0 c1 c2 c3 c4 c5 c6)) := ok_read_forks G0 T_ends_fork F13
  have T_read_forks : DefC l.prog w K mg base "read_forks" ["text"] l_read_forks [] (p_read_forks K (Ads.mk c0 c1 c2 c3 c4 c5 c6)) := ⟨_, _, [], PySem.W.mg_of X G at13, kp13, O13, .nil, F13.binds (ps := ["text"]) fun _ _ _ _ _ _ us hl => match us, hl with | [_], _ => rfl⟩
  have F14 := fun_mk (st := s_lay_ways) l14 co14 kp14
  have O14 : FnOk l.prog w K mg base (L2.CX l.prog w) l_lay_ways f14 _ ["root", "lefts", "rights"] (p_lay_ways K (Ads.mk c0 c1 c2 c3 c4 c5 c6)) := ok_lay_ways G0  F14
  have T_lay_ways : DefC l.prog w K mg base "lay_ways" ["root", "lefts", "rights"] l_lay_ways [] (p_lay_ways K (Ads.mk c0 c1 c2 c3 c4 c5 c6)) := ⟨_, _, [], PySem.W.mg_of X G at14, kp14, O14, .nil, F14.binds (ps := ["root", "lefts", "rights"]) fun _ _ _ _ _ _ us hl => match us, hl with | [_, _, _], _ => rfl⟩
  have F15 := fun_mk (st := s_Tree_init) l15 co15 kp15
  have O15 : FnOk l.prog w K mg base (L2.CX l.prog w) l_Tree_init f15 _ ["self", "text"] (p_Tree_init K (Ads.mk c0 c1 c2 c3 c4 c5 c6)) := ok_Tree_init G0 T_lay_ways T_read_forks F15
  have T_Tree_init : MakC l.prog w K mg base "Tree" c6 ["self", "text"] l_Tree_init (p_Tree_init K (Ads.mk c0 c1 c2 c3 c4 c5 c6)) := ⟨_, _, PySem.W.mg_of X G ac6, ⟨omk_c6, at15, fn15, okc_c6⟩, O15, F15.binds (ps := ["self", "text"]) fun _ _ _ _ _ _ us hl => match us, hl with | [_, _], _ => rfl⟩
  have F16 := fun_mk (st := s_l_is_integer) l16 co16 kp16
  have O16 : FnOk l.prog w K mg base (L2.CX l.prog w) l_l_is_integer f16 _ ["_law_told"] (p_l_is_integer K (Ads.mk c0 c1 c2 c3 c4 c5 c6)) := ok_l_is_integer G0  F16
  have T_l_is_integer : DefC l.prog w K mg base "_law_is_integer" ["_law_told"] l_l_is_integer [] (p_l_is_integer K (Ads.mk c0 c1 c2 c3 c4 c5 c6)) := ⟨_, _, [], PySem.W.mg_of X G at16, kp16, O16, .nil, F16.binds (ps := ["_law_told"]) fun _ _ _ _ _ _ us hl => match us, hl with | [_], _ => rfl⟩
  have F17 := fun_mk (st := s_l_same) l17 co17 kp17
  have O17 : FnOk l.prog w K mg base (L2.CX l.prog w) l_l_same f17 _ ["_law_told", "_law_due"] (p_l_same K (Ads.mk c0 c1 c2 c3 c4 c5 c6)) := ok_l_same G0 T_l_is_integer F17
  have T_l_same : DefC l.prog w K mg base "_law_same" ["_law_told", "_law_due"] l_l_same [] (p_l_same K (Ads.mk c0 c1 c2 c3 c4 c5 c6)) := ⟨_, _, [], PySem.W.mg_of X G at17, kp17, O17, .nil, F17.binds (ps := ["_law_told", "_law_due"]) fun _ _ _ _ _ _ us hl => match us, hl with | [_, _], _ => rfl⟩
  have F18 := fun_mk (st := s_l_box) l18 co18 kp18
  have O18 : FnOk l.prog w K mg base (L2.CX l.prog w) l_l_box f18 _ ["_law_script"] (p_l_box K (Ads.mk c0 c1 c2 c3 c4 c5 c6)) := ok_l_box G0  F18
  have T_l_box : DefC l.prog w K mg base "_law_box" ["_law_script"] l_l_box [] (p_l_box K (Ads.mk c0 c1 c2 c3 c4 c5 c6)) := ⟨_, _, [], PySem.W.mg_of X G at18, kp18, O18, .nil, F18.binds (ps := ["_law_script"]) fun _ _ _ _ _ _ us hl => match us, hl with | [_], _ => rfl⟩
  have F19 := fun_mk (st := s_l_take) l19 co19 kp19
  have O19 : FnOk l.prog w K mg base (L2.CX l.prog w) l_l_take f19 _ ["_law_box_here", "_law_size"] (p_l_take K (Ads.mk c0 c1 c2 c3 c4 c5 c6)) := ok_l_take G0  F19
  have T_l_take : DefC l.prog w K mg base "_law_take" ["_law_box_here", "_law_size"] l_l_take [] (p_l_take K (Ads.mk c0 c1 c2 c3 c4 c5 c6)) := ⟨_, _, [], PySem.W.mg_of X G at19, kp19, O19, .nil, F19.binds (ps := ["_law_box_here", "_law_size"]) fun _ _ _ _ _ _ us hl => match us, hl with | [_, _], _ => rfl⟩
  have F20 := fun_mk (st := s_l_join) l20 co20 kp20
  have O20 : FnOk l.prog w K mg base (L2.CX l.prog w) l_l_join f20 _ ["_law_box_here", "_law_lean", "_law_room"] (p_l_join K (Ads.mk c0 c1 c2 c3 c4 c5 c6)) := ok_l_join G0 T_l_take F20
  have T_l_join : DefC l.prog w K mg base "_law_join" ["_law_box_here", "_law_lean", "_law_room"] l_l_join [] (p_l_join K (Ads.mk c0 c1 c2 c3 c4 c5 c6)) := ⟨_, _, [], PySem.W.mg_of X G at20, kp20, O20, .nil, F20.binds (ps := ["_law_box_here", "_law_lean", "_law_room"]) fun _ _ _ _ _ _ us hl => match us, hl with | [_, _, _], _ => rfl⟩
  have F21 := fun_mk (st := s_l_tree) l21 co21 kp21
  have O21 : FnOk l.prog w K mg base (L2.CX l.prog w) l_l_tree f21 _ ["_law_box_here", "_law_slots_here"] (p_l_tree K (Ads.mk c0 c1 c2 c3 c4 c5 c6)) := ok_l_tree G0 T_l_join T_l_take F21
  have T_l_tree : DefC l.prog w K mg base "_law_tree" ["_law_box_here", "_law_slots_here"] l_l_tree [] (p_l_tree K (Ads.mk c0 c1 c2 c3 c4 c5 c6)) := ⟨_, _, [], PySem.W.mg_of X G at21, kp21, O21, .nil, F21.binds (ps := ["_law_box_here", "_law_slots_here"]) fun _ _ _ _ _ _ us hl => match us, hl with | [_, _], _ => rfl⟩
  have F22 := fun_mk (st := s_l_flags) l22 co22 kp22
  have O22 : FnOk l.prog w K mg base (L2.CX l.prog w) l_l_flags f22 _ ["_law_box_here", "_law_many"] (p_l_flags K (Ads.mk c0 c1 c2 c3 c4 c5 c6)) := ok_l_flags G0 T_l_take F22
  have T_l_flags : DefC l.prog w K mg base "_law_flags" ["_law_box_here", "_law_many"] l_l_flags [] (p_l_flags K (Ads.mk c0 c1 c2 c3 c4 c5 c6)) := ⟨_, _, [], PySem.W.mg_of X G at22, kp22, O22, .nil, F22.binds (ps := ["_law_box_here", "_law_many"]) fun _ _ _ _ _ _ us hl => match us, hl with | [_, _], _ => rfl⟩
  have F23 := fun_mk (st := s_l_slots) l23 co23 kp23
  have O23 : FnOk l.prog w K mg base (L2.CX l.prog w) l_l_slots f23 _ ["_law_box_here"] (p_l_slots K (Ads.mk c0 c1 c2 c3 c4 c5 c6)) := ok_l_slots G0 T_l_take F23
  have T_l_slots : DefC l.prog w K mg base "_law_slots" ["_law_box_here"] l_l_slots [] (p_l_slots K (Ads.mk c0 c1 c2 c3 c4 c5 c6)) := ⟨_, _, [], PySem.W.mg_of X G at23, kp23, O23, .nil, F23.binds (ps := ["_law_box_here"]) fun _ _ _ _ _ _ us hl => match us, hl with | [_], _ => rfl⟩
  have F24 := fun_mk (st := s_l_bent) l24 co24 kp24
  have O24 : FnOk l.prog w K mg base (L2.CX l.prog w) l_l_bent f24 _ ["_law_box_here", "_law_flags_here", "_law_odd"] (p_l_bent K (Ads.mk c0 c1 c2 c3 c4 c5 c6)) := ok_l_bent G0 T_l_take F24
  have T_l_bent : DefC l.prog w K mg base "_law_bent" ["_law_box_here", "_law_flags_here", "_law_odd"] l_l_bent [] (p_l_bent K (Ads.mk c0 c1 c2 c3 c4 c5 c6)) := ⟨_, _, [], PySem.W.mg_of X G at24, kp24, O24, .nil, F24.binds (ps := ["_law_box_here", "_law_flags_here", "_law_odd"]) fun _ _ _ _ _ _ us hl => match us, hl with | [_, _, _], _ => rfl⟩
  have F25 := fun_mk (st := s_l_hit) l25 co25 kp25
  have O25 : FnOk l.prog w K mg base (L2.CX l.prog w) l_l_hit f25 _ ["_law_flags_here", "_law_way"] (p_l_hit K (Ads.mk c0 c1 c2 c3 c4 c5 c6)) := ok_l_hit G0  F25
  have T_l_hit : DefC l.prog w K mg base "_law_hit" ["_law_flags_here", "_law_way"] l_l_hit [] (p_l_hit K (Ads.mk c0 c1 c2 c3 c4 c5 c6)) := ⟨_, _, [], PySem.W.mg_of X G at25, kp25, O25, .nil, F25.binds (ps := ["_law_flags_here", "_law_way"]) fun _ _ _ _ _ _ us hl => match us, hl with | [_, _], _ => rfl⟩
  have F26 := fun_mk (st := s_l_times) l26 co26 kp26
  have O26 : FnOk l.prog w K mg base (L2.CX l.prog w) l_l_times f26 _ ["_law_first", "_law_second"] (p_l_times K (Ads.mk c0 c1 c2 c3 c4 c5 c6)) := ok_l_times G0  F26
  have T_l_times : DefC l.prog w K mg base "_law_times" ["_law_first", "_law_second"] l_l_times [] (p_l_times K (Ads.mk c0 c1 c2 c3 c4 c5 c6)) := ⟨_, _, [], PySem.W.mg_of X G at26, kp26, O26, .nil, F26.binds (ps := ["_law_first", "_law_second"]) fun _ _ _ _ _ _ us hl => match us, hl with | [_, _], _ => rfl⟩
  have F27 := fun_mk (st := s_l_plus) l27 co27 kp27
  have O27 : FnOk l.prog w K mg base (L2.CX l.prog w) l_l_plus f27 _ ["_law_first", "_law_second"] (p_l_plus K (Ads.mk c0 c1 c2 c3 c4 c5 c6)) := ok_l_plus G0  F27
  have T_l_plus : DefC l.prog w K mg base "_law_plus" ["_law_first", "_law_second"] l_l_plus [] (p_l_plus K (Ads.mk c0 c1 c2 c3 c4 c5 c6)) := ⟨_, _, [], PySem.W.mg_of X G at27, kp27, O27, .nil, F27.binds (ps := ["_law_first", "_law_second"]) fun _ _ _ _ _ _ us hl => match us, hl with | [_, _], _ => rfl⟩
  have F28 := fun_mk (st := s_l_shut) l28 co28 kp28
  have O28 : FnOk l.prog w K mg base (L2.CX l.prog w) l_l_shut f28 _ ["_law_opened"] (p_l_shut K (Ads.mk c0 c1 c2 c3 c4 c5 c6)) := ok_l_shut G0  F28
  have T_l_shut : DefC l.prog w K mg base "_law_shut" ["_law_opened"] l_l_shut [] (p_l_shut K (Ads.mk c0 c1 c2 c3 c4 c5 c6)) := ⟨_, _, [], PySem.W.mg_of X G at28, kp28, O28, .nil, F28.binds (ps := ["_law_opened"]) fun _ _ _ _ _ _ us hl => match us, hl with | [_], _ => rfl⟩
  have F29 := fun_mk (st := s_l_spreads) l29 co29 kp29
  have O29 : FnOk l.prog w K mg base (L2.CX l.prog w) l_l_spreads f29 _ ["_law_text", "_law_flags_here"] (p_l_spreads K (Ads.mk c0 c1 c2 c3 c4 c5 c6)) := ok_l_spreads G0 T_l_plus T_l_shut T_l_times F29
  have T_l_spreads : DefC l.prog w K mg base "_law_spreads" ["_law_text", "_law_flags_here"] l_l_spreads [] (p_l_spreads K (Ads.mk c0 c1 c2 c3 c4 c5 c6)) := ⟨_, _, [], PySem.W.mg_of X G at29, kp29, O29, .nil, F29.binds (ps := ["_law_text", "_law_flags_here"]) fun _ _ _ _ _ _ us hl => match us, hl with | [_, _], _ => rfl⟩
  have F30 := fun_mk (st := s_l_each) l30 co30 kp30
  have O30 : FnOk l.prog w K mg base (L2.CX l.prog w) l_l_each f30 _ ["_law_many"] (p_l_each K (Ads.mk c0 c1 c2 c3 c4 c5 c6)) := ok_l_each G0  F30
  have T_l_each : DefC l.prog w K mg base "_law_each" ["_law_many"] l_l_each [] (p_l_each K (Ads.mk c0 c1 c2 c3 c4 c5 c6)) := ⟨_, _, [], PySem.W.mg_of X G at30, kp30, O30, .nil, F30.binds (ps := ["_law_many"]) fun _ _ _ _ _ _ us hl => match us, hl with | [_], _ => rfl⟩
  have F31 := fun_mk (st := s_l_levels) l31 co31 kp31
  have O31 : FnOk l.prog w K mg base (L2.CX l.prog w) l_l_levels f31 _ ["_law_start", "_law_steps"] (p_l_levels K (Ads.mk c0 c1 c2 c3 c4 c5 c6)) := ok_l_levels G0  F31
  have T_l_levels : DefC l.prog w K mg base "_law_levels" ["_law_start", "_law_steps"] l_l_levels [] (p_l_levels K (Ads.mk c0 c1 c2 c3 c4 c5 c6)) := ⟨_, _, [], PySem.W.mg_of X G at31, kp31, O31, .nil, F31.binds (ps := ["_law_start", "_law_steps"]) fun _ _ _ _ _ _ us hl => match us, hl with | [_, _], _ => rfl⟩
  have F32 := fun_mk (st := s_l_searched) l32 co32 kp32
  have O32 : FnOk l.prog w K mg base (L2.CX l.prog w) l_l_searched f32 _ ["_law_tree_here", "_law_flags_here", "_law_ways"] (p_l_searched K (Ads.mk c0 c1 c2 c3 c4 c5 c6)) := ok_l_searched G0 T_l_each T_l_hit T_l_levels T_l_same T_greatest_distance T_spread_from T_spread_to F32
  have T_l_searched : DefC l.prog w K mg base "_law_searched" ["_law_tree_here", "_law_flags_here", "_law_ways"] l_l_searched [] (p_l_searched K (Ads.mk c0 c1 c2 c3 c4 c5 c6)) := ⟨_, _, [], PySem.W.mg_of X G at32, kp32, O32, .nil, F32.binds (ps := ["_law_tree_here", "_law_flags_here", "_law_ways"]) fun _ _ _ _ _ _ us hl => match us, hl with | [_, _, _], _ => rfl⟩
  have F33 := fun_mk (st := s_l_answers) l33 co33 kp33
  have O33 : FnOk l.prog w K mg base (L2.CX l.prog w) l_l_answers f33 _ ["_law_tree_here", "_law_text", "_law_flags_here"] (p_l_answers K (Ads.mk c0 c1 c2 c3 c4 c5 c6)) := ok_l_answers G0 T_l_is_integer T_l_same T_l_spreads T_greatest_distance T_spread_from T_spread_to F33
  have T_l_answers : DefC l.prog w K mg base "_law_answers" ["_law_tree_here", "_law_text", "_law_flags_here"] l_l_answers [] (p_l_answers K (Ads.mk c0 c1 c2 c3 c4 c5 c6)) := ⟨_, _, [], PySem.W.mg_of X G at33, kp33, O33, .nil, F33.binds (ps := ["_law_tree_here", "_law_text", "_law_flags_here"]) fun _ _ _ _ _ _ us hl => match us, hl with | [_, _, _], _ => rfl⟩
  have F34 := fun_mk (st := s_l_fault) l34 co34 kp34
  have O34 : FnG l.prog w K mg base l_l_fault f34 _ ["_law_door", "_law_tree_here", "_law_flags_here"] (p_l_fault K (Ads.mk c0 c1 c2 c3 c4 c5 c6)) := ok_l_fault G0 T T_spread_from T_spread_to F34
  have T_l_fault : DefG l.prog w K mg base "_law_fault" ["_law_door", "_law_tree_here", "_law_flags_here"] l_l_fault (p_l_fault K (Ads.mk c0 c1 c2 c3 c4 c5 c6)) := ⟨_, _, PySem.W.mg_of X G at34, kp34, O34, F34.binds (ps := ["_law_door", "_law_tree_here", "_law_flags_here"]) fun _ _ _ _ _ _ us hl => match us, hl with | [_, _, _], _ => rfl⟩
  have F35 := fun_mk (st := s_law) l35 co35 kp35
  have O35 : FnG l.prog w K mg base l_law fa _ ["_law_script"] (p_law K (Ads.mk c0 c1 c2 c3 c4 c5 c6)) := ok_law G0 T T_l_answers T_l_bent T_l_box T_l_flags T_l_searched T_l_slots T_l_take T_l_tree T_l_fault T_Tree_init F35
  exact O35
theorem walk {l : PySem.W.OpenLaw} {q : Program} {loose : List Str} {XP : (Str → Option Value) → Heap → Prop} {YP : World → Heap → Prop} {d : DefRec} {K : Params → PySem.W.Frag} (hn : l.most = some 63) (hdf : d.params.defaults = [])
    (hY : ∀ (w : World) (h : Heap), YP w h → (K w.params).In h)
    (F : ∀ (w : World) (mg : Str → Option Value) (fa : Addr) (h : Heap), (K w.params).In h → h.Ns mainGlobals mg → mg d.name = some (.ref fa) →
      ∃ fd : FuncData, (∀ (s : Shared) (u : Value), BindsTo s fd ⟨[u], []⟩ [("_law_script", u)]) ∧ ∀ base : Heap, (K w.params).In base → base.Ns mainGlobals mg → FnG l.prog w (K w.params) mg base l_law fa fd ["_law_script"] (spC (ct_law (K w.params)))) :
    PySem.W.WalkO q loose XP YP l.row.toRowW d [] (fun f vs => PySem.call f vs) :=
  walk_ofG (n := 63) (k := l_law) (x := "_law_script") (sp := fun w => spC (ct_law (K w.params))) hn (by decide) hdf ⟨rfl, by decide, by decide⟩ hY F
    fun _ _ a ns hl hS => ⟨(a, ns), ⟨rfl, hS⟩, fun _ _ q => q, fun _ _ _ q => q.elim⟩
end LW
open PySem PySem.W PyProof.Rows
set_option maxRecDepth 100000 in
set_option maxHeartbeats 0 in
theorem PySem.Challenge.cw_lastside_k24_whole_spreads_holds : PySem.Challenge.rw_lastside_k24_whole_spreads.Holds := by
  w_on; o_law; k_head; (case hw => w_witness2)
  k_fill
  refine LW.walk (l := PySem.Challenge.rw_lastside_k24_whole_spreads) rfl rfl (fun w h Y => PySem.W.kIn_of Y) ?F
  case F =>
    intro w mg fa h KX G hmg
    refine' LW.all_mk KX G hmg ?ac0 ?ac1 ?ac2 ?ac3 ?ac4 ?ac5 ?ac6 ?z_ValueError ?z_all ?z_bool ?z_enumerate ?z_int ?z_isinstance ?z_len ?z_list ?z_max ?z_range ?z_repr ?z_sorted ?z_str ?z_sum ?z_tuple ?opg_c6 ?ohd_c6 ?opo_c6 ?osa_c6 ?omk_c6 ?okc_c6 ?ona_c6_bounds ?ona_c6_lefts ?ona_c6_postorder ?ona_c6_preorder ?ona_c6_rights ?ona_c6_root ?ona_c6_spans ?ona_c6_text ?ona_c6_ways ?oco_c6_MOST ?ocg_c6_MOST ?at0 ?l0 ?co0 ?kp0 ?pa1 ?pgt1 ?pt1 ?prc1 ?l1 ?co1 ?kp1 ?at2 ?l2 ?co2 ?kp2 ?at3 ?l3 ?co3 ?kp3 ?at4 ?l4 ?co4 ?kp4 ?at5 ?l5 ?co5 ?kp5 ?at6 ?fn6 ?l6 ?co6 ?kp6 ?pa7 ?pgt7 ?pt7 ?prc7 ?l7 ?co7 ?kp7 ?at8 ?l8 ?co8 ?kp8 ?at9 ?l9 ?co9 ?kp9 ?at10 ?l10 ?co10 ?kp10 ?at11 ?l11 ?co11 ?kp11 ?at12 ?l12 ?co12 ?kp12 ?at13 ?l13 ?co13 ?kp13 ?at14 ?l14 ?co14 ?kp14 ?at15 ?fn15 ?l15 ?co15 ?kp15 ?at16 ?l16 ?co16 ?kp16 ?at17 ?l17 ?co17 ?kp17 ?at18 ?l18 ?co18 ?kp18 ?at19 ?l19 ?co19 ?kp19 ?at20 ?l20 ?co20 ?kp20 ?at21 ?l21 ?co21 ?kp21 ?at22 ?l22 ?co22 ?kp22 ?at23 ?l23 ?co23 ?kp23 ?at24 ?l24 ?co24 ?kp24 ?at25 ?l25 ?co25 ?kp25 ?at26 ?l26 ?co26 ?kp26 ?at27 ?l27 ?co27 ?kp27 ?at28 ?l28 ?co28 ?kp28 ?at29 ?l29 ?co29 ?kp29 ?at30 ?l30 ?co30 ?kp30 ?at31 ?l31 ?co31 ?kp31 ?at32 ?l32 ?co32 ?kp32 ?at33 ?l33 ?co33 ?kp33 ?at34 ?l34 ?co34 ?kp34 ?at35 ?l35 ?co35 ?kp35 ?x_c2 ?rv_c2 ?sa_c2 ?ex_c2 ?ty_c2 ?kc_c2 ?ga_c2 ?gg_c2 ?hd_c2 ?ha_c2 ?hn_c2 ?ht_c2 ?hm_c2 ?no_c2 ?fi_c2 ?ft_c2 ?fl_c2 ?fc_c2 ?fk_c2 ?x_c1 ?rv_c1 ?sa_c1 ?ex_c1 ?ty_c1 ?kc_c1 ?ga_c1 ?gg_c1 ?hd_c1 ?ha_c1 ?hn_c1 ?ht_c1 ?hm_c1 ?no_c1 ?fi_c1 ?ft_c1 ?fl_c1 ?fc_c1 ?fk_c1 ?wat_c6 ?wfn_c6 ?wlk_c6 ?wco_c6 ?wkp_c6 ?kff ?kfs ?kfc ?kfv
    (case ac0 => k_is)
    (case ac1 => k_is)
    (case ac2 => k_is)
    (case ac3 => k_is)
    (case ac4 => k_is)
    (case ac5 => k_is)
    (case ac6 => k_is)
    (case z_ValueError => k_is)
    (case z_all => k_is)
    (case z_bool => k_is)
    (case z_enumerate => k_is)
    (case z_int => k_is)
    (case z_isinstance => k_is)
    (case z_len => k_is)
    (case z_list => k_is)
    (case z_max => k_is)
    (case z_range => k_is)
    (case z_repr => k_is)
    (case z_sorted => k_is)
    (case z_str => k_is)
    (case z_sum => k_is)
    (case z_tuple => k_is)
    (case opg_c6 => k_is)
    (case ohd_c6 => k_is)
    (case opo_c6 => k_is)
    (case osa_c6 => k_is)
    (case omk_c6 => k_is)
    (case okc_c6 => k_is)
    (case ona_c6_bounds => k_is)
    (case ona_c6_lefts => k_is)
    (case ona_c6_postorder => k_is)
    (case ona_c6_preorder => k_is)
    (case ona_c6_rights => k_is)
    (case ona_c6_root => k_is)
    (case ona_c6_spans => k_is)
    (case ona_c6_text => k_is)
    (case ona_c6_ways => k_is)
    (case oco_c6_MOST => k_is)
    (case ocg_c6_MOST => k_is)
    (case at0 => k_is)
    (case l0 => k_is)
    (case co0 => k_is)
    (case kp0 => k_is)
    (case pa1 => k_is)
    (case pgt1 => k_is)
    (case pt1 => k_is)
    (case prc1 => k_is)
    (case l1 => k_is)
    (case co1 => k_is)
    (case kp1 => k_is)
    (case at2 => k_is)
    (case l2 => k_is)
    (case co2 => k_is)
    (case kp2 => k_is)
    (case at3 => k_is)
    (case l3 => k_is)
    (case co3 => k_is)
    (case kp3 => k_is)
    (case at4 => k_is)
    (case l4 => k_is)
    (case co4 => k_is)
    (case kp4 => k_is)
    (case at5 => k_is)
    (case l5 => k_is)
    (case co5 => k_is)
    (case kp5 => k_is)
    (case at6 => k_is)
    (case fn6 => k_is)
    (case l6 => k_is)
    (case co6 => k_is)
    (case kp6 => k_is)
    (case pa7 => k_is)
    (case pgt7 => k_is)
    (case pt7 => k_is)
    (case prc7 => k_is)
    (case l7 => k_is)
    (case co7 => k_is)
    (case kp7 => k_is)
    (case at8 => k_is)
    (case l8 => k_is)
    (case co8 => k_is)
    (case kp8 => k_is)
    (case at9 => k_is)
    (case l9 => k_is)
    (case co9 => k_is)
    (case kp9 => k_is)
    (case at10 => k_is)
    (case l10 => k_is)
    (case co10 => k_is)
    (case kp10 => k_is)
    (case at11 => k_is)
    (case l11 => k_is)
    (case co11 => k_is)
    (case kp11 => k_is)
    (case at12 => k_is)
    (case l12 => k_is)
    (case co12 => k_is)
    (case kp12 => k_is)
    (case at13 => k_is)
    (case l13 => k_is)
    (case co13 => k_is)
    (case kp13 => k_is)
    (case at14 => k_is)
    (case l14 => k_is)
    (case co14 => k_is)
    (case kp14 => k_is)
    (case at15 => k_is)
    (case fn15 => k_is)
    (case l15 => k_is)
    (case co15 => k_is)
    (case kp15 => k_is)
    (case at16 => k_is)
    (case l16 => k_is)
    (case co16 => k_is)
    (case kp16 => k_is)
    (case at17 => k_is)
    (case l17 => k_is)
    (case co17 => k_is)
    (case kp17 => k_is)
    (case at18 => k_is)
    (case l18 => k_is)
    (case co18 => k_is)
    (case kp18 => k_is)
    (case at19 => k_is)
    (case l19 => k_is)
    (case co19 => k_is)
    (case kp19 => k_is)
    (case at20 => k_is)
    (case l20 => k_is)
    (case co20 => k_is)
    (case kp20 => k_is)
    (case at21 => k_is)
    (case l21 => k_is)
    (case co21 => k_is)
    (case kp21 => k_is)
    (case at22 => k_is)
    (case l22 => k_is)
    (case co22 => k_is)
    (case kp22 => k_is)
    (case at23 => k_is)
    (case l23 => k_is)
    (case co23 => k_is)
    (case kp23 => k_is)
    (case at24 => k_is)
    (case l24 => k_is)
    (case co24 => k_is)
    (case kp24 => k_is)
    (case at25 => k_is)
    (case l25 => k_is)
    (case co25 => k_is)
    (case kp25 => k_is)
    (case at26 => k_is)
    (case l26 => k_is)
    (case co26 => k_is)
    (case kp26 => k_is)
    (case at27 => k_is)
    (case l27 => k_is)
    (case co27 => k_is)
    (case kp27 => k_is)
    (case at28 => k_is)
    (case l28 => k_is)
    (case co28 => k_is)
    (case kp28 => k_is)
    (case at29 => k_is)
    (case l29 => k_is)
    (case co29 => k_is)
    (case kp29 => k_is)
    (case at30 => k_is)
    (case l30 => k_is)
    (case co30 => k_is)
    (case kp30 => k_is)
    (case at31 => k_is)
    (case l31 => k_is)
    (case co31 => k_is)
    (case kp31 => k_is)
    (case at32 => k_is)
    (case l32 => k_is)
    (case co32 => k_is)
    (case kp32 => k_is)
    (case at33 => k_is)
    (case l33 => k_is)
    (case co33 => k_is)
    (case kp33 => k_is)
    (case at34 => k_is)
    (case l34 => k_is)
    (case co34 => k_is)
    (case kp34 => k_is)
    (case at35 => k_is)
    (case l35 => k_is)
    (case co35 => k_is)
    (case kp35 => k_is)
    (case x_c2 => k_is)
    (case rv_c2 => decide +kernel)
    (case sa_c2 => k_is)
    (case ex_c2 => k_is)
    (case ty_c2 => k_is)
    (case kc_c2 => k_is)
    (case ga_c2 => k_is)
    (case gg_c2 => k_is)
    (case hd_c2 => k_is)
    (case ha_c2 => k_is)
    (case hn_c2 => k_is)
    (case ht_c2 => k_is)
    (case hm_c2 => k_is)
    (case no_c2 => k_is)
    (case fi_c2 => k_is)
    (case ft_c2 => k_is)
    (case fl_c2 => k_is)
    (case fc_c2 => k_is)
    (case fk_c2 => k_is)
    (case x_c1 => k_is)
    (case rv_c1 => decide +kernel)
    (case sa_c1 => k_is)
    (case ex_c1 => k_is)
    (case ty_c1 => k_is)
    (case kc_c1 => k_is)
    (case ga_c1 => k_is)
    (case gg_c1 => k_is)
    (case hd_c1 => k_is)
    (case ha_c1 => k_is)
    (case hn_c1 => k_is)
    (case ht_c1 => k_is)
    (case hm_c1 => k_is)
    (case no_c1 => k_is)
    (case fi_c1 => k_is)
    (case ft_c1 => k_is)
    (case fl_c1 => k_is)
    (case fc_c1 => k_is)
    (case fk_c1 => k_is)
    (case wat_c6 => k_is)
    (case wfn_c6 => k_is)
    (case wlk_c6 => k_is)
    (case wco_c6 => k_is)
    (case wkp_c6 => k_is)
    (case kff => kernel_rfl)
    (case kfs => kernel_rfl)
    (case kfc => kernel_rfl)
    (case kfv => kernel_rfl)
