import PyProof.Rows.All
import Wide.All
import OpenK.AllK
import Wide.FinOn
import HandS.ForMost
import HandS.Flow
import HandS.IsInst
import HandS.Exc
import HandS.ExcInit
import HandS.ExcOwn
import HandS.WordsExc
import HandS.ExcIs
import HandS.ExcField
import HandS.TryMany
import HandS.CallSlots
import HandS.Defaults
import HandS.SetFor
import HandS.StrMore
import HandS.Gcd
import KE.KMathGC
import KE.KIsAll
import KE.KTryMore
import HandS.TupAny
import HandS.Rev
import HandS.Conv
import HandS.More
import HandS.Property
import HandS.New
import HandS.SortOrd
import HandS.SortRule
import HandS.Text
import HandS.RaiseMore
import OpenK.KOps
import PyProof.Draws
import PyProof.StrBlock2
import PyProof.CallFns
import PyProof.ReprRoads
import HandS.Ends
import HandS.Dict
import PyProof.ListStr
import HandS.Style
import HandS.DictComp
import KE.KDictDisplayH
import KE.KDictCopyH
import PySem.Challenge.RW_lastside_k34_whole_rules
set_option Elab.async false
set_option linter.all false
set_option maxRecDepth 100000
set_option maxHeartbeats 4000000
namespace PySem.W
open PySem PySem.Spec PySem.Calls PyProof.Rows
section
variable {prog : Program} {w : World} {A : Around} {E : Value → Shared → Prop} {s : Shared} {K : Frag} {x D : Addr} {ox : Obj} {od : Option Obj}
theorem sy_findObj {C : Addr} {name : Str} {a g : Value} (hc : (clsIn K C).isSome = true) (ha : findIn K (.ref C) name = some (some a)) (hg : specialIn K a "__get__" = some (some g)) (ht : takesIn K a = some true) : findObj K C od name = some (.bind g a) := by
  obtain ⟨cd, hc⟩ := Option.isSome_iff_exists.mp hc
  unfold findObj
  rw [hc, Option.bind_some, ha, Option.bind_some]
  simp [hg, ht]
/-- __class__ of an own error that has its dict -/
theorem sy_classE {Q : Option Value → Shared → Prop} (hga : findIn K (.ref D) "__getattribute__" = some (some (.builtin "BaseException.__getattribute__"))) (hgt : findIn K (.ref D) "__getattr__" = some none) (hsub : subIn K (.ref D) (.type "BaseException") = some true)
    (hdct : hasDictIn K D = true) (ha : findIn K (.ref D) "__class__" = some (some (.builtin "object.__class__")))
    (hn : specialIn K (.builtin "object.__class__") "__get__" = some (some (.builtin "getset_descriptor.__get__"))) (htk : takesIn K (.builtin "object.__class__") = some true) (hm : mroIn K D (.type "object") = some true)
    (X : K.In s.heap) (I : InstAt s.heap x ox D od) (h : Q (some (.ref D)) { s with toks := s.toks + 1 }) : wpAny (model prog w) A (getAttr? (.ref x) "__class__") Q E s := by
  have hf : findObj K D od "__class__" = some (.bind (.builtin "getset_descriptor.__get__") (.builtin "object.__class__")) := sy_findObj (by obtain ⟨cd, hc, _⟩ := any_some hdct; rw [hc]; rfl) ha hn htk
  obtain ⟨hp, g, d, t, os⟩ := s
  have L0 := I.type (M := model prog w)
  have L1 := looks_findIn (M := model prog w) X hga
  have L2 := looks_findIn (M := model prog w) X hgt
  have L3 := looks_find (M := model prog w) X I hf
  have sub : Looks (model prog w) hp (isInstance (.ref x) (.type "BaseException")) true := L0.andThen (looks_subIn X hsub)
  have hx0 : (false && onTheHeap (Value.builtin "BaseException.__getattribute__")) = false := rfl
  have hx2 : (Value.builtin "BaseException.__getattribute__" == Value.builtin "object.__getattribute__") = false := by decide +kernel
  have hx1 : (onTheHeap (Value.ref D) && Value.builtin "BaseException.__getattribute__" == Value.builtin "object.__getattribute__") = false := by rw [hx2]; rfl
  unfold getAttr? getAttrBy? getAttrBy
  refine wpAny_bind (wpAny_mkText (wpAny_bind (wpAny_attempt (wpAny_holding (wpAny_bind (L0.at (wpAny_bind (L1.at ?_))))))))
  show wpAny _ _ (if (onTheHeap (Value.ref D) && Value.builtin "BaseException.__getattribute__" == Value.builtin "object.__getattribute__") = true then _ else _) _ _ _
  rw [hx1, if_neg Bool.false_ne_true]
  unfold getAttrByItsOwn hookBefore
  refine wpAny_bind ?_
  rw [if_pos (show onTheHeap (Value.ref D) = true from rfl)]
  refine L2.at ?_
  refine wpAny_bind (wpAny_attempt (wpAny_holding ?_))
  unfold callGetattribute
  rw [hx0, if_neg Bool.false_ne_true]
  unfold boundAndCalled
  rw [PySem.F.excAttr_ValueError.ga.bind (.ref x)]
  refine wpAny_bind (wpAny_pure ?_)
  show wpAny _ _ (call (.builtin "BaseException.__getattribute__") [.ref x, .str "__class__" t]) _ _ _
  refine wpAny_call (codeAny_call_builtin PySem.F.excAttr_ValueError.ga.plain PySem.F.entry_bexc_ga ?_)
  refine @check_slot (model prog w) _ _ ⟨hp, g, d, t + 1, os⟩ "BaseException.__getattribute__" "BaseException" "__getattribute__" (.ref x) [.str "__class__" t] [] _ (by decide +kernel) (by decide +kernel) sub (PySem.F.args_bexc_ga (.ref x) (.str "__class__" t)) ?_
  unfold Builtin.«object.__getattribute__»
  refine wpAny_bind (wpAny_of_eq (a := ((Value.ref x : Value), [Value.str "__class__" t])) (by first | rfl | (simp only [slotArgs]; rfl)) ?_)
  refine wpAny_bind (wpAny_pure (wpAny_bind (L0.at (wpAny_bind (L3.at ?_)))))
  show wpAny _ _ (holding [Value.builtin "object.__class__"] (call (.builtin "getset_descriptor.__get__") [.builtin "object.__class__", .ref x, .ref D]) >>= ret) _ _ _
  refine wpAny_bind (wpAny_holding (wpAny_call (class_get (s := ⟨hp, g, d, t + 1, os⟩) (ox := ox) (od := od) X I hm ?_)))
  refine wpAny_pure ?_
  show wpAny _ _ (handedOut (.ref D)) _ _ _
  rw [handedOut_of (v := .ref D) rfl]
  first
    | exact wpAny_pure (wpAny_pure h)
    | exact wpAny_pure h
    | exact wpAny_pure (wpAny_bind (wpAny_pure (wpAny_pure h)))
theorem sy_kitx (hga : findIn K (.ref D) "__getattribute__" = some (some (.builtin "BaseException.__getattribute__"))) (hgt : findIn K (.ref D) "__getattr__" = some none) (hsub : subIn K (.ref D) (.type "BaseException") = some true) (hdct : hasDictIn K D = true) (ha : findIn K (.ref D) "__class__" = some (some (.builtin "object.__class__")))
    (hn : specialIn K (.builtin "object.__class__") "__get__" = some (some (.builtin "getset_descriptor.__get__"))) (htk : takesIn K (.builtin "object.__class__") = some true) (hm : mroIn K D (.type "object") = some true) :
    KitX K (.ref x) (.ref D) (fun h => InstAt h x ox D od) where
  ty := fun _ _ _ I => I.type
  it := fun _ _ X _ => by
    obtain ⟨cdD, hcD, _⟩ := any_some hdct
    unfold clsIn at hcD
    split at hcD
    · rename_i c' d' cd' sl' ho
      intro A' Q' E' s' k q
      unfold isType loadHead
      exact wpAny_bind (wpAny_loadPart (k _ _ (X _ _ ho)) (wpAny_pure q))
    · cases hcD
  ne := fun h tp dd its n sl X htp => by
    obtain ⟨cdD, hcD, _⟩ := any_some hdct
    refine Bool.eq_false_iff.mpr fun q => ?_
    have e : D = tp := Value.ref.inj (beq_iff_eq.mp q)
    subst e
    unfold clsIn at hcD
    split at hcD
    · rename_i c' d' cd' sl' ho
      have z := (X _ _ ho).symm.trans htp
      cases z
    · cases hcD
  ca := fun X I k => sy_classE hga hgt hsub hdct ha hn htk hm X I k
end
end PySem.W
/-! A layer of our own: readings over a symbolic heap. What stands at known addresses is a written list; the rest is a frame. -/
namespace SY
open PySem L2

/-! ### the symbolic heap -/
/-- F: what stands and stays; G: the objects that are known one by one -/
structure SH where
  F : Hp
  G : List (Addr × HO)
structure Own (S : SH) (H : Hp) : Prop where
  fr : ∀ a o, S.F a = some o → H a = some o
  gs : ∀ p, p ∈ S.G → H p.1 = some p.2 ∧ S.F p.1 = none
  nd : (S.G.map (·.1)).Nodup
abbrev SH.new (S : SH) (p : Addr) (o : HO) : SH := ⟨S.F, (p, o) :: S.G⟩
abbrev SH.put (S : SH) (i : Nat) (p : Addr) (o : HO) : SH := ⟨S.F, S.G.set i (p, o)⟩
def Ext (H H' : Hp) : Prop := ∀ a o, H a = some o → H' a = some o
theorem Ext.refl (H : Hp) : Ext H H := fun _ _ h => h
theorem Ext.trans {H H1 H2 : Hp} (a : Ext H H1) (b : Ext H1 H2) : Ext H H2 := fun x o h => b x o (a x o h)
theorem Ext.new {H : Hp} {p : Addr} {o : HO} (h : H p = none) : Ext H (upd H p o) := fun a u e => by
  rw [upd_ne (ne_of_none e h)]
  exact e
theorem ext_rd {H H' : Hp} {a : Addr} {u : HO} (e : Ext H H') (h : Rd H a u) : Rd H' a u := by
  rcases h with h | ⟨o, h⟩
  · exact Or.inl (e a _ h)
  · exact Or.inr ⟨o, e a _ h⟩
theorem ext_l {K : PySem.W.Frag} {H H' : Hp} {a : Addr} {xs : List V} (e : Ext H H') (h : SqL K H a xs) : SqL K H' a xs := by
  rcases h with h | h
  · exact Or.inl (ext_rd e h)
  · exact Or.inr h
theorem ext_t {K : PySem.W.Frag} {H H' : Hp} {a : Addr} {xs : List V} (e : Ext H H') (h : SqT K H a xs) : SqT K H' a xs := by
  rcases h with h | h
  · exact Or.inl (ext_rd e h)
  · exact Or.inr h
theorem Own.ex {S : SH} {H H' : Hp} (h : Own S H) (e : Ext H H') : Own S H' := ⟨fun a o q => e a o (h.fr a o q), fun p q => ⟨e _ _ (h.gs p q).1, (h.gs p q).2⟩, h.nd⟩
theorem Own.base (H : Hp) : Own ⟨H, []⟩ H := ⟨fun _ _ q => q, fun _ q => (nomatch q), List.nodup_nil⟩
theorem Own.f_none {S : SH} {H : Hp} (h : Own S H) {p : Addr} (hp : H p = none) : S.F p = none := by
  cases e : S.F p with
  | none => rfl
  | some o => rw [h.fr p o e] at hp; cases hp
theorem Own.g_none {S : SH} {H : Hp} (h : Own S H) {p : Addr} (hp : H p = none) : p ∉ S.G.map (·.1) := fun q => by
  obtain ⟨x, hx, e⟩ := List.mem_map.mp q
  rw [← e, (h.gs x hx).1] at hp
  cases hp
/-- a new object -/
theorem Own.new {S : SH} {H H' : Hp} (h : Own S H) {p : Addr} {o : HO} (hp : H p = none) (e : Ext H H') (hp' : H' p = some o) : Own (S.new p o) H' :=
  ⟨fun a u q => e a u (h.fr a u q), fun x q => by
    cases q with
    | head => exact ⟨hp', h.f_none hp⟩
    | tail _ q => exact ⟨e _ _ (h.gs x q).1, (h.gs x q).2⟩, List.nodup_cons.mpr ⟨h.g_none hp, h.nd⟩⟩
theorem Own.newU {S : SH} {H : Hp} (h : Own S H) {p : Addr} {o : HO} (hp : H p = none) : Own (S.new p o) (upd H p o) := h.new hp (Ext.new hp) upd_same
theorem Own.g {S : SH} {H : Hp} (h : Own S H) {i : Nat} {p : Addr} {o : HO} (q : S.G[i]? = some (p, o)) : H p = some o := (h.gs (p, o) (List.mem_of_getElem? q)).1
theorem set_fst {G : List (Addr × HO)} {i : Nat} {p : Addr} {o u : HO} (q : G[i]? = some (p, o)) : (G.set i (p, u)).map (·.1) = G.map (·.1) := by
  rw [List.map_set]
  refine List.ext_getElem? fun j => ?_
  by_cases e : i = j
  · subst e
    have hi := (List.getElem?_eq_some_iff.mp q).1
    rw [List.getElem?_set_self (by simpa using hi), List.getElem?_map, q]
    rfl
  · rw [List.getElem?_set_ne e]
theorem nodup_at {α : Type} {N : List α} (hN : N.Nodup) {i j : Nat} {x : α} (a : N[i]? = some x) (b : N[j]? = some x) : i = j := by
  obtain ⟨hi, ei⟩ := List.getElem?_eq_some_iff.mp a
  obtain ⟨hj, ej⟩ := List.getElem?_eq_some_iff.mp b
  have P := List.pairwise_iff_getElem.mp hN
  rcases Nat.lt_trichotomy i j with h | h | h
  · exact absurd (ei.trans ej.symm) (P i j hi hj h)
  · exact h
  · exact absurd (ej.trans ei.symm) (P j i hj hi h)
/-- a known object becomes another -/
theorem Own.put {S : SH} {H H' : Hp} (h : Own S H) {i : Nat} {p : Addr} {o u : HO} (q : S.G[i]? = some (p, o)) (k : ∀ b x, b ≠ p → H b = some x → H' b = some x) (hp : H' p = some u) : Own (S.put i p u) H' := by
  have hf : S.F p = none := (h.gs (p, o) (List.mem_of_getElem? q)).2
  have nd := h.nd
  refine ⟨fun a x e => k a x (fun z => by rw [z, hf] at e; cases e) (h.fr a x e), fun x hx => ?_, by rw [set_fst q]; exact nd⟩
  obtain ⟨j, hj, ej⟩ := List.mem_iff_getElem.mp hx
  by_cases e : i = j
  · subst e
    have ex : x = (p, u) := by rw [← ej, List.getElem_set_self]
    subst ex
    exact ⟨hp, hf⟩
  · have hj' : j < S.G.length := by rw [List.length_set] at hj; exact hj
    rw [List.getElem_set_ne e] at ej
    have hm : x ∈ S.G := by rw [← ej]; exact List.getElem_mem hj'
    have hne : x.1 ≠ p := fun z => by
      have hi := (List.getElem?_eq_some_iff.mp q).1
      have h1 : (S.G.map (·.1))[i]? = some p := by rw [List.getElem?_map, q]; rfl
      have h2 : (S.G.map (·.1))[j]? = some p := by rw [List.getElem?_map, List.getElem?_eq_getElem hj', ej]; exact congrArg some z
      exact e (nodup_at nd h1 h2)
    exact ⟨k _ _ hne (h.gs x hm).1, (h.gs x hm).2⟩
theorem Own.putU {S : SH} {H : Hp} (h : Own S H) {i : Nat} {p : Addr} {o u : HO} (q : S.G[i]? = some (p, o)) : Own (S.put i p u) (upd H p u) :=
  h.put q (fun b x hb e => by rw [upd_ne hb]; exact e) upd_same
/-- everything that is not at a is the frame -/
def without (H : Hp) (p : Addr) : Hp := fun b => if b = p then none else H b
theorem without_ne {H : Hp} {p b : Addr} (h : b ≠ p) : without H p b = H b := if_neg h
theorem without_same {H : Hp} {p : Addr} : without H p p = none := if_pos rfl
theorem Own.only {H : Hp} {p : Addr} {o : HO} (h : H p = some o) : Own ⟨without H p, [(p, o)]⟩ H := by
  refine ⟨fun a x e => ?_, fun x q => ?_, by simp⟩
  · by_cases ha : a = p
    · subst ha
      have e' : without H a a = some x := e
      rw [without_same] at e'
      cases e'
    · have e' : without H p a = some x := e
      rw [without_ne ha] at e'
      exact e'
  · have e : x = (p, o) := List.mem_singleton.mp q
    subst e
    exact ⟨h, without_same⟩

mutual
theorem dp_ext {K : PySem.W.Frag} {H H' : Hp} (e : Ext H H') : ∀ (d : PyData) (v : V), Dp K H v d → Dp K H' v d
  | .none, _, h => by cases h; exact .non
  | .bool b, _, h => by cases h; exact .bl b
  | .int i, _, h => by cases h; exact .int i
  | .str x, _, h => by cases h; exact .str x
  | .list ds, _, h => by
    cases h with
    | lst h1 h2 => exact .lst (ext_l e h1) (dpAll_ext e ds _ h2)
  | .tuple ds, _, h => by
    cases h with
    | tup h1 h2 => exact .tup (ext_t e h1) (dpAll_ext e ds _ h2)
  | .dict _, _, h => by cases h
theorem dpAll_ext {K : PySem.W.Frag} {H H' : Hp} (e : Ext H H') : ∀ (ds : List PyData) (vs : List V), DpAll K H vs ds → DpAll K H' vs ds
  | [], _, h => by cases h; exact .nil
  | d :: ds, _, h => by
    cases h with
    | cons h1 h2 => exact .cons (dp_ext e d _ h1) (dpAll_ext e ds _ h2)
end
/-- a list (tuple) that may be read -/
def sL (K : PySem.W.Frag) (S : SH) (a : Addr) (xs : List V) : Prop := (∃ i : Nat, S.G[i]? = some (a, .lst xs)) ∨ SqL K S.F a xs
def sU (K : PySem.W.Frag) (S : SH) (a : Addr) (xs : List V) : Prop := (∃ i : Nat, S.G[i]? = some (a, .tup xs)) ∨ SqT K S.F a xs
/-- what stands at a -/
def At (S : SH) (a : Addr) (o : HO) : Prop := (∃ i : Nat, S.G[i]? = some (a, o)) ∨ S.F a = some o
theorem rd_own {S : SH} {H : Hp} (h : Own S H) {a : Addr} {u : HO} (r : Rd S.F a u) : Rd H a u := by
  rcases r with r | ⟨o, r⟩
  · exact .inl (h.fr a _ r)
  · exact .inr ⟨o, h.fr a _ r⟩
theorem Own.l {K : PySem.W.Frag} {S : SH} {H : Hp} (h : Own S H) {a : Addr} {xs : List V} (q : sL K S a xs) : SqL K H a xs := by
  rcases q with ⟨i, q⟩ | q | q
  · exact .inl (.inl (h.g q))
  · exact .inl (rd_own h q)
  · exact .inr q
theorem Own.u {K : PySem.W.Frag} {S : SH} {H : Hp} (h : Own S H) {a : Addr} {xs : List V} (q : sU K S a xs) : SqT K H a xs := by
  rcases q with ⟨i, q⟩ | q | q
  · exact .inl (.inl (h.g q))
  · exact .inl (rd_own h q)
  · exact .inr q
theorem Own.at {S : SH} {H : Hp} (h : Own S H) {a : Addr} {o : HO} (q : At S a o) : H a = some o := by
  rcases q with ⟨i, q⟩ | q
  · exact h.g q
  · exact h.fr a o q

/-! ### readings -/
/-- the wish of exceptions -/
abbrev sWX := Value → Option Addr → St → SH → Prop
abbrev sE := sWX → St → SH → (V → SH → Prop) → Prop
abbrev sT := sWX → St → SH → (Bool → SH → Prop) → Prop
abbrev sA := sWX → St → SH → (List V → SH → Prop) → Prop
abbrev s2 := V → V → SH → (V → SH → Prop) → Prop
abbrev s1 := V → SH → (V → SH → Prop) → Prop
abbrev sN := List V → SH → (V → SH → Prop) → Prop
/-- Q' over the symbolic heap gives Q -/
def Imp {α : Type} (Q' : α → SH → Prop) (Q : α → Hp → Prop) : Prop := ∀ v S H, Own S H → Q' v S → Q v H
def ImpW (W' : sWX) (W : WX) : Prop := ∀ c d σ S H, Own S H → W' c d σ S → W c d σ H
def dE (W : WX) (t : sE) : TE := fun σ H Q => ∃ S Q' W', ImpW W' W ∧ Own S H ∧ t W' σ S Q' ∧ Imp Q' Q
def dT (W : WX) (t : sT) : TT := fun σ H Q => ∃ S Q' W', ImpW W' W ∧ Own S H ∧ t W' σ S Q' ∧ Imp Q' Q
def dA (W : WX) (t : sA) : TA := fun σ H Q => ∃ S Q' W', ImpW W' W ∧ Own S H ∧ t W' σ S Q' ∧ Imp Q' Q
theorem imp_self {α : Type} {Q' : α → SH → Prop} : Imp Q' (fun v H => ∃ S, Own S H ∧ Q' v S) := fun v S H o q => ⟨S, o, q⟩
structure sEnds where
  nx : St → SH → Prop
  rt : V → SH → Prop
  bk : St → SH → Prop := fun _ _ => False
  ct : St → SH → Prop := fun _ _ => False
  ex : sWX := fun _ _ _ _ => False
abbrev sS := sEnds → St → SH → Prop
structure EImp (W : WX) (D' : sEnds) (D : Ends) : Prop where
  nx : Imp D'.nx D.nx
  rt : Imp D'.rt D.rt
  bk : Imp D'.bk D.bk
  ct : Imp D'.ct D.ct
  ex : ImpW D'.ex W
def dS (W : WX) (t : sS) : TS := fun D σ H => ∃ S D', Own S H ∧ t D' σ S ∧ EImp W D' D
theorem imp_no {α : Type} {Q : α → Hp → Prop} : Imp (fun _ _ => False) Q := fun _ _ _ _ q => q.elim

section
variable {X : Cx} {W : WX}
theorem PE.by {e : Expr} {t t' : TE} (h : PE X e t) (k : ∀ σ H Q, t' σ H Q → t σ H Q) : PE X e t' := ⟨fun pins s σ H Q I q => h.run pins s σ H Q I (k σ H Q q)⟩
theorem PT.by {e : Expr} {t t' : TT} (h : PT X e t) (k : ∀ σ H Q, t' σ H Q → t σ H Q) : PT X e t' := ⟨fun pins s σ H Q I q => h.run pins s σ H Q I (k σ H Q q)⟩
theorem PW.by {e : Expr} {t t' : TT} (h : PW X e t) (k : ∀ σ H Q, t' σ H Q → t σ H Q) : PW X e t' := ⟨fun wh pins s σ H Q I q => h.run wh pins s σ H Q I (k σ H Q q)⟩
theorem PA.by {e : List Expr} {t t' : TA} (h : PA X e t) (k : ∀ σ H Q, t' σ H Q → t σ H Q) : PA X e t' := ⟨fun pos pins s σ H Q I q => h.run pos pins s σ H Q I (k σ H Q q)⟩
theorem PK.by {e : List Keyword} {t t' : TA} (h : PK X e t) (k : ∀ σ H Q, t' σ H Q → t σ H Q) : PK X e t' := ⟨fun pos pins s σ H Q I q => h.run pos pins s σ H Q I (k σ H Q q)⟩
theorem PS.by {e : Stmt} {t t' : TS} (h : PS X e t) (k : ∀ D σ H, t' D σ H → t D σ H) : PS X e t' := ⟨fun pins s σ H Q I q => h.run pins s σ H Q I (k _ _ _ q)⟩
theorem PSs.by {e : List Stmt} {t t' : TS} (h : PSs X e t) (k : ∀ D σ H, t' D σ H → t D σ H) : PSs X e t' := ⟨fun pins s σ H Q I q => h.run pins s σ H Q I (k _ _ _ q)⟩

/-! ### names and constants -/
def sVar (i : Nat) : sE := fun _ σ S Q => match σ[i]? with
  | some (some v) => Q v S
  | _ => False
def sC (v : V) : sE := fun _ _ S Q => Q v S
theorem gVar {i : Nat} {x : Str} {pos : Pos} (hN : X.N[i]? = some x) (hv : Vis X.env.scope x) (hd : (x == ("__debug__" : Str)) = false := by decide) (hcd : (x == ("__classdict__" : Str)) = false := by decide) : PE X (.Name x pos) (dE W (sVar i)) :=
  PE.by (pe_var hN hv hd hcd) fun σ H Q ⟨S, Q', W', kw, o, h, k⟩ => by
    unfold sVar at h
    unfold tVar
    split at h
    · rename_i v e
      exact ⟨v, e, k v S H o h⟩
    · exact h.elim
theorem gC_of {e : Expr} {v : V} (h : PE X e (tC v)) : PE X e (dE W (sC v)) := PE.by h fun σ H Q ⟨S, Q', W', kw, o, h, k⟩ => k v S H o h
theorem gInt {i j pos} : PE X (.Constant (.int i) j pos) (dE W (sC (.int i))) := gC_of pe_int
theorem gBl {b j pos} : PE X (.Constant (.bool b) j pos) (dE W (sC (.bl b))) := gC_of pe_bl
theorem gNon {j pos} : PE X (.Constant .none j pos) (dE W (sC .non)) := gC_of pe_non
theorem gStr {x j pos} : PE X (.Constant (.str x) j pos) (dE W (sC (.str x))) := gC_of pe_str

/-! ### operators -/
def sOp (r : s2) (ta tb : sE) : sE := fun W σ S Q => ta W σ S fun x S1 => tb W σ S1 fun y S2 => r x y S2 Q
def Lift2 (r : s2) (R : R2) : Prop := ∀ x y S Q' H Q, Own S H → r x y S Q' → Imp Q' Q → R x y H Q
theorem lift_op {r : s2} {R : R2} (l : Lift2 r R) {ta tb : sE} : ∀ σ H Q, dE W (sOp r ta tb) σ H Q → tOp R (dE W ta) (dE W tb) σ H Q := fun σ H Q ⟨S, Q', W', kw, o, h, k⟩ =>
  ⟨S, _, W', kw, o, h, fun x S1 H1 o1 h1 => ⟨S1, _, W', kw, o1, h1, fun y S2 H2 o2 h2 => l x y S2 Q' H2 Q o2 h2 k⟩⟩
variable {a b c : Expr} {ta tb tc : sE} {pos : Pos}
theorem gOp {op : Operator} {r : s2} {R : R2} (ho : OpR X (binaryOp op) R) (l : Lift2 r R) (ha : PE X a (dE W ta)) (hb : PE X b (dE W tb)) : PE X (.BinOp a op b pos) (dE W (sOp r ta tb)) :=
  PE.by (pe_op ho ha hb) (lift_op l)
theorem gCmp {op : CmpOp} {r : s2} {R : R2} (ho : OpR X (compareOp op) R) (l : Lift2 r R) (ha : PE X a (dE W ta)) (hb : PE X b (dE W tb)) (hm : behindInMarks op b = false) : PE X (.Compare a [op] [b] pos) (dE W (sOp r ta tb)) :=
  PE.by (pe_cmpR ho ha hb hm) (lift_op l)
def s1Op (r : s1) (ta : sE) : sE := fun W σ S Q => ta W σ S fun x S1 => r x S1 Q
def Lift1 (r : s1) (R : V → Hp → VK → Prop) : Prop := ∀ x S Q' H Q, Own S H → r x S Q' → Imp Q' Q → R x H Q
theorem gUn {op : UnaryOp} {r : s1} {R : V → Hp → VK → Prop} (ho : UnR X (unaryOp op) R) (l : Lift1 r R) (ha : PE X a (dE W ta)) : PE X (.UnaryOp op a pos) (dE W (s1Op r ta)) :=
  PE.by (pe_un ho ha) fun σ H Q ⟨S, Q', W', kw, o, h, k⟩ => ⟨S, _, W', kw, o, h, fun x S1 H1 o1 h1 => l x S1 Q' H1 Q o1 h1 k⟩

/-- + -/
def oAdd : s2 := fun x y S Q => match x, y with
  | .int i, .int j => Q (.int (i + j)) S
  | .str u, .str v => u.length + v.length ≤ sizeLine ∧ Q (.str (u ++ v)) S
  | .ref p, .ref q => ∃ xs ys, At S p (.lst xs) ∧ At S q (.lst ys) ∧ xs.length + ys.length ≤ sizeLine ∧ ∀ r, Q (.ref r) (S.new r (.lst (xs ++ ys)))
  | _, _ => False
theorem lAdd : Lift2 oAdd (fun x y H Q => (rI0 fun i j => .int (i + j)) x y H Q ∨ ((fun x y H Q => ∃ i j, x = .str i ∧ y = .str j ∧ i.length + j.length ≤ sizeLine ∧ Q (.str (i ++ j)) H) x y H Q ∨ rCat x y H Q)) := by
  intro x y S Q' H Q o h k
  unfold oAdd at h
  split at h
  · exact .inl ⟨_, _, rfl, rfl, k _ _ _ o h⟩
  · exact .inr (.inl ⟨_, _, rfl, rfl, h.1, k _ _ _ o h.2⟩)
  · obtain ⟨xs, ys, h1, h2, h3, h4⟩ := h
    exact .inr (.inr ⟨_, _, xs, ys, rfl, rfl, o.at h1, o.at h2, h3, fun p hp => k _ _ _ (o.newU hp) (h4 p)⟩)
  · exact h.elim
theorem gAdd (ha : PE X a (dE W ta)) (hb : PE X b (dE W tb)) : PE X (.BinOp a .Add b pos) (dE W (sOp oAdd ta tb)) := gOp (OpR.or op_add (OpR.or op_add_str op_cat)) lAdd ha hb
def oSub : s2 := fun x y S Q => match x, y with
  | .int i, .int j => Q (.int (i - j)) S
  | _, _ => False
theorem lSub : Lift2 oSub (rI0 fun i j => .int (i - j)) := by
  intro x y S Q' H Q o h k
  unfold oSub at h
  split at h
  · exact ⟨_, _, rfl, rfl, k _ _ _ o h⟩
  · exact h.elim
theorem gSub (ha : PE X a (dE W ta)) (hb : PE X b (dE W tb)) : PE X (.BinOp a .Sub b pos) (dE W (sOp oSub ta tb)) := gOp op_sub lSub ha hb
def sm64 (i : Int) : Prop := -(2 ^ 64) < i ∧ i < 2 ^ 64
def oMul : s2 := fun x y S Q => match x, y with
  | .int i, .int j => (sm64 i ∨ sm64 j) ∧ Q (.int (i * j)) S
  | .ref p, .int k => ∃ xs, At S p (.lst xs) ∧ (-(2 ^ 63) ≤ k ∧ k < 2 ^ 63) ∧ xs.length * k.toNat ≤ sizeLine ∧ ∀ r, Q (.ref r) (S.new r (.lst (List.replicate k.toNat xs).flatten))
  | _, _ => False
theorem lMul : Lift2 oMul (fun x y H Q => (rI CMul fun i j => .int (i * j)) x y H Q ∨ rRep x y H Q) := by
  intro x y S Q' H Q o h k
  unfold oMul at h
  split at h
  · exact .inl ⟨_, _, rfl, rfl, h.1, k _ _ _ o h.2⟩
  · obtain ⟨xs, h1, h2, h3, h4⟩ := h
    exact .inr ⟨_, _, xs, rfl, rfl, o.at h1, h2.1, h2.2, h3, fun p hp => k _ _ _ (o.newU hp) (h4 p)⟩
  · exact h.elim
theorem gMul (ha : PE X a (dE W ta)) (hb : PE X b (dE W tb)) : PE X (.BinOp a .Mult b pos) (dE W (sOp oMul ta tb)) := gOp (OpR.or op_mul op_rep) lMul ha hb
/-- an operator of two ints -/
def oI (C : Int → Int → Prop) (g : Int → Int → V) : s2 := fun x y S Q => match x, y with
  | .int i, .int j => C i j ∧ Q (g i j) S
  | _, _ => False
theorem lI {C : Int → Int → Prop} {g : Int → Int → V} : Lift2 (oI C g) (rI C g) := by
  intro x y S Q' H Q o h k
  unfold oI at h
  split at h
  · exact ⟨_, _, rfl, rfl, h.1, k _ _ _ o h.2⟩
  · exact h.elim
def oFdv : s2 := oI CDiv fun i j => .int (i / j)
def oMod : s2 := oI (fun _ j => 0 < j) fun i j => .int (i % j)
def oPow : s2 := oI CPow fun i j => .int (i ^ j.toNat)
theorem gFdv (ha : PE X a (dE W ta)) (hb : PE X b (dE W tb)) : PE X (.BinOp a .FloorDiv b pos) (dE W (sOp oFdv ta tb)) := gOp op_fdiv lI ha hb
theorem gMod (ha : PE X a (dE W ta)) (hb : PE X b (dE W tb)) : PE X (.BinOp a .Mod b pos) (dE W (sOp oMod ta tb)) := gOp op_mod lI ha hb
theorem gPow (ha : PE X a (dE W ta)) (hb : PE X b (dE W tb)) : PE X (.BinOp a .Pow b pos) (dE W (sOp oPow ta tb)) := gOp op_pow lI ha hb
def oNeg : s1 := fun x S Q => match x with
  | .int i => Q (.int (-i)) S
  | _ => False
theorem lNeg : Lift1 oNeg (rU fun i => .int (-i)) := by
  intro x S Q' H Q o h k
  unfold oNeg at h
  split at h
  · exact ⟨_, rfl, k _ _ _ o h⟩
  · exact h.elim
theorem gNeg (ha : PE X a (dE W ta)) : PE X (.UnaryOp .USub a pos) (dE W (s1Op oNeg ta)) := gUn un_neg lNeg ha

/-! ### comparisons -/
/-- data that stands: by any heap -/
def sD (K : PySem.W.Frag) (S : SH) (x : V) (d : PyData) : Prop := ∀ H, Own S H → Dp K H x d
def isRef : V → Bool
  | .ref _ => true
  | _ => false
def oEq (K : PySem.W.Frag) : s2 := fun x y S Q => if scal x y then Q (.bl (decide (x = y))) S else
  ∃ d e, sD K S x d ∧ sD K S y e ∧ SeqAt.shaped d = true ∧ SeqAt.shaped e = true ∧ Q (.bl (PyData.eqv d e)) S
def oNe (K : PySem.W.Frag) : s2 := fun x y S Q => if scal x y then Q (.bl (!decide (x = y))) S else
  ∃ d e, sD K S x d ∧ sD K S y e ∧ SeqAt.shaped d = true ∧ SeqAt.shaped e = true ∧ Q (.bl (!PyData.eqv d e)) S
theorem lEq {K : PySem.W.Frag} : Lift2 (oEq K) (fun x y H Q => rEq x y H Q ∨ rEqD K x y H Q) := by
  intro x y S Q' H Q o h k
  unfold oEq at h
  split at h
  · rename_i e
    exact .inl ⟨e, k _ _ _ o h⟩
  · obtain ⟨d, e, h1, h2, h3, h4, h5⟩ := h
    exact .inr ⟨d, e, h1 H o, h2 H o, h3, h4, k _ _ _ o h5⟩
theorem lNe {K : PySem.W.Frag} : Lift2 (oNe K) (fun x y H Q => rNe x y H Q ∨ rNeD K x y H Q) := by
  intro x y S Q' H Q o h k
  unfold oNe at h
  split at h
  · rename_i e
    exact .inl ⟨e, k _ _ _ o h⟩
  · obtain ⟨d, e, h1, h2, h3, h4, h5⟩ := h
    exact .inr ⟨d, e, h1 H o, h2 H o, h3, h4, k _ _ _ o h5⟩
theorem gEq (hu : X.A.units + 64 < cLine) (ha : PE X a (dE W ta)) (hb : PE X b (dE W tb)) : PE X (.Compare a [.Eq] [b] pos) (dE W (sOp (oEq X.K) ta tb)) := gCmp (OpR.or op_eq (op_eqD hu)) lEq ha hb (nomark _)
theorem gNe (hu : X.A.units + 64 < cLine) (ha : PE X a (dE W ta)) (hb : PE X b (dE W tb)) : PE X (.Compare a [.NotEq] [b] pos) (dE W (sOp (oNe X.K) ta tb)) := gCmp (OpR.or op_ne (op_neD hu)) lNe ha hb (nomark _)
/-- an order: of ints, of texts -/
def oOrd (f : Int → Int → Bool) (g : Str → Str → Bool) : s2 := fun x y S Q => match x, y with
  | .int i, .int j => Q (.bl (f i j)) S
  | .str i, .str j => Q (.bl (g i j)) S
  | _, _ => False
theorem lOrd {f : Int → Int → Bool} {g : Str → Str → Bool} : Lift2 (oOrd f g) (fun x y H Q => (rI0 fun i j => .bl (f i j)) x y H Q ∨ (fun x y H Q => ∃ i j, x = .str i ∧ y = .str j ∧ Q (.bl (g i j)) H) x y H Q) := by
  intro x y S Q' H Q o h k
  unfold oOrd at h
  split at h
  · exact .inl ⟨_, _, rfl, rfl, k _ _ _ o h⟩
  · exact .inr ⟨_, _, rfl, rfl, k _ _ _ o h⟩
  · exact h.elim
def oLt : s2 := oOrd (fun i j => decide (i < j)) (fun i j => decide (i.cps.toList < j.cps.toList))
def oLe : s2 := oOrd (fun i j => decide (i ≤ j)) (fun i j => !decide (j.cps.toList < i.cps.toList))
def oGt : s2 := oOrd (fun i j => decide (j < i)) (fun i j => decide (j.cps.toList < i.cps.toList))
def oGe : s2 := oOrd (fun i j => decide (j ≤ i)) (fun i j => !decide (i.cps.toList < j.cps.toList))
theorem gLt (ha : PE X a (dE W ta)) (hb : PE X b (dE W tb)) : PE X (.Compare a [.Lt] [b] pos) (dE W (sOp oLt ta tb)) := gCmp (OpR.or op_lt op_lt_str) lOrd ha hb (nomark _)
theorem gLe (ha : PE X a (dE W ta)) (hb : PE X b (dE W tb)) : PE X (.Compare a [.LtE] [b] pos) (dE W (sOp oLe ta tb)) := gCmp (OpR.or op_le op_le_str) lOrd ha hb (nomark _)
theorem gGt (ha : PE X a (dE W ta)) (hb : PE X b (dE W tb)) : PE X (.Compare a [.Gt] [b] pos) (dE W (sOp oGt ta tb)) := gCmp (OpR.or op_gt op_gt_str) lOrd ha hb (nomark _)
theorem gGe (ha : PE X a (dE W ta)) (hb : PE X b (dE W tb)) : PE X (.Compare a [.GtE] [b] pos) (dE W (sOp oGe ta tb)) := gCmp (OpR.or op_ge op_ge_str) lOrd ha hb (nomark _)
/-- is None, is not None -/
def oIsN : s2 := fun x y S Q => match y with
  | .non => Q (.bl (decide (x = .non))) S
  | _ => False
def oNotN : s2 := fun x y S Q => match y with
  | .non => Q (.bl (!decide (x = .non))) S
  | _ => False
theorem lIsN : Lift2 oIsN (fun x y H Q => y = .non ∧ Q (.bl (decide (x = .non))) H) := by
  intro x y S Q' H Q o h k
  unfold oIsN at h
  split at h
  · exact ⟨rfl, k _ _ _ o h⟩
  · exact h.elim
theorem lNotN : Lift2 oNotN (fun x y H Q => y = .non ∧ Q (.bl (!decide (x = .non))) H) := by
  intro x y S Q' H Q o h k
  unfold oNotN at h
  split at h
  · exact ⟨rfl, k _ _ _ o h⟩
  · exact h.elim
theorem gIsN (ha : PE X a (dE W ta)) (hb : PE X b (dE W tb)) : PE X (.Compare a [.Is] [b] pos) (dE W (sOp oIsN ta tb)) := gCmp op_isN lIsN ha hb (nomark _)
theorem gNotN (ha : PE X a (dE W ta)) (hb : PE X b (dE W tb)) : PE X (.Compare a [.IsNot] [b] pos) (dE W (sOp oNotN ta tb)) := gCmp op_notN lNotN ha hb (nomark _)
/-- in, not in: a text in a text; a flat thing in a list, a tuple of flat things -/
def oIn (K : PySem.W.Frag) (neg : Bool) : s2 := fun x y S Q => match y with
  | .str j => match x with
    | .str i => Q (.bl (if neg then !(!(Builtin.Str.occurrences j i 0 j.length 1).isEmpty) else !(Builtin.Str.occurrences j i 0 j.length 1).isEmpty)) S
    | _ => False
  | .ref p => ∃ xs, (sL K S p xs ∨ sU K S p xs) ∧ flatV x = true ∧ xs.all flatV = true ∧ Q (.bl (if neg then !inV x xs else inV x xs)) S
  | _ => False
theorem lIn {K : PySem.W.Frag} : Lift2 (oIn K false) (fun x y H Q => (fun x y H Q => ∃ i j, x = .str i ∧ y = .str j ∧ Q (.bl (!(Builtin.Str.occurrences j i 0 j.length 1).isEmpty)) H) x y H Q ∨ rIn K false x y H Q) := by
  intro x y S Q' H Q o h k
  unfold oIn at h
  split at h
  · split at h
    · exact .inl ⟨_, _, rfl, rfl, k _ _ _ o h⟩
    · exact h.elim
  · obtain ⟨xs, h1, h2, h3, h4⟩ := h
    exact .inr ⟨_, xs, rfl, h1.elim (fun z => .inl (o.l z)) (fun z => .inr (o.u z)), h2, h3, k _ _ _ o h4⟩
  · exact h.elim
theorem lNotIn {K : PySem.W.Frag} : Lift2 (oIn K true) (fun x y H Q => (fun x y H Q => ∃ i j, x = .str i ∧ y = .str j ∧ Q (.bl (!(!(Builtin.Str.occurrences j i 0 j.length 1).isEmpty))) H) x y H Q ∨ rIn K true x y H Q) := by
  intro x y S Q' H Q o h k
  unfold oIn at h
  split at h
  · split at h
    · exact .inl ⟨_, _, rfl, rfl, k _ _ _ o h⟩
    · exact h.elim
  · obtain ⟨xs, h1, h2, h3, h4⟩ := h
    exact .inr ⟨_, xs, rfl, h1.elim (fun z => .inl (o.l z)) (fun z => .inr (o.u z)), h2, h3, k _ _ _ o h4⟩
  · exact h.elim
theorem gIn (ha : PE X a (dE W ta)) (hb : PE X b (dE W tb)) (hm : behindInMarks .In b = false) : PE X (.Compare a [.In] [b] pos) (dE W (sOp (oIn X.K false) ta tb)) := gCmp (OpR.or op_in_str op_in_seq) lIn ha hb hm
theorem gNotIn (ha : PE X a (dE W ta)) (hb : PE X b (dE W tb)) (hm : behindInMarks .NotIn b = false) : PE X (.Compare a [.NotIn] [b] pos) (dE W (sOp (oIn X.K true) ta tb)) := gCmp (OpR.or op_notin_str op_notIn_seq) lNotIn ha hb hm
/-- a < b < c -/
def sChain (r r' : s2) (ta tb tc : sE) : sE := fun W σ S Q => ta W σ S fun x S1 => tb W σ S1 fun y S2 => r x y S2 fun z S3 => match z with
  | .bl true => tc W σ S3 fun w S4 => r' y w S4 Q
  | .bl false => Q (.bl false) S3
  | _ => False
theorem gChain {op op' : CmpOp} {r r' : s2} {R R' : R2} (ho : OpR X (compareOp op) R) (ho' : OpR X (compareOp op') R') (l : Lift2 r R) (l' : Lift2 r' R') (ha : PE X a (dE W ta)) (hb : PE X b (dE W tb)) (hc : PE X c (dE W tc))
    (hm : lastMarks [op, op'] [b, c] = false := by with_unfolding_all rfl) : PE X (.Compare a [op, op'] [b, c] pos) (dE W (sChain r r' ta tb tc)) :=
  PE.by (pe_chain ho ho' ha hb hc hm) fun σ H Q ⟨S, Q', W', kw, o, h, k⟩ => ⟨S, _, W', kw, o, h, fun x S1 H1 o1 h1 => ⟨S1, _, W', kw, o1, h1, fun y S2 H2 o2 h2 => l x y S2 _ H2 _ o2 h2 fun z S3 H3 o3 h3 => by
    split at h3
    · refine ⟨true, rfl, ?_⟩
      rw [if_pos rfl]
      exact ⟨S3, _, W', kw, o3, h3, fun w S4 H4 o4 h4 => l' y w S4 Q' H4 Q o4 h4 k⟩
    · refine ⟨false, rfl, ?_⟩
      rw [if_neg Bool.false_ne_true]
      exact k _ _ _ o3 h3
    · exact h3.elim⟩⟩

/-! ### tests -/
def sTst (t : sE) : sT := fun W σ S Q => t W σ S fun x S1 => match x with
  | .bl b => Q b S1
  | _ => False
theorem gTst {e : Expr} {t : sE} (h : PE X e (dE W t)) (he : ∀ whole, isTrue e X.env whole = (do let v ← whole; standAt e.pos; holding [v] (truthy v)) := by intro _; rfl) : PT X e (dT W (sTst t)) :=
  PT.by (pt_val h he) fun σ H Q ⟨S, Q', W', kw, o, h, k⟩ => ⟨S, _, W', kw, o, h, fun x S1 H1 o1 h1 => by
    split at h1
    · exact ⟨_, rfl, k _ _ _ o1 h1⟩
    · exact h1.elim⟩
theorem gTcmp {op : CmpOp} {r : s2} {R : R2} (ho : OpR X (compareOp op) R) (l : Lift2 r R) (ha : PE X a (dE W ta)) (hb : PE X b (dE W tb)) (hm : behindInMarks op b = false) : PT X (.Compare a [op] [b] pos) (dT W (sTst (sOp r ta tb))) :=
  PT.by (pt_cmpR ho ha hb hm) fun σ H Q ⟨S, Q', W', kw, o, h, k⟩ => ⟨S, _, W', kw, o, h, fun x S1 H1 o1 h1 => ⟨S1, _, W', kw, o1, h1, fun y S2 H2 o2 h2 => l x y S2 _ H2 _ o2 h2 fun z S3 H3 o3 h3 => by
    split at h3
    · exact ⟨_, rfl, k _ _ _ o3 h3⟩
    · exact h3.elim⟩⟩
theorem gTchain {op op' : CmpOp} {r r' : s2} {R R' : R2} (ho : OpR X (compareOp op) R) (ho' : OpR X (compareOp op') R') (l : Lift2 r R) (l' : Lift2 r' R') (ha : PE X a (dE W ta)) (hb : PE X b (dE W tb)) (hc : PE X c (dE W tc))
    (hm : lastMarks [op, op'] [b, c] = false := by with_unfolding_all rfl) : PT X (.Compare a [op, op'] [b, c] pos) (dT W (sTst (sChain r r' ta tb tc))) :=
  PT.by (pt_chain ho ho' ha hb hc hm) fun σ H Q ⟨S, Q', W', kw, o, h, k⟩ => ⟨S, _, W', kw, o, h, fun x S1 H1 o1 h1 => ⟨S1, _, W', kw, o1, h1, fun y S2 H2 o2 h2 => l x y S2 _ H2 _ o2 h2 fun z S3 H3 o3 h3 => by
    split at h3
    · refine ⟨true, rfl, ?_⟩
      rw [if_pos rfl]
      exact ⟨S3, _, W', kw, o3, h3, fun w S4 H4 o4 h4 => l' y w S4 _ H4 _ o4 h4 fun z' S5 H5 o5 h5 => by
        split at h5
        · exact ⟨_, rfl, k _ _ _ o5 h5⟩
        · exact h5.elim⟩
    · refine ⟨false, rfl, ?_⟩
      rw [if_neg Bool.false_ne_true]
      exact ⟨false, rfl, k _ _ _ o3 h3⟩
    · exact h3.elim⟩⟩
theorem gTEq (hu : X.A.units + 64 < cLine) (ha : PE X a (dE W ta)) (hb : PE X b (dE W tb)) : PT X (.Compare a [.Eq] [b] pos) (dT W (sTst (sOp (oEq X.K) ta tb))) := gTcmp (OpR.or op_eq (op_eqD hu)) lEq ha hb (nomark _)
theorem gTNe (hu : X.A.units + 64 < cLine) (ha : PE X a (dE W ta)) (hb : PE X b (dE W tb)) : PT X (.Compare a [.NotEq] [b] pos) (dT W (sTst (sOp (oNe X.K) ta tb))) := gTcmp (OpR.or op_ne (op_neD hu)) lNe ha hb (nomark _)
theorem gTLt (ha : PE X a (dE W ta)) (hb : PE X b (dE W tb)) : PT X (.Compare a [.Lt] [b] pos) (dT W (sTst (sOp oLt ta tb))) := gTcmp (OpR.or op_lt op_lt_str) lOrd ha hb (nomark _)
theorem gTLe (ha : PE X a (dE W ta)) (hb : PE X b (dE W tb)) : PT X (.Compare a [.LtE] [b] pos) (dT W (sTst (sOp oLe ta tb))) := gTcmp (OpR.or op_le op_le_str) lOrd ha hb (nomark _)
theorem gTGt (ha : PE X a (dE W ta)) (hb : PE X b (dE W tb)) : PT X (.Compare a [.Gt] [b] pos) (dT W (sTst (sOp oGt ta tb))) := gTcmp (OpR.or op_gt op_gt_str) lOrd ha hb (nomark _)
theorem gTGe (ha : PE X a (dE W ta)) (hb : PE X b (dE W tb)) : PT X (.Compare a [.GtE] [b] pos) (dT W (sTst (sOp oGe ta tb))) := gTcmp (OpR.or op_ge op_ge_str) lOrd ha hb (nomark _)
theorem gTIsN (ha : PE X a (dE W ta)) (hb : PE X b (dE W tb)) : PT X (.Compare a [.Is] [b] pos) (dT W (sTst (sOp oIsN ta tb))) := gTcmp op_isN lIsN ha hb (nomark _)
theorem gTNotN (ha : PE X a (dE W ta)) (hb : PE X b (dE W tb)) : PT X (.Compare a [.IsNot] [b] pos) (dT W (sTst (sOp oNotN ta tb))) := gTcmp op_notN lNotN ha hb (nomark _)
theorem gTIn (ha : PE X a (dE W ta)) (hb : PE X b (dE W tb)) (hm : behindInMarks .In b = false) : PT X (.Compare a [.In] [b] pos) (dT W (sTst (sOp (oIn X.K false) ta tb))) := gTcmp (OpR.or op_in_str op_in_seq) lIn ha hb hm
theorem gTNotIn (ha : PE X a (dE W ta)) (hb : PE X b (dE W tb)) (hm : behindInMarks .NotIn b = false) : PT X (.Compare a [.NotIn] [b] pos) (dT W (sTst (sOp (oIn X.K true) ta tb))) := gTcmp (OpR.or op_notin_str op_notIn_seq) lNotIn ha hb hm
/-- truth of any value -/
def oTru (K : PySem.W.Frag) (x : V) (S : SH) (Q : Bool → SH → Prop) : Prop := match x with
  | .non => Q false S
  | .bl b => Q b S
  | .int i => Q (i != 0) S
  | .str y => y.length ≤ sizeLine ∧ Q ((y.length : Int) != 0) S
  | .ref p => (∃ xs, sL K S p xs ∧ Q (!xs.isEmpty) S) ∨ (∃ xs, sU K S p xs ∧ Q (!xs.isEmpty) S) ∨ ∃ kvs, At S p (.dK kvs) ∧ Q (!kvs.isEmpty) S
  | _ => False
theorem lTru {K : PySem.W.Frag} {x : V} {S : SH} {Q' : Bool → SH → Prop} {H : Hp} {Q : Bool → Hp → Prop} (o : Own S H) (h : oTru K x S Q') (k : Imp Q' Q) : ∃ b, TruV K x H b ∧ Q b H := by
  unfold oTru at h
  unfold TruV
  cases x with
  | non => exact ⟨_, rfl, k _ _ _ o h⟩
  | bl b => exact ⟨_, rfl, k _ _ _ o h⟩
  | int i => exact ⟨_, rfl, k _ _ _ o h⟩
  | str y => exact ⟨_, ⟨h.1, rfl⟩, k _ _ _ o h.2⟩
  | ref p =>
    rcases h with ⟨xs, h1, h2⟩ | ⟨xs, h1, h2⟩ | ⟨kvs, h1, h2⟩
    · exact ⟨_, .inl ⟨xs, o.l h1, rfl⟩, k _ _ _ o h2⟩
    · exact ⟨_, .inr (.inl ⟨xs, o.u h1, rfl⟩), k _ _ _ o h2⟩
    · exact ⟨_, .inr (.inr ⟨kvs, o.at h1, rfl⟩), k _ _ _ o h2⟩
  | byt y => exact h.elim
  | flt y => exact h.elim
  | ty y => exact h.elim
def sTru (K : PySem.W.Frag) (t : sE) : sT := fun W σ S Q => t W σ S fun x S1 => oTru K x S1 Q
theorem gTru {e : Expr} {t : sE} (h : PE X e (dE W t)) (he : ∀ whole, isTrue e X.env whole = (do let v ← whole; standAt e.pos; holding [v] (truthy v)) := by intro _; rfl) : PT X e (dT W (sTru X.K t)) :=
  PT.by (pt_truth h he) fun σ H Q ⟨S, Q', W', kw, o, h, k⟩ => ⟨S, _, W', kw, o, h, fun x S1 H1 o1 h1 => lTru o1 h1 k⟩
variable {tA tB : sT} {rest : List Expr}
def sAnd (t u : sT) : sT := fun W σ S Q => t W σ S fun c S1 => match c with
    | true => u W σ S1 Q
    | false => Q false S1
def sOr (t u : sT) : sT := fun W σ S Q => t W σ S fun c S1 => match c with
    | true => Q true S1
    | false => u W σ S1 Q
def sNot (t : sT) : sT := fun W σ S Q => t W σ S fun c S1 => Q (!c) S1
theorem gAnd (ha : PT X a (dT W tA)) (hb : PW X (.BoolOp .And (b :: rest) pos) (dT W tB)) : PW X (.BoolOp .And (a :: b :: rest) pos) (dT W (sAnd tA tB)) :=
  PW.by (pw_and ha hb) fun σ H Q ⟨S, Q', W', kw, o, h, k⟩ => ⟨S, _, W', kw, o, h, fun c S1 H1 o1 h1 => by
    cases c with
    | true => exact ⟨S1, Q', W', kw, o1, h1, k⟩
    | false => exact k _ _ _ o1 h1⟩
theorem gOr (ha : PT X a (dT W tA)) (hb : PW X (.BoolOp .Or (b :: rest) pos) (dT W tB)) : PW X (.BoolOp .Or (a :: b :: rest) pos) (dT W (sOr tA tB)) :=
  PW.by (pw_or ha hb) fun σ H Q ⟨S, Q', W', kw, o, h, k⟩ => ⟨S, _, W', kw, o, h, fun c S1 H1 o1 h1 => by
    cases c with
    | false => exact ⟨S1, Q', W', kw, o1, h1, k⟩
    | true => exact k _ _ _ o1 h1⟩
theorem gTNot (ha : PT X a (dT W tA)) : PT X (.UnaryOp .Not a pos) (dT W (sNot tA)) :=
  PT.by (pt_not ha) fun σ H Q ⟨S, Q', W', kw, o, h, k⟩ => ⟨S, _, W', kw, o, h, fun c S1 H1 o1 h1 => k _ _ _ o1 h1⟩
/-- and, or, not as values of truth values -/
def sAndV (ta tb : sE) : sE := fun W σ S Q => ta W σ S fun x S1 => match x with
  | .bl true => tb W σ S1 Q
  | .bl false => Q (.bl false) S1
  | _ => False
def sOrV (ta tb : sE) : sE := fun W σ S Q => ta W σ S fun x S1 => match x with
  | .bl false => tb W σ S1 Q
  | .bl true => Q (.bl true) S1
  | _ => False
def sNotV (K : PySem.W.Frag) (ta : sE) : sE := fun W σ S Q => ta W σ S fun x S1 => oTru K x S1 fun k S2 => Q (.bl (!k)) S2
theorem gAndV (ha : PE X a (dE W ta)) (hb : PE X (.BoolOp .And (b :: rest) pos) (dE W tb)) : PE X (.BoolOp .And (a :: b :: rest) pos) (dE W (sAndV ta tb)) :=
  PE.by (pe_and ha hb) fun σ H Q ⟨S, Q', W', kw, o, h, k⟩ => ⟨S, _, W', kw, o, h, fun x S1 H1 o1 h1 => by
    split at h1
    · exact ⟨true, rfl, S1, Q', W', kw, o1, h1, k⟩
    · exact ⟨false, rfl, k _ _ _ o1 h1⟩
    · exact h1.elim⟩
theorem gOrV (ha : PE X a (dE W ta)) (hb : PE X (.BoolOp .Or (b :: rest) pos) (dE W tb)) : PE X (.BoolOp .Or (a :: b :: rest) pos) (dE W (sOrV ta tb)) :=
  PE.by (pe_or ha hb) fun σ H Q ⟨S, Q', W', kw, o, h, k⟩ => ⟨S, _, W', kw, o, h, fun x S1 H1 o1 h1 => by
    split at h1
    · exact ⟨false, rfl, S1, Q', W', kw, o1, h1, k⟩
    · exact ⟨true, rfl, k _ _ _ o1 h1⟩
    · exact h1.elim⟩
theorem gNotV (ha : PE X a (dE W ta)) : PE X (.UnaryOp .Not a pos) (dE W (sNotV X.K ta)) :=
  PE.by (pe_notT ha) fun σ H Q ⟨S, Q', W', kw, o, h, k⟩ => ⟨S, _, W', kw, o, h, fun x S1 H1 o1 h1 => lTru o1 h1 fun b S2 H2 o2 h2 => k _ _ _ o2 h2⟩
def sIf (t : sT) (ta tb : sE) : sE := fun W σ S Q => t W σ S fun c S1 => match c with
    | true => ta W σ S1 Q
    | false => tb W σ S1 Q
theorem gIfE {e : Expr} (ht : PT X e (dT W tA)) (ha : PE X a (dE W ta)) (hb : PE X b (dE W tb)) : PE X (.IfExp e a b pos) (dE W (sIf tA ta tb)) :=
  PE.by (pe_ifExp ht ha hb) fun σ H Q ⟨S, Q', W', kw, o, h, k⟩ => ⟨S, _, W', kw, o, h, fun c S1 H1 o1 h1 => by
    cases c with
    | true => exact ⟨S1, Q', W', kw, o1, h1, k⟩
    | false => exact ⟨S1, Q', W', kw, o1, h1, k⟩⟩

/-! ### argument lists, displays -/
variable {es : List Expr} {tas : sA}
def sNil : sA := fun _ _ S Q => Q [] S
def sCons (t : sE) (r : sA) : sA := fun W σ S Q => t W σ S fun x S1 => r W σ S1 fun xs S2 => Q (x :: xs) S2
theorem gNil : PA X [] (dA W sNil) := PA.by pa_nil fun σ H Q ⟨S, Q', W', kw, o, h, k⟩ => k _ _ _ o h
theorem gCons (ha : PE X a (dE W ta)) (hr : PA X es (dA W tas)) (hs : starEach (a :: es) X.env = (false, eval a X.env) :: starEach es X.env := by rfl) : PA X (a :: es) (dA W (sCons ta tas)) :=
  PA.by (pa_cons ha hr hs) fun σ H Q ⟨S, Q', W', kw, o, h, k⟩ => ⟨S, _, W', kw, o, h, fun x S1 H1 o1 h1 => ⟨S1, _, W', kw, o1, h1, fun xs S2 H2 o2 h2 => k _ _ _ o2 h2⟩⟩
def sTup (t : sA) : sE := fun W σ S Q => t W σ S fun xs S1 => xs.length ≤ sizeLine ∧ ∀ p, Q (.ref p) (S1.new p (.tup xs))
def sLst (t : sA) : sE := fun W σ S Q => t W σ S fun xs S1 => xs.length ≤ sizeLine ∧ ∀ p, Q (.ref p) (S1.new p (.lst xs))
theorem gTup {x1} (h : PA X es (dA W tas)) : PE X (.Tuple es x1 pos) (dE W (sTup tas)) :=
  PE.by (pe_tup h) fun σ H Q ⟨S, Q', W', kw, o, h, k⟩ => ⟨S, _, W', kw, o, h, fun xs S1 H1 o1 h1 => ⟨h1.1, fun p hp => k _ _ _ (o1.newU hp) (h1.2 p)⟩⟩
theorem gLst (h : PA X es (dA W tas)) : PE X (.List es pos) (dE W (sLst tas)) :=
  PE.by (pe_lst h) fun σ H Q ⟨S, Q', W', kw, o, h, k⟩ => ⟨S, _, W', kw, o, h, fun xs S1 H1 o1 h1 => ⟨h1.1, fun p hp => k _ _ _ (o1.newU hp) (h1.2 p)⟩⟩
def sCall1 (r : sN) (t : sA) : sE := fun W σ S Q => t W σ S fun vs S1 => r vs S1 Q
def LiftN (r : sN) (R : List V → Hp → VK → Prop) : Prop := ∀ vs S Q' H Q, Own S H → r vs S Q' → Imp Q' Q → R vs H Q
theorem gB {id : String} {x : Str} {p : Pos} {e : Expr} {r : sN} {R : List V → Hp → VK → Prop} (hc : CallR X (.builtin id) R) (l : LiftN r R) (hg : Gl X x) (hm : X.mg x = none) (hv : bootBuiltins x = some (.builtin id)) (ha : PA X (e :: es) (dA W tas)) (hn : x ≠ "__name__" := by decide) (hdb : (x == ("__debug__" : Str)) = false := by decide)
    (he : starEach (e :: es) X.env = (false, eval e X.env) :: starEach es X.env := by rfl) (hpl : (backTo pos (starEach es X.env)).any (·.1) = false := by rfl) : PE X (.Call (.Name x p) (e :: es) [] pos) (dE W (sCall1 r tas)) :=
  PE.by (pe_callB hc hg hm hv ha hn hdb he hpl) fun σ H Q ⟨S, Q', W', kw, o, h, k⟩ => ⟨S, _, W', kw, o, h, fun vs S1 H1 o1 h1 => l vs S1 Q' H1 Q o1 h1 k⟩
theorem gTy {T : String} {x : Str} {p : Pos} {e : Expr} {r : sN} {R : List V → Hp → VK → Prop} (hc : CallR X (.type T) R) (l : LiftN r R) (hg : Gl X x) (hm : X.mg x = none) (hv : bootBuiltins x = some (.type T)) (ha : PA X (e :: es) (dA W tas)) (hn : x ≠ "__name__" := by decide) (hdb : (x == ("__debug__" : Str)) = false := by decide)
    (he : starEach (e :: es) X.env = (false, eval e X.env) :: starEach es X.env := by rfl) (hpl : (backTo pos (starEach es X.env)).any (·.1) = false := by rfl) : PE X (.Call (.Name x p) (e :: es) [] pos) (dE W (sCall1 r tas)) :=
  PE.by (pe_callTy hc hg hm hv ha hn hdb he hpl) fun σ H Q ⟨S, Q', W', kw, o, h, k⟩ => ⟨S, _, W', kw, o, h, fun vs S1 H1 o1 h1 => l vs S1 Q' H1 Q o1 h1 k⟩
/-- len -/
def nLen (K : PySem.W.Frag) : sN := fun vs S Q => match vs with
  | [.str z] => z.length ≤ sizeLine ∧ Q (.int z.length) S
  | [.ref p] => ∃ xs, (sL K S p xs ∨ sU K S p xs) ∧ Q (.int xs.length) S
  | _ => False
theorem lLen {K : PySem.W.Frag} : LiftN (nLen K) (fun xs H Q => ∃ x n, xs = [x] ∧ LenV K x H n ∧ Q (.int n) H) := by
  intro vs S Q' H Q o h k
  unfold nLen at h
  split at h
  · exact ⟨_, _, rfl, ⟨h.1, rfl⟩, k _ _ _ o h.2⟩
  · obtain ⟨xs, h1, h2⟩ := h
    rcases h1 with h1 | h1
    · exact ⟨_, xs.length, rfl, .inl ⟨xs, o.l h1, rfl⟩, k _ _ _ o h2⟩
    · exact ⟨_, xs.length, rfl, .inr ⟨xs, o.u h1, rfl⟩, k _ _ _ o h2⟩
  · exact h.elim
/-- int, abs -/
def nInt : sN := fun vs S Q => match vs with
  | [.int i] => Q (.int i) S
  | [.bl b] => Q (.int (if b then 1 else 0)) S
  | _ => False
theorem lInt : LiftN nInt (fun xs H Q => (∃ i, xs = [.int i] ∧ Q (.int i) H) ∨ ∃ k, xs = [.bl k] ∧ Q (.int (if k then 1 else 0)) H) := by
  intro vs S Q' H Q o h k
  unfold nInt at h
  split at h
  · exact .inl ⟨_, rfl, k _ _ _ o h⟩
  · exact .inr ⟨_, rfl, k _ _ _ o h⟩
  · exact h.elim
def nAbs : sN := fun vs S Q => match vs with
  | [.int i] => Q (.int (if i < 0 then -i else i)) S
  | _ => False
theorem lAbs : LiftN nAbs (fun xs H Q => ∃ i, xs = [.int i] ∧ Q (.int (if i < 0 then -i else i)) H) := by
  intro vs S Q' H Q o h k
  unfold nAbs at h
  split at h
  · exact ⟨_, rfl, k _ _ _ o h⟩
  · exact h.elim
/-- sum of a list of ints -/
def nSum (K : PySem.W.Frag) : sN := fun vs S Q => match vs with
  | [.ref p] => ∃ ns : List Int, sL K S p (ns.map V.int) ∧ Q (.int ns.sum) S
  | _ => False
theorem lSum {K : PySem.W.Frag} : LiftN (nSum K) (rSum K) := by
  intro vs S Q' H Q o h k
  unfold nSum at h
  split at h
  · obtain ⟨ns, h1, h2⟩ := h
    exact ⟨_, ns, rfl, o.l h1, k _ _ _ o h2⟩
  · exact h.elim
/-- list(xs) -/
def nList (K : PySem.W.Frag) : sN := fun vs S Q => match vs with
  | [.ref p] => ∃ xs, (sL K S p xs ∨ sU K S p xs) ∧ ∀ r, Q (.ref r) (S.new r (.lst xs))
  | _ => False
theorem lList {K : PySem.W.Frag} : LiftN (nList K) (fun xs H Q => ∃ p ys, xs = [.ref p] ∧ (SqL K H p ys ∨ SqT K H p ys) ∧ ∀ l, H l = none → Q (.ref l) (upd H l (.lst ys))) := by
  intro vs S Q' H Q o h k
  unfold nList at h
  split at h
  · obtain ⟨xs, h1, h2⟩ := h
    exact ⟨_, xs, rfl, h1.elim (fun z => .inl (o.l z)) (fun z => .inr (o.u z)), fun l hl => k _ _ _ (o.newU hl) (h2 l)⟩
  · exact h.elim

/-! ### subscripts -/
def oIx (K : PySem.W.Frag) : s2 := fun x y S Q => match x, y with
  | .ref p, .int i => ∃ xs v, (sL K S p xs ∨ sU K S p xs) ∧ atI xs i = some v ∧ Q v S
  | .str z, .int i => z.length ≤ sizeLine ∧ ∃ c, atI z.cps.toList i = some c ∧ Q (.str ⟨#[c]⟩) S
  | _, _ => False
theorem lIx {K : PySem.W.Frag} : Lift2 (oIx K) (rIx K) := by
  intro x y S Q' H Q o h k
  unfold oIx at h
  split at h
  · obtain ⟨xs, v, h1, h2, h3⟩ := h
    rcases h1 with h1 | h1
    · exact .inl ⟨_, xs, _, v, rfl, rfl, o.l h1, h2, k _ _ _ o h3⟩
    · exact .inr (.inl ⟨_, xs, _, v, rfl, rfl, o.u h1, h2, k _ _ _ o h3⟩)
  · obtain ⟨hz, c, h2, h3⟩ := h
    exact .inr (.inr ⟨_, _, c, rfl, rfl, hz, h2, k _ _ _ o h3⟩)
  · exact h.elim
theorem gIx (ha : PE X a (dE W ta)) (hb : PE X b (dE W tb)) (hs : PlainIx b := by intro _ _; rfl) : PE X (.Subscript a b pos) (dE W (sOp (oIx X.K) ta tb)) :=
  PE.by (pe_ix ix_seq ha hb hs) (lift_op lIx)
/-- a slice's part -/
abbrev sO := sWX → St → SH → (Option Int → SH → Prop) → Prop
def dO (W : WX) (t : sO) : TO := fun σ H Q => ∃ S Q' W', ImpW W' W ∧ Own S H ∧ t W' σ S Q' ∧ Imp Q' Q
theorem PO.by {e : Option Expr} {t t' : TO} (h : PO X e t) (k : ∀ σ H Q, t' σ H Q → t σ H Q) : PO X e t' := ⟨fun pins s σ H Q I q => h.run pins s σ H Q I (k σ H Q q)⟩
def sNoP : sO := fun _ _ S Q => Q none S
def sPart (t : sE) : sO := fun W σ S Q => t W σ S fun x S1 => match x with
  | .int i => Q (some i) S1
  | _ => False
theorem gNoP : PO X none (dO W sNoP) := PO.by po_none fun σ H Q ⟨S, Q', W', kw, o, h, k⟩ => k _ _ _ o h
theorem gPart {e : Expr} {t : sE} (h : PE X e (dE W t)) : PO X (some e) (dO W (sPart t)) := PO.by (po_some h) fun σ H Q ⟨S, Q', W', kw, o, h, k⟩ => ⟨S, _, W', kw, o, h, fun x S1 H1 o1 h1 => by
  split at h1
  · exact ⟨_, rfl, k _ _ _ o1 h1⟩
  · exact h1.elim⟩
def oSl (K : PySem.W.Frag) (x : V) (lo hi : Option Int) (S : SH) (Q : V → SH → Prop) : Prop := match x with
  | .str z => z.length ≤ sizeLine ∧ Q (.str (cutS z lo hi)) S
  | .ref p => (∃ xs, sL K S p xs ∧ ∀ r, Q (.ref r) (S.new r (.lst (cutV xs lo hi)))) ∨
      ∃ xs, sU K S p xs ∧ ¬ (HT.sIx xs.length 0 lo = 0 ∧ HT.sIx xs.length xs.length hi = xs.length) ∧ ∀ r, Q (.ref r) (S.new r (.tup (cutV xs lo hi)))
  | _ => False
def sSl (K : PySem.W.Frag) (te : sE) (tl th : sO) : sE := fun W σ S Q => te W σ S fun x S1 => tl W σ S1 fun l S2 => th W σ S2 fun u S3 => oSl K x l u S3 Q
theorem gSl {lo hi : Option Expr} {tl th : sO} {p2 : Pos} (he : PE X a (dE W ta)) (hl : PO X lo (dO W tl)) (hu : PO X hi (dO W th)) : PE X (.Subscript a (.Slice lo hi none p2) pos) (dE W (sSl X.K ta tl th)) :=
  PE.by (pe_slice (SlR.or sl_str (SlR.or sl_list sl_tup)) he hl hu) fun σ H Q ⟨S, Q', W', kw, o, h, k⟩ => ⟨S, _, W', kw, o, h, fun x S1 H1 o1 h1 => ⟨S1, _, W', kw, o1, h1, fun l S2 H2 o2 h2 => ⟨S2, _, W', kw, o2, h2, fun u S3 H3 o3 h3 => by
    unfold oSl at h3
    split at h3
    · exact .inl ⟨_, rfl, h3.1, k _ _ _ o3 h3.2⟩
    · rcases h3 with ⟨xs, h3, h4⟩ | ⟨xs, h3, h5, h4⟩
      · exact .inr (.inl ⟨_, xs, rfl, o3.l h3, fun r hr => k _ _ _ (o3.newU hr) (h4 r)⟩)
      · exact .inr (.inr ⟨_, xs, rfl, o3.u h3, h5, fun r hr => k _ _ _ (o3.newU hr) (h4 r)⟩)
    · exact h3.elim⟩⟩⟩

/-! ### methods of built-in types -/
/-- o.m(args): r by the receiver and the arguments -/
abbrev sM := V → List V → SH → (V → SH → Prop) → Prop
def LiftM (r : sM) (R : V → List V → Hp → VK → Prop) : Prop := ∀ x vs S Q' H Q, Own S H → r x vs S Q' → Imp Q' Q → R x vs H Q
def sTy (K : PySem.W.Frag) (T : String) (x : V) (S : SH) : Prop := match x with
  | .str _ => T = "str"
  | .int _ => T = "int"
  | .ref p => (T = "list" ∧ ∃ xs, sL K S p xs) ∨ (T = "dict" ∧ ((∃ kvs, At S p (.dK kvs)) ∨ ∃ kvs, At S p (.dT kvs))) ∨ (T = "set" ∧ ∃ f n, At S p (.set f n))
  | _ => False
theorem Own.ty {K : PySem.W.Frag} {T : String} {x : V} {S : SH} {H : Hp} (o : Own S H) (h : sTy K T x S) : tyV K T x H := by
  unfold sTy at h
  unfold tyV
  cases x with
  | str _ => exact h
  | int _ => exact h
  | ref p =>
    rcases h with ⟨e, xs, h⟩ | ⟨e, h⟩ | ⟨e, f, n, h⟩
    · exact .inl ⟨e, xs, o.l h⟩
    · exact .inr (.inr (.inl ⟨e, h.elim (fun ⟨kvs, z⟩ => .inl ⟨kvs, o.at z⟩) (fun ⟨kvs, z⟩ => .inr ⟨kvs, o.at z⟩)⟩))
    · exact .inr (.inr (.inr ⟨e, f, n, o.at h⟩))
  | non => exact h.elim
  | bl _ => exact h.elim
  | byt _ => exact h.elim
  | flt _ => exact h.elim
  | ty _ => exact h.elim
def sMt (K : PySem.W.Frag) (T : String) (r : sM) (to : sE) (t : sA) : sE := fun W σ S Q => to W σ S fun x S1 => sTy K T x S1 ∧ t W σ S1 fun vs S2 => r x vs S2 Q
section
variable {o e : Expr} {to : sE} {name : Str} {apos cpos : Pos} {T id : String} {r : sM} {R : V → List V → Hp → VK → Prop}
theorem gM0 (pa : PlainAttrs T) (slot : Slot T name id) (hty : typeOf (.builtin id) = pure (.type "method_descriptor")) (hm : MtR X id R) (l : LiftM r R) (ho : PE X o (dE W to))
    (hbase : attributeBase o name X.env (eval o X.env) = eval o X.env := by rfl) (hline : (apos.endLine == cpos.line) = true := by rfl) : PE X (.Call (.Attribute o name apos) [] [] cpos) (dE W (sMt X.K T r to sNil)) :=
  PE.by (pe_bm0 pa slot hty hm ho hbase hline) fun σ H Q ⟨S, Q', W', kw, o, h, k⟩ => ⟨S, _, W', kw, o, h, fun x S1 H1 o1 h1 => ⟨o1.ty h1.1, l x [] S1 Q' H1 Q o1 h1.2 k⟩⟩
theorem gM (pa : PlainAttrs T) (slot : Slot T name id) (hty : typeOf (.builtin id) = pure (.type "method_descriptor")) (hm : MtR X id R) (l : LiftM r R) (ho : PE X o (dE W to)) (ha : PA X (e :: es) (dA W tas))
    (hbase : attributeBase o name X.env (eval o X.env) = eval o X.env := by rfl)
    (hfew : ((backTo cpos (starEach (e :: es) X.env)).all (fun x => !x.1) && (backToKw cpos (keywordEach [] X.env)).all (fun x => x.1.isSome)
      && decide ((e :: es).length + ([] : List Keyword).length + (if ([] : List Keyword).isEmpty then 0 else 1) < 30)) = true := by rfl)
    (hline : (apos.endLine == cpos.line) = true := by rfl) (hs : starEach (e :: es) X.env = (false, eval e X.env) :: starEach es X.env := by rfl) (hplain : (backTo cpos (starEach es X.env)).any (·.1) = false := by rfl) :
    PE X (.Call (.Attribute o name apos) (e :: es) [] cpos) (dE W (sMt X.K T r to tas)) :=
  PE.by (pe_bm pa slot hty hm ho ha hbase hfew hline hs hplain) fun σ H Q ⟨S, Q', W', kw, o, h, k⟩ => ⟨S, _, W', kw, o, h, fun x S1 H1 o1 h1 => ⟨o1.ty h1.1, ⟨S1, _, W', kw, o1, h1.2, fun vs S2 H2 o2 h2 => l x vs S2 Q' H2 Q o2 h2 k⟩⟩⟩
end
def mAppend : sM := fun x vs S Q => match x, vs with
  | .ref l, [y] => ∃ i xs, S.G[i]? = some (l, .lst xs) ∧ xs.length < sizeLine ∧ Q .non (S.put i l (.lst (xs ++ [y])))
  | _, _ => False
theorem lAppend : LiftM mAppend rAppend := by
  intro x vs S Q' H Q o h k
  unfold mAppend at h
  split at h
  · obtain ⟨i, xs, h1, h2, h3⟩ := h
    exact ⟨_, xs, _, rfl, rfl, o.g h1, h2, k _ _ _ (o.putU h1) h3⟩
  · exact h.elim
def mPop : sM := fun x vs S Q => match x, vs with
  | .ref l, [] => ∃ i xs y, S.G[i]? = some (l, .lst xs) ∧ xs[xs.length - 1]? = some y ∧ Q y (S.put i l (.lst xs.dropLast))
  | _, _ => False
theorem lPop : LiftM mPop rPop := by
  intro x vs S Q' H Q o h k
  unfold mPop at h
  split at h
  · obtain ⟨i, xs, y, h1, h2, h3⟩ := h
    exact ⟨_, xs, y, rfl, rfl, o.g h1, h2, k _ _ _ (o.putU h1) h3⟩
  · exact h.elim
def mPopAt : sM := fun x vs S Q => match x, vs with
  | .ref l, [.int j] => ∃ i xs k y, S.G[i]? = some (l, .lst xs) ∧ (-(2 ^ 63) ≤ j ∧ j < 2 ^ 63) ∧ seqIndex? j xs.length = some k ∧ xs[k]? = some y ∧ Q y (S.put i l (.lst (xs.eraseIdx k)))
  | _, _ => False
theorem lPopAt : LiftM mPopAt rPopAt := by
  intro x vs S Q' H Q o h k
  unfold mPopAt at h
  split at h
  · obtain ⟨i, xs, j, y, h1, h2, h3, h4, h5⟩ := h
    exact ⟨_, xs, _, j, y, rfl, rfl, o.g h1, h2.1, h2.2, h3, h4, k _ _ _ (o.putU h1) h5⟩
  · exact h.elim
def mExtend : sM := fun x vs S Q => match x, vs with
  | .ref l, [.ref b] => ∃ i xs zs, S.G[i]? = some (l, .lst xs) ∧ At S b (.lst zs) ∧ xs.length + zs.length ≤ sizeLine ∧ Q .non (S.put i l (.lst (xs ++ zs)))
  | _, _ => False
theorem lExtend : LiftM mExtend rExtend := by
  intro x vs S Q' H Q o h k
  unfold mExtend at h
  split at h
  · obtain ⟨i, xs, zs, h1, h2, h3, h4⟩ := h
    exact ⟨_, _, xs, zs, rfl, rfl, o.g h1, o.at h2, h3, k _ _ _ (o.putU h1) h4⟩
  · exact h.elim
def mReverse : sM := fun x vs S Q => match x, vs with
  | .ref l, [] => ∃ i xs, S.G[i]? = some (l, .lst xs) ∧ Q .non (S.put i l (.lst xs.reverse))
  | _, _ => False
theorem lReverse : LiftM mReverse rReverse := by
  intro x vs S Q' H Q o h k
  unfold mReverse at h
  split at h
  · obtain ⟨i, xs, h1, h2⟩ := h
    exact ⟨_, xs, rfl, rfl, o.g h1, k _ _ _ (o.putU h1) h2⟩
  · exact h.elim
/-- a method of two texts -/
def m1S (g : Str → Str → V) (C : Str → Str → Prop) : sM := fun x vs S Q => match x, vs with
  | .str u, [.str v] => C u v ∧ Q (g u v) S
  | _, _ => False
theorem l1S {g : Str → Str → V} {C : Str → Str → Prop} : LiftM (m1S g C) (fun x xs H Q => ∃ a b, x = .str a ∧ xs = [.str b] ∧ C a b ∧ Q (g a b) H) := by
  intro x vs S Q' H Q o h k
  unfold m1S at h
  split at h
  · exact ⟨_, _, rfl, rfl, h.1, k _ _ _ o h.2⟩
  · exact h.elim
theorem l1S0 {g : Str → Str → V} : LiftM (m1S g fun _ _ => True) (fun x xs H Q => ∃ a b, x = .str a ∧ xs = [.str b] ∧ Q (g a b) H) := by
  intro x vs S Q' H Q o h k
  unfold m1S at h
  split at h
  · exact ⟨_, _, rfl, rfl, k _ _ _ o h.2⟩
  · exact h.elim

/-! ### targets -/
abbrev sG := sWX → V → St → SH → (St → SH → Prop) → Prop
abbrev sGs := sWX → List V → St → SH → (St → SH → Prop) → Prop
def dG (W : WX) (t : sG) : TG := fun v σ H Q => ∃ S Q' W', ImpW W' W ∧ Own S H ∧ t W' v σ S Q' ∧ Imp Q' Q
def dGs (W : WX) (t : sGs) : TGs := fun v σ H Q => ∃ S Q' W', ImpW W' W ∧ Own S H ∧ t W' v σ S Q' ∧ Imp Q' Q
theorem PG.by {e : Expr} {t t' : TG} (h : PG X e t) (k : ∀ v σ H Q, t' v σ H Q → t v σ H Q) : PG X e t' := ⟨fun pins s σ H v u Q I r q => h.run pins s σ H v u Q I r (k v σ H Q q)⟩
theorem PGs.by {e : List Expr} {t t' : TGs} (h : PGs X e t) (k : ∀ v σ H Q, t' v σ H Q → t v σ H Q) : PGs X e t' := ⟨fun pins s σ H v u Q I r q => h.run pins s σ H v u Q I r (k v σ H Q q)⟩
def sgName (i : Nat) : sG := fun _ v σ S Q => Q (σ.set i (some v)) S
def sgNil : sGs := fun _ vs σ S Q => match vs with
  | [] => Q σ S
  | _ => False
def sgCons (t : sG) (u : sGs) : sGs := fun W vs σ S Q => match vs with
  | v :: r => t W v σ S fun σ1 S1 => u W r σ1 S1 Q
  | [] => False
def sgTup (K : PySem.W.Frag) (n : Nat) (t : sGs) : sG := fun W v σ S Q => match v with
  | .ref p => ∃ xs, sU K S p xs ∧ xs.length = n ∧ t W xs σ S Q
  | _ => False
def sgSub (to ti : sE) : sG := fun W v σ S Q => to W σ S fun o S1 => ti W σ S1 fun i S2 => match o, i with
  | .ref p, .int k => ∃ n xs j, S2.G[n]? = some (p, .lst xs) ∧ ixN xs.length k = some j ∧ Q σ (S2.put n p (.lst (xs.set j v)))
  | _, _ => False
theorem ggName {i : Nat} {x : Str} (hN : X.N.Nodup) (hi : X.N[i]? = some x) (hx : Loc X.env.scope x) (hf : X.fn x = true ∨ X.env.scope.names.lookup x = some .local := by first | exact .inl rfl | exact .inr rfl | assumption) : PG X (.Name x pos) (dG W (sgName i)) :=
  PG.by (pg_name hN hi hx hf) fun v σ H Q ⟨S, Q', W', kw, o, h, k⟩ => k _ _ _ o h
theorem ggNil : PGs X [] (dGs W sgNil) := PGs.by pgs_nil fun v σ H Q ⟨S, Q', W', kw, o, h, k⟩ => by
  unfold sgNil at h
  split at h
  · exact ⟨rfl, k _ _ _ o h⟩
  · exact h.elim
theorem ggCons {e : Expr} {t : sG} {u : sGs} (h1 : PG X e (dG W t)) (h2 : PGs X es (dGs W u)) (hs : (assignEach (e :: es) X.env).map (·.2) = assign e X.env :: (assignEach es X.env).map (·.2) := by rfl) : PGs X (e :: es) (dGs W (sgCons t u)) :=
  PGs.by (pgs_cons h1 h2 hs) fun v σ H Q ⟨S, Q', W', kw, o, h, k⟩ => by
    unfold sgCons at h
    split at h
    · exact ⟨_, _, rfl, S, _, W', kw, o, h, fun σ1 S1 H1 o1 h1 => ⟨S1, Q', W', kw, o1, h1, k⟩⟩
    · exact h.elim
theorem ggTup {kk : Nat} {t : sGs} {n : Nat} (hc : X.calm = true) (h : PGs X es (dGs W t)) (hn : (assignEach es X.env).length = n := by rfl) (hst : (assignEach es X.env).findIdx? (·.1) = none := by rfl) : PG X (.Tuple es kk pos) (dG W (sgTup X.K n t)) :=
  PG.by (pg_tup hc h hn hst) fun v σ H Q ⟨S, Q', W', kw, o, h, k⟩ => by
    unfold sgTup at h
    split at h
    · obtain ⟨xs, h1, h2, h3⟩ := h
      exact ⟨_, xs, rfl, o.u h1, h2, S, Q', W', kw, o, h3, k⟩
    · exact h.elim
theorem ggSub {o i : Expr} {to ti : sE} (ho : PE X o (dE W to)) (hi : PE X i (dE W ti))
    (hq : ∀ v, assign (.Subscript o i pos) X.env v = (do
      let ov ← holding [v] (eval o X.env)
      let iv ← holding [v, ov] (eval i X.env)
      standAt pos
      holding [v, ov, iv] (setItem ov iv v)
      release [v, ov, iv] []) := by intro _; rfl) : PG X (.Subscript o i pos) (dG W (sgSub to ti)) :=
  PG.by (pg_sub ho hi set_list hq) fun v σ H Q ⟨S, Q', W', kw, o, h, k⟩ => ⟨S, _, W', kw, o, h, fun x S1 H1 o1 h1 => ⟨S1, _, W', kw, o1, h1, fun y S2 H2 o2 h2 => by
    split at h2
    · obtain ⟨n, xs, j, h3, h4, h5⟩ := h2
      exact ⟨_, xs, _, j, rfl, rfl, o2.g h3, h4, k _ _ _ (o2.putU h3) h5⟩
    · exact h2.elim⟩⟩

/-! ### forgetting -/
/-- what is known may be less -/
def SLe (S S0 : SH) : Prop := ∀ H, Own S H → Own S0 H
def Wk (P : SH → Prop) : SH → Prop := fun S => ∃ S0, SLe S S0 ∧ P S0
theorem SLe.refl (S : SH) : SLe S S := fun _ o => o
theorem SLe.trans {S S1 S2 : SH} (a : SLe S S1) (b : SLe S1 S2) : SLe S S2 := fun H o => b H (a H o)
theorem sle_sub {F : Hp} {G G0 : List (Addr × HO)} (h : G0.Sublist G) : SLe ⟨F, G⟩ ⟨F, G0⟩ := fun H o => ⟨o.fr, fun p q => o.gs p (h.subset q), o.nd.sublist (h.map _)⟩
theorem sle_perm {F : Hp} {G G0 : List (Addr × HO)} (h : G.Perm G0) : SLe ⟨F, G⟩ ⟨F, G0⟩ := fun H o => ⟨o.fr, fun p q => o.gs p (h.mem_iff.mpr q), (h.map _).nodup_iff.mp o.nd⟩
/-- an object goes to the frame -/
theorem sle_frz {F : Hp} {p : Addr} {u : HO} {G : List (Addr × HO)} : SLe ⟨F, (p, u) :: G⟩ ⟨upd F p u, G⟩ := fun H o => by
  have hp := o.gs (p, u) List.mem_cons_self
  have nd := List.nodup_cons.mp o.nd
  refine ⟨fun a x e => ?_, fun q hq => ⟨(o.gs q (List.mem_cons_of_mem _ hq)).1, ?_⟩, nd.2⟩
  · by_cases ha : a = p
    · subst ha
      have e' : upd F a u a = some x := e
      rw [upd_same] at e'
      cases e'
      exact hp.1
    · have e' : upd F p u a = some x := e
      rw [upd_ne ha] at e'
      exact o.fr a x e'
  · have hne : q.1 ≠ p := fun e => nd.1 (List.mem_map.mpr ⟨q, hq, e⟩)
    show upd F p u q.1 = none
    rw [upd_ne hne]
    exact (o.gs q (List.mem_cons_of_mem _ hq)).2
theorem sle_get {S : SH} {i : Nat} {p : Addr} {u : HO} (h : S.G[i]? = some (p, u)) : SLe S ⟨S.F, [(p, u)]⟩ := fun H o => by
  refine ⟨o.fr, fun q hq => ?_, by simp⟩
  have e : q = (p, u) := List.mem_singleton.mp hq
  subst e
  exact o.gs _ (List.mem_of_getElem? h)

/-! ### statements -/
section
variable {st : Stmt} {rest body orelse : List Stmt} {t u : sS}
abbrev sEnds.at (D : sEnds) (n : St → SH → Prop) : sEnds := { D with nx := n }
def sNext : sS := fun D σ S => D.nx σ S
def sSeq (t u : sS) : sS := fun D σ S => t { D with nx := u D } σ S
/-- the same, what follows shown once -/
def sCut (t u : sS) : sS := fun D σ S => ∃ M : St → SH → Prop, t { D with nx := fun σ' => Wk (M σ') } σ S ∧ ∀ σ' S', M σ' S' → u D σ' S'
theorem hNil : PSs X [] (dS W sNext) := PSs.by pss_nil fun D σ H ⟨S, D', o, h, k⟩ => k.nx _ _ _ o h
theorem hCons (h1 : PS X st (dS W t)) (h2 : PSs X rest (dS W u)) : PSs X (st :: rest) (dS W (sSeq t u)) :=
  PSs.by (pss_cons h1 h2) fun D σ H ⟨S, D', o, h, k⟩ => ⟨S, { D' with nx := u D' }, o, h, ⟨fun σ1 S1 H1 o1 h1 => ⟨S1, D', o1, h1, k⟩, k.rt, k.bk, k.ct, k.ex⟩⟩
theorem hCut (h1 : PS X st (dS W t)) (h2 : PSs X rest (dS W u)) : PSs X (st :: rest) (dS W (sCut t u)) :=
  PSs.by (pss_cons h1 h2) fun D σ H ⟨S, D', o, ⟨M, h, hm⟩, k⟩ => ⟨S, { D' with nx := fun σ' => Wk (M σ') }, o, h, ⟨fun σ1 S1 H1 o1 ⟨S0, le, h1⟩ => ⟨S0, D', le _ o1, hm _ _ h1, k⟩, k.rt, k.bk, k.ct, k.ex⟩⟩
theorem hOne (h1 : PS X st (dS W t)) : PSs X [st] (dS W t) := PSs.by (pss_one h1) fun D σ H z => z
def sBreak : sS := fun D σ S => D.bk σ S
def sCont : sS := fun D σ S => D.ct σ S
def sNever : sS := fun _ _ _ => False
theorem hPass : PS X (.Pass pos) (dS W sNext) := PS.by ps_pass fun D σ H ⟨S, D', o, h, k⟩ => k.nx _ _ _ o h
theorem hBreak : PS X (.Break pos) (dS W sBreak) := PS.by ps_break fun D σ H ⟨S, D', o, h, k⟩ => k.bk _ _ _ o h
theorem hCont : PS X (.Continue pos) (dS W sCont) := PS.by ps_continue fun D σ H ⟨S, D', o, h, k⟩ => k.ct _ _ _ o h
theorem hNever : PS X st (dS W sNever) := PS.by ps_never fun D σ H ⟨S, D', o, h, k⟩ => h.elim
theorem hDoc {x j pos pos'} : PS X (.Expr (.Constant (.str x) j pos) pos') (dS W sNext) := PS.by ps_doc fun D σ H ⟨S, D', o, h, k⟩ => k.nx _ _ _ o h
def sDrop (te : sE) : sS := fun D σ S => te D.ex σ S fun _ S1 => D.nx σ S1
theorem hExpr {e : Expr} {te : sE} (he : PE X e (dE W te)) (hs : swapsWith e none pos.line X.env = pure false := by rfl) : PS X (.Expr e pos) (dS W (sDrop te)) :=
  PS.by (ps_expr he hs) fun D σ H ⟨S, D', o, h, k⟩ => ⟨S, _, D'.ex, k.ex, o, h, fun x S1 H1 o1 h1 => k.nx _ _ _ o1 h1⟩
def sRet (te : sE) : sS := fun D σ S => te D.ex σ S D.rt
def sRetN : sS := fun D _ S => D.rt .non S
theorem hRet {e : Expr} {te : sE} (he : PE X e (dE W te)) : PS X (.Return (some e) pos) (dS W (sRet te)) :=
  PS.by (ps_ret he) fun D σ H ⟨S, D', o, h, k⟩ => ⟨S, _, D'.ex, k.ex, o, h, k.rt⟩
theorem hRetN : PS X (.Return none pos) (dS W sRetN) := PS.by ps_retN fun D σ H ⟨S, D', o, h, k⟩ => k.rt _ _ _ o h
def sIfS (c : sT) (t u : sS) : sS := fun D σ S => c D.ex σ S fun b S1 => match b with
    | true => t D σ S1
    | false => u D σ S1
theorem hIf {c : Expr} {a b : List Stmt} {tc : sT} (hc : PT X c (dT W tc)) (ha : PSs X a (dS W t)) (hb : PSs X b (dS W u)) : PS X (.If c a b pos) (dS W (sIfS tc t u)) :=
  PS.by (ps_if hc ha hb) fun D σ H ⟨S, D', o, h, k⟩ => ⟨S, _, D'.ex, k.ex, o, h, fun b S1 H1 o1 h1 => by
    cases b with
    | true => exact ⟨S1, D', o1, h1, k⟩
    | false => exact ⟨S1, D', o1, h1, k⟩⟩
def sAsg (te : sE) (g : sG) : sS := fun D σ S => te D.ex σ S fun x S1 => g D.ex x σ S1 D.nx
theorem hAsg {tg e : Expr} {te : sE} {g : sG} (he : PE X e (dE W te)) (hg : PG X tg (dG W g)) (hs : swapsWithSole [tg] e pos.line X.env = pure false := by rfl) (hw : swappedStores [tg] e X.env = pure none := by rfl)
    (h1 : (assignEach [tg] X.env).map (·.2) = [assign tg X.env] := by rfl) : PS X (.Assign [tg] e pos) (dS W (sAsg te g)) :=
  PS.by (ps_asg he hg hs hw h1) fun D σ H ⟨S, D', o, h, k⟩ => ⟨S, _, D'.ex, k.ex, o, h, fun x S1 H1 o1 h1 => ⟨S1, _, D'.ex, k.ex, o1, h1, k.nx⟩⟩
def sSet (te : sE) (i : Nat) : sS := fun D σ S => te D.ex σ S fun x S1 => D.nx (σ.set i (some x)) S1
theorem hSet {i : Nat} {x : Str} {e : Expr} {te : sE} {pos' : Pos} (hN : X.N.Nodup) (hi : X.N[i]? = some x) (hx : Loc X.env.scope x) (he : PE X e (dE W te)) (hs : swapsWith e (some (.Name x pos')) pos.line X.env = pure false := by rfl) (hf : X.fn x = true ∨ X.env.scope.names.lookup x = some .local := by first | exact .inl rfl | exact .inr rfl | assumption) :
    PS X (.Assign [.Name x pos'] e pos) (dS W (sSet te i)) :=
  PS.by (ps_set hN hi hx he hs hf) fun D σ H ⟨S, D', o, h, k⟩ => ⟨S, _, D'.ex, k.ex, o, h, fun x S1 H1 o1 h1 => k.nx _ _ _ o1 h1⟩
/-- while -/
def sWhile (c : sT) (tb : sS) : sS := fun D σ S => ∃ P : Nat → St → SH → Prop, (∃ m, P m σ S) ∧ ∀ m σ S, P m σ S →
  c D.ex σ S fun b S1 => match b with
    | true => tb { D with nx := fun σ' => Wk fun S' => ∃ m', m' < m ∧ P m' σ' S', ct := fun σ' => Wk fun S' => ∃ m', m' < m ∧ P m' σ' S', bk := D.nx } σ S1
    | false => D.nx σ S1
theorem hWhile {c : Expr} {tc : sT} {tb : sS} (hp : PassesOwn (model X.prog X.w) X.A X.env X.xe) (hc : PT X c (dT W tc)) (hb : PSs X body (dS W tb)) : PS X (.While c body [] pos) (dS W (sWhile tc tb)) :=
  PS.by (ps_while hp hc hb) fun D σ H ⟨S, D', o, ⟨P, ⟨m0, h0⟩, h⟩, k⟩ => ⟨fun m σ H => ∃ S, Own S H ∧ P m σ S, ⟨m0, S, o, h0⟩, fun m σ H ⟨S, o, p⟩ => ⟨S, _, D'.ex, k.ex, o, h m σ S p, fun b S1 H1 o1 h1 => by
    cases b with
    | false => exact k.nx _ _ _ o1 h1
    | true => exact ⟨fun σ H => ∃ m', m' < m ∧ ∃ S, Own S H ∧ P m' σ S, fun σ' H' z => z, S1, _, o1, h1, ⟨fun σ' S' H' o' ⟨S0, le, m', z1, z2⟩ => ⟨m', z1, S0, le _ o', z2⟩, k.rt, k.nx, fun σ' S' H' o' ⟨S0, le, m', z1, z2⟩ => ⟨m', z1, S0, le _ o', z2⟩, k.ex⟩⟩⟩⟩
end

/-! ### what a for walks -/
/-- a walk: its length, what must stand, what a turn yields -/
structure SIt where
  n : Nat
  ok : SH → Prop
  yld : Nat → SH → (V → SH → Prop) → Prop
structure SItOk (J : It) (s : SIt) : Prop where
  stop : ∀ S H i, Own S H → s.ok S → s.n ≤ i → J.stop i H
  go : ∀ S H i, Own S H → s.ok S → i < s.n → J.go i H
  yld : ∀ S H i x H' k, Own S H → s.ok S → i < s.n → J.yld i H x H' → s.yld i S k → ∃ S', Own S' H' ∧ k x S'
abbrev sI := sWX → St → SH → (SIt → SH → Prop) → Prop
def dI (W : WX) (t : sI) : TI := fun σ H R => ∃ S R' W', ImpW W' W ∧ Own S H ∧ t W' σ S R' ∧ ∀ s S' H' J, Own S' H' → SItOk J s → R' s S' → R J H'
theorem PI.by {tg e : Expr} {t t' : TI} (h : PI X tg e t) (k : ∀ σ H R, t' σ H R → t σ H R) : PI X tg e t' := ⟨fun pins s σ H R I q => h.run pins s σ H R I (k σ H R q)⟩
def sFor (i : sI) (g : sG) (tb : sS) : sS := fun D σ S => i D.ex σ S fun s S1 => ∃ P : Nat → St → SH → Prop, P 0 σ S1 ∧ (∀ i σ S, i ≤ s.n → P i σ S → s.ok S) ∧
  (∀ i σ S, i < s.n → P i σ S → s.yld i S fun v S' => g D.ex v σ S' fun σ2 S2 => tb { D with nx := fun σ' => Wk (P (i + 1) σ'), ct := fun σ' => Wk (P (i + 1) σ'), bk := D.nx } σ2 S2) ∧ ∀ σ S, P s.n σ S → D.nx σ S
theorem hFor {tg iter : Expr} {body : List Stmt} {ti : sI} {g : sG} {tb : sS} (hp : PassesOwn (model X.prog X.w) X.A X.env X.xe) (hc : X.calm = true) (hi : PI X tg iter (dI W ti)) (hg : PG X tg (dG W g)) (hb : PSs X body (dS W tb)) (hs : ∀ x, foldedSetIterable iter X.env x = pure x := by intro _; rfl) : PS X (.For tg iter body [] pos) (dS W (sFor ti g tb)) :=
  PS.by (ps_for hp hc hi hg hb hs) fun D σ H ⟨S, D', o, h, k⟩ => ⟨S, _, D'.ex, k.ex, o, h, fun s S1 H1 J o1 j h1 => by
    obtain ⟨P, h0, hok, hs, hd⟩ := h1
    refine ⟨fun i m σ H => m = s.n - i ∧ i ≤ s.n ∧ ∃ S, Own S H ∧ P i σ S, ⟨s.n, by simp, Nat.zero_le _, S1, o1, h0⟩, ?_⟩
    rintro i m σ H ⟨rfl, hi, S2, o2, p⟩
    by_cases hlt : i < s.n
    · refine .inr ⟨j.go S2 H i o2 (hok i σ S2 hi p) hlt, fun σ' H' => ∃ S', Own S' H' ∧ P (i + 1) σ' S', fun σ' H' p' => ⟨s.n - (i + 1), by omega, rfl, hlt, p'⟩, fun x H' y => ?_⟩
      obtain ⟨S', o', q⟩ := j.yld S2 H i x H' _ o2 (hok i σ S2 hi p) hlt y (hs i σ S2 hlt p)
      refine ⟨S', _, D'.ex, k.ex, o', q, fun σ2 S3 H3 o3 q3 => ⟨S3, _, o3, q3, ⟨fun σ4 S4 H4 o4 ⟨S0, le, q4⟩ => ⟨S0, le _ o4, q4⟩, k.rt, k.nx, fun σ4 S4 H4 o4 ⟨S0, le, q4⟩ => ⟨S0, le _ o4, q4⟩, k.ex⟩⟩⟩
    · have e : i = s.n := by omega
      subst e
      exact .inl ⟨j.stop S2 H _ o2 (hok _ σ S2 hi p) (Nat.le_refl _), k.nx _ _ _ o2 (hd σ S2 p)⟩⟩
/-- a list, a tuple -/
def itL (K : PySem.W.Frag) (a : Addr) (xs : List V) : SIt := ⟨xs.length, fun S => sL K S a xs, fun i S k => ∀ v, xs[i]? = some v → k v S⟩
def itU (K : PySem.W.Frag) (a : Addr) (xs : List V) : SIt := ⟨xs.length, fun S => sU K S a xs, fun i S k => ∀ v, xs[i]? = some v → k v S⟩
theorem itL_ok {K : PySem.W.Frag} {a : Addr} {xs : List V} : SItOk (Itl K a) (itL K a xs) :=
  ⟨fun S H i o h hi => ⟨xs, o.l h, hi⟩, fun S H i o h hi => ⟨xs, _, o.l h, List.getElem?_eq_getElem hi⟩, fun S H i x H' k o h hi ⟨e, y⟩ q => by
    subst e
    exact ⟨S, o, q x (y xs (o.l h))⟩⟩
theorem itU_ok {K : PySem.W.Frag} {a : Addr} {xs : List V} : SItOk (Itt K a) (itU K a xs) :=
  ⟨fun S H i o h hi => ⟨xs, o.u h, hi⟩, fun S H i o h hi => ⟨xs, _, o.u h, List.getElem?_eq_getElem hi⟩, fun S H i x H' k o h hi ⟨e, y⟩ q => by
    subst e
    exact ⟨S, o, q x (y xs (o.u h))⟩⟩
def siSeq (K : PySem.W.Frag) (tl : sE) : sI := fun W σ S R => tl W σ S fun x S1 => match x with
  | .ref a => (∃ xs, sL K S1 a xs ∧ R (itL K a xs) S1) ∨ ∃ xs, sU K S1 a xs ∧ R (itU K a xs) S1
  | _ => False
/-- by values: what is walked -/
theorem pi_seq {tg l : Expr} {tl : TE} (hl : PE X l tl) : PI X tg l (fun σ H R => tl σ H fun x H1 => ∃ a, x = .ref a ∧ (((∃ xs, SqL X.K H1 a xs) ∧ R (Itl X.K a) H1) ∨ ((∃ xs, SqT X.K H1 a xs) ∧ R (Itt X.K a) H1))) := by
  refine ⟨fun pins s σ H R I h => ?_⟩
  refine thn (hl.run pins s σ H _ I h) fun v s1 ⟨x, H1, I1, r1, a, e, q⟩ => ?_
  subst e
  cases r1
  rcases q with ⟨⟨xs, hq⟩, q⟩ | ⟨⟨xs, hq⟩, q⟩
  · obtain ⟨its, rv, p, hz⟩ := I1.list hq
    refine wpAny_pyIter_list p.isList ?_
    refine ⟨s1.heap.objs.size, [s1.heap.objs.size], _, _, H1, rfl, I1.kept (t' := s1.toks) fun b o e => Heap.get?_push_of_some _ e, turn_list a _, ⟨_, Heap.get?_push_size _ rfl, rfl, rfl⟩, fun b hb => ?_, q⟩
    have e : b = s1.heap.objs.size := by simpa using hb
    subst e
    exact I1.fpOk (Nat.le_refl _) (I1.hok.fresh (Nat.le_refl _))
  · obtain ⟨its, rv, p, hz⟩ := I1.tuple hq
    refine wpAny_pyIter_tuple (show s1.heap.IsTuple a its.toArray from p) ?_
    refine ⟨s1.heap.objs.size, [s1.heap.objs.size], _, _, H1, rfl, I1.kept (t' := s1.toks) fun b o e => Heap.get?_push_of_some _ e, turn_tuple a _, ⟨_, Heap.get?_push_size _ rfl, rfl, rfl⟩, fun b hb => ?_, q⟩
    have e : b = s1.heap.objs.size := by simpa using hb
    subst e
    exact I1.fpOk (Nat.le_refl _) (I1.hok.fresh (Nat.le_refl _))
theorem iSeq {tg l : Expr} {tl : sE} (hl : PE X l (dE W tl)) : PI X tg l (dI W (siSeq X.K tl)) :=
  PI.by (pi_seq hl) fun σ H R ⟨S, R', W', kw, o, h, k⟩ => ⟨S, _, W', kw, o, h, fun x S1 H1 o1 h1 => by
    split at h1
    · rename_i a
      refine ⟨a, rfl, ?_⟩
      rcases h1 with ⟨xs, h1, h2⟩ | ⟨xs, h1, h2⟩
      · exact .inl ⟨⟨xs, o1.l h1⟩, k _ _ _ _ o1 itL_ok h2⟩
      · exact .inr ⟨⟨xs, o1.u h1⟩, k _ _ _ _ o1 itU_ok h2⟩
    · exact h1.elim⟩
/-- a range -/
def itR (lo : Int) (n : Nat) : SIt := ⟨n, fun _ => True, fun i S k => k (.int (lo + (i : Nat))) S⟩
theorem itR_ok {lo : Int} {n : Nat} : SItOk (Itr lo n) (itR lo n) :=
  ⟨fun S H i o h hi => hi, fun S H i o h hi => hi, fun S H i x H' k o h hi ⟨e, y⟩ q => by
    subst e
    subst y
    exact ⟨S, o, q⟩⟩
def rngOk (i : Int) : Prop := -(2 ^ 62) ≤ i ∧ i < 2 ^ 62
def siR1 (ta : sA) : sI := fun W σ S R => ta W σ S fun vs S1 => match vs with
  | [.int j] => rngOk j ∧ R (itR 0 j.toNat) S1
  | _ => False
def siR2 (ta : sA) : sI := fun W σ S R => ta W σ S fun vs S1 => match vs with
  | [.int i, .int j] => rngOk i ∧ rngOk j ∧ R (itR i (j - i).toNat) S1
  | _ => False
theorem iR1 {tg a : Expr} {ta : sA} {p pos : Pos} (hg : Gl X "range") (hm : X.mg "range" = none) (ha : PA X [a] (dA W ta)) (hs : starEach [a] X.env = [(false, eval a X.env)] := by rfl) : PI X tg (.Call (.Name "range" p) [a] [] pos) (dI W (siR1 ta)) :=
  PI.by (pi_range1 hg hm ha hs) fun σ H R ⟨S, R', W', kw, o, h, k⟩ => ⟨S, _, W', kw, o, h, fun vs S1 H1 o1 h1 => by
    split at h1
    · exact ⟨_, rfl, h1.1.1, h1.1.2, k _ _ _ _ o1 itR_ok h1.2⟩
    · exact h1.elim⟩
theorem iR2 {tg a b : Expr} {ta : sA} {p pos : Pos} (hg : Gl X "range") (hm : X.mg "range" = none) (ha : PA X [a, b] (dA W ta)) (hs : starEach [a, b] X.env = [(false, eval a X.env), (false, eval b X.env)] := by rfl) (hs2 : starEach [b] X.env = [(false, eval b X.env)] := by rfl) :
    PI X tg (.Call (.Name "range" p) [a, b] [] pos) (dI W (siR2 ta)) :=
  PI.by (pi_range2 hg hm ha hs hs2) fun σ H R ⟨S, R', W', kw, o, h, k⟩ => ⟨S, _, W', kw, o, h, fun vs S1 H1 o1 h1 => by
    split at h1
    · exact ⟨_, _, rfl, ⟨h1.1.1, h1.1.2, h1.2.1.1, h1.2.1.2⟩, k _ _ _ _ o1 itR_ok h1.2.2⟩
    · exact h1.elim⟩

/-! ### list comprehensions -/
/-- nothing may be let out -/
def noW : sWX := fun _ _ _ _ => False
abbrev NoW : WX := fun _ _ _ _ => False
theorem noW_imp {W : WX} : ImpW noW W := fun _ _ _ _ _ _ q => q.elim
def sLc (i : sI) (g : sG) (tt : sT) (te : sE) (vs : List Nat) : sE := fun W σ S Q => i W σ S fun s S1 => ∀ D, ∃ P : Nat → SH → Prop, P 0 (S1.new D (.lst [])) ∧ (∀ i S, i ≤ s.n → P i S → s.ok S) ∧
  (∀ i S, i < s.n → P i S → s.yld i S fun v S' => g noW v (wipe σ vs) S' fun σ2 S2 => wipe σ2 vs = wipe σ vs ∧ tt noW σ2 S2 fun b S3 =>
    match b with
    | true => te noW σ2 S3 fun y S4 => ∃ k acc, S4.G[k]? = some (D, .lst acc) ∧ acc.length < sizeLine ∧ Wk (P (i + 1)) (S4.put k D (.lst (acc ++ [y])))
    | false => Wk (P (i + 1)) S3) ∧ ∀ S, P s.n S → Q (.ref D) S
def sYes : sT := fun _ _ S Q => Q true S
structure sTs (X : Cx) (W : WX) (ifs : List Expr) (t : sT) : Prop where
  to : PTs X ifs (dT W t)
theorem gNoIf : sTs X W [] sYes := ⟨⟨fun pins s σ H Q I ⟨S, Q', W', kw, o, h, k⟩ => pts_nil.run pins s σ H Q I (k _ _ _ o h)⟩⟩
theorem gOneIf {c : Expr} {t : sT} (h : PT X c (dT W t)) : sTs X W [c] t := ⟨pts_one h⟩
theorem lift_lc {ti : sI} {g : sG} {tt : sT} {te : sE} {vs : List Nat} : ∀ σ H Q, dE W (sLc ti g tt te vs) σ H Q → tLc (dI W ti) (dG NoW g) (dT NoW tt) (dE NoW te) vs σ H Q := fun σ H Q ⟨S, Q', W', kw, o, h, k⟩ =>
  ⟨S, _, W', kw, o, h, fun s S1 H1 J o1 j h1 => by
    intro D hD
    obtain ⟨P, h0, hok, hs, hd⟩ := h1 D
    refine ⟨fun i m H => m = s.n - i ∧ i ≤ s.n ∧ ∃ S, Own S H ∧ P i S, ⟨s.n, by simp, Nat.zero_le _, _, o1.newU hD, h0⟩, ?_⟩
    rintro i m H ⟨rfl, hi, S2, o2, p⟩
    by_cases hlt : i < s.n
    · refine .inr ⟨j.go S2 H i o2 (hok i S2 hi p) hlt, fun H' => ∃ S', Own S' H' ∧ P (i + 1) S', fun H' p' => ⟨s.n - (i + 1), by omega, rfl, hlt, p'⟩, fun x H' y => ?_⟩
      obtain ⟨S', o', q⟩ := j.yld S2 H i x H' _ o2 (hok i S2 hi p) hlt y (hs i S2 hlt p)
      refine ⟨S', _, noW, noW_imp, o', q, fun σ2 S3 H3 o3 q3 => ⟨q3.1, S3, _, noW, noW_imp, o3, q3.2, fun b S4 H4 o4 q4 => ?_⟩⟩
      cases b with
      | false =>
        obtain ⟨S0, le, q4⟩ := q4
        exact ⟨S0, le _ o4, q4⟩
      | true =>
        refine ⟨S4, _, noW, noW_imp, o4, q4, fun y S5 H5 o5 q5 => ?_⟩
        obtain ⟨kk, acc, z1, z2, S0, le, z3⟩ := q5
        exact ⟨acc, o5.g z1, z2, _, le _ (o5.putU z1), z3⟩
    · have e : i = s.n := by omega
      subst e
      exact .inl ⟨j.stop S2 H _ o2 (hok _ S2 hi p) (Nat.le_refl _), k _ _ _ o2 (hd S2 p)⟩⟩
theorem gLc {elt tg iter : Expr} {ifs : List Expr} {scope : Scope} {own : List (Str × Nat)} {ti : sI} {g : sG} {tt : sT} {te : sE} (hc : X.calm = true) (hN : X.N.Nodup) (hi : PI X tg iter (dI W ti)) (ok : BlkOk X.N X.env.scope scope own)
    (hg : ∀ (s : Shared) (H : Hp) (C : Addr) (cl : List (Str × Addr)) (fp : List Addr), PG (X.blk s H scope (compEnvC scope cl C X.env) fp) tg (dG NoW g)) (ht : ∀ (s : Shared) (H : Hp) (C : Addr) (cl : List (Str × Addr)) (fp : List Addr), sTs (X.blk s H scope (compEnvC scope cl C X.env) fp) NoW ifs tt)
    (he : ∀ (s : Shared) (H : Hp) (C : Addr) (cl : List (Str × Addr)) (fp : List Addr), PE (X.blk s H scope (compEnvC scope cl C X.env) fp) elt (dE NoW te)) (hs : ∀ x, foldedSetIterable iter X.env x = pure x := by intro _; rfl) :
    PE X (.ListComp elt [⟨tg, iter, ifs, 0⟩] scope pos) (dE W (sLc ti g tt te (own.map (·.2)))) :=
  PE.by (pe_lc hc hN hi ok hg (fun s H C cl fp => (ht s H C cl fp).to) he hs) lift_lc
theorem hSetLc {i : Nat} {y : Str} {py : Pos} {elt tg iter : Expr} {ifs : List Expr} {scope : Scope} {own : List (Str × Nat)} {pos spos : Pos} {ti : sI} {g : sG} {tt : sT} {te : sE} (hc : X.calm = true) (hN : X.N.Nodup) (hy : X.N[i]? = some y) (hyl : X.env.scope.names.lookup y = some .local)
    (hsw : swapsWith (.ListComp elt [⟨tg, iter, ifs, 0⟩] scope pos) (some (.Name y py)) spos.line X.env = pure true) (hi : PI X tg iter (dI W ti)) (ok : BlkOk X.N X.env.scope scope own)
    (hg : ∀ (s : Shared) (H : Hp) (C : Addr) (cl : List (Str × Addr)) (fp : List Addr), PG (X.blk s H scope (compEnvC scope cl C X.env) fp) tg (dG NoW g)) (ht : ∀ (s : Shared) (H : Hp) (C : Addr) (cl : List (Str × Addr)) (fp : List Addr), sTs (X.blk s H scope (compEnvC scope cl C X.env) fp) NoW ifs tt)
    (he : ∀ (s : Shared) (H : Hp) (C : Addr) (cl : List (Str × Addr)) (fp : List Addr), PE (X.blk s H scope (compEnvC scope cl C X.env) fp) elt (dE NoW te)) (hs : ∀ x, foldedSetIterable iter X.env x = pure x := by intro _; rfl) :
    PS X (.Assign [.Name y py] (.ListComp elt [⟨tg, iter, ifs, 0⟩] scope pos) spos) (dS W (sSet (sLc ti g tt te (own.map (·.2))) i)) :=
  PS.by (ps_setLc hc hN hy hyl hsw hi ok hg (fun s H C cl fp => (ht s H C cl fp).to) he hs) fun D σ H ⟨S, D', o, h, k⟩ => lift_lc σ H _ ⟨S, _, D'.ex, k.ex, o, h, fun x S1 H1 o1 h1 => k.nx _ _ _ o1 h1⟩

/-! ### calls of own defs -/
/-- sp, from the symbolic heap -/
def sSp (sp : Sp) : sWX → List V → St → SH → (V → SH → Prop) → Prop := fun W vs σ S Q => ∀ H, Own S H → sp vs H (fun v H' => ∃ S', Own S' H' ∧ Q v S') (fun c d H' => ∃ S', Own S' H' ∧ W c d σ S')
/-- sp stands a weaker wish -/
def SpMono (sp : Sp) : Prop := ∀ vs H Q Q' E E', (∀ v H', Q v H' → Q' v H') → (∀ c d H', E c d H' → E' c d H') → sp vs H Q E → sp vs H Q' E'
def sCall (sp : Sp) (t : sA) : sE := fun W σ S Q => t W σ S fun vs S1 => sSp sp W vs σ S1 Q
section
variable {k : Nat} {f : Addr} {fd : FuncData} {ps : List Str} {sp : Sp} {x : Str} {p : Pos} {e : Expr}
theorem lift_sp (m : SpMono sp) {vs : List V} {σ : St} {S : SH} {H : Hp} {W' : sWX} {Q' : V → SH → Prop} {Q : VK} (kw : ImpW W' W) (o : Own S H) (h : sSp sp W' vs σ S Q') (k : Imp Q' Q) : sp vs H Q (WE W σ) :=
  m _ _ _ _ _ _ (fun v H' ⟨S', o', q⟩ => k v S' H' o' q) (fun c d H' ⟨S', o', q⟩ => kw c d σ S' H' o' q) (h H o)
theorem gCall (m : SpMono sp) (F : FnOk X.prog X.w X.K X.mg X.base (L2.CX X.prog X.w) k f fd ps sp) (hr : Room k X.A) (hg : Gl X x) (hm : X.mg x = some (.ref f)) (hk : PySem.W.keepIn X.K (.ref f) = true) (hb : Binds X.K fd ps []) (tk : Takes X W) (ha : PA X (e :: es) (dA W tas))
    (hdb : (x == ("__debug__" : Str)) = false := by decide) (he : starEach (e :: es) X.env = (false, eval e X.env) :: starEach es X.env := by rfl) (hpl : (backTo pos (starEach es X.env)).any (·.1) = false := by rfl) :
    PE X (.Call (.Name x p) (e :: es) [] pos) (dE W (sCall sp tas)) :=
  PE.by (pe_callS F hr hg hm hk hb (fun σ => passAt tk σ) ha hdb he hpl) fun σ H Q ⟨S, Q', W', kw, o, h, k⟩ => ⟨S, _, W', kw, o, h, fun vs S1 H1 o1 h1 => lift_sp m kw o1 h1 k⟩
end

/-! ### contracts -/
/-- of values alone: a value, or an error with one field -/
inductive Ot where
  | ok (v : V)
  | er (C : Addr) (f : Str) (v : V)
def spV (f : List V → Option Ot) : Sp := fun vs H Q E => match f vs with
  | some (.ok v) => ∀ H', Ext H H' → Q v H'
  | some (.er C n v) => ∀ H' d, Ext H H' → H d = none → H' d = some (.xd [(n, v)]) → E (.ref C) (some d) H'
  | none => False
theorem spV_mono {f : List V → Option Ot} : SpMono (spV f) := fun vs H Q Q' E E' kq ke h => by
  unfold spV at h ⊢
  split at h
  · exact fun H' e => kq _ _ (h H' e)
  · exact fun H' d e h1 h2 => ke _ _ _ (h H' d e h1 h2)
  · exact h.elim
/-- with ghosts α: what must hold ahead, what holds behind -/
structure Ct (α : Type) where
  pre : α → List V → Hp → Prop
  post : α → Hp → V → Hp → Prop
  exn : α → Hp → Value → Option Addr → Hp → Prop := fun _ _ _ _ _ => False
def spC {α : Type} (c : Ct α) : Sp := fun vs H Q E => ∃ g, c.pre g vs H ∧ (∀ v H', c.post g H v H' → Q v H') ∧ ∀ x d H', c.exn g H x d H' → E x d H'
theorem spC_mono {α : Type} {c : Ct α} : SpMono (spC c) := fun vs H Q Q' E E' kq ke ⟨g, h1, h2, h3⟩ => ⟨g, h1, fun v H' q => kq _ _ (h2 v H' q), fun x d H' q => ke _ _ _ (h3 x d H' q)⟩
def sCallV (f : List V → Option Ot) (t : sA) : sE := fun W σ S Q => t W σ S fun vs S1 => match f vs with
  | some (.ok v) => Q v S1
  | some (.er C n v) => ∀ d, W (.ref C) (some d) σ (S1.new d (.xd [(n, v)]))
  | none => False
def sCallC {α : Type} (c : Ct α) (t : sA) : sE := fun W σ S Q => t W σ S fun vs S1 => ∃ g, (∀ H, Own S1 H → c.pre g vs H) ∧ (∀ H v H', Own S1 H → c.post g H v H' → ∃ S', Own S' H' ∧ Q v S') ∧ ∀ H x d H', Own S1 H → c.exn g H x d H' → ∃ S', Own S' H' ∧ W x d σ S'
theorem lift_V {f : List V → Option Ot} {vs : List V} {σ : St} {S : SH} {W : sWX} {Q : V → SH → Prop} (h : match f vs with
  | some (.ok v) => Q v S
  | some (.er C n v) => ∀ d, W (.ref C) (some d) σ (S.new d (.xd [(n, v)]))
  | none => False) : sSp (spV f) W vs σ S Q := fun H o => by
  unfold spV
  split at h
  · exact fun H' e => ⟨S, o.ex e, h⟩
  · exact fun H' d e h1 h2 => ⟨_, o.new h1 e h2, h d⟩
  · exact h.elim
theorem lift_C {α : Type} {c : Ct α} {vs : List V} {σ : St} {S : SH} {W : sWX} {Q : V → SH → Prop} (h : ∃ g, (∀ H, Own S H → c.pre g vs H) ∧ (∀ H v H', Own S H → c.post g H v H' → ∃ S', Own S' H' ∧ Q v S') ∧ ∀ H x d H', Own S H → c.exn g H x d H' → ∃ S', Own S' H' ∧ W x d σ S') :
    sSp (spC c) W vs σ S Q := fun H o => by
  obtain ⟨g, h1, h2, h3⟩ := h
  exact ⟨g, h1 H o, fun v H' q => h2 H v H' o q, fun x d H' q => h3 H x d H' o q⟩
section
variable {k : Nat} {f : Addr} {fd : FuncData} {ps ks : List Str} {x : Str} {p : Pos} {e : Expr} {fv : List V → Option Ot} {α : Type} {ct : Ct α}
theorem gCallV (F : FnOk X.prog X.w X.K X.mg X.base (L2.CX X.prog X.w) k f fd ps (spV fv)) (hr : Room k X.A) (hg : Gl X x) (hm : X.mg x = some (.ref f)) (hk : PySem.W.keepIn X.K (.ref f) = true) (hb : Binds X.K fd ps []) (tk : Takes X W) (ha : PA X (e :: es) (dA W tas))
    (hdb : (x == ("__debug__" : Str)) = false := by decide) (he : starEach (e :: es) X.env = (false, eval e X.env) :: starEach es X.env := by rfl) (hpl : (backTo pos (starEach es X.env)).any (·.1) = false := by rfl) :
    PE X (.Call (.Name x p) (e :: es) [] pos) (dE W (sCallV fv tas)) :=
  PE.by (pe_callS F hr hg hm hk hb (fun σ => passAt tk σ) ha hdb he hpl) fun σ H Q ⟨S, Q', W', kw, o, h, k⟩ => ⟨S, _, W', kw, o, h, fun vs S1 H1 o1 h1 => lift_sp spV_mono kw o1 (lift_V h1) k⟩
theorem gCallC (F : FnOk X.prog X.w X.K X.mg X.base (L2.CX X.prog X.w) k f fd ps (spC ct)) (hr : Room k X.A) (hg : Gl X x) (hm : X.mg x = some (.ref f)) (hk : PySem.W.keepIn X.K (.ref f) = true) (hb : Binds X.K fd ps []) (tk : Takes X W) (ha : PA X (e :: es) (dA W tas))
    (hdb : (x == ("__debug__" : Str)) = false := by decide) (he : starEach (e :: es) X.env = (false, eval e X.env) :: starEach es X.env := by rfl) (hpl : (backTo pos (starEach es X.env)).any (·.1) = false := by rfl) :
    PE X (.Call (.Name x p) (e :: es) [] pos) (dE W (sCallC ct tas)) :=
  PE.by (pe_callS F hr hg hm hk hb (fun σ => passAt tk σ) ha hdb he hpl) fun σ H Q ⟨S, Q', W', kw, o, h, k⟩ => ⟨S, _, W', kw, o, h, fun vs S1 H1 o1 h1 => lift_sp spC_mono kw o1 (lift_C h1) k⟩
/-- with defaults that fill up, and keywords: gV puts them in order -/
def sKw (gV : List V → List V → List V) (t tk : sA) : sA := fun W σ S Q => t W σ S fun vs S1 => tk W σ S1 fun zs S2 => Q (gV vs zs) S2
def dK (W : WX) (t : sA) : TA := dA W t
theorem gKNil : PK X [] (dA W sNil) := PK.by pk_nil fun σ H Q ⟨S, Q', W', kw, o, h, k⟩ => k _ _ _ o h
theorem gKCons {nm : Option Str} {kpos : Pos} {kws : List Keyword} (ha : PE X a (dE W ta)) (hr : PK X kws (dA W tas)) : PK X (⟨nm, a, kpos⟩ :: kws) (dA W (sCons ta tas)) :=
  PK.by (pk_cons ha hr) fun σ H Q ⟨S, Q', W', kw, o, h, k⟩ => ⟨S, _, W', kw, o, h, fun x S1 H1 o1 h1 => ⟨S1, _, W', kw, o1, h1, fun xs S2 H2 o2 h2 => k _ _ _ o2 h2⟩⟩
theorem passE {E : XK} (tk : Takes X (fun c d _ H => E c d H)) : Passes (L2.CX X.prog X.w) X E := fun pins σ H s e s' I c => passAt tk σ pins H s e s' I c
end
/-! ### isinstance -/
/-- the built-in classes that we ask for -/
inductive TY where
  | non | bool | int | str | list | tuple | dict
  deriving DecidableEq
def TY.nm : TY → String
  | .non => "NoneType" | .bool => "bool" | .int => "int" | .str => "str" | .list => "list" | .tuple => "tuple" | .dict => "dict"
def TY.sub : TY → TY → Bool
  | .non, .non => true | .bool, .bool => true | .bool, .int => true | .int, .int => true | .str, .str => true | .list, .list => true | .tuple, .tuple => true | .dict, .dict => true
  | _, _ => false
theorem kit_sub : ∀ a n : TY, n ≠ .non → kitB a.nm n.nm = some (a.sub n) := by
  intro a n h
  cases a <;> cases n <;> first | exact absurd rfl h | decide +kernel
def isiTy (K : PySem.W.Frag) (x : V) (S : SH) (t : TY) : Prop := match x with
  | .non => t = .non
  | .bl _ => t = .bool
  | .int _ => t = .int
  | .str _ => t = .str
  | .ref p => (t = .list ∧ ∃ xs, sL K S p xs) ∨ (t = .tuple ∧ ∃ xs, sU K S p xs) ∨ (t = .dict ∧ ((∃ kvs, At S p (.dK kvs)) ∨ ∃ kvs, At S p (.dT kvs)))
  | _ => False
theorem Own.isi {K : PySem.W.Frag} {x : V} {S : SH} {H : Hp} {t : TY} (o : Own S H) (h : isiTy K x S t) : TyX K H x (.type t.nm) := by
  unfold isiTy at h
  cases x with
  | non => cases h; exact .base .non
  | bl b => cases h; exact .base (.bl b)
  | int b => cases h; exact .base (.int b)
  | str b => cases h; exact .base (.str b)
  | byt b => exact h.elim
  | flt b => exact h.elim
  | ty b => exact h.elim
  | ref p =>
    rcases h with ⟨rfl, xs, h⟩ | ⟨rfl, xs, h⟩ | ⟨rfl, ⟨kvs, h⟩ | ⟨kvs, h⟩⟩
    · rcases o.l h with (q | ⟨ob, q⟩) | ⟨ob, its, n, q1, q2, _⟩
      · exact .base (.lst q)
      · exact .base (.frz q)
      · exact .kList q1 q2
    · rcases o.u h with (q | ⟨ob, q⟩) | ⟨ob, its, n, q1, q2, _⟩
      · exact .base (.tup q)
      · exact .fTuple q
      · exact .kTuple q1 q2
    · exact .base (.dK (o.at h))
    · exact .base (.dT (o.at h))
/-- the same over a plain heap -/
def Ty0 (K : PySem.W.Frag) (H : Hp) (x : V) (t : TY) : Prop := isiTy K x ⟨H, []⟩ t
theorem At.ex {S : SH} {H : Hp} {p : Addr} {o : HO} (w : Own S H) (h : At S p o) : At ⟨H, []⟩ p o := .inr (w.at h)
theorem Own.ty0 {K : PySem.W.Frag} {x : V} {S : SH} {H : Hp} {t : TY} (o : Own S H) (h : isiTy K x S t) : Ty0 K H x t := by
  unfold Ty0
  unfold isiTy at h ⊢
  cases x with
  | ref p =>
    rcases h with ⟨rfl, xs, h⟩ | ⟨rfl, xs, h⟩ | ⟨rfl, ⟨kvs, h⟩ | ⟨kvs, h⟩⟩
    · exact .inl ⟨rfl, xs, .inr (o.l h)⟩
    · exact .inr (.inl ⟨rfl, xs, .inr (o.u h)⟩)
    · exact .inr (.inr ⟨rfl, .inl ⟨kvs, h.ex o⟩⟩)
    · exact .inr (.inr ⟨rfl, .inr ⟨kvs, h.ex o⟩⟩)
  | _ => exact h
theorem Ty0.ex {K : PySem.W.Frag} {x : V} {H H' : Hp} {t : TY} (h : Ty0 K H x t) (e : Ext H H') : Ty0 K H' x t := ((Own.base H).ex e).ty0 h
/-- isinstance(x, a built-in class) -/
def sIsi (K : PySem.W.Frag) (n : TY) (tx : sE) : sE := fun W σ S Q => tx W σ S fun x S1 => match x with
  | .non => Q (.bl (TY.sub .non n)) S1
  | .bl _ => Q (.bl (TY.sub .bool n)) S1
  | .int _ => Q (.bl (TY.sub .int n)) S1
  | .str _ => Q (.bl (TY.sub .str n)) S1
  | .ref p => ∃ t, isiTy K (.ref p) S1 t ∧ Q (.bl (TY.sub t n)) S1
  | _ => False
theorem gIsi {x : Expr} {tx : sE} {n : TY} {nm : Str} {p p2 : Pos} {pos : Pos} (hg : Gl X "isinstance") (hm : X.mg "isinstance" = none) (hx : PE X x (dE W tx)) (hn : n ≠ .non) (hg2 : Gl X nm) (hm2 : X.mg nm = none) (hv2 : bootBuiltins nm = some (.type n.nm)) (hn2 : nm ≠ "__name__" := by decide) (hd2 : (nm == ("__debug__" : Str)) = false := by decide)
    (he : starEach (x :: [.Name nm p2]) X.env = (false, eval x X.env) :: starEach [.Name nm p2] X.env := by rfl) (he2 : starEach [.Name nm p2] X.env = (false, eval (.Name nm p2) X.env) :: starEach [] X.env := by rfl) (hpl : (backTo pos (starEach [.Name nm p2] X.env)).any (·.1) = false := by rfl) :
    PE X (.Call (.Name "isinstance" p) [x, .Name nm p2] [] pos) (dE W (sIsi X.K n tx)) :=
  PE.by (pe_callB call_isi hg hm (by decide +kernel) (pa_cons hx (pa_cons (pe_bltn (v := .ty n.nm) hg2 hm2 hv2 rfl hn2 hd2) pa_nil he2) he) (by decide) (by decide) he hpl) fun σ H Q ⟨S, Q', W', kw, o, h, k⟩ => ⟨S, _, W', kw, o, h, fun x S1 H1 o1 h1 => by
    have fin : ∀ {t : TY}, isiTy X.K x S1 t → Q' (.bl (TY.sub t n)) S1 → rIsi X.K [x, .ty n.nm] H1 Q := fun {t} ht q =>
      ⟨x, .ty n.nm, _, _, _, rfl, .ty n.nm, o1.isi ht, kit_ty (kit_sub t n hn), k _ _ _ o1 q⟩
    show rIsi X.K [x, .ty n.nm] H1 Q
    split at h1
    · exact fin (t := .non) rfl h1
    · exact fin (t := .bool) rfl h1
    · exact fin (t := .int) rfl h1
    · exact fin (t := .str) rfl h1
    · obtain ⟨t, h2, h3⟩ := h1
      exact fin h2 h3
    · exact h1.elim⟩

/-! ### own errors: raised, caught -/
/-- __init__ of an own error with one field f -/
def spErr (C : Addr) (f : Str) : Sp := fun vs H Q _ => ∃ a v, vs = [.ref a, v] ∧ H a = some (exo a C none) ∧ ∀ dx, H dx = none → dx ≠ a → Q .non (upd (upd H dx (exd dx [(f, v)])) a (exo a C (some dx)))
/-- what the written part says of the error class x, with the one field f -/
structure ErrC (P : Program) (w : World) (K : PySem.W.Frag) (mg : Str → Option Value) (base : Heap) (x f : Str) (C : Addr) : Prop where
  oex : OexC K C
  xf : XfC K C
  isc : ExcC K C
  no : PySem.W.findIn K (.ref C) f = some none
  gC : mg x = some (.ref C)
  ini : ∃ fI fd, PySem.W.findIn K (.ref C) "__init__" = some (some (.ref fI)) ∧ PySem.W.typeIn K (.ref fI) = some (.type "function") ∧ FnOk P w K mg base (L2.CX P w) 1 fI fd ["self", f] (spErr C f) ∧ Binds K fd ["self", f] []
def sRaise (C : Addr) (f : Str) (ta : sE) : sS := fun D σ S => ta D.ex σ S fun v S1 => ∀ d, D.ex (.ref C) (some d) σ (S1.new d (.xd [(f, v)]))
theorem hRaise {x f : Str} {C : Addr} {a : Expr} {ta : sE} {p pos pos2 : Pos} {k : Nat} (hc : X.calm = true) (tk : Takes X W) (T : ErrC X.prog X.w X.K X.mg X.base x f C) (hr : Room (k + 2) X.A) (hg : Gl X x) (ha : PE X a (dE W ta))
    (hdb : (x == ("__debug__" : Str)) = false := by decide) (hs : starEach (a :: []) X.env = (false, eval a X.env) :: starEach [] X.env := by rfl) (hpl : (backTo pos (starEach [] X.env)).any (·.1) = false := by rfl) :
    PS X (.Raise (some (.Call (.Name x p) [a] [] pos)) none pos2) (dS W (sRaise C f ta)) := by
  obtain ⟨fI, fd, h1, h2, F, hb⟩ := T.ini
  refine PS.by (ps_raise hc tk (pmk_oex T.oex h1 h2 F (hr.mono (by omega)) hb .nil passL hg T.gC (pa_cons ha pa_nil hs) hdb hs hpl)) fun D σ H ⟨S, D', o, h, k⟩ => ⟨S, _, D'.ex, k.ex, o, h, fun v S1 H1 o1 h1 => ?_⟩
  refine ⟨by simp, fun e he => ⟨e, v, rfl, upd_same, fun dx hdx hne => ⟨rfl, dx, [(f, v)], upd_same, ?_, ?_, ?_⟩⟩⟩
  · rw [upd_ne hne, upd_same]
  · rw [upd_ne hne] at hdx
    exact hdx
  · rw [upd_ne hne] at hdx
    refine k.ex _ _ _ _ _ (o1.new hdx (fun b u hb => ?_) upd_same) (h1 dx)
    have n1 : b ≠ e := ne_of_none hb he
    have n2 : b ≠ dx := ne_of_none hb hdx
    rw [upd_ne n2, del_ne n1, upd_ne n1, upd_ne n2, upd_ne n1]
    exact hb
/-- try: body except x as n: suite -/
def sTryAs (K : PySem.W.Frag) (c : Value) (i : Nat) (tb : sS) (ts : Addr → Value → Option Addr → sS) : sS := fun D σ S => tb { D with ex := fun cls d σ' S' => ∃ b, PySem.W.exmOne K cls c = some b ∧
  (b = true → ∀ a, ts a cls d { nx := fun σ2 S2 => D.nx (σ2.set i none) S2, rt := D.rt, bk := fun σ2 S2 => D.bk (σ2.set i none) S2, ct := fun σ2 S2 => D.ct (σ2.set i none) S2, ex := noW } (σ'.set i (some (.ref a))) S') ∧ (b = false → D.ex cls d σ' S') } σ S
theorem hTryAs {x n : Str} {c : Value} {i : Nat} {body suite : List Stmt} {b₀ : Stmt} {np pos pos' : Pos} {tb : sS} {ts : Addr → Value → Option Addr → sS}
    (hs : X.stack = X.env :: X.outer) (hf : X.env.frame = some X.env.locals) (hN : X.N.Nodup) (hi : X.N[i]? = some n) (hln : X.env.kindOf n = some .local) (hc : Names X x c) (tk : Takes X W)
    (hb : ∀ (W : WX) (pn : List (Addr × Obj)) (xe : Value → Shared → Prop), Takes (X.tr pn xe) W → PassesOwn (model X.prog X.w) X.A X.env xe → PSs (X.tr pn xe) body (dS W tb))
    (hsu : ∀ (a : Addr) (oe : Obj) (cls : Value) (d : Option Addr) (pn : List (Addr × Obj)), Zc cls d oe → (∃ vs, oe.data = .fields vs) → PSs (X.suite a ((a, oe) :: pn)) (b₀ :: suite) (dS NoW (ts a cls d))) :
    PS X (.Try body [.ExceptHandler (some (.Name x np)) (some n) (b₀ :: suite) pos'] [] [] pos) (dS W (sTryAs X.K c i tb ts)) :=
  PS.by (ps_try_as (tb := fun W => dS W tb) (ts := fun a cls d => dS NoW (ts a cls d)) hs hf hN hi hln hc tk hb hsu) fun D σ H ⟨S, D', o, h, k⟩ => ⟨S, _, o, h, ⟨k.nx, k.rt, k.bk, k.ct, fun cls d σ' S' H' o' ⟨b, e, y, n⟩ =>
    ⟨b, e, fun hb a _ => ⟨S', _, o', y hb a, ⟨fun σ2 S2 H2 o2 q => k.nx _ _ _ o2 q, k.rt, fun σ2 S2 H2 o2 q => k.bk _ _ _ o2 q, fun σ2 S2 H2 o2 q => k.ct _ _ _ o2 q, noW_imp⟩⟩, fun hb => k.ex cls d σ' S' H' o' (n hb)⟩⟩⟩
/-- e.f of the error that the suite holds -/
def sXf (a : Addr) (cls : Value) (d : Option Addr) (C : Addr) (f : Str) (te : sE) : sE := fun W σ S Q => te W σ S fun x S1 => x = .ref a ∧ cls = .ref C ∧ ∃ (dd : Addr) (fs : List (Str × V)) (v : V), d = some dd ∧ At S1 dd (.xd fs) ∧ fs.lookup f = some v ∧ Q v S1
theorem gXf {a C : Addr} {oe : Obj} {cls : Value} {d : Option Addr} {pn : List (Addr × Obj)} {e : Expr} {te : sE} {pos : Pos} {n : Str} (T : XfC X.K C) (hno : PySem.W.findIn X.K (.ref C) n = some none)
    (hz : Zc cls d oe) (hf : ∃ vs, oe.data = .fields vs) (he : PE (X.suite a ((a, oe) :: pn)) e (dE W te)) (hb : attributeBase e n X.env (eval e X.env) = eval e X.env := by rfl) :
    PE (X.suite a ((a, oe) :: pn)) (.Attribute e n pos) (dE W (sXf a cls d C n te)) :=
  PE.by (pe_xf T hno hz hf he hb) fun σ H Q ⟨S, Q', W', kw, o, h, k⟩ => ⟨S, _, W', kw, o, h, fun x S1 H1 o1 ⟨e1, e2, dd, fs, v, e3, h3, h4, h5⟩ => ⟨e1, e2, dd, fs, v, e3, o1.at h3, h4, k _ _ _ o1 h5⟩⟩
/-- isinstance(e, c), e the error that the suite holds, with its dict -/
def rIsX (K : PySem.W.Frag) (D a : Addr) (d : Addr) : List V → Hp → VK → Prop := fun xs H Q => ∃ (c : V) (cv : Value) (b : Bool) (fs : List (Str × V)), xs = [.ref a, c] ∧ H d = some (.xd fs) ∧ (∀ u, RelV c u → u = cv) ∧ PySem.W.kitOne K (.ref D) cv = some b ∧ Q (.bl b) H
theorem call_isX {a D d : Addr} {oe : Obj} {pn : List (Addr × Obj)} (C : ExcC X.K D) (hz : Zc (.ref D) (some d) oe) (hf : ∃ vs, oe.data = .fields vs) : CallR (X.suite a ((a, oe) :: pn)) (.builtin "isinstance") (rIsX X.K D a d) := by
  intro pins s σ H xs us Q I r h
  obtain ⟨c, cv, b, fs, rfl, hd, hcv, e, q⟩ := h
  cases r with
  | cons rx rr =>
    cases rr with
    | cons rt rr =>
      cases rr
      cases rx
      have ec := hcv _ rt
      subst ec
      obtain ⟨hget, _⟩ := I.pin (a, oe) (List.mem_append.mpr (.inl List.mem_cons_self))
      obtain ⟨vs, hv⟩ := hf
      have hx : ObjOk X.prog X.w H s.heap d (.xd fs) := I.hok d _ hd
      obtain ⟨mA, hns, hr⟩ := hx
      obtain ⟨od, ho, hl⟩ := lookIn_ns hns
      have J : PySem.W.InstAt s.heap a oe D (some od) := ⟨hget, hz.1, by unfold PySem.W.notCls; rw [hv] <;> rfl, by rw [hz.2]; exact ho⟩
      exact PySem.W.kia_one (PySem.W.sy_kitx C.hg C.hk C.hs C.hd C.ha C.hn C.ht C.hm) I.kIn J e (fun z => nomatch z) fun tk => ⟨.bl b, H, I.kept (t' := tk) fun _ _ z => z, rfl, q⟩
/-- class c of an isinstance of an error of the class at D: what it is, the answer -/
def rIsY (K : PySem.W.Frag) (a : Addr) (cls : Value) (d : Option Addr) : List V → Hp → VK → Prop := fun xs H Q => ∃ (D dd : Addr), cls = .ref D ∧ d = some dd ∧ ExcC K D ∧ rIsX K D a dd xs H Q
theorem call_isY {a : Addr} {cls : Value} {d : Option Addr} {oe : Obj} {pn : List (Addr × Obj)} (hz : Zc cls d oe) (hf : ∃ vs, oe.data = .fields vs) : CallR (X.suite a ((a, oe) :: pn)) (.builtin "isinstance") (rIsY X.K a cls d) := by
  intro pins s σ H xs us Q I r ⟨D, dd, e1, e2, C, h⟩
  subst e1
  subst e2
  exact call_isX C hz hf pins s σ H xs us Q I r h
def nIsY (K : PySem.W.Frag) (a : Addr) (cls : Value) (d : Option Addr) : sN := fun vs S Q => match vs with
  | [.ref p, c] => p = a ∧ ∃ (D dd : Addr) (cv : Value) (b : Bool) (fs : List (Str × V)), cls = .ref D ∧ d = some dd ∧ ExcC K D ∧ At S dd (.xd fs) ∧ (∀ u, RelV c u → u = cv) ∧ PySem.W.kitOne K (.ref D) cv = some b ∧ Q (.bl b) S
  | _ => False
theorem lIsY {K : PySem.W.Frag} {a : Addr} {cls : Value} {d : Option Addr} : LiftN (nIsY K a cls d) (rIsY K a cls d) := by
  intro vs S Q' H Q o h k
  unfold nIsY at h
  split at h
  · obtain ⟨rfl, D, dd, cv, b, fs, h1, h2, h3, h4, h5, h6, h7⟩ := h
    exact ⟨D, dd, h1, h2, h3, _, cv, b, fs, rfl, o.at h4, h5, h6, k _ _ _ o h7⟩
  · exact h.elim
theorem gIsY {a : Addr} {cls : Value} {d : Option Addr} {oe : Obj} {pn : List (Addr × Obj)} (hz : Zc cls d oe) (hf : ∃ vs, oe.data = .fields vs) {x : Expr} {p : Pos} {es : List Expr} {tas : sA} {pos : Pos} (hg : Gl (X.suite a ((a, oe) :: pn)) "isinstance") (hm : X.mg "isinstance" = none) (ha : PA (X.suite a ((a, oe) :: pn)) (x :: es) (dA W tas))
    (he : starEach (x :: es) X.env = (false, eval x X.env) :: starEach es X.env := by rfl) (hpl : (backTo pos (starEach es X.env)).any (·.1) = false := by rfl) :
    PE (X.suite a ((a, oe) :: pn)) (.Call (.Name "isinstance" p) (x :: es) [] pos) (dE W (sCall1 (nIsY X.K a cls d) tas)) := gB (X := X.suite a ((a, oe) :: pn)) (call_isY hz hf) lIsY hg hm (by decide +kernel) ha (by decide) (by decide) he hpl
/-! ### more calls -/
section
variable {k : Nat} {f : Addr} {fd : FuncData} {ps ks : List Str} {x : Str} {p : Pos} {e : Expr} {sp : Sp}
/-- a promise and its reading -/
structure Ctr (sp : Sp) (r : sWX → List V → St → SH → (V → SH → Prop) → Prop) : Prop where
  mono : SpMono sp
  lift : ∀ W vs σ S Q, r W vs σ S Q → sSp sp W vs σ S Q
def rV (f : List V → Option Ot) : sWX → List V → St → SH → (V → SH → Prop) → Prop := fun W vs σ S Q => match f vs with
  | some (.ok v) => Q v S
  | some (.er C n v) => ∀ d, W (.ref C) (some d) σ (S.new d (.xd [(n, v)]))
  | none => False
def rC {α : Type} (c : Ct α) : sWX → List V → St → SH → (V → SH → Prop) → Prop := fun W vs σ S Q => ∃ g, (∀ H, Own S H → c.pre g vs H) ∧ (∀ H v H', Own S H → c.post g H v H' → ∃ S', Own S' H' ∧ Q v S') ∧ ∀ H x d H', Own S H → c.exn g H x d H' → ∃ S', Own S' H' ∧ W x d σ S'
theorem ctrV {f : List V → Option Ot} : Ctr (spV f) (rV f) := ⟨spV_mono, fun W vs σ S Q h => lift_V h⟩
theorem ctrC {α : Type} {c : Ct α} : Ctr (spC c) (rC c) := ⟨spC_mono, fun W vs σ S Q h => lift_C h⟩
variable {r : sWX → List V → St → SH → (V → SH → Prop) → Prop}
def sCallR (r : sWX → List V → St → SH → (V → SH → Prop) → Prop) (t : sA) : sE := fun W σ S Q => t W σ S fun vs S1 => r W vs σ S1 Q
def sCallD (r : sWX → List V → St → SH → (V → SH → Prop) → Prop) (ds : List V) (t : sA) : sE := fun W σ S Q => t W σ S fun vs S1 => r W (vs ++ ds) σ S1 Q
def sCallKw (r : sWX → List V → St → SH → (V → SH → Prop) → Prop) (gV : List V → List V → List V) (t tk : sA) : sE := fun W σ S Q => t W σ S fun vs S1 => tk W σ S1 fun zs S2 => r W (gV vs zs) σ S2 Q
theorem gCallR (c : Ctr sp r) (F : FnOk X.prog X.w X.K X.mg X.base (L2.CX X.prog X.w) k f fd ps sp) (hr : Room k X.A) (hg : Gl X x) (hm : X.mg x = some (.ref f)) (hk : PySem.W.keepIn X.K (.ref f) = true) (hb : Binds X.K fd ps []) (tk : Takes X W) (ha : PA X (e :: es) (dA W tas))
    (hdb : (x == ("__debug__" : Str)) = false := by decide) (he : starEach (e :: es) X.env = (false, eval e X.env) :: starEach es X.env := by rfl) (hpl : (backTo pos (starEach es X.env)).any (·.1) = false := by rfl) :
    PE X (.Call (.Name x p) (e :: es) [] pos) (dE W (sCallR r tas)) :=
  PE.by (pe_callS F hr hg hm hk hb (fun σ => passAt tk σ) ha hdb he hpl) fun σ H Q ⟨S, Q', W', kw, o, h, k⟩ => ⟨S, _, W', kw, o, h, fun vs S1 H1 o1 h1 => lift_sp c.mono kw o1 (c.lift _ _ _ _ _ h1) k⟩
theorem gCallD {ds : List V} {dus : List Value} (c : Ctr sp r) (F : FnOk X.prog X.w X.K X.mg X.base (L2.CX X.prog X.w) k f fd ps sp) (hr : Room k X.A) (hg : Gl X x) (hm : X.mg x = some (.ref f)) (hk : PySem.W.keepIn X.K (.ref f) = true) (hb : Binds X.K fd ps dus) (hd : Vals ds dus) (tk : Takes X W) (ha : PA X (e :: es) (dA W tas))
    (hdb : (x == ("__debug__" : Str)) = false := by decide) (he : starEach (e :: es) X.env = (false, eval e X.env) :: starEach es X.env := by rfl) (hpl : (backTo pos (starEach es X.env)).any (·.1) = false := by rfl) :
    PE X (.Call (.Name x p) (e :: es) [] pos) (dE W (sCallD r ds tas)) :=
  PE.by (pe_callSD F hr hg hm hk hb hd (fun σ => passAt tk σ) ha hdb he hpl) fun σ H Q ⟨S, Q', W', kw, o, h, k⟩ => ⟨S, _, W', kw, o, h, fun vs S1 H1 o1 h1 => lift_sp c.mono kw o1 (c.lift _ _ _ _ _ h1) k⟩
/-- the callee runs, called with keywords -/
theorem run_fnkS {CX : CXT} {pins : List (Addr × Obj)} {σ : St} {H : Hp} {s : Shared} {Q : VK} {us ws : List Value} {vs zs : List V} {E : St → XK} {g : List Value → List Value → List Value} {gV : List V → List V → List V} (F : FnOk X.prog X.w X.K X.mg X.base CX k f fd ps sp) (hr : Room k X.A) (hb : KBinds X.K fd ps ks g gV) (hx : PassesAt CX X σ (E σ))
    (I : Inv X pins σ H s) (r : Vals vs us) (rz : Vals zs ws) (h : sp (gV vs zs) H Q (E σ)) : wpAny (model X.prog X.w) X.A (call (.ref f) us (ks.zip ws)) (EP X pins σ Q) X.xe s := by
  have r2 := hb.rel r rz
  have hl : (g us ws).length = ps.length := by rw [← r2.length]; exact F.len _ _ _ _ h
  refine wpAny_call (codeAny_mono (F.run X.A X.stack s H ⟨us, ks.zip ws⟩ (g us ws) (gV vs zs) Q (E σ) hr I.env0 (hb.to s us ws I.kIn hl) r2 h) fun r s' hq => ?_)
  cases r with
  | error e => exact hx pins H s e s' I hq
  | ok fl =>
    cases fl with
    | ret u => exact I.after hq
    | next => exact False.elim hq
    | brk => exact False.elim hq
    | cont => exact False.elim hq
def tCallKS (sp : Sp) (gV : List V → List V → List V) (E : St → XK) (t tk : TA) : TE := fun σ H Q => t σ H fun vs H1 => tk σ H1 fun zs H2 => sp (gV vs zs) H2 Q (E σ)
theorem pe_callKS {CX : CXT} {kws : List Keyword} {t tk : TA} {E : St → XK} {g : List Value → List Value → List Value} {gV : List V → List V → List V} (F : FnOk X.prog X.w X.K X.mg X.base CX k f fd ps sp) (hr : Room k X.A) (hg : Gl X x) (hm : X.mg x = some (.ref f)) (hk : PySem.W.keepIn X.K (.ref f) = true) (hb : KBinds X.K fd ps ks g gV) (hx : ∀ σ, PassesAt CX X σ (E σ))
    (ha : PA X (e :: es) t) (hkw : PK X kws tk) (hall : (backToKw pos (keywordEach kws X.env)).all (·.1.isSome) = true := by rfl) (hks : (backToKw pos (keywordEach kws X.env)).filterMap (·.1) = ks := by rfl)
    (hdb : (x == ("__debug__" : Str)) = false := by decide) (he : starEach (e :: es) X.env = (false, eval e X.env) :: starEach es X.env := by rfl)
    (hpl : ((backTo pos (starEach (e :: es) X.env)).any (·.1) || (backToKw pos (keywordEach kws X.env)).any (·.1.isNone)) = false := by rfl) :
    PE X (.Call (.Name x p) (e :: es) kws pos) (tCallKS sp gV E t tk) := by
  refine ⟨fun pins s σ H Q I h => ?_⟩
  refine wpAny_Call_Name_kw (ld_glob I hg hm ?_ hdb)
  refine PySem.W.callWith_KW (h₀ := X.base) I.ok.mod.kin hk hall (thn (ha.run pos pins s σ H _ I h) fun us s1 ⟨vs, H1, I1, r, q⟩ => ?_) hpl he
  refine thn (hkw.run pos pins s1 σ H1 _ I1 q) fun ws s2 ⟨zs, H2, I2, rz, q2⟩ => ⟨I2.kIn, ?_⟩
  rw [hks]
  exact run_fnkS F hr hb (hx σ) I2 r rz q2
theorem run_fnNS {CX : CXT} {n : Nat} {pins : List (Addr × Obj)} {σ : St} {H : Hp} {s : Shared} {Q : VK} {us ws : List Value} {vs zs : List V} {E : St → XK} {g : List Value → List Value → List Value} {gV : List V → List V → List V} (F : FnOk X.prog X.w X.K X.mg X.base CX k f fd ps sp) (hr : Room k X.A) (hb : KBn X.K fd ps n ks g gV) (hx : PassesAt CX X σ (E σ))
    (I : Inv X pins σ H s) (r : Vals vs us) (rz : Vals zs ws) (l1 : vs.length = n) (l2 : zs.length = ks.length) (h : sp (gV vs zs) H Q (E σ)) : wpAny (model X.prog X.w) X.A (call (.ref f) us (ks.zip ws)) (EP X pins σ Q) X.xe s := by
  have r2 := hb.rel r rz
  refine wpAny_call (codeAny_mono (F.run X.A X.stack s H ⟨us, ks.zip ws⟩ (g us ws) (gV vs zs) Q (E σ) hr I.env0 (hb.to s us ws I.kIn (r.length.symm.trans l1) (rz.length.symm.trans l2)) r2 h) fun r s' hq => ?_)
  cases r with
  | error e => exact hx pins H s e s' I hq
  | ok fl =>
    cases fl with
    | ret u => exact I.after hq
    | next => exact False.elim hq
    | brk => exact False.elim hq
    | cont => exact False.elim hq
def tCallNS (n m : Nat) (sp : Sp) (gV : List V → List V → List V) (E : St → XK) (t tk : TA) : TE := fun σ H Q => t σ H fun vs H1 => tk σ H1 fun zs H2 => vs.length = n ∧ zs.length = m ∧ sp (gV vs zs) H2 Q (E σ)
theorem pe_callNS {CX : CXT} {n : Nat} {kws : List Keyword} {t tk : TA} {E : St → XK} {g : List Value → List Value → List Value} {gV : List V → List V → List V} (F : FnOk X.prog X.w X.K X.mg X.base CX k f fd ps sp) (hr : Room k X.A) (hg : Gl X x) (hm : X.mg x = some (.ref f)) (hk : PySem.W.keepIn X.K (.ref f) = true) (hb : KBn X.K fd ps n ks g gV) (hx : ∀ σ, PassesAt CX X σ (E σ))
    (ha : PA X (e :: es) t) (hkw : PK X kws tk) (hall : (backToKw pos (keywordEach kws X.env)).all (·.1.isSome) = true := by rfl) (hks : (backToKw pos (keywordEach kws X.env)).filterMap (·.1) = ks := by rfl)
    (hdb : (x == ("__debug__" : Str)) = false := by decide) (he : starEach (e :: es) X.env = (false, eval e X.env) :: starEach es X.env := by rfl)
    (hpl : ((backTo pos (starEach (e :: es) X.env)).any (·.1) || (backToKw pos (keywordEach kws X.env)).any (·.1.isNone)) = false := by rfl) :
    PE X (.Call (.Name x p) (e :: es) kws pos) (tCallNS n ks.length sp gV E t tk) := by
  refine ⟨fun pins s σ H Q I h => ?_⟩
  refine wpAny_Call_Name_kw (ld_glob I hg hm ?_ hdb)
  refine PySem.W.callWith_KW (h₀ := X.base) I.ok.mod.kin hk hall (thn (ha.run pos pins s σ H _ I h) fun us s1 ⟨vs, H1, I1, r, q⟩ => ?_) hpl he
  refine thn (hkw.run pos pins s1 σ H1 _ I1 q) fun ws s2 ⟨zs, H2, I2, rz, l1, l2, q2⟩ => ⟨I2.kIn, ?_⟩
  rw [hks]
  exact run_fnNS F hr hb (hx σ) I2 r rz l1 l2 q2
/-- a def of the module by its name: what it promises; the last ds.length parameters are left to their defaults ds -/
structure DefC (P : Program) (w : World) (K : PySem.W.Frag) (mg : Str → Option Value) (base : Heap) (x : Str) (ps : List Str) (k : Nat) (ds : List V) (sp : Sp) : Prop where
  ex : ∃ (f : Addr) (fd : FuncData) (dus : List Value), mg x = some (.ref f) ∧ PySem.W.keepIn K (.ref f) = true ∧ FnOk P w K mg base (L2.CX P w) k f fd ps sp ∧ Vals ds dus ∧ Binds K fd ps dus
/-- .. called with n positional values and the keywords ks -/
structure DefN (P : Program) (w : World) (K : PySem.W.Frag) (mg : Str → Option Value) (base : Heap) (x : Str) (ps : List Str) (k n : Nat) (ks : List Str) (gV : List V → List V → List V) (sp : Sp) : Prop where
  ex : ∃ (f : Addr) (fd : FuncData) (g : List Value → List Value → List Value), mg x = some (.ref f) ∧ PySem.W.keepIn K (.ref f) = true ∧ FnOk P w K mg base (L2.CX P w) k f fd ps sp ∧ KBn K fd ps n ks g gV
theorem gCall1 {j : Nat} {ds : List V} (c : Ctr sp r) (T : DefC X.prog X.w X.K X.mg X.base x ps k ds sp) (hr : Room j X.A) (hj : k ≤ j) (hg : Gl X x) (tk : Takes X W) (ha : PA X (e :: es) (dA W tas))
    (hdb : (x == ("__debug__" : Str)) = false := by decide) (he : starEach (e :: es) X.env = (false, eval e X.env) :: starEach es X.env := by rfl) (hpl : (backTo pos (starEach es X.env)).any (·.1) = false := by rfl) :
    PE X (.Call (.Name x p) (e :: es) [] pos) (dE W (sCallD r ds tas)) := by
  obtain ⟨f, fd, dus, hm, hk, F, hd, hb⟩ := T.ex
  exact gCallD c F (hr.mono hj) hg hm hk hb hd tk ha hdb he hpl
def sCallN (r : sWX → List V → St → SH → (V → SH → Prop) → Prop) (n m : Nat) (gV : List V → List V → List V) (t tk : sA) : sE := fun W σ S Q => t W σ S fun vs S1 => tk W σ S1 fun zs S2 => vs.length = n ∧ zs.length = m ∧ r W (gV vs zs) σ S2 Q
theorem gCall2 {j n m : Nat} {kws : List Keyword} {tks : sA} {gV : List V → List V → List V} (c : Ctr sp r) (T : DefN X.prog X.w X.K X.mg X.base x ps k n ks gV sp) (hr : Room j X.A) (hj : k ≤ j) (hg : Gl X x) (tk : Takes X W) (ha : PA X (e :: es) (dA W tas)) (hkw : PK X kws (dA W tks)) (hm : ks.length = m)
    (hall : (backToKw pos (keywordEach kws X.env)).all (·.1.isSome) = true := by rfl) (hks : (backToKw pos (keywordEach kws X.env)).filterMap (·.1) = ks := by rfl)
    (hdb : (x == ("__debug__" : Str)) = false := by decide) (he : starEach (e :: es) X.env = (false, eval e X.env) :: starEach es X.env := by rfl)
    (hpl : ((backTo pos (starEach (e :: es) X.env)).any (·.1) || (backToKw pos (keywordEach kws X.env)).any (·.1.isNone)) = false := by rfl) :
    PE X (.Call (.Name x p) (e :: es) kws pos) (dE W (sCallN r n m gV tas tks)) := by
  obtain ⟨f, fd, g, hmg, hk, F, hb⟩ := T.ex
  subst hm
  exact PE.by (pe_callNS F (hr.mono hj) hg hmg hk hb (fun σ => passAt tk σ) ha hkw hall hks hdb he hpl) fun σ H Q ⟨S, Q', W', kw, o, h, k⟩ => ⟨S, _, W', kw, o, h, fun vs S1 H1 o1 h1 => ⟨S1, _, W', kw, o1, h1, fun zs S2 H2 o2 ⟨l1, l2, h2⟩ => ⟨l1, l2, lift_sp c.mono kw o2 (c.lift _ _ _ _ _ h2) k⟩⟩⟩
end
/-- a built-in function that a module's name holds (from m import f) -/
theorem gBf {id : String} {x : Str} {p : Pos} {e : Expr} {r : sN} {R : List V → Hp → VK → Prop} (hc : CallR X (.builtin id) R) (l : LiftN r R) (hg : Gl X x) (hm : X.mg x = some (.builtin id)) (ha : PA X (e :: es) (dA W tas)) (hdb : (x == ("__debug__" : Str)) = false := by decide)
    (he : starEach (e :: es) X.env = (false, eval e X.env) :: starEach es X.env := by rfl) (hpl : (backTo pos (starEach es X.env)).any (·.1) = false := by rfl) : PE X (.Call (.Name x p) (e :: es) [] pos) (dE W (sCall1 r tas)) :=
  PE.by (pe_callBfun hc hg hm ha hdb he hpl) fun σ H Q ⟨S, Q', W', kw, o, h, k⟩ => ⟨S, _, W', kw, o, h, fun vs S1 H1 o1 h1 => l vs S1 Q' H1 Q o1 h1 k⟩

/-! ### xs.count(x), flat -/
def rCntF (K : PySem.W.Frag) : V → List V → Hp → VK → Prop := fun x vs H Q => ∃ (p : Addr) (xs : List V) (y : V), x = .ref p ∧ vs = [y] ∧ SqL K H p xs ∧ flatV y = true ∧ xs.all flatV = true ∧ Q (.int (xs.countP fun z => eqV z y : Nat)) H
theorem count_eqU {x : V} : ∀ {xs : List V} {us : List Value}, Vals xs us → xs.all flatV = true → us.countP (eqU x) = xs.countP fun y => eqV y x
  | _, _, .nil, _ => rfl
  | y :: xs, u :: us, .cons r t, f => by
    rw [List.all_cons, Bool.and_eq_true] at f
    rw [List.countP_cons, List.countP_cons, eqU_of r f.1, count_eqU t f.2]
theorem mt_lcountF : MtR X "list.count" (rCntF X.K) := by
  intro pins s σ H x xs v us Q I rx rxs h
  obtain ⟨p, ys, y, rfl, rfl, hs, f1, f2, q⟩ := h
  cases rx
  obtain ⟨u, rfl, ru⟩ := rxs.one
  obtain ⟨its, rv, ⟨⟨cls, dd, data, sl⟩, n, ho, hc, hdn, hd⟩, hlen⟩ := I.list hs
  simp only at hc hd
  subst hc hd
  refine call_meets PySem.F.slot_list_count ⟨_, ho, rfl⟩ PySem.F.entry_list_count (PySem.F.args_list_count_2 _ _)
    (SeqAt.list_countAt p its.toArray n dd sl u (eqU y)) ⟨ho, fun z hz => mem_eqAt ru f1 rv f2 z (by simpa using hz), ?_⟩
  refine ⟨.int (ys.countP fun z => eqV z y : Nat), H, I.tok _, ⟨s.toks, ?_⟩, q⟩
  show Value.int ((its.toArray.toList.countP (eqU y) : Nat) : Int) s.toks = Value.int ((ys.countP fun z => eqV z y : Nat) : Int) s.toks
  have e : its.toArray.toList = its := by simp
  rw [e, count_eqU rv f2]
def mCnt (K : PySem.W.Frag) : sM := fun x vs S Q => match x, vs with
  | .ref p, [y] => ∃ xs, sL K S p xs ∧ flatV y = true ∧ xs.all flatV = true ∧ Q (.int (xs.countP fun z => eqV z y : Nat)) S
  | _, _ => False
theorem lCnt {K : PySem.W.Frag} : LiftM (mCnt K) (rCntF K) := by
  intro x vs S Q' H Q o h k
  unfold mCnt at h
  split at h
  · obtain ⟨xs, h1, h2, h3, h4⟩ := h
    exact ⟨_, xs, _, rfl, rfl, o.l h1, h2, h3, k _ _ _ o h4⟩
  · exact h.elim

/-! ### math.comb -/
def rComb : List V → Hp → VK → Prop := fun vs H Q => ∃ a b : Int, vs = [.int a, .int b] ∧ 0 ≤ a ∧ 0 ≤ b ∧ a ≤ 18000 ∧ Q (.int (PySem.W.mcComb a b)) H
theorem cr_comb : CallR X (.builtin "math.comb") rComb := by
  intro pins s σ H vs us Q I r h
  obtain ⟨a, b, rfl, h1, h2, h3, q⟩ := h
  obtain ⟨t, u, rfl⟩ := Vals.int2 r
  exact PySem.W.mc_comb h1 h2 (by omega) (.inr h3) fun _ => ⟨.int _, H, I.tok _, ⟨_, rfl⟩, q⟩
def nComb : sN := fun vs S Q => match vs with
  | [.int a, .int b] => 0 ≤ a ∧ 0 ≤ b ∧ a ≤ 18000 ∧ Q (.int (PySem.W.mcComb a b)) S
  | _ => False
theorem lComb : LiftN nComb rComb := by
  intro vs S Q' H Q o h k
  unfold nComb at h
  split at h
  · exact ⟨_, _, rfl, h.1, h.2.1, h.2.2.1, k _ _ _ o h.2.2.2⟩
  · exact h.elim
/-! ### in short -/
theorem gv (i : Nat) {x : Str} {pos : Pos} (hN : X.N[i]? = some x := by rfl) (hv : Vis X.env.scope x := by first | exact Or.inl rfl | exact Or.inr (Or.inl rfl) | exact Or.inr (Or.inr rfl)) (hd : (x == ("__debug__" : Str)) = false := by decide)
    (hcd : (x == ("__classdict__" : Str)) = false := by decide) : PE X (.Name x pos) (dE W (sVar i)) := gVar hN hv hd hcd
theorem gOneV {a : Expr} {ta : sE} {op : BoolOp} {pos : Pos} (h : PE X a (dE W ta)) : PE X (.BoolOp op [a] pos) (dE W ta) := pe_one h
theorem gAnd1 {a : Expr} {ta : sT} {pos : Pos} (h : PT X a (dT W ta)) : PW X (.BoolOp .And [a] pos) (dT W ta) := pw_and1 h
theorem gOr1 {a : Expr} {ta : sT} {pos : Pos} (h : PT X a (dT W ta)) : PW X (.BoolOp .Or [a] pos) (dT W ta) := pw_or1 h
/-- a built-in class, an own class, a module's constant as a value -/
theorem gTyV {x : Str} {T : String} {pos : Pos} (hg : Gl X x) (hm : X.mg x = none) (hv : bootBuiltins x = some (.type T)) (hn : x ≠ "__name__" := by decide) (hd : (x == ("__debug__" : Str)) = false := by decide) : PE X (.Name x pos) (dE W (sC (.ty T))) := gC_of (pe_bltn hg hm hv rfl hn hd)
theorem gClV {x : Str} {C : Addr} {pos : Pos} (hg : Gl X x) (hm : X.mg x = some (.ref C)) (hd : (x == ("__debug__" : Str)) = false := by decide) : PE X (.Name x pos) (dE W (sC (.ref C))) := gC_of (pe_glob hg hm rfl hd)
theorem gCnV {x : Str} {i : Int} {t : Tok} {pos : Pos} (hg : Gl X x) (hm : X.mg x = some (.int i t)) (hd : (x == ("__debug__" : Str)) = false := by decide) : PE X (.Name x pos) (dE W (sC (.int i))) := gC_of (pe_glob hg hm ⟨t, rfl⟩ hd)
/-! ### a def's body -/
theorem start_body {W : WX} {t : sS} {D : Ends} {σ : St} {H : Hp} (S : SH) (o : Own S H)
    (h : t { nx := fun σ' S' => ∀ H', Own S' H' → D.nx σ' H', rt := fun v S' => ∀ H', Own S' H' → D.rt v H', ex := fun c d σ' S' => ∀ H', Own S' H' → W c d σ' H' } σ S) (hb : ∀ σ H, D.bk σ H ↔ False) (hc : ∀ σ H, D.ct σ H ↔ False) : dS W t D σ H :=
  ⟨S, _, o, h, ⟨fun σ' S' H' o' q => q H' o', fun v S' H' o' q => q H' o', fun _ _ _ _ q => q.elim, fun _ _ _ _ q => q.elim, fun c d σ' S' H' o' q => q H' o'⟩⟩
/-- what a body must show, by a contract -/
abbrev endsC {α : Type} (ct : Ct α) (g : α) (H : Hp) : sEnds := ⟨fun _ S' => ∀ H', Own S' H' → ct.post g H .non H', fun v S' => ∀ H', Own S' H' → ct.post g H v H', fun _ _ => False, fun _ _ => False, fun c d _ S' => ∀ H', Own S' H' → ct.exn g H c d H'⟩
theorem body_C {α : Type} {ct : Ct α} {t : sS} {σ : St} {vs : List V} {H : Hp} {Q : VK} {E : XK} (h : spC ct vs H Q E) (hv : ∀ g, ct.pre g vs H → ∃ S, Own S H ∧ t (endsC ct g H) σ S) :
    dS (fun c d _ H => E c d H) t { nx := fun _ H' => Q .non H', rt := Q } σ H := by
  obtain ⟨g, h1, h2, h3⟩ := h
  obtain ⟨S, o, q⟩ := hv g h1
  exact ⟨S, _, o, q, ⟨fun _ S' H' o' q => h2 _ _ (q H' o'), fun v S' H' o' q => h2 _ _ (q H' o'), fun _ _ _ _ q => q.elim, fun _ _ _ _ q => q.elim, fun c d σ' S' H' o' q => h3 _ _ _ (q H' o')⟩⟩
abbrev endsV (o : Ot) (H : Hp) : sEnds := ⟨fun _ S' => match o with | .ok v => v = .non ∧ (∀ a u, H a = some u → S'.F a = some u) | .er _ _ _ => False, fun v' S' => match o with | .ok v => v' = v ∧ (∀ a u, H a = some u → S'.F a = some u) | .er _ _ _ => False, fun _ _ => False, fun _ _ => False,
  fun c d _ S' => match o with | .ok _ => False | .er C n v => c = .ref C ∧ ∃ dd, d = some dd ∧ S'.F = H ∧ (∃ i : Nat, S'.G[i]? = some (dd, .xd [(n, v)]))⟩
theorem body_V {f : List V → Option Ot} {t : sS} {σ : St} {vs : List V} {H : Hp} {Q : VK} {E : XK} (h : spV f vs H Q E) (hv : ∀ o, f vs = some o → t (endsV o H) σ ⟨H, []⟩) :
    dS (fun c d _ H => E c d H) t { nx := fun _ H' => Q .non H', rt := Q } σ H := by
  unfold spV at h
  split at h
  · rename_i v e
    refine ⟨⟨H, []⟩, _, Own.base H, hv _ e, ⟨fun _ S' H' o' q => ?_, fun v S' H' o' q => ?_, fun _ _ _ _ q => q.elim, fun _ _ _ _ q => q.elim, fun c d σ' S' H' o' q => q.elim⟩⟩
    · obtain ⟨rfl, q⟩ := q
      exact h H' fun a u e => o'.fr a u (q a u e)
    · obtain ⟨rfl, q⟩ := q
      exact h H' fun a u e => o'.fr a u (q a u e)
  · rename_i C n v e
    refine ⟨⟨H, []⟩, _, Own.base H, hv _ e, ⟨fun _ S' H' o' q => q.elim, fun v S' H' o' q => q.elim, fun _ _ _ _ q => q.elim, fun _ _ _ _ q => q.elim, fun c d σ' S' H' o' q => ?_⟩⟩
    obtain ⟨rfl, dd, rfl, q1, i, q2⟩ := q
    refine h H' dd (fun a u e => o'.fr a u (by rw [q1]; exact e)) ?_ (o'.g q2)
    rw [← q1]
    exact (o'.gs _ (List.mem_of_getElem? q2)).2
  · exact h.elim
end
end SY
namespace SY
open PySem PySem.Spec PyProof.Rows L2
/-! ### a try with several clauses, each with a name or without -/
abbrev Cla := Value × Option Nat × (Addr → Value → Option Addr → TS)
/-- the ends of a clause's suite: its name goes -/
def offE (D : Ends) : Option Nat → Ends
  | none => D
  | some i => ⟨fun z H => D.nx (z.set i none) H, D.rt, fun z H => D.bk (z.set i none) H, fun z H => D.ct (z.set i none) H⟩
def onS (z : L2.St) (a : Addr) : Option Nat → L2.St
  | none => z
  | some i => z.set i (some (.ref a))
def wG (K : PySem.W.Frag) (Wo : WX) (D : Ends) : List Cla → WX
  | [] => Wo
  | q :: r => fun cls d z H => ∃ b, PySem.W.exmOne K cls q.1 = some b ∧ (b = true → ∀ a, H a = none → q.2.2 a cls d (offE D q.2.1) (onS z a q.2.1) H) ∧ (b = false → wG K Wo D r cls d z H)
inductive HdG (X : Cx) : List ExceptHandler → List Cla → Prop
  | nil : HdG X [] []
  | cons {x : Str} {c : Value} {on : Option Str} {oi : Option Nat} {ts : Addr → Value → Option Addr → TS} {b0 : Stmt} {rest : List Stmt} {np hp : Pos} {hs : List ExceptHandler} {l : List Cla} (hc : Names X x c)
      (ho : (on = none ∧ oi = none) ∨ ∃ n i, on = some n ∧ oi = some i ∧ X.N[i]? = some n ∧ X.env.kindOf n = some .local)
      (su : ∀ a oe cls d pn, Zc cls d oe → (∃ vs, oe.data = .fields vs) → PSs (X.suite a ((a, oe) :: pn)) (b0 :: rest) (ts a cls d)) (r : HdG X hs l) :
      HdG X (.ExceptHandler (some (.Name x np)) on (b0 :: rest) hp :: hs) ((c, oi, ts) :: l)
section
variable {X : Cx} {body : List Stmt} {h0 : ExceptHandler} {hs0 : List ExceptHandler} {l : List Cla} {pos : Pos} {tb : WX → TS} {Wo : WX}
theorem ps_tryG (hst : X.stack = X.env :: X.outer) (hfr : X.env.frame = some X.env.locals) (hN : X.N.Nodup) (tk : Takes X Wo)
    (hb : ∀ (W : WX) pn (xe : Value → Shared → Prop), Takes (X.tr pn xe) W → PassesOwn (model X.prog X.w) X.A X.env xe → PSs (X.tr pn xe) body (tb W))
    (hh : HdG X (h0 :: hs0) l) : PS X (.Try body (h0 :: hs0) [] [] pos) (fun D z H => tb (wG X.K Wo D l) D z H) := by
  refine ⟨fun pins s z H D I q => ?_⟩
  have ok := I.ok
  have fr : X.A.frames = some (X.env :: X.outer) := ok.frames.trans (congrArg some hst)
  refine wpAny_Try_except ?_
  refine wpAny_mono ((hb (wG X.K Wo D l) (X.pn ++ pins)
    (fun e s1 => wpAny (model X.prog X.w) X.A (noteFrame e X.env) (fun _ s2 => wpAny (model X.prog X.w) X.A (setFlight e none)
      (fun _ s3 => wpAny (model X.prog X.w) X.A (handleBy e X.env (h0 :: hs0)) (SP X pins D) X.xe s3) X.xe s2) X.xe s1)
    (fun u s1 caught => ?_) PassesOwn.looking).run [] s z H D (I.toTry _) q) (fun f s1 fin => ?_) fun _ _ y => y
  · obtain ⟨a, B, sI, pins1, z1, H1, cls, d, rfl, J1, nb, up, sky, na, os, ag, wish⟩ := caught
    have J : Inv X pins z1 H1 sI := J1.ofTry ok
    have sky2 : Sky B (X.env :: X.outer) a (Zc cls d) X.env.locals s1.heap := hst ▸ sky
    show wpAny (model X.prog X.w) X.A (noteFrame (.ref a) X.env) _ _ _
    refine Sky.land Zc.steady fr hfr sky2 fun h3 fl3 up3 => ?_
    have J3 : Inv X pins z1 H1 { s1 with heap := h3 } := J.landed nb fl3.1 (up.trans up3) os ag
    obtain ⟨oe3, vs3, he3, hz3, hd3⟩ := fl3.there
    have away : a ∉ frs (X.env :: X.outer) := fun hm => by
      obtain ⟨_, o', e', hnf⟩ := fl3.2.2.1.mem hm
      rw [he3] at e'
      cases e'
      exact hnf _ hd3
    have nL : a ≠ X.env.locals := fun y => away (List.mem_filterMap.mpr ⟨X.env, .head _, hfr.trans (congrArg some y.symm)⟩)
    have nF : a ∉ X.fs := fun hm => by
      obtain ⟨e, he, y⟩ := List.mem_filterMap.mp hm
      exact away (List.mem_filterMap.mpr ⟨e, .tail _ he, y⟩)
    have S3 := J3.suite he3 hd3 na nL nF
    have go : ∀ {hs : List ExceptHandler} {l1 : List Cla}, HdG X hs l1 → wG X.K Wo D l1 cls d z1 H1 → wpAny (model X.prog X.w) X.A (handleBy (.ref a) X.env hs) (SP X pins D) X.xe { s1 with heap := h3 } := by
      intro hs l1 hk
      induction hk with
      | nil =>
        intro w
        refine wpAny_handleBy_nil ?_
        obtain ⟨_, _, _, oe, vs, T, oT, _, he, _, hd, h1, _⟩ := id fl3
        unfold PySem.passOn
        refine wpAny_bind (wpAny_field he hd h1 ?_)
        rw [if_neg (show ¬ ((Value.ref T == Value.none) = true) by simp)]
        have last : wpAny (model X.prog X.w) X.A (setFlight (.ref a) X.env.frame)
            (fun _ s4 => wpAny (model X.prog X.w) X.A (throw (.ref a) : Sem Flow) (SP X pins D) X.xe s4) X.xe { s1 with heap := h3 } := by
          rw [hfr]
          refine HandSPX.setFlight_upZ fl3 fun h4 hh4 up4 => wpAny_throw (tk _ _ ⟨a, B, sI, pins, z1, H1, cls, d, rfl, J, nb, (up.trans up3).trans up4, .inr (.inr (hst ▸ hh4)), na, os, ag, w⟩)
        first
          | exact wpAny_bind (wpAny_pure (wpAny_bind last))
          | exact wpAny_bind last
      | @cons x c on oi ts b0 rest np hp hs2 l2 hc ho su r ih =>
        intro w
        obtain ⟨b, hb1, yes, no⟩ := w
        refine wpAny_handleBy_cons (codeAny_handlers_test ?_) (fun y => nomatch y)
        have LT : PySem.W.Looks (model X.prog X.w) h3 (typeOf (.ref a)) cls := fun A Q E t k y => wpAny_typeOf_ref (k _ _ he3) (by rw [hz3.1]; exact y)
        have LM := PySem.W.exm_one (M := model X.prog X.w) (J3.kIn) LT hb1
        have asks : ∀ {Q : Value → Shared → Prop} {E : Value → Shared → Prop}, Q c { s1 with heap := h3 } →
            wpAny (model X.prog X.w) (X.A.mark (some (.ref a))) (eval (.Name x np) X.env) Q E { s1 with heap := h3 } := fun {Q E} y => by
          obtain ⟨hg, hdbg, hm | ⟨hm, hv, hnn⟩⟩ := hc
          · exact ld_glob (X := X.suite a ((a, oe3) :: (X.pn ++ pins))) S3 hg hm y hdbg
          · exact ld_blt (X := X.suite a ((a, oe3) :: (X.pn ++ pins))) S3 hg hm hv y hnn hdbg
        refine asks (LM.here ?_)
        cases b with
        | false =>
          show wpAny _ X.A (handleBy (.ref a) X.env hs2) _ _ _
          exact ih (no rfl)
        | true =>
          rcases ho with ⟨rfl, rfl⟩ | ⟨n, i, rfl, rfl, hi, hln⟩
          · refine codeAny_handlers_suite ?_
            refine HandSPX.lands_againZ fl3 fun h4 fl4 up4 => ?_
            have J4 : Inv X pins z1 H1 { s1 with heap := h4 } := J.landed nb fl4.1 ((up.trans up3).trans up4) os ag
            obtain ⟨oe4, vs4, he4, hz4, hd4⟩ := fl4.there
            have S4 := J4.suite he4 hd4 na nL nF
            refine wpAny_mono ((su a oe4 cls d (X.pn ++ pins) hz4 ⟨_, hd4⟩).run [] _ _ H1 _ S4 (yes rfl a na)) (fun f s6 y => ?_) (fun _ _ y => y.elim)
            cases f with
            | ret u =>
              obtain ⟨v6, z6, H6, S6, r6, q6⟩ := y
              exact ⟨_, _, _, S6.unsuite ok, r6, q6⟩
            | _ =>
              obtain ⟨z6, H6, S6, q6⟩ := y
              exact ⟨_, _, S6.unsuite ok, q6⟩
          · refine codeAny_handlers_suite_as ?_
            refine HandSPX.lands_againZ fl3 fun h4 fl4 up4 => ?_
            have J4 : Inv X pins z1 H1 { s1 with heap := h4 } := J.landed nb fl4.1 ((up.trans up3).trans up4) os ag
            obtain ⟨oe4, vs4, he4, hz4, hd4⟩ := fl4.there
            have S4 := J4.suite he4 hd4 na nL nF
            refine store_ok (X := X.suite a ((a, oe4) :: (X.pn ++ pins))) (v := .ref a) S4 hN hi (.inl hln) rfl (fun s5 S5 => ?_) (.inr hln)
            refine wpAny_mono ((su a oe4 cls d (X.pn ++ pins) hz4 ⟨_, hd4⟩).run [] s5 _ H1 _ S5 (yes rfl a na)) (fun f s6 y => ?_) (fun _ _ y => y.elim)
            have off : ∀ {z6 : L2.St} {H6 : Hp} {Q : Shared → Prop}, Inv (X.suite a ((a, oe4) :: (X.pn ++ pins))) [] z6 H6 s6 → (∀ s7, Inv X pins (z6.set i none) H6 s7 → Q s7) →
                wpAny (model X.prog X.w) X.A (do bindName X.env n .none; unbindBehindTheSuite X.env n hp) (fun _ s7 => Q s7) X.xe s6 := fun S6 k => gone_ok (S6.unsuite ok) hN hi hln k
            cases f with
            | ret u =>
              obtain ⟨v6, z6, H6, S6, r6, q6⟩ := y
              exact off S6 fun s7 J7 => ⟨_, _, _, J7, r6, q6⟩
            | _ =>
              obtain ⟨z6, H6, S6, q6⟩ := y
              exact off S6 fun s7 J7 => ⟨_, _, J7, q6⟩
    exact go hh wish
  · cases f with
    | next =>
      obtain ⟨z1, H1, J1, y⟩ := fin
      exact wpAny_execs_nil ⟨z1, H1, J1.ofTry ok, y⟩
    | ret u =>
      obtain ⟨v, z1, H1, J1, rv, y⟩ := fin
      exact ⟨v, z1, H1, J1.ofTry ok, rv, y⟩
    | _ =>
      obtain ⟨z1, H1, J1, y⟩ := fin
      exact ⟨z1, H1, J1.ofTry ok, y⟩
end
/-! over the symbolic heap -/
abbrev Cls := Value × Option Nat × (Addr → Value → Option Addr → sS)
def offS (D : sEnds) : Option Nat → sEnds
  | none => { D with ex := noW }
  | some i => ⟨fun z S => D.nx (z.set i none) S, D.rt, fun z S => D.bk (z.set i none) S, fun z S => D.ct (z.set i none) S, noW⟩
def sHan (K : PySem.W.Frag) (D : sEnds) : List Cls → sWX
  | [] => D.ex
  | q :: r => fun cls d z S => ∃ b, PySem.W.exmOne K cls q.1 = some b ∧ (b = true → ∀ a, q.2.2 a cls d (offS D q.2.1) (onS z a q.2.1) S) ∧ (b = false → sHan K D r cls d z S)
def sTryG (K : PySem.W.Frag) (tb : sS) (l : List Cls) : sS := fun D z S => tb { D with ex := sHan K D l } z S
inductive sHd (X : Cx) : List ExceptHandler → List Cls → Prop
  | nil : sHd X [] []
  | as {x n : Str} {c : Value} {i : Nat} {ts : Addr → Value → Option Addr → sS} {b0 : Stmt} {rest : List Stmt} {np hp : Pos} {hs : List ExceptHandler} {l : List Cls} (hc : Names X x c) (hi : X.N[i]? = some n) (hl : X.env.kindOf n = some .local)
      (su : ∀ a oe cls d pn, Zc cls d oe → (∃ vs, oe.data = .fields vs) → PSs (X.suite a ((a, oe) :: pn)) (b0 :: rest) (dS NoW (ts a cls d))) (r : sHd X hs l) :
      sHd X (.ExceptHandler (some (.Name x np)) (some n) (b0 :: rest) hp :: hs) ((c, some i, ts) :: l)
  | no {x : Str} {c : Value} {ts : Addr → Value → Option Addr → sS} {b0 : Stmt} {rest : List Stmt} {np hp : Pos} {hs : List ExceptHandler} {l : List Cls} (hc : Names X x c)
      (su : ∀ a oe cls d pn, Zc cls d oe → (∃ vs, oe.data = .fields vs) → PSs (X.suite a ((a, oe) :: pn)) (b0 :: rest) (dS NoW (ts a cls d))) (r : sHd X hs l) :
      sHd X (.ExceptHandler (some (.Name x np)) none (b0 :: rest) hp :: hs) ((c, none, ts) :: l)
theorem sHd.to {X : Cx} {hs : List ExceptHandler} {l : List Cls} (h : sHd X hs l) : HdG X hs (l.map fun q => (q.1, q.2.1, fun a cls d => dS NoW (q.2.2 a cls d))) := by
  induction h with
  | nil => exact .nil
  | as hc hi hl su r ih => exact .cons hc (.inr ⟨_, _, rfl, rfl, hi, hl⟩) su ih
  | no hc su r ih => exact .cons hc (.inl ⟨rfl, rfl⟩) su ih
theorem sHan_ok {K : PySem.W.Frag} {W : WX} {D : Ends} {D' : sEnds} (k : EImp W D' D) : ∀ (l : List Cls), ImpW (sHan K D' l) (wG K W D (l.map fun q => (q.1, q.2.1, fun a cls d => dS NoW (q.2.2 a cls d))))
  | [] => k.ex
  | q :: r => fun cls d z S H o ⟨b, e, y, n⟩ => ⟨b, e, fun hb a _ => ⟨S, _, o, y hb a, by
      cases q.2.1 with
      | none => exact ⟨k.nx, k.rt, k.bk, k.ct, noW_imp⟩
      | some i => exact ⟨fun z2 S2 H2 o2 q => k.nx _ _ _ o2 q, k.rt, fun z2 S2 H2 o2 q => k.bk _ _ _ o2 q, fun z2 S2 H2 o2 q => k.ct _ _ _ o2 q, noW_imp⟩⟩, fun hb => sHan_ok k r cls d z S H o (n hb)⟩
theorem hTryG {X : Cx} {W : WX} {body : List Stmt} {h0 : ExceptHandler} {hs : List ExceptHandler} {l : List Cls} {pos : Pos} {tb : sS}
    (hst : X.stack = X.env :: X.outer) (hf : X.env.frame = some X.env.locals) (hN : X.N.Nodup) (tk : Takes X W)
    (hb : ∀ (W : WX) (pn : List (Addr × Obj)) (xe : Value → Shared → Prop), Takes (X.tr pn xe) W → PassesOwn (model X.prog X.w) X.A X.env xe → PSs (X.tr pn xe) body (dS W tb))
    (hh : sHd X (h0 :: hs) l) : PS X (.Try body (h0 :: hs) [] [] pos) (dS W (sTryG X.K tb l)) :=
  PS.by (ps_tryG (tb := fun W => dS W tb) hst hf hN tk hb hh.to) fun D z H ⟨S, D', o, h, k⟩ => ⟨S, _, o, h, ⟨k.nx, k.rt, k.bk, k.ct, sHan_ok k l⟩⟩
end SY
namespace SY
open PySem PySem.Spec PyProof.Rows L2
section
variable {X : Cx} {W : WX} {a b e : Expr} {es : List Expr} {pos : Pos} {ta tb te : sE} {tas : sA}
/-! ### tuples: +, tuple(x) -/
def oAddT (K : PySem.W.Frag) : s2 := fun x y S Q => match x, y with
  | .ref p, .ref q => ∃ xs ys, sU K S p xs ∧ sU K S q ys ∧ xs.length + ys.length ≤ sizeLine ∧ (xs = [] → Q (.ref q) S) ∧ (xs ≠ [] → ys = [] → Q (.ref p) S) ∧ (xs ≠ [] → ys ≠ [] → ∀ r, Q (.ref r) (S.new r (.tup (xs ++ ys))))
  | _, _ => False
theorem lAddT {K : PySem.W.Frag} : Lift2 (oAddT K) (rCatA K) := by
  intro x y S Q' H Q o h k
  unfold oAddT at h
  split at h
  · obtain ⟨xs, ys, h1, h2, h3, h4, h5, h6⟩ := h
    exact ⟨_, _, xs, ys, rfl, rfl, o.u h1, o.u h2, h3, fun z => k _ _ _ o (h4 z), fun z1 z2 => k _ _ _ o (h5 z1 z2), fun z1 z2 r hr => k _ _ _ (o.newU hr) (h6 z1 z2 r)⟩
  · exact h.elim
theorem gAddT (ha : PE X a (dE W ta)) (hb : PE X b (dE W tb)) : PE X (.BinOp a .Add b pos) (dE W (sOp (oAddT X.K) ta tb)) := gOp op_catA lAddT ha hb
/-- tuple(x) of a list: a new tuple; of a tuple: itself -/
def nTuple (K : PySem.W.Frag) (x : V) (S : SH) (Q : V → SH → Prop) : Prop := match x with
  | .ref p => (∃ xs, sL K S p xs ∧ ∀ q, Q (.ref q) (S.new q (.tup xs))) ∨ ∃ xs, sU K S p xs ∧ Q (.ref p) S
  | _ => False
def sTuple (K : PySem.W.Frag) (t : sE) : sE := fun W z S Q => t W z S fun x S1 => nTuple K x S1 Q
theorem gTuple {p : Pos} (hg : Gl X "tuple") (hm : X.mg "tuple" = none) (ha : PE X a (dE W ta)) (na : starEach [a] X.env = (false, eval a X.env) :: starEach [] X.env := by rfl) : PE X (.Call (.Name "tuple" p) [a] [] pos) (dE W (sTuple X.K ta)) :=
  PE.by (pe_tupleOf hg hm ha na) fun z H Q ⟨S, Q', W', kw, o, h, k⟩ => ⟨S, _, W', kw, o, h, fun x S1 H1 o1 h1 => by
    unfold nTuple at h1
    split at h1
    · rcases h1 with ⟨xs, h1, h2⟩ | ⟨xs, h1, h2⟩
      · exact .inl ⟨_, xs, rfl, o1.l h1, fun q hq => k _ _ _ (o1.newU hq) (h2 q)⟩
      · exact .inr ⟨_, xs, rfl, o1.u h1, k _ _ _ o1 h2⟩
    · exact h1.elim⟩
/-! ### list(range(..)), tuple(range(..)) -/
def rgS (n : Int) : List V := (List.range n.toNat).map fun i => V.int (i : Nat)
theorem rgS_eq (n : Int) : rgV 0 n = rgS n := by
  unfold rgV rgS
  rw [Int.sub_zero]
  congr 1
  funext i
  rw [Int.zero_add]
def nRgL (x : V) (S : SH) (Q : V → SH → Prop) : Prop := match x with
  | .int n => (0 ≤ n ∧ n ≤ 16777216) ∧ ∀ q, Q (.ref q) (S.new q (.lst (rgS n)))
  | _ => False
def nRgT (x : V) (S : SH) (Q : V → SH → Prop) : Prop := match x with
  | .int n => (0 ≤ n ∧ n ≤ 16777216) ∧ ∀ q, Q (.ref q) (S.new q (.tup (rgS n)))
  | _ => False
def sRgL (t : sE) : sE := fun W z S Q => t W z S fun x S1 => nRgL x S1 Q
def sRgT (t : sE) : sE := fun W z S Q => t W z S fun x S1 => nRgT x S1 Q
theorem gRgL {p pos2 p2 : Pos} (hc : X.calm = true) (hg : Gl X "list") (hm : X.mg "list" = none) (hg2 : Gl X "range") (hm2 : X.mg "range" = none) (ha : PE X a (dE W ta)) (na : starEach [a] X.env = (false, eval a X.env) :: starEach [] X.env := by rfl)
    (nb : starEach [.Call (.Name "range" p2) [a] [] pos2] X.env = (false, eval (.Call (.Name "range" p2) [a] [] pos2) X.env) :: starEach [] X.env := by rfl) : PE X (.Call (.Name "list" p) [.Call (.Name "range" p2) [a] [] pos2] [] pos) (dE W (sRgL ta)) :=
  PE.by (pe_listRg hc hg hm (prg_1 hg2 hm2 ha na) nb) fun z H Q ⟨S, Q', W', kw, o, h, k⟩ => ⟨S, _, W', kw, o, h, fun x S1 H1 o1 h1 => by
    unfold nRgL at h1
    split at h1
    · obtain ⟨⟨h2, h3⟩, h4⟩ := h1
      exact ⟨_, rfl, RgOk.of_le (by decide) h3 (by decide) h2, fun q hq => by rw [rgS_eq]; exact k _ _ _ (o1.newU hq) (h4 q)⟩
    · exact h1.elim⟩
theorem gRgT {p pos2 p2 : Pos} (hc : X.calm = true) (hg : Gl X "tuple") (hm : X.mg "tuple" = none) (hg2 : Gl X "range") (hm2 : X.mg "range" = none) (ha : PE X a (dE W ta)) (na : starEach [a] X.env = (false, eval a X.env) :: starEach [] X.env := by rfl)
    (nb : starEach [.Call (.Name "range" p2) [a] [] pos2] X.env = (false, eval (.Call (.Name "range" p2) [a] [] pos2) X.env) :: starEach [] X.env := by rfl) : PE X (.Call (.Name "tuple" p) [.Call (.Name "range" p2) [a] [] pos2] [] pos) (dE W (sRgT ta)) :=
  PE.by (pe_tupRg hc hg hm (prg_1 hg2 hm2 ha na) nb) fun z H Q ⟨S, Q', W', kw, o, h, k⟩ => ⟨S, _, W', kw, o, h, fun x S1 H1 o1 h1 => by
    unfold nRgT at h1
    split at h1
    · obtain ⟨⟨h2, h3⟩, h4⟩ := h1
      exact ⟨_, rfl, RgOk.of_le (by decide) h3 (by decide) h2, fun q hq => by rw [rgS_eq]; exact k _ _ _ (o1.newU hq) (h4 q)⟩
    · exact h1.elim⟩
/-! ### xs.index(y), flat -/
def mIdx (K : PySem.W.Frag) : sM := fun x vs S Q => match x, vs with
  | .ref p, [y] => ∃ ys j z, sL K S p ys ∧ flatV y = true ∧ ys.all flatV = true ∧ ys[j]? = some z ∧ eqV z y = true ∧ (∀ (m : Nat) (z' : V), m < j → ys[m]? = some z' → eqV z' y = false) ∧ Q (.int (j : Nat)) S
  | _, _ => False
theorem lIdx {K : PySem.W.Frag} : LiftM (mIdx K) (rIndex K) := by
  intro x vs S Q' H Q o h k
  unfold mIdx at h
  split at h
  · obtain ⟨ys, j, z, h1, h2, h3, h4, h5, h6, h7⟩ := h
    exact ⟨_, ys, _, j, z, rfl, rfl, o.l h1, h2, h3, h4, h5, h6, k _ _ _ o h7⟩
  · exact h.elim
/-! ### walks: reversed, enumerate -/
def itLv (K : PySem.W.Frag) (a : Addr) (xs : List V) : SIt := ⟨xs.length, fun S => sL K S a xs, fun i S k => ∀ v, xs[xs.length - 1 - i]? = some v → k v S⟩
def itUv (K : PySem.W.Frag) (a : Addr) (xs : List V) : SIt := ⟨xs.length, fun S => sU K S a xs, fun i S k => ∀ v, xs[xs.length - 1 - i]? = some v → k v S⟩
theorem itLv_ok {K : PySem.W.Frag} {a : Addr} {xs : List V} : SItOk (Itv K a xs.length) (itLv K a xs) :=
  ⟨fun S H i o h hi => hi, fun S H i o h hi => ⟨hi, xs, _, o.l h, List.getElem?_eq_getElem (by have : i < xs.length := hi; omega)⟩, fun S H i x H' k o h hi ⟨e, y⟩ q => by
    subst e
    exact ⟨S, o, q x (y xs (o.l h))⟩⟩
theorem itUv_ok {K : PySem.W.Frag} {a : Addr} {xs : List V} : SItOk (RT.ItvT K a xs.length) (itUv K a xs) :=
  ⟨fun S H i o h hi => hi, fun S H i o h hi => ⟨hi, xs, _, o.u h, List.getElem?_eq_getElem (by have : i < xs.length := hi; omega)⟩, fun S H i x H' k o h hi ⟨e, y⟩ q => by
    subst e
    exact ⟨S, o, q x (y xs (o.u h))⟩⟩
def siRev (K : PySem.W.Frag) (tl : sE) : sI := fun W z S R => tl W z S fun x S1 => match x with
  | .ref a => (∃ xs, sL K S1 a xs ∧ R (itLv K a xs) S1) ∨ ∃ xs, sU K S1 a xs ∧ R (itUv K a xs) S1
  | _ => False
theorem iRev {tg l : Expr} {tl : sE} {p : Pos} (hg : Gl X "reversed") (hm : X.mg "reversed" = none) (hl : PE X l (dE W tl)) (hs : starEach [l] X.env = (false, eval l X.env) :: starEach [] X.env := by rfl) : PI X tg (.Call (.Name "reversed" p) [l] [] pos) (dI W (siRev X.K tl)) :=
  PI.by (RT.pi_revA hg hm hl hs) fun z H R ⟨S, R', W', kw, o, h, k⟩ => ⟨S, _, W', kw, o, h, fun x S1 H1 o1 h1 => by
    split at h1
    · rcases h1 with ⟨xs, h1, h2⟩ | ⟨xs, h1, h2⟩
      · exact ⟨_, xs, rfl, .inl ⟨o1.l h1, k _ _ _ _ o1 itLv_ok h2⟩⟩
      · exact ⟨_, xs, rfl, .inr ⟨o1.u h1, k _ _ _ _ o1 itUv_ok h2⟩⟩
    · exact h1.elim⟩
/-- each turn gives a new pair -/
def itE (K : PySem.W.Frag) (a : Addr) (xs : List V) : SIt := ⟨xs.length, fun S => sL K S a xs, fun i S k => ∀ v, xs[i]? = some v → ∀ r, k (.ref r) (S.new r (.tup [.int (i : Nat), v]))⟩
theorem itE_ok {K : PySem.W.Frag} {a : Addr} {xs : List V} : SItOk (Ite K a) (itE K a xs) :=
  ⟨fun S H i o h hi => ⟨xs, o.l h, hi⟩, fun S H i o h hi => ⟨xs, _, o.l h, List.getElem?_eq_getElem hi⟩, fun S H i x H' k o h hi ⟨T, v, e1, e2, e3, y⟩ q => by
    subst e1
    subst e3
    exact ⟨_, o.newU e2, q v (y xs (o.l h)) T⟩⟩
def siEn (K : PySem.W.Frag) (tl : sA) : sI := fun W z S R => tl W z S fun vs S1 => match vs with
  | [.ref a] => ∃ xs, sL K S1 a xs ∧ R (itE K a xs) S1
  | _ => False
theorem iEn {l : Expr} {tl : sA} {p tpos : Pos} {elts : List Expr} {kk : Nat} (hg : Gl X "enumerate") (hm : X.mg "enumerate" = none) (hl : PA X [l] (dA W tl)) (hs : starEach [l] X.env = [(false, eval l X.env)] := by rfl) : PI X (.Tuple elts kk tpos) (.Call (.Name "enumerate" p) [l] [] pos) (dI W (siEn X.K tl)) :=
  PI.by (pi_enum hg hm hl hs) fun z H R ⟨S, R', W', kw, o, h, k⟩ => ⟨S, _, W', kw, o, h, fun x S1 H1 o1 h1 => by
    split at h1
    · obtain ⟨xs, h1, h2⟩ := h1
      exact ⟨_, xs, rfl, o1.l h1, k _ _ _ _ o1 itE_ok h2⟩
    · exact h1.elim⟩
/-! ### dicts whose keys are ints or texts -/
def sDctK : sE := fun _ _ S Q => ∀ p, Q (.ref p) (S.new p (.dK []))
theorem gDctK : PE X (.Dict [] [] pos) (dE W sDctK) := PE.by pe_dnewK fun z H Q ⟨S, Q', W', kw, o, h, k⟩ => fun p hp => k _ _ _ (o.newU hp) (h p)
/-- d[k] = v -/
def sDPutK (td ty tv : sE) : sS := fun D z S => tv D.ex z S fun v S1 => td D.ex z S1 fun x S2 => ty D.ex z S2 fun y S3 => match x with
  | .ref p => ∃ i kvs k, S3.G[i]? = some (p, .dK kvs) ∧ y = kV k ∧ kvs.length < sizeLine ∧ D.nx z (S3.put i p (.dK (putK kvs k v)))
  | _ => False
theorem hDPutK {o i value : Expr} {td ty tv : sE} {pos2 : Pos} (hu : X.A.units + 1 < cLine) (ho : PE X o (dE W td)) (hi : PE X i (dE W ty)) (hv : PE X value (dE W tv)) (hs : swapsWith value (some (.Subscript o i pos2)) pos.line X.env = pure false := by rfl) :
    PS X (.Assign [.Subscript o i pos2] value pos) (dS W (sDPutK td ty tv)) :=
  PS.by (ps_dput hu ho hi hv hs) fun D z H ⟨S, D', ow, h, k⟩ => ⟨S, _, D'.ex, k.ex, ow, h, fun v S1 H1 o1 h1 => ⟨S1, _, D'.ex, k.ex, o1, h1, fun x S2 H2 o2 h2 => ⟨S2, _, D'.ex, k.ex, o2, h2, fun y S3 H3 o3 h3 => by
    split at h3
    · obtain ⟨n, kvs, kk, q1, rfl, q2, q3⟩ := h3
      exact ⟨_, _, rfl, .inl ⟨kvs, kk, o3.g q1, rfl, q2, rfl⟩, k.nx _ _ _ (o3.putU q1) q3⟩
    · exact h3.elim⟩⟩⟩
/-- sorted(d), fewer than 64 keys, all ints -/
def nSortD : sN := fun vs S Q => match vs with
  | [.ref p] => ∃ kvs ks, At S p (.dK kvs) ∧ kvs.map (·.1) = ks.map Sum.inl ∧ ks.length < 64 ∧ ∀ (ys : List Int) r, ys.Perm ks → ys.Pairwise (· ≤ ·) → Q (.ref r) (S.new r (.lst (ys.map V.int)))
  | _ => False
theorem lSortD : LiftN nSortD (fun xs H Q => ∃ (a : Addr) (kvs : List (Key × V)) (ks : List Int), xs = [.ref a] ∧ Rd H a (.dK kvs) ∧ kvs.map (·.1) = ks.map Sum.inl ∧ ks.length < 64 ∧
    ∀ (ys : List Int) (p : Addr), ys.Perm ks → ys.Pairwise (· ≤ ·) → H p = none → Q (.ref p) (upd H p (.lst (ys.map V.int)))) := by
  intro vs S Q' H Q o h k
  unfold nSortD at h
  split at h
  · obtain ⟨kvs, ks, h1, h2, h3, h4⟩ := h
    exact ⟨_, kvs, ks, rfl, .inl (o.at h1), h2, h3, fun ys r q1 q2 hr => k _ _ _ (o.newU hr) (h4 ys r q1 q2)⟩
  · exact h.elim
theorem gCnE {x : Str} {i : Int} (hg : Gl X x) (hm : ∃ t, X.mg x = some (.int i t)) (hd : (x == ("__debug__" : Str)) = false := by decide) : PE X (.Name x pos) (dE W (sC (.int i))) := hm.elim fun _ h => gCnV hg h hd
end
end SY
namespace SY
open PySem PySem.Spec PyProof.Rows L2
/-! ### objects of an own class -/
section
variable {X : Cx} {W : WX} {e o : Expr} {es : List Expr} {pos : Pos} {te tv : sE} {tas : sA}
theorem no_cx {P : Program} {w : World} {outer : List PySem.Env} {H : Hp} {s s' : Shared} {u : Value} : ¬ L2.CX P w outer H s (fun _ _ _ => False) u s' := fun c => by
  obtain ⟨_, _, _, _, _, _, _, _, _, _, _, _, z⟩ := c
  exact z
theorem passF {X : Cx} : Passes (L2.CX X.prog X.w) X (fun _ _ _ => False) := fun _ _ _ _ _ _ _ c => (no_cx c).elim
/-- a method's promise, by its class -/
structure MetC (P : Program) (w : World) (K : PySem.W.Frag) (mg : Str → Option Value) (base : Heap) (C : Addr) (m : Str) (ps : List Str) (k : Nat) (sp : Sp) : Prop where
  ex : ∃ (f : Addr) (fd : FuncData), Meth K C m f ∧ FnOk P w K mg base (L2.CX P w) k f fd ps sp ∧ Binds K fd ps []
/-- a property's -/
structure ProC (P : Program) (w : World) (K : PySem.W.Frag) (mg : Str → Option Value) (base : Heap) (C : Addr) (m : Str) (k : Nat) (sp : Sp) : Prop where
  ex : ∃ (p g : Addr) (fd : FuncData), PropOf K C m p g ∧ FnOk P w K mg base (L2.CX P w) k g fd ["self"] sp ∧ Binds K fd ["self"] []
/-- the making of one -/
structure MakC (P : Program) (w : World) (K : PySem.W.Frag) (mg : Str → Option Value) (base : Heap) (x : Str) (C : Addr) (ps : List Str) (k : Nat) (sp : Sp) : Prop where
  ex : ∃ (f : Addr) (fd : FuncData), mg x = some (.ref C) ∧ Mk K C f ∧ FnOk P w K mg base (L2.CX P w) k f fd ps sp ∧ Binds K fd ps []
def sFldO (C : Addr) (f : Str) (te : sE) : sE := fun W z S Q => te W z S fun x S1 => match x with
  | .ref p => ∃ dx fs v, At S1 p (.ins C dx fs) ∧ fs.lookup f = some v ∧ Q v S1
  | _ => False
theorem gFldO {C : Addr} {f : Str} (c : L2.Cls X.K C) (n : NoAttr X.K C f) (he : PE X e (dE W te)) (hb : attributeBase e f X.env (eval e X.env) = eval e X.env := by rfl) : PE X (.Attribute e f pos) (dE W (sFldO C f te)) :=
  PE.by (pe_fld he hb) fun z H Q ⟨S, Q', W', kw, ow, h, k⟩ => ⟨S, _, W', kw, ow, h, fun x S1 H1 o1 h1 => by
    split at h1
    · obtain ⟨dx, fs, v, h1, h2, h3⟩ := h1
      exact ⟨_, C, dx, fs, v, rfl, o1.at h1, c, n, h2, k _ _ _ o1 h3⟩
    · exact h1.elim⟩
def sConO (C : Addr) (f : Str) (v : V) (te : sE) : sE := fun W z S Q => te W z S fun x S1 => match x with
  | .ref p => ∃ dx fs, At S1 p (.ins C dx fs) ∧ fs.lookup f = none ∧ Q v S1
  | _ => False
theorem gConO {C : Addr} {f : Str} {v : V} (c : L2.Cls X.K C) (n : ∃ u, Con X.K C f v u) (he : PE X e (dE W te)) (hb : attributeBase e f X.env (eval e X.env) = eval e X.env := by rfl) : PE X (.Attribute e f pos) (dE W (sConO C f v te)) :=
  PE.by (pe_con he hb) fun z H Q ⟨S, Q', W', kw, ow, h, k⟩ => ⟨S, _, W', kw, ow, h, fun x S1 H1 o1 h1 => by
    obtain ⟨u, n⟩ := n
    split at h1
    · obtain ⟨dx, fs, h1, h2, h3⟩ := h1
      exact ⟨_, C, dx, fs, v, u, rfl, o1.at h1, c, n, h2, k _ _ _ o1 h3⟩
    · exact h1.elim⟩
def sSetO (C : Addr) (f : Str) (te tv : sE) : sS := fun D z S => tv D.ex z S fun y S1 => te D.ex z S1 fun x S2 => match x with
  | .ref p => ∃ i dx fs, S2.G[i]? = some (p, .ins C dx fs) ∧ fs.length < 1000 ∧ D.nx z (S2.put i p (.ins C dx (putF f y fs)))
  | _ => False
theorem hSetO {C : Addr} {f : Str} {value : Expr} {pos2 : Pos} (c : L2.Cls X.K C) (n : NoAttr X.K C f) (ho : PE X o (dE W te)) (hv : PE X value (dE W tv)) (hs : swapsWith value (some (.Attribute o f pos2)) pos.line X.env = pure false := by rfl) :
    PS X (.Assign [.Attribute o f pos2] value pos) (dS W (sSetO C f te tv)) :=
  PS.by (ps_fld ho hv hs) fun D z H ⟨S, D', ow, h, k⟩ => ⟨S, _, D'.ex, k.ex, ow, h, fun y S1 H1 o1 h1 => ⟨S1, _, D'.ex, k.ex, o1, h1, fun x S2 H2 o2 h2 => by
    split at h2
    · obtain ⟨i, dx, fs, q1, q2, q3⟩ := h2
      exact ⟨_, C, dx, fs, rfl, o2.g q1, c, n, q2, k.nx _ _ _ (o2.putU q1) q3⟩
    · exact h2.elim⟩⟩
variable {sp : Sp} {r : sWX → List V → L2.St → SH → (V → SH → Prop) → Prop} {k j : Nat}
/-- what a call that can't raise asks -/
theorem lift_no (c : Ctr sp r) {vs : List V} {z : L2.St} {S : SH} {H : Hp} {Q' : V → SH → Prop} {Q : VK} (ow : Own S H) (h : r (fun _ _ _ _ => False) vs z S Q') (k : Imp Q' Q) : sp vs H Q (fun _ _ _ => False) :=
  c.mono _ _ _ _ _ _ (fun v H' ⟨S', o', q⟩ => k v S' H' o' q) (fun _ _ _ ⟨_, _, q⟩ => q) (c.lift _ _ _ _ _ h H ow)
/-- a property, read; len of an own object -/
def sObjR (C : Addr) (r : sWX → List V → L2.St → SH → (V → SH → Prop) → Prop) (ok : V → Prop) (te : sE) : sE := fun W z S Q => te W z S fun x S1 => match x with
  | .ref p => ∃ dx fs, At S1 p (.ins C dx fs) ∧ r (fun _ _ _ _ => False) [.ref p] z S1 fun v S2 => ok v ∧ Q v S2
  | _ => False
abbrev sProO (C : Addr) (r : sWX → List V → L2.St → SH → (V → SH → Prop) → Prop) (te : sE) : sE := sObjR C r (fun _ => True) te
theorem gProO {C : Addr} {f : Str} (cr : Ctr sp r) (c : L2.Cls X.K C) (T : ProC X.prog X.w X.K X.mg X.base C f k sp) (hr : Room j X.A) (hj : k + 1 ≤ j) (he : PE X e (dE W te)) (hb : attributeBase e f X.env (eval e X.env) = eval e X.env := by rfl) :
    PE X (.Attribute e f pos) (dE W (sProO C r te)) := by
  obtain ⟨p, g, fd, hp, F, b⟩ := T.ex
  exact PE.by (pe_prop (ds := []) (dvs := []) he c hp F (hr.mono hj) b .nil (passF (X := X.nox)) hb) fun z H Q ⟨S, Q', W', kw, ow, h, k⟩ => ⟨S, _, W', kw, ow, h, fun x S1 H1 o1 h1 => by
    split at h1
    · obtain ⟨dx, fs, h1, h2⟩ := h1
      exact ⟨_, dx, fs, rfl, o1.at h1, lift_no cr o1 h2 fun v S2 H2 o2 q => k _ _ _ o2 q.2⟩
    · exact h1.elim⟩
def lenOk (v : V) : Prop := ∃ n : Nat, v = .int (n : Nat) ∧ n < 2 ^ 63
def rLenO (C : Addr) (sp : Sp) : List V → Hp → VK → Prop := fun xs H Q => ∃ (p dx : Addr) (fs : List (Str × V)), xs = [.ref p] ∧ H p = some (.ins C dx fs) ∧ sp [.ref p] H (fun v H' => lenOk v ∧ Q v H') fun _ _ _ => False
theorem cr_lenO {C f : Addr} {fd : FuncData} (hm : Meth X.K C "__len__" f) (F : FnOk X.prog X.w X.K X.mg X.base (L2.CX X.prog X.w) k f fd ["self"] sp) (b : Binds X.K fd ["self"] []) (hr : Room (k + 1) X.A) : CallR X (.builtin "len") (rLenO C sp) := by
  intro pins s z H xs us Q I rx h
  obtain ⟨p, dx, fs, rfl, hp, h⟩ := h
  obtain ⟨u, rfl, ru⟩ := vals1 rx
  obtain rfl : u = Value.ref p := ru
  obtain ⟨mA, J, _⟩ := ins_get I.hok hp
  obtain ⟨od, J, _⟩ := J.look
  obtain ⟨m, hF⟩ := I.fr
  refine PySem.W.len_K hF I.ok.mod.kin J hm.at_ hm.fn (wpAny_call (codeAny_mono (F.run X.A.in1 X.stack s H ⟨[.ref p], []⟩ [.ref p] [.ref p] _ _ hr.in1 I.env0.in1 ?_ (.cons rfl .nil) h) fun q s' hq => ?_))
  · have := b s [.ref p] I.kIn rfl
    simpa using this
  · cases q with
    | error er => exact (no_cx hq).elim
    | ok fl =>
      cases fl with
      | ret u =>
        obtain ⟨v, H', I3, rv, ⟨n, ev, hn⟩, q3⟩ := I.after hq
        subst ev
        obtain ⟨t, rfl⟩ := rv
        exact ⟨⟨Int.natCast_nonneg n, by omega⟩, ⟨.int (n : Nat), H', I3.tok _, ⟨_, rfl⟩, q3⟩⟩
      | next => exact False.elim hq
      | brk => exact False.elim hq
      | cont => exact False.elim hq
abbrev sLenO (C : Addr) (r : sWX → List V → L2.St → SH → (V → SH → Prop) → Prop) (te : sE) : sE := sObjR C r lenOk te
theorem gLenO {C : Addr} {p : Pos} (cr : Ctr sp r) (T : MetC X.prog X.w X.K X.mg X.base C "__len__" ["self"] k sp) (hr : Room j X.A) (hj : k + 1 ≤ j) (hg : Gl X "len") (hm : X.mg "len" = none) (he : PE X e (dE W te))
    (hs : starEach [e] X.env = (false, eval e X.env) :: starEach [] X.env := by rfl) :
    PE X (.Call (.Name "len" p) [e] [] pos) (dE W (sLenO C r te)) := by
  obtain ⟨f, fd, hM, F, b⟩ := T.ex
  exact PE.by (pe_callB (cr_lenO hM F b (hr.mono hj)) hg hm (by decide +kernel) (pa_cons he pa_nil hs) (by decide) (by decide) hs) fun z H Q ⟨S, Q', W', kw, ow, h, k⟩ => ⟨S, _, W', kw, ow, h, fun x S1 H1 o1 h1 => by
    split at h1
    · obtain ⟨dx, fs, h1, h2⟩ := h1
      exact ⟨_, dx, fs, rfl, o1.at h1, lift_no cr o1 h2 fun v S2 H2 o2 q => ⟨q.1, k _ _ _ o2 q.2⟩⟩
    · exact h1.elim⟩
/-- C(..), its __init__ can't raise here -/
def sMakO (C : Addr) (r : sWX → List V → L2.St → SH → (V → SH → Prop) → Prop) (t : sA) : sE := fun W z S Q => t W z S fun vs S1 => ∀ x dx, r (fun _ _ _ _ => False) (.ref x :: vs) z ((S1.new dx (.own x)).new x (.ins C dx [])) fun v S2 => v = .non ∧ Q (.ref x) S2
theorem gMakO {C : Addr} {x : Str} {p : Pos} {ps : List Str} (cr : Ctr sp r) (T : MakC X.prog X.w X.K X.mg X.base x C ps k sp) (hr : Room j X.A) (hj : k + 1 ≤ j) (hg : Gl X x) (ha : PA X (e :: es) (dA W tas))
    (hdb : (x == ("__debug__" : Str)) = false := by decide) (he : starEach (e :: es) X.env = (false, eval e X.env) :: starEach es X.env := by rfl) (hpl : (backTo pos (starEach es X.env)).any (·.1) = false := by rfl) :
    PE X (.Call (.Name x p) (e :: es) [] pos) (dE W (sMakO C r tas)) := by
  obtain ⟨f, fd, hm, M, F, b⟩ := T.ex
  exact PE.by (pe_make (ds := []) (dvs := []) M F (hr.mono hj) hg hm b .nil passF ha hdb he hpl) fun z H Q ⟨S, Q', W', kw, ow, h, k⟩ => ⟨S, _, W', kw, ow, h, fun vs S1 H1 o1 h1 x dx hx hdx ne => by
    have o2 : Own ((S1.new dx (.own x)).new x (.ins C dx [])) (upd (upd H1 dx (.own x)) x (.ins C dx [])) := (o1.newU hdx).newU (by rw [upd_ne (Ne.symm ne)]; exact hx)
    rw [List.append_nil]
    exact lift_no cr o2 (h1 x dx) fun v S2 H2 o3 q => ⟨q.1, k _ _ _ o3 q.2⟩⟩
end
section
variable {X : Cx} {W : WX} {a e o : Expr} {es : List Expr} {pos : Pos} {ta te ty td : sE} {tas : sA}
/-! ### all, str, join -/
def nAll (K : PySem.W.Frag) : sN := fun vs S Q => match vs with
  | [.ref p] => ∃ bs : List Bool, sL K S p (bs.map V.bl) ∧ Q (.bl (bs.all id)) S
  | _ => False
theorem lAll {K : PySem.W.Frag} : LiftN (nAll K) (rAll K) := by
  intro vs S Q' H Q o h k
  unfold nAll at h
  split at h
  · obtain ⟨bs, h1, h2⟩ := h
    exact ⟨_, bs, rfl, o.l h1, k _ _ _ o h2⟩
  · exact h.elim
def nStrI : sN := fun vs S Q => match vs with
  | [.int i] => i.natAbs.log2 < 1920 ∧ Q (.str (toString i)) S
  | _ => False
theorem lStrI : LiftN nStrI (fun xs H Q => ∃ i, xs = [.int i] ∧ i.natAbs.log2 < 1920 ∧ Q (.str (toString i)) H) := by
  intro vs S Q' H Q o h k
  unfold nStrI at h
  split at h
  · exact ⟨_, rfl, h.1, k _ _ _ o h.2⟩
  · exact h.elim
def mJoin (K : PySem.W.Frag) : sM := fun x vs S Q => match x, vs with
  | .str z, [.ref p] => ∃ ys : List Str, (sL K S p (ys.map V.str) ∨ sU K S p (ys.map V.str)) ∧ (ys.map (·.length)).sum + ys.length * z.length ≤ 16777216 ∧ Q (.str (Txt.join z ys)) S
  | _, _ => False
theorem lJoin {K : PySem.W.Frag} : LiftM (mJoin K) (fun x xs H Q => ∃ z p, ∃ ys : List Str, x = .str z ∧ xs = [.ref p] ∧ (SqL K H p (ys.map V.str) ∨ SqT K H p (ys.map V.str)) ∧ (ys.map (·.length)).sum + ys.length * z.length ≤ 16777216 ∧ Q (.str (Txt.join z ys)) H) := by
  intro x vs S Q' H Q o h k
  unfold mJoin at h
  split at h
  · obtain ⟨ys, h1, h2, h3⟩ := h
    exact ⟨_, _, ys, rfl, rfl, h1.elim (fun q => .inl (o.l q)) (fun q => .inr (o.u q)), h2, k _ _ _ o h3⟩
  · exact h.elim
/-! ### d[k] -/
def sDGet (td ty : sE) : sE := fun W z S Q => td W z S fun x S1 => ty W z S1 fun y S2 => match x with
  | .ref p => ∃ kvs k v, At S2 p (.dK kvs) ∧ y = kV k ∧ valV kvs k = some v ∧ Q v S2
  | _ => False
theorem gDGet {i : Expr} (hu : X.A.units + 1 < cLine) (ho : PE X o (dE W td)) (hi : PE X i (dE W ty)) (hs : NoSl i := by intro _ _; rfl) : PE X (.Subscript o i pos) (dE W (sDGet td ty)) :=
  PE.by (pe_dget hu ho hi hs) fun z H Q ⟨S, Q', W', kw, ow, h, k⟩ => ⟨S, _, W', kw, ow, h, fun x S1 H1 o1 h1 => ⟨S1, _, W', kw, o1, h1, fun y S2 H2 o2 h2 => by
    split at h2
    · obtain ⟨kvs, kk, v, q1, rfl, q3, q4⟩ := h2
      exact ⟨_, v, rfl, by rw [← q3]; exact DGet.k (o2.at q1), k _ _ _ o2 q4⟩
    · exact h2.elim⟩⟩
/-! ### walks over a text -/
def itS (x : Str) : SIt := ⟨x.cps.size, fun _ => True, fun i S k => ∀ c, x.cps[i]? = some c → k (.str ⟨#[c]⟩) S⟩
theorem itS_ok {x : Str} : SItOk (Its x) (itS x) :=
  ⟨fun S H i o h hi => hi, fun S H i o h hi => hi, fun S H i v H' k o h hi ⟨e, c, hc, ev⟩ q => by
    subst e
    subst ev
    exact ⟨S, o, q c hc⟩⟩
def siStr (tl : sE) : sI := fun W z S R => tl W z S fun x S1 => match x with
  | .str y => R (itS y) S1
  | _ => False
theorem iStrS {tg l : Expr} {tl : sE} (hl : PE X l (dE W tl)) : PI X tg l (dI W (siStr tl)) :=
  PI.by (pi_str hl) fun z H R ⟨S, R', W', kw, o, h, k⟩ => ⟨S, _, W', kw, o, h, fun x S1 H1 o1 h1 => by
    split at h1
    · exact ⟨_, rfl, k _ _ _ _ o1 itS_ok h1⟩
    · exact h1.elim⟩
/-- enumerate(text): each sign in a new pair -/
def ItsE (x : Str) : It := ⟨fun i _ => i < x.cps.size, fun i H v H' => ∃ T c, v = .ref T ∧ H T = none ∧ H' = upd H T (.tup [.int (i : Nat), .str ⟨#[c]⟩]) ∧ x.cps[i]? = some c, fun i _ => x.cps.size ≤ i⟩
theorem draws_str {prog : Program} {w : World} {A : Around} (hh : A.handled = none) (it : Addr) (x : Str) (t : Tok) {y : String} (hy : y = "str_ascii_iterator" ∨ y = "str_iterator") :
    Draws prog w A it [it] x.cps.size (fun i v => ∃ c u, x.cps[i]? = some c ∧ v = .str ⟨#[c]⟩ u) (fun i h => h.IsStrIter it y x t i) := by
  rcases hy with rfl | rfl
  · exact Draws.strAscii hh it x t
  · exact Draws.strWide hh it x t
theorem turn_enumS {P : Program} {w : World} {K : PySem.W.Frag} {elts : List Expr} {kk : Nat} {tpos : Pos} (en it : Addr) (x : Str) (t : Tok) {y : String} (hy : y = "str_ascii_iterator" ∨ y = "str_iterator") :
    Turn P w K (.Tuple elts kk tpos) (ItsE x) [en, it] en (fun i h => (∃ old, IsEnum h en it ((i : Nat) : Int) old) ∧ h.IsStrIter it y x t i ∧ en ≠ it ∧ i ≤ x.cps.size) where
  mem := List.mem_cons_self
  obj := fun i h st b hb => by
    obtain ⟨⟨old, he⟩, ⟨o, ho, _, hd⟩, _⟩ := st
    rcases List.mem_cons.mp hb with q | q
    · subst q
      exact ⟨_, he, fun v q => nomatch q⟩
    · rw [List.mem_singleton.mp q]
      exact ⟨o, ho, fun v q => by rw [hd] at q; cases q⟩
  keep := fun i h h' ⟨⟨old, he⟩, ⟨o, ho, rest⟩, hne⟩ kp => ⟨⟨old, kp en List.mem_cons_self _ he⟩, ⟨o, kp it (.tail _ (.head _)) o ho, rest⟩, hne⟩
  item := by
    intro X hP hw hK hc i pins s z H E I hf ⟨⟨old, he⟩, hit, hne, hle⟩ hg
    subst hP hw hK
    have hel : en < s.heap.objs.size := Heap.lt_size he
    have hil : it < s.heap.objs.size := hit.elim fun _ q => Heap.lt_size q.1
    refine wpAny_pyNext_enum_itemD (draws_str (A := X.A.in1) (I.ok.hd hc) it x t hy) he hit hg hne (fun q => hne (List.mem_singleton.mp q)) fun v h1 tk hv ho hit1 hT hsz hk => ⟨_, rfl, ?_⟩
    obtain ⟨c, u, hcx, rfl⟩ := hv
    refine wpAny_letOwnedTupleGo_enum (s := { s with heap := h1, toks := tk + 1 }) ho fun h2 he2 sb => ?_
    have hT2 := (sb.2 _ (Nat.ne_of_gt hel)).trans hT
    have new : ObjOk X.prog X.w (upd H s.heap.objs.size (.tup [.int (i : Nat), .str ⟨#[c]⟩])) h2 s.heap.objs.size (.tup [.int (i : Nat), .str ⟨#[c]⟩]) :=
      ⟨show 2 ≤ sizeLine by decide, [.int i tk, .str ⟨#[c]⟩ u], .cons ⟨_, rfl⟩ (.cons ⟨_, rfl⟩ .nil), ⟨_, hT2, rfl, _, rfl⟩⟩
    have off : ∀ b, b ∉ [en, it] → b ≠ en ∧ b ≠ it := fun b hb => ⟨fun q => hb (by rw [q]; exact List.mem_cons_self), fun q => hb (by rw [q]; exact .tail _ (.head _))⟩
    have I2 := I.turnedNew (t' := tk + 1) (fun b ob hb q => (sb.2 b (off b hb).1).trans (hk b ob (off b hb).1 (off b hb).2 q)) hf (Nat.le_refl _) new
    refine ⟨.ref s.heap.objs.size, _, I2, rfl, ⟨_, c, rfl, I.hok.fresh (Nat.le_refl _), rfl, hcx⟩, ⟨⟨.str ⟨#[c]⟩ u, ?_⟩, ?_, hne, hg⟩, fun b hb => ?_⟩
    · rw [show ((i + 1 : Nat) : Int) = (i : Int) + 1 by omega]
      exact he2
    · obtain ⟨o, ho2, rest⟩ := hit1
      exact ⟨o, (sb.2 it (Ne.symm hne)).trans ho2, rest⟩
    · have hb2 : b < s.heap.objs.size := by
        rcases List.mem_cons.mp hb with q | q
        · rw [q]
          exact hel
        · rw [List.mem_singleton.mp q]
          exact hil
      rw [upd_ne (Nat.ne_of_lt hb2)]
      exact (hf b hb).1
  done := by
    intro X hP hw hK hc i pins s z H E I hf ⟨⟨old, he⟩, hit, hne, hle⟩ hg
    subst hP hw hK
    have hi : i = x.cps.size := Nat.le_antisymm hle hg
    obtain ⟨f0, f1, f2, f3, f4, f5⟩ := hf it (.tail _ (.head _))
    subst hi
    exact wpAny_pyNext_enum_endD (draws_str (A := X.A.in1) (I.ok.hd hc) it x t hy) he hit fun h1 eb => ⟨rfl, I.turned (t' := s.toks) (fun b o hb q => eb b o hb q) f0 f1 f3 f4 f5⟩
  self := fun A i s Q E ⟨⟨_, he⟩, _⟩ h => wpAny_pyIter_enum he h
theorem iter_ty (x : Str) : strIterType x = "str_ascii_iterator" ∨ strIterType x = "str_iterator" := by
  unfold strIterType
  split
  · exact .inl rfl
  · exact .inr rfl
def iEnumS (ta : TA) : TI := fun z H R => ta z H fun vs H1 => ∃ x, vs = [.str x] ∧ R (ItsE x) H1
theorem pi_enumS {ta : TA} {p tpos : Pos} {elts : List Expr} {kk : Nat} (hg : Gl X "enumerate") (hm : X.mg "enumerate" = none) (ha : PA X [e] ta) (hs : starEach [e] X.env = [(false, eval e X.env)] := by rfl) :
    PI X (.Tuple elts kk tpos) (.Call (.Name "enumerate" p) [e] [] pos) (iEnumS ta) := by
  refine ⟨fun pins s z H R I h => Call_ (ld_blt I hg hm boot_enumerate (PyProof.Rows.callWith_type1 (thn (ha.run pos pins s z H _ I h) fun us s1 ⟨vs, H1, I1, r1, x, ev, q⟩ => ?_) hs rfl))⟩
  subst ev
  obtain ⟨u, rfl, t, rfl⟩ := vals1 r1
  refine call_enumerate_str fun h1 he hit hsz hk => wpAny_pyIter_enum he ?_
  have I2 : Inv X pins z H1 { s1 with heap := h1 } := I1.kept (t' := s1.toks) hk
  refine ⟨s1.heap.objs.size + 1, [s1.heap.objs.size + 1, s1.heap.objs.size], _, _, H1, rfl, I2, turn_enumS _ _ x t (iter_ty x), ⟨⟨.none, he⟩, hit, Nat.succ_ne_self _, Nat.zero_le _⟩, fun b hb => ?_, q⟩
  have hle : s1.heap.objs.size ≤ b := by
    rcases List.mem_cons.mp hb with q | q
    · rw [q]
      exact Nat.le_succ _
    · rw [List.mem_singleton.mp q]
      exact Nat.le_refl _
  exact I1.fpOk hle (I1.hok.fresh hle)
def itES (x : Str) : SIt := ⟨x.cps.size, fun _ => True, fun i S k => ∀ c, x.cps[i]? = some c → ∀ p, k (.ref p) (S.new p (.tup [.int (i : Nat), .str ⟨#[c]⟩]))⟩
theorem itES_ok {x : Str} : SItOk (ItsE x) (itES x) :=
  ⟨fun S H i o h hi => hi, fun S H i o h hi => hi, fun S H i v H' k o h hi ⟨T, c, e1, e2, e3, hc⟩ q => by
    subst e1
    subst e3
    exact ⟨_, o.newU e2, q c hc T⟩⟩
def siEnS (tl : sA) : sI := fun W z S R => tl W z S fun vs S1 => match vs with
  | [.str y] => R (itES y) S1
  | _ => False
theorem iEnS {tl : sA} {p tpos : Pos} {elts : List Expr} {kk : Nat} (hg : Gl X "enumerate") (hm : X.mg "enumerate" = none) (hl : PA X [e] (dA W tl)) (hs : starEach [e] X.env = [(false, eval e X.env)] := by rfl) :
    PI X (.Tuple elts kk tpos) (.Call (.Name "enumerate" p) [e] [] pos) (dI W (siEnS tl)) :=
  PI.by (pi_enumS hg hm hl hs) fun z H R ⟨S, R', W', kw, o, h, k⟩ => ⟨S, _, W', kw, o, h, fun vs S1 H1 o1 h1 => by
    split at h1
    · exact ⟨_, rfl, k _ _ _ _ o1 itES_ok h1⟩
    · exact h1.elim⟩
end
/-! ### sorted(rows): tuples that differ in their first item, an int -/
def RowAt (h : Heap) (v : Value) (k : Int) : Prop := ∃ (p : Addr) (ob : Obj) (its : Array Value) (n tk : Nat) (rest : List Value), v = .ref p ∧ h.get? p = some ob ∧ ob.cls = .type "tuple" ∧ ob.data = .seq its n ∧ its.toList = .int k tk :: rest
theorem RowAt.keep {h h2 : Heap} {v : Value} {k : Int} (r : RowAt h v k) (kp : ∀ b ob, h.get? b = some ob → ob.cls = .type "tuple" → h2.get? b = some ob) : RowAt h2 v k := by
  obtain ⟨p, ob, its, n, tk, rest, e, h1, h2, h3, h4⟩ := r
  exact ⟨p, ob, its, n, tk, rest, e, kp _ _ h1 h2, h2, h3, h4⟩
def ltR (k : Value → Int) (v u : Value) : Bool := decide (k v < k u)
theorem swo_ltR (k : Value → Int) : SrtO.Swo (ltR k) where
  asym := fun v u h => decide_eq_false (by have := of_decide_eq_true h; omega)
  tr := fun x y z h1 h2 => decide_eq_false (by
    have a1 := of_decide_eq_false h1
    have a2 := of_decide_eq_false h2
    omega)
section
variable {prog : Program} {w : World} {A : Around} {E : Value → Shared → Prop} {s : Shared}
theorem lex_same {b fin : Bool} {Q : Bool → Shared → Prop} (h : Q fin s) : ∀ (l : List Value) (i : Nat), PySem.W.KatLex prog w A b fin Q (l.zip l) i s
  | [], i => h
  | v :: l, i => by
    show PySem.W.KatLex prog w A b fin Q ((v, v) :: l.zip l) i s
    exact PySem.W.kat_cons (SeqAt.EqAt.same v prog w _ _ (PySem.W.kat_yes (lex_same h l (i + 1))))
theorem row_cmp {vs : List Value} {k : Value → Int} (hp : ∀ v ∈ vs, RowAt s.heap v (k v)) (inj : ∀ v ∈ vs, ∀ u ∈ vs, k v = k u → v = u) : SrtO.Cmp prog w A s (PyProof.Rows.tuples' true) (fun p => p.1 ∈ vs) (SrtO.lt2 (ltR k)) := by
  intro p q hm hm2
  show wpAny (model prog w) A (PyProof.Rows.keyLt' (PyProof.Rows.tuples' true) p.1 q.1) (fun r s2 => s2 = s ∧ r = ltR k p.1 q.1) (fun _ _ => False) s
  have e1 := hp _ hm
  have e2 := hp _ hm2
  have ei := inj _ hm _ hm2
  unfold ltR
  generalize p.1 = v at e1 ei
  generalize q.1 = u at e2 ei
  obtain ⟨x, ox, xs, nx, tx, rx, rfl, h1, h2, h3, h4⟩ := e1
  obtain ⟨y, oy, ys, ny, ty, ry, rfl, g1, g2, g3, g4⟩ := e2
  refine PySem.W.kat_lt h1 h3 g1 g3 ?_
  by_cases e : k (.ref x) = k (.ref y)
  · have exy := ei e
    cases exy
    rw [h1] at g1
    cases g1
    rw [h3] at g3
    cases g3
    exact lex_same ⟨rfl, by rw [decide_eq_false (Nat.lt_irrefl _), decide_eq_false (Int.lt_irrefl _)]⟩ _ _
  · rw [h4, g4]
    show PySem.W.KatLex prog w A true _ _ ((.int (k (.ref x)) tx, .int (k (.ref y)) ty) :: rx.zip ry) 0 s
    refine PySem.W.kat_cons (SeqAt.EqAt.int_int _ tx _ ty prog w _ _ ?_)
    have ne : (k (.ref x) == k (.ref y)) = false := beq_eq_false_iff_ne.mpr e
    rw [ne]
    exact PySem.W.kat_no (oneLt_int ⟨rfl, rfl⟩)
theorem row_firsts {h : Heap} {k : Value → Int} : ∀ (vs : List Value), (∀ v ∈ vs, RowAt h v (k v)) → ∃ fs : List Value, PySem.W.KatTups h vs fs ∧ fs.length = vs.length ∧ ∀ f ∈ fs, ∃ x t, f = Value.int x t
  | [], _ => ⟨[], PySem.W.KatTups.nil, rfl, fun f hf => nomatch hf⟩
  | v :: vs, hp => by
    obtain ⟨fs, a1, a2, a3⟩ := row_firsts vs fun u hu => hp u (.tail _ hu)
    obtain ⟨x, ox, xs, nx, tx, rx, e, h1, h2, h3, h4⟩ := hp v (.head _)
    rw [e]
    have hf : xs[0]? = some (.int (k v) tx) := by
      rw [← Array.getElem?_toList, h4]
      rfl
    refine ⟨.int (k v) tx :: fs, PySem.W.KatTups.cons h1 h2 h3 hf a1, congrArg (· + 1) a2, fun f hf => ?_⟩
    cases hf with
    | head => exact ⟨_, _, rfl⟩
    | tail _ hf => exact a3 f hf
theorem row_sortable {p : Addr} {vs : List Value} {k : Value → Int} (h0 : 0 < vs.length) (hp : ∀ v ∈ vs, RowAt s.heap v (k v)) (inj : ∀ v ∈ vs, ∀ u ∈ vs, k v = k u → v = u) (ha : ∀ ob, s.heap.get? p = some ob → ob.cls ≠ .type "tuple") : SrtO.SortableO prog w A s p vs (ltR k) := by
  intro h2 kp
  have hp2 : ∀ v ∈ vs, RowAt h2 v (k v) := fun v hv => (hp v hv).keep fun b ob e c => kp b ob (fun z => ha ob (by rw [← z]; exact e) c) e
  obtain ⟨fs, a1, a2, a3⟩ := row_firsts vs hp2
  refine ⟨PyProof.Rows.tuples' true, fun Q E hq => ?_, row_cmp (s := { s with heap := h2 }) hp2 inj⟩
  refine PySem.W.kat_kind (T := .type "int") a1 (by rw [a2]; exact h0) (fun f hf => ?_) rfl ?_
  · obtain ⟨x, t, rfl⟩ := a3 f hf
    exact PySem.W.Looks.now
  · rw [show (Value.type "int" != Value.type "tuple") = true by decide]
    exact hq
end
def rSortRow (K : PySem.W.Frag) : List V → Hp → VK → Prop := fun vs H Q => ∃ (p : Addr) (xs : List V) (k : V → Int), vs = [.ref p] ∧ SqL K H p xs ∧ (∀ x ∈ xs, ∃ t rest, x = .ref t ∧ H t = some (.tup (.int (k x) :: rest))) ∧ (∀ x ∈ xs, ∀ y ∈ xs, k x = k y → x = y) ∧
  ∀ ys q, ys.Perm xs → (ys.Pairwise fun x y => k x ≤ k y) → H q = none → Q (.ref q) (upd H q (.lst ys))
theorem cr_sortRow {X : Cx} : CallR X (.builtin "sorted") (rSortRow X.K) := by
  intro pins s z H vs us Q I r h
  obtain ⟨p, xs, k, rfl, hs, hx, inj, q⟩ := h
  obtain ⟨its, rv, hl, hz⟩ := I.list hs
  obtain ⟨u, rfl, ru⟩ := vals1 r
  obtain rfl : u = Value.ref p := ru
  have isr : ∀ x ∈ xs, ∃ t, x = V.ref t := fun x hm => (hx x hm).elim fun t ht => ⟨t, ht.elim fun _ y => y.1⟩
  obtain ⟨ex, eu⟩ := refs_back rv isr
  have rows : ∀ v ∈ its, RowAt s.heap v (k (backV v)) := fun v hv => by
    obtain ⟨t, rfl⟩ := eu v hv
    have hm : V.ref t ∈ xs := by
      rw [ex]
      exact List.mem_map.mpr ⟨_, hv, rfl⟩
    obtain ⟨t2, rest, et, ht⟩ := hx _ hm
    cases et
    obtain ⟨_, its2, rr, ob, ho, hc, n, hd⟩ := I.hok _ _ ht
    cases rr with
    | cons r0 rr =>
      obtain ⟨tk, rfl⟩ := r0
      exact ⟨t, ob, _, n, tk, _, rfl, ho, hc, hd, rfl⟩
  have inj2 : ∀ v ∈ its, ∀ u ∈ its, k (backV v) = k (backV u) → v = u := fun v hv u hu e => by
    obtain ⟨t, rfl⟩ := eu v hv
    obtain ⟨t2, rfl⟩ := eu u hu
    have m1 : V.ref t ∈ xs := by
      rw [ex]
      exact List.mem_map.mpr ⟨_, hv, rfl⟩
    have m2 : V.ref t2 ∈ xs := by
      rw [ex]
      exact List.mem_map.mpr ⟨_, hu, rfl⟩
    have := inj _ m1 _ m2 e
    cases this
    rfl
  refine SrtO.sorted_ord (swo_ltR fun u => k (backV u)) hl.isList (by rw [← rv.length]; exact hz) (fun h2 hp1 b hb kk => ?_) fun out o1 o2 => ?_
  · refine row_sortable (s := { s with heap := hp1 }) (by omega) (fun v hv => (rows v hv).keep fun b ob e _ => (kk b ob e).2) inj2 fun ob e c => ?_
    have e2 := Option.some.inj (e.symm.trans hb)
    rw [e2] at c
    exact absurd (Value.type.inj c) (by decide)
  · have a3 : ∀ u ∈ out, ∃ t, u = Value.ref t := fun u hu => eu u (o2.perm.mem_iff.mp hu)
    obtain ⟨n, hn⟩ := PyProof.Rows.sortedAll_at s.heap its out.toArray
    have pm : (out.map backV).Perm xs := by
      rw [ex]
      exact o2.perm.map _
    have srt : (out.map backV).Pairwise fun x y => k x ≤ k y := by
      refine List.pairwise_map.mpr (List.Pairwise.imp (fun {x y} hxy => ?_) o1)
      have hn : ¬ k (backV y) < k (backV x) := of_decide_eq_false hxy
      exact Int.not_lt.mp hn
    refine ⟨.ref (s.heap.objs.size + 1), upd H (s.heap.objs.size + 1) (.lst (out.map backV)), I.laid (t' := s.toks) (fun _ _ => PyProof.Rows.sortedAll_old) (Nat.le_succ _) ⟨?_, out, n, vals_back a3, hn⟩, rfl, q _ _ pm srt (I.hok.fresh (Nat.le_succ _))⟩
    rw [pm.length_eq]
    exact hz
def nSortRow (K : PySem.W.Frag) : sN := fun vs S Q => match vs with
  | [.ref p] => ∃ (xs : List V) (k : V → Int), sL K S p xs ∧ (∀ x ∈ xs, ∃ t rest, x = .ref t ∧ At S t (.tup (.int (k x) :: rest))) ∧ (∀ x ∈ xs, ∀ y ∈ xs, k x = k y → x = y) ∧
      ∀ ys q, ys.Perm xs → (ys.Pairwise fun x y => k x ≤ k y) → Q (.ref q) (S.new q (.lst ys))
  | _ => False
theorem lSortRow {K : PySem.W.Frag} : LiftN (nSortRow K) (rSortRow K) := by
  intro vs S Q' H Q o h k
  unfold nSortRow at h
  split at h
  · obtain ⟨xs, kk, h1, h2, h3, h4⟩ := h
    exact ⟨_, xs, kk, rfl, o.l h1, fun x hx => let ⟨t, rest, e, ht⟩ := h2 x hx; ⟨t, rest, e, o.at ht⟩, h3, fun ys q hp hs hq => k _ _ _ (o.newU hq) (h4 ys q hp hs)⟩
  · exact h.elim
section
variable {X : Cx} {W : WX} {a b e o : Expr} {pos : Pos} {ta tb te : sE}
/-! ### o.f as a target -/
def sgFld (C : Addr) (f : Str) (te : sE) : sG := fun W v z S Q => te W z S fun x S1 => match x with
  | .ref p => ∃ i dx fs, S1.G[i]? = some (p, .ins C dx fs) ∧ fs.length < 1000 ∧ Q z (S1.put i p (.ins C dx (putF f v fs)))
  | _ => False
def gFldT (K : PySem.W.Frag) (C : Addr) (f : Str) (t : TE) : TG := fun v z H Q => t z H fun x H1 => ∃ p dx fs, x = .ref p ∧ H1 p = some (.ins C dx fs) ∧ fs.length < 1000 ∧ Q z (upd H1 p (.ins C dx (putF f v fs)))
theorem pg_fldT {C : Addr} {f : Str} {t : TE} (c : L2.Cls X.K C) (n : NoAttr X.K C f) (ho : PE X o t) : PG X (.Attribute o f pos) (gFldT X.K C f t) := by
  refine ⟨fun pins s z H v u Q I r h => ?_⟩
  rw [arm_assign_Attribute]
  refine wpAny_bind (wpAny_holding (thn (ho.run pins s z H _ I h) fun ov s1 ⟨x, H1, I1, r1, p, dx, fs, ex, hp, hl, q⟩ => wpAny_bind (wpAny_standAt (wpAny_bind (wpAny_holding ?_)))))
  subst ex
  obtain rfl : ov = Value.ref p := r1
  exact setattr_ok I1 hp c n hl r fun s2 I2 => wpAny_release ⟨z, _, I2, q⟩
theorem ggFld {C : Addr} {f : Str} (c : L2.Cls X.K C) (n : NoAttr X.K C f) (ho : PE X o (dE W te)) : PG X (.Attribute o f pos) (dG W (sgFld C f te)) :=
  PG.by (pg_fldT c n ho) fun v z H Q ⟨S, Q', W', kw, ow, h, k⟩ => ⟨S, _, W', kw, ow, h, fun x S1 H1 o1 h1 => by
    split at h1
    · obtain ⟨i, dx, fs, q1, q2, q3⟩ := h1
      exact ⟨_, dx, fs, rfl, o1.g q1, q2, k _ _ _ (o1.putU q1) q3⟩
    · exact h1.elim⟩
/-! ### text * n -/
def oMulS : s2 := fun x y S Q => match x, y with
  | .str u, .int n => MulOk u n ∧ Q (.str (Txt.mul u n)) S
  | _, _ => False
theorem op_mulS : OpR X (binaryOp .Mult) (fun x y H Q => ∃ u n, x = .str u ∧ y = .int n ∧ MulOk u n ∧ Q (.str (Txt.mul u n)) H) := by
  intro pins s z H x y v u Q I rx ry h
  obtain ⟨t, n, rfl, rfl, hm, q⟩ := h
  obtain ⟨k1, rfl⟩ := rx
  obtain ⟨k2, rfl⟩ := ry
  exact SB.mul hm fun t2 k => ⟨.str (Txt.mul t n), H, I.tok _, ⟨_, rfl⟩, q⟩
theorem lMulS : Lift2 oMulS (fun x y H Q => ∃ u n, x = .str u ∧ y = .int n ∧ MulOk u n ∧ Q (.str (Txt.mul u n)) H) := by
  intro x y S Q' H Q o h k
  unfold oMulS at h
  split at h
  · exact ⟨_, _, rfl, rfl, h.1, k _ _ _ o h.2⟩
  · exact h.elim
theorem gMulS (ha : PE X a (dE W ta)) (hb : PE X b (dE W tb)) : PE X (.BinOp a .Mult b pos) (dE W (sOp oMulS ta tb)) := gOp op_mulS lMulS ha hb
/-! ### repr, where no repr is under way -/
def RprV (K : PySem.W.Frag) (H : Hp) (x : V) (z : Str) : Prop := match x with
  | .str u => (reprText u).length ≤ sizeLine ∧ z = reprText u
  | .int i => i.natAbs.log2 < 1920 ∧ z = toString i
  | .bl b => z = if b then ("True" : Str) else "False"
  | .non => z = "None"
  | .ref p => ∃ d, Dp K H (.ref p) d ∧ d.showable = true ∧ d.hasDict = false ∧ d.depth ≤ 60 ∧ d.shown.length ≤ sizeLine ∧ z = d.shown
  | _ => False
def rRepr (K : PySem.W.Frag) : List V → Hp → VK → Prop := fun xs H Q => ∃ x z, xs = [x] ∧ RprV K H x z ∧ Q (.str z) H
theorem cr_repr (hg : X.A.guards = some []) (hu : X.A.units + 64 < cLine) : CallR X (.builtin "repr") (rRepr X.K) := by
  intro pins s z H xs us Q I r h
  obtain ⟨x, y, rfl, hd, q⟩ := h
  obtain ⟨u, rfl, ru⟩ := vals1 r
  unfold RprV at hd
  split at hd
  · obtain ⟨h1, rfl⟩ := hd
    obtain ⟨t, rfl⟩ := ru
    exact P.repr_of_str ⟨.str _, H, I.tok _, ⟨_, rfl⟩, q⟩ h1
  · obtain ⟨h1, rfl⟩ := hd
    obtain ⟨t, rfl⟩ := ru
    exact P.repr_of_int h1 ⟨.str _, H, I.tok _, ⟨_, rfl⟩, q⟩
  · subst hd
    cases ru
    exact P.repr_of_bool ⟨.str _, H, I.tok _, ⟨_, rfl⟩, q⟩
  · subst hd
    cases ru
    exact P.repr_of_none ⟨.str _, H, I.tok _, ⟨_, rfl⟩, q⟩
  · obtain ⟨d, hd, h1, h2, h3, h4, rfl⟩ := hd
    obtain ⟨as, rd⟩ := Dp.reads I d _ u hd ru
    cases ru
    exact repr_of_reads' rd h1 (PyData.noDict_hsm h2) hg (by omega) (fun _ _ e => e) (fun h5 t tk hk => ⟨.str d.shown, H, I.kept (t' := tk) hk, ⟨_, rfl⟩, q⟩) h4
  · exact hd.elim
def nRepr (K : PySem.W.Frag) : sN := fun vs S Q => match vs with
  | [x] => ∃ z, (∀ H, Own S H → RprV K H x z) ∧ Q (.str z) S
  | _ => False
theorem lRepr {K : PySem.W.Frag} : LiftN (nRepr K) (rRepr K) := by
  intro vs S Q' H Q o h k
  unfold nRepr at h
  split at h
  · obtain ⟨z, h1, h2⟩ := h
    exact ⟨_, z, rfl, h1 H o, k _ _ _ o h2⟩
  · exact h.elim
end
end SY
namespace SY
open PySem PySem.Spec PyProof.Rows L2
/-! ### promises that ask that no repr is under way -/
structure FnG (P : Program) (w : World) (K : PySem.W.Frag) (mg : Str → Option Value) (base : Heap) (k : Nat) (f : Addr) (fd : FuncData) (ps : List Str) (sp : Sp) : Prop where
  len : ∀ vs H Q E, sp vs H Q E → vs.length = ps.length
  run : ∀ (A : Around) (outer : List PySem.Env) (s : Shared) (H : Hp) (args : Args) (us : List Value) (vs : List V) (Q : VK) (E : XK), A.guards = some [] → Room k A → Env0 P w K mg base A outer s H → BindsTo s fd args (ps.zip us) → Vals vs us → sp vs H Q E →
    codeAny (model P w) A (.call (.ref f) args) (CR (L2.CX P w) outer P w H s Q E) s
theorem FnG.mono {P : Program} {w : World} {K : PySem.W.Frag} {mg : Str → Option Value} {base : Heap} {j k : Nat} {f : Addr} {fd : FuncData} {ps : List Str} {sp : Sp} (F : FnG P w K mg base j f fd ps sp) (h : j ≤ k) : FnG P w K mg base k f fd ps sp :=
  ⟨F.len, fun A outer s H args us vs Q E hg hr => F.run A outer s H args us vs Q E hg (hr.mono h)⟩
/-- a def by its body -/
theorem fn_ofG {P : Program} {w : World} {K : PySem.W.Frag} {mg : Str → Option Value} {base : Heap} {k : Nat} {x qual : Str} {st : Stmt} {f : Addr} {fd : FuncData} {N ps : List Str} {sp : Sp} (F : Fun K x qual st f fd) (S : FnScope N ps (defScope st)) (len : ∀ vs H Q E, sp vs H Q E → vs.length = ps.length)
    (hb : ∀ (cdv : Value) (A : Around) (outer : List PySem.Env) (s : Shared) (H : Hp) (vs : List V) (Q : VK) (E : XK), A.guards = some [] → Room k (A.deeper (envOfC qual (defScope st) s.heap.objs.size f cdv)) → sp vs H Q E →
      ∃ t, PSs (cxOf (L2.CX P w) P w K mg base N qual (defScope st) f cdv A outer s H E) (defBody st) t ∧ t { nx := fun _ H2 => Q .non H2, rt := Q } (start N vs) H) : FnG P w K mg base (k + 1) f fd ps sp := by
  obtain ⟨oc, od, kV, doc, pm, an, cdv, ct, osl, rfl, lk, hcd⟩ := F.ex
  refine ⟨len, fun A outer s H args us vs Q E hg hr e0 bd rv hsp => ?_⟩
  have kp : ∀ b o, base.get? b = some o → s.heap.get? b = some o := fun b o e => (e0.bs b o e).1
  have KX : K.In s.heap := e0.mod.kin.keeps kp
  have kinds : ∀ y ∈ ps.zip us, (defScope st).names.lookup y.1 = some .local ∨ ((defScope st).names.lookup y.1 = some .cell ∧ ((cellsFrom (s.heap.objs.size + 1) (defScope st).names []).lookup y.1).isSome = true) := fun y hy =>
    (S.par y.1 (List.of_mem_zip (a := y.1) (b := y.2) hy).1).imp id fun q => ⟨q, PySem.W.cellsFrom_some _ _ _ (.inl q)⟩
  refine codeAny_call_function hr.depth (KX _ _ lk) rfl S.co S.gen rfl (PySem.W.codeRec_of KX hcd) (bd _ _ _ _ (wpAny_newFunctionEnv_cells S.kind kinds fun env he s1 ic => ?_))
  subst he
  obtain ⟨t, ht, hq⟩ := hb cdv A outer s H vs Q E hg (hr.deeper _) hsp
  refine ⟨(e0.mod.nolimit.keeps kp).keeps ic.toInCall.keep, codeAny_func (wpAny_mono (ht.run [] s1 (start N vs) H _ (inv_start S hr.hd e0 (len _ _ _ _ hsp) rv ic) hq) (fun fl s2 hs => ?_) fun e s2 hs => hs)⟩
  cases fl with
  | ret u =>
    obtain ⟨v, z, H2, J, ru, q⟩ := hs
    exact ⟨v, H2, J.os, J.bare, J.base, J.hok, ru, q⟩
  | next =>
    obtain ⟨z, H2, J, q⟩ := hs
    exact ⟨.non, H2, J.os, J.bare, J.base, J.hok, rfl, q⟩
  | brk => exact hs.elim fun _ y => y.elim fun _ y => y.2.elim
  | cont => exact hs.elim fun _ y => y.elim fun _ y => y.2.elim
structure DefG (P : Program) (w : World) (K : PySem.W.Frag) (mg : Str → Option Value) (base : Heap) (x : Str) (ps : List Str) (k : Nat) (sp : Sp) : Prop where
  ex : ∃ (f : Addr) (fd : FuncData), mg x = some (.ref f) ∧ PySem.W.keepIn K (.ref f) = true ∧ FnG P w K mg base k f fd ps sp ∧ Binds K fd ps []
section
variable {X : Cx} {W : WX} {e : Expr} {es : List Expr} {pos p : Pos} {tas : sA} {x : Str} {ps : List Str} {j k : Nat} {sp : Sp} {r : sWX → List V → L2.St → SH → (V → SH → Prop) → Prop}
theorem pe_callG {f : Addr} {fd : FuncData} {E : L2.St → XK} {t : TA} (F : FnG X.prog X.w X.K X.mg X.base k f fd ps sp) (hgd : X.A.guards = some []) (hr : Room k X.A) (hg : Gl X x) (hm : X.mg x = some (.ref f)) (hk : PySem.W.keepIn X.K (.ref f) = true) (hb : Binds X.K fd ps [])
    (hx : ∀ z, PassesAt (L2.CX X.prog X.w) X z (E z)) (ha : PA X (e :: es) t) (hdb : (x == ("__debug__" : Str)) = false) (he : starEach (e :: es) X.env = (false, eval e X.env) :: starEach es X.env) (hpl : (backTo pos (starEach es X.env)).any (·.1) = false) :
    PE X (.Call (.Name x p) (e :: es) [] pos) (fun z H Q => t z H fun vs H1 => sp vs H1 Q (E z)) := by
  refine ⟨fun pins s z H Q I h => wpAny_Call_Name_kw (ld_glob I hg hm (PySem.W.callWith_K (h₀ := X.base) I.ok.mod.kin hk (thn (ha.run pos pins s z H _ I h) fun us s1 ⟨vs, H1, I1, rv, q⟩ => ⟨I1.kIn, ?_⟩) he hpl) hdb)⟩
  have hl : us.length = ps.length := rv.length.symm.trans (F.len _ _ _ _ q)
  have b := hb s1 us I1.kIn (by rw [List.append_nil]; exact hl)
  rw [List.append_nil] at b
  refine wpAny_call (codeAny_mono (F.run X.A X.stack s1 H1 ⟨us, []⟩ us vs Q (E z) hgd hr I1.env0 b rv q) fun q s2 hq => ?_)
  match q, hq with
  | .error er, hq => exact hx z pins H1 s1 er s2 I1 hq
  | .ok (.ret u), hq => exact I1.after hq
theorem gCallG (c : Ctr sp r) (T : DefG X.prog X.w X.K X.mg X.base x ps k sp) (hgd : X.A.guards = some []) (hr : Room j X.A) (hj : k ≤ j) (hg : Gl X x) (tk : Takes X W) (ha : PA X (e :: es) (dA W tas))
    (hdb : (x == ("__debug__" : Str)) = false := by decide) (he : starEach (e :: es) X.env = (false, eval e X.env) :: starEach es X.env := by rfl) (hpl : (backTo pos (starEach es X.env)).any (·.1) = false := by rfl) :
    PE X (.Call (.Name x p) (e :: es) [] pos) (dE W (sCallD r [] tas)) := by
  obtain ⟨f, fd, hm, hk, F, hb⟩ := T.ex
  exact PE.by (pe_callG F hgd (hr.mono hj) hg hm hk hb (fun z => passAt tk z) ha hdb he hpl) fun z H Q ⟨S, Q', W', kw, o, h, k⟩ => ⟨S, _, W', kw, o, h, fun vs S1 H1 o1 h1 => by
    rw [List.append_nil] at h1
    exact lift_sp c.mono kw o1 (c.lift _ _ _ _ _ h1) k⟩
end
/-! ### the law's call -/
theorem law_callG {P : Program} {w : World} {K : PySem.W.Frag} {mg mb : Str → Option Value} {k : Nat} {fa a : Addr} {fd : FuncData} {x : Str} {sp : Sp} {s : Shared} {vs : List Value} {ns : List Int}
    (KX : K.In s.heap) (hns : s.heap.Ns mainGlobals mg) (hb : s.heap.Ns builtinsNs mb) (hbb : ∀ x : Str, x ≠ "__name__" → mb x = bootBuiltins x) (hlim : s.heap.NoLimit) (hg : s.gens = #[])
    (ha : s.heap.get? a = some { cls := .type "list", data := .seq vs.toArray }) (hi : IntsAre vs ns) (hl : ns.length ≤ sizeLine) (hr : Room k callerA)
    (F : ∀ base : Heap, K.In base → base.Ns mainGlobals mg → FnG P w K mg base k fa fd [x] sp) (bd : ∀ (s : Shared) (u : Value), BindsTo s fd ⟨[u], []⟩ [(x, u)])
    (hsp : ∀ H : Hp, SqL K H a (ns.map V.int) → sp [.ref a] H (fun v _ => v = .bl true) fun _ _ _ => False) :
    codeAny (model P w) callerA (.call (.ref fa) ⟨[.ref a], []⟩) (fun r s2 => r = .ok (.ret (.bool true)) ∧ OldK s.heap s2.heap ∧ s2.os = s.os ∧ AllBare s2.gens) s := by
  have rv := vals_ints hi
  obtain ⟨H, hS, hok, hA, hK⟩ : ∃ H : Hp, SqL K H a (ns.map V.int) ∧ HOk P w H s.heap ∧ (∀ b u, H b = some u → b = a ∧ u = .frz { cls := .type "list", data := .seq vs.toArray } (.lst (ns.map V.int))) ∧ (H a ≠ none → K.lookup a = none) := by
    by_cases e : K.lookup a = none
    · refine ⟨fun b => if b = a then some (.frz { cls := .type "list", data := .seq vs.toArray } (.lst (ns.map V.int))) else none, .inl (.inr ⟨_, if_pos rfl⟩), fun b u q => ?_, fun b u q => ?_, fun _ => e⟩
      · have q2 : (if b = a then _ else _) = some u := q
        split at q2
        · rename_i eb
          cases q2
          subst eb
          exact ⟨ha, by rw [List.length_map]; exact hl, vs, _, rv, ha⟩
        · cases q2
      · have q2 : (if b = a then _ else _) = some u := q
        split at q2
        · rename_i eb
          cases q2
          exact ⟨eb, rfl⟩
        · cases q2
    · obtain ⟨o, ho⟩ := Option.ne_none_iff_exists'.mp e
      have e2 := KX a o ho
      rw [ha] at e2
      cases e2
      exact ⟨fun _ => none, .inr ⟨_, vs.toArray, _, ho, rfl, rfl, rfl, by rw [List.size_toArray, hi.length]; exact hl, rv⟩, (fun b u q => by cases q), (fun b u q => by cases q), fun q => absurd rfl q⟩
  have free : ∀ {b : Addr} {o : Obj} {es : Array DictEntry} {ep : Nat}, s.heap.get? b = some o → o.data = .dict es ep → H b = none := fun {b o es ep} e d => by
    cases q : H b with
    | none => rfl
    | some u =>
      obtain ⟨eb, _⟩ := hA b u q
      subst eb
      rw [ha] at e
      cases e
      exact absurd d (by simp)
  have low : ∀ {b : Addr} {m : Str → Option Value}, s.heap.Ns b m → (hidT s.heap H).Ns b m := fun {b m} h => h.elim fun o h => h.elim fun es h => h.elim fun ep h => ⟨o, es, ep, hidT_get h.1 (free h.1 h.2.1), h.2⟩
  have hKb : K.In (hidT s.heap H) := fun b o e => hidT_get (KX b o e) (by
    cases q : H b with
    | none => rfl
    | some u =>
      obtain ⟨eb, _⟩ := hA b u q
      subst eb
      rw [hK (by rw [q]; exact fun z => nomatch z)] at e
      cases e)
  have e0 : Env0 P w K mg (hidT s.heap H) callerA [] s H := ⟨rfl, ⟨hKb, low hns, ⟨mb, low hb, hbb⟩, hlim.elim fun mc h => ⟨mc, low h.1, h.2⟩⟩, fun b o e => of_hidT e, Nat.le_of_eq (hidT_size _ _), trivial, (fun b hb => nomatch hb), hok, .of_eq hg⟩
  refine codeAny_mono ((F _ hKb (low hns)).run callerA [] s H ⟨[.ref a], []⟩ [.ref a] [.ref a] _ _ rfl hr e0 (bd s (.ref a)) (.cons rfl .nil) (hsp H hS)) fun q s2 h => ?_
  match q, h with
  | .error er, h => exact (no_cx h).elim
  | .ok (.ret u), ⟨v, H2, os, bare, un, hok2, ru, ev⟩ =>
    have ev : v = .bl true := ev
    subst ev
    obtain rfl : u = Value.bool true := ru
    refine ⟨rfl, OldK.of_keep fun b o e => ?_, os, bare⟩
    cases q : H b with
    | none => exact un.keep b o e q (fun z => nomatch z) (fun z => nomatch z)
    | some u =>
      obtain ⟨eb, eu⟩ := hA b u q
      subst eu
      have e2 := (hok2 b _ (un.frzs b _ _ q)).1
      rw [eb] at e e2 ⊢
      rw [ha] at e
      cases e
      exact e2
theorem walk_ofG {l : PySem.W.OpenLaw} {n k : Nat} {q : Program} {loose : List Str} {XP : (Str → Option Value) → Heap → Prop} {YP : World → Heap → Prop} {d : DefRec} {K : Params → PySem.W.Frag} {sp : World → Sp} {x : Str}
    (hn : l.most = some n) (hn2 : n ≤ sizeLine) (hdf : d.params.defaults = []) (hr : Room k callerA) (hY : ∀ (w : World) (h : Heap), YP w h → (K w.params).In h)
    (F : ∀ (w : World) (mg : Str → Option Value) (fa : Addr) (h : Heap), (K w.params).In h → h.Ns mainGlobals mg → mg d.name = some (.ref fa) →
      ∃ fd : FuncData, (∀ (s : Shared) (u : Value), BindsTo s fd ⟨[u], []⟩ [(x, u)]) ∧ ∀ base : Heap, (K w.params).In base → base.Ns mainGlobals mg → FnG l.prog w (K w.params) mg base k fa fd [x] (sp w))
    (hsp : ∀ (w : World) (H : Hp) (a : Addr) (ns : List Int), ns.length ≤ n → SqL (K w.params) H a (ns.map V.int) → sp w [.ref a] H (fun v _ => v = .bl true) fun _ _ _ => False) :
    PySem.W.WalkO q loose XP YP l.row.toRowW d [] (fun f vs => PySem.call f vs) :=
  Att.attach_call hn hdf fun w s0 s1 mg mb fa o pm cd doc a vs ns G Y ho hd hcd hmg hobj hints hlen hg => by
    have KX := hY w _ Y
    obtain ⟨fd, hb, hF⟩ := F w mg fa _ KX G.T.g hmg
    exact law_callG KX G.T.g G.T.b G.T.builtins G.T.nolimit hg hobj hints (Nat.le_trans hlen hn2) hr hF hb fun H hS => hsp w H a ns hlen hS
end SY
namespace SY
open PySem PySem.Spec PyProof.Rows L2
section
variable {K : PySem.W.Frag}
def isInt : V → Bool
  | .int _ => true
  | _ => false
def optV : Option Int → V
  | none => .non
  | some m => .int m
def nV (ns : List Nat) : List V := ns.map fun n => V.int (n : Nat)
def allV {α : Type} (R : V → α → Prop) : List V → List α → Prop
  | [], [] => True
  | v :: vs, x :: xs => R v x ∧ allV R vs xs
  | _, _ => False
theorem ext0 {H H' : Hp} (o : Own ⟨H, []⟩ H') : Ext H H' := fun a u e => o.fr a u e
theorem use_V {f : List V → Option Ot} {W : sWX} {σ : L2.St} {S : SH} {Q : V → SH → Prop} {vs : List V} (v : V) (e : f vs = some (.ok v)) (h : Q v S) : rV f W vs σ S Q := by
  unfold rV
  rw [e]
  exact h
theorem SqT.up {H H' : Hp} {p : Addr} {xs : List V} (e : Ext H H') (h : SqT K H p xs) : SqT K H' p xs := by
  rcases h with (h | ⟨o, h⟩) | h
  · exact .inl (.inl (e _ _ h))
  · exact .inl (.inr ⟨o, e _ _ h⟩)
  · exact .inr h
theorem SqL.up {H H' : Hp} {p : Addr} {xs : List V} (e : Ext H H') (h : SqL K H p xs) : SqL K H' p xs := by
  rcases h with (h | ⟨o, h⟩) | h
  · exact .inl (.inl (e _ _ h))
  · exact .inl (.inr ⟨o, e _ _ h⟩)
  · exact .inr h
theorem ixN_nat {n i : Nat} (h : i < n) : ixN n (i : Int) = some i := by
  unfold ixN
  rw [if_pos (by omega), if_pos (by omega), Int.toNat_natCast]
theorem atI_at {α : Type} {xs : List α} {i : Nat} {x : α} (h : xs[i]? = some x) : atI xs (i : Int) = some x := by
  unfold atI
  rw [ixN_nat (List.getElem?_eq_some_iff.mp h).1, Option.bind_some, h]
theorem modNat {x m : Int} (h : 0 < m) : ∃ r : Nat, x % m = (r : Int) ∧ (r : Int) < m :=
  ⟨(x % m).toNat, (Int.toNat_of_nonneg (Int.emod_nonneg _ (by omega))).symm, by rw [Int.toNat_of_nonneg (Int.emod_nonneg _ (by omega))]; exact Int.emod_lt_of_pos _ h⟩
theorem nV_len (ns : List Nat) : (nV ns).length = ns.length := List.length_map _
theorem nV_at {ns : List Nat} {i x : Nat} (h : ns[i]? = some x) : (nV ns)[i]? = some (.int (x : Nat)) := by
  unfold nV
  rw [List.getElem?_map, h]
  rfl
theorem nV_append (xs ys : List Nat) : nV (xs ++ ys) = nV xs ++ nV ys := List.map_append
theorem allV_len {α : Type} {R : V → α → Prop} : ∀ {vs : List V} {xs : List α}, allV R vs xs → vs.length = xs.length
  | [], [], _ => rfl
  | _ :: _, _ :: _, h => congrArg (· + 1) (allV_len h.2)
  | [], _ :: _, h => h.elim
  | _ :: _, [], h => h.elim
theorem allV_at {α : Type} {R : V → α → Prop} : ∀ {vs : List V} {xs : List α}, allV R vs xs → ∀ {i : Nat} {v : V}, vs[i]? = some v → ∃ x, xs[i]? = some x ∧ R v x
  | [], [], _, i, v, e => by cases e
  | v0 :: vs, x0 :: xs, h, 0, v, e => by
    cases e
    exact ⟨x0, rfl, h.1⟩
  | v0 :: vs, x0 :: xs, h, i + 1, v, e => allV_at h.2 (i := i) e
  | [], _ :: _, h, _, _, _ => h.elim
  | _ :: _, [], h, _, _, _ => h.elim
theorem allV_ex {α : Type} {R R' : V → α → Prop} (hr : ∀ v x, R v x → R' v x) : ∀ {vs : List V} {xs : List α}, allV R vs xs → allV R' vs xs
  | [], [], _ => trivial
  | _ :: _, _ :: _, h => ⟨hr _ _ h.1, allV_ex hr h.2⟩
  | [], _ :: _, h => h.elim
  | _ :: _, [], h => h.elim
theorem allV_snoc {α : Type} {R : V → α → Prop} {v : V} {x : α} (h2 : R v x) : ∀ {vs : List V} {xs : List α}, allV R vs xs → allV R (vs ++ [v]) (xs ++ [x])
  | [], [], _ => ⟨h2, trivial⟩
  | _ :: _, _ :: _, h => ⟨h.1, allV_snoc h2 h.2⟩
  | [], _ :: _, h => h.elim
  | _ :: _, [], h => h.elim
theorem take_more {α : Type} {xs : List α} {i : Nat} {x : α} (h : xs[i]? = some x) : xs.take (i + 1) = xs.take i ++ [x] := by
  rw [List.take_add_one, h]
  rfl
theorem nV_get {ns : List Nat} {i : Nat} {v : V} (h : (nV ns)[i]? = some v) : ∃ x : Nat, ns[i]? = some x ∧ v = .int (x : Nat) := by
  unfold nV at h
  rw [List.getElem?_map] at h
  cases e : ns[i]? with
  | none =>
    rw [e] at h
    cases h
  | some x =>
    rw [e] at h
    exact ⟨x, rfl, (Option.some.inj h).symm⟩
def mT (K : PySem.W.Frag) (F : Hp) (G : List (Addr × HO)) (p : Addr) (xs : List V) : Prop := (p, HO.tup xs) ∈ G ∨ SqT K F p xs
def mL (K : PySem.W.Frag) (F : Hp) (G : List (Addr × HO)) (p : Addr) (xs : List V) : Prop := (p, HO.lst xs) ∈ G ∨ SqL K F p xs
theorem mT.s {F : Hp} {G : List (Addr × HO)} {p : Addr} {xs : List V} (h : mT K F G p xs) {G' : List (Addr × HO)} (s : G ⊆ G') : sU K ⟨F, G'⟩ p xs := h.elim (fun h => .inl (List.mem_iff_getElem?.mp (s h))) .inr
theorem mL.s {F : Hp} {G : List (Addr × HO)} {p : Addr} {xs : List V} (h : mL K F G p xs) {G' : List (Addr × HO)} (s : G ⊆ G') : sL K ⟨F, G'⟩ p xs := h.elim (fun h => .inl (List.mem_iff_getElem?.mp (s h))) .inr
theorem mT.sub {F : Hp} {G G' : List (Addr × HO)} {p : Addr} {xs : List V} (h : mT K F G p xs) (s : G ⊆ G') : mT K F G' p xs := h.imp_left fun h => s h
theorem mL.sub {F : Hp} {G G' : List (Addr × HO)} {p : Addr} {xs : List V} (h : mL K F G p xs) (s : G ⊆ G') : mL K F G' p xs := h.imp_left fun h => s h
theorem mT.own {F H' : Hp} {G : List (Addr × HO)} {p : Addr} {xs : List V} (h : mT K F G p xs) (o : Own ⟨F, G⟩ H') : SqT K H' p xs := o.u (h.s (List.Subset.refl _))
theorem mL.own {F H' : Hp} {G : List (Addr × HO)} {p : Addr} {xs : List V} (h : mL K F G p xs) (o : Own ⟨F, G⟩ H') : SqL K H' p xs := o.l (h.s (List.Subset.refl _))
theorem at_mid {E G : List (Addr × HO)} {x : Addr × HO} : (E ++ x :: G)[E.length]? = some x := by
  rw [List.getElem?_append_right (Nat.le_refl _), Nat.sub_self]
  rfl
theorem set_mid {E G : List (Addr × HO)} {x y : Addr × HO} : (E ++ x :: G).set E.length y = E ++ y :: G := by
  rw [List.set_append_right _ _ (Nat.le_refl _), Nat.sub_self]
  rfl
theorem lc_put {P : SH → Prop} {F : Hp} {E G : List (Addr × HO)} {D : Addr} {acc : List V} {y : V} (ha : acc.length < sizeLine) (h : P ⟨F, E ++ (D, .lst (acc ++ [y])) :: G⟩) :
    ∃ k acc', (SH.mk F (E ++ (D, .lst acc) :: G)).G[k]? = some (D, .lst acc') ∧ acc'.length < sizeLine ∧ Wk P (SH.put ⟨F, E ++ (D, .lst acc) :: G⟩ k D (.lst (acc' ++ [y]))) := by
  refine ⟨E.length, acc, at_mid, ha, ⟨_, SLe.refl _, ?_⟩⟩
  show P ⟨F, (E ++ (D, .lst acc) :: G).set E.length (D, .lst (acc ++ [y]))⟩
  rw [set_mid]
  exact h
theorem sub_mid {E G : List (Addr × HO)} {x : Addr × HO} : (E ++ G) ⊆ (E ++ x :: G) := fun z hz => (List.mem_append.mp hz).elim (fun h => List.mem_append_left _ h) fun h => List.mem_append_right _ (.tail _ h)
theorem sub_right {E G : List (Addr × HO)} : G ⊆ E ++ G := fun z hz => List.mem_append_right _ hz
theorem sub_midr {E G : List (Addr × HO)} {x : Addr × HO} : G ⊆ (E ++ x :: G) := fun z hz => List.mem_append_right _ (.tail _ hz)
theorem small_of {n m : Nat} (h : n ≤ m) (hm : m < 16777216) : n < sizeLine := Nat.lt_of_le_of_lt h hm
theorem map_more {α β : Type} {f : α → β} {xs : List α} {i : Nat} {x : α} (h : xs[i]? = some x) : (xs.take (i + 1)).map f = (xs.take i).map f ++ [f x] := by
  rw [take_more h, List.map_append]
  rfl
theorem allV_append {α : Type} {R : V → α → Prop} : ∀ {vs ws : List V} {xs ys : List α}, allV R vs xs → allV R ws ys → allV R (vs ++ ws) (xs ++ ys)
  | [], _, [], _, _, h2 => h2
  | _ :: _, _, _ :: _, _, h, h2 => ⟨h.1, allV_append h.2 h2⟩
  | [], _, _ :: _, _, h, _ => h.elim
  | _ :: _, _, [], _, h, _ => h.elim
theorem yldR_go {lo : Int} {n i : Nat} {S : SH} {k : V → SH → Prop} (h : k (.int (lo + (i : Nat))) S) : (itR lo n).yld i S k := h
theorem nm_go {i : Nat} {W : sWX} {v : V} {σ : L2.St} {S : SH} {Q : L2.St → SH → Prop} (h : Q (σ.set i (some v)) S) : sgName i W v σ S Q := h
theorem seq_go {t u : sS} {D : sEnds} {σ : L2.St} {S : SH} (h : t { D with nx := u D } σ S) : sSeq t u D σ S := h
theorem set_go {te : sE} {i : Nat} {D : sEnds} {σ : L2.St} {S : SH} (h : te D.ex σ S fun x S1 => D.nx (σ.set i (some x)) S1) : sSet te i D σ S := h
theorem ret_go {te : sE} {D : sEnds} {σ : L2.St} {S : SH} (h : te D.ex σ S D.rt) : sRet te D σ S := h
theorem op_go {r : s2} {ta tb : sE} {W : sWX} {σ : L2.St} {S : SH} {Q : V → SH → Prop} (h : ta W σ S fun x S1 => tb W σ S1 fun y S2 => r x y S2 Q) : sOp r ta tb W σ S Q := h
theorem get_n {ns : List Nat} {i : Nat} (h : i < ns.length) : ns[i]? = some (ns.getD i 0) := by
  rw [List.getD_eq_getElem?_getD, List.getElem?_eq_getElem h]
  rfl
theorem range_more (f : Nat → Nat) (i : Nat) : nV ((List.range (i + 1)).map f) = nV ((List.range i).map f) ++ [.int (f i : Nat)] := by
  rw [List.range_succ, List.map_append, nV_append]
  rfl
theorem range_len (f : Nat → Nat) (i : Nat) : (nV ((List.range i).map f)).length = i := by
  rw [nV_len, List.length_map, List.length_range]
theorem flat_more {α β : Type} {f : α → List β} {xs : List α} {i : Nat} {x : α} (h : xs[i]? = some x) : (xs.take (i + 1)).flatMap f = (xs.take i).flatMap f ++ f x := by
  rw [take_more h, List.flatMap_append, List.flatMap_singleton]
theorem app_go {F : Hp} {E G : List (Addr × HO)} {D : Addr} {acc : List V} {y : V} {Q : V → SH → Prop} (ha : acc.length < sizeLine) (h : Q .non ⟨F, E ++ (D, .lst (acc ++ [y])) :: G⟩) : mAppend (.ref D) [y] ⟨F, E ++ (D, .lst acc) :: G⟩ Q := by
  refine ⟨E.length, acc, at_mid, ha, ?_⟩
  show Q .non ⟨F, (E ++ (D, .lst acc) :: G).set E.length (D, .lst (acc ++ [y]))⟩
  rw [set_mid]
  exact h
theorem cons_go {t : sE} {r : sA} {W : sWX} {σ : L2.St} {S : SH} {Q : List V → SH → Prop} (h : t W σ S fun x S1 => r W σ S1 fun xs S2 => Q (x :: xs) S2) : sCons t r W σ S Q := h
theorem nil_go {W : sWX} {σ : L2.St} {S : SH} {Q : List V → SH → Prop} (h : Q [] S) : sNil W σ S Q := h
theorem var_go {i : Nat} {v : V} {W : sWX} {σ : L2.St} {S : SH} {Q : V → SH → Prop} (e : σ[i]? = some (some v)) (h : Q v S) : sVar i W σ S Q := by
  unfold sVar
  rw [e]
  exact h
theorem seqI_go {tl : sE} {W : sWX} {σ : L2.St} {S : SH} {R : SIt → SH → Prop} (h : tl W σ S fun x S1 => match x with | .ref a => (∃ xs, sL K S1 a xs ∧ R (itL K a xs) S1) ∨ ∃ xs, sU K S1 a xs ∧ R (itU K a xs) S1 | _ => False) : siSeq K tl W σ S R := h
theorem lst_go {t : sA} {W : sWX} {σ : L2.St} {S : SH} {Q : V → SH → Prop} (h : t W σ S fun xs S1 => xs.length ≤ sizeLine ∧ ∀ p, Q (.ref p) (S1.new p (.lst xs))) : sLst t W σ S Q := h
theorem sub_app {E G G' : List (Addr × HO)} (h : G ⊆ G') : E ++ G ⊆ E ++ G' := fun z hz => (List.mem_append.mp hz).elim (fun q => List.mem_append_left _ q) fun q => List.mem_append_right _ (h q)
theorem drop_go {te : sE} {D : sEnds} {σ : L2.St} {S : SH} (h : te D.ex σ S fun _ S1 => D.nx σ S1) : sDrop te D σ S := h
theorem mt_go {T : String} {r : sM} {to : sE} {t : sA} {W : sWX} {σ : L2.St} {S : SH} {Q : V → SH → Prop} (h : to W σ S fun x S1 => sTy K T x S1 ∧ t W σ S1 fun vs S2 => r x vs S2 Q) : sMt K T r to t W σ S Q := h
theorem range_at {f : Nat → Nat} {n d : Nat} (h : d < n) : ((List.range n).map f)[d]? = some (f d) := by
  rw [List.getElem?_map, List.getElem?_range h]
  rfl
theorem asg_go {te : sE} {g : sG} {D : sEnds} {σ : L2.St} {S : SH} (h : te D.ex σ S fun x S1 => g D.ex x σ S1 D.nx) : sAsg te g D σ S := h
theorem sub_go {F : Hp} {E G : List (Addr × HO)} {D : Addr} {acc : List V} {v : V} {j : Nat} {σ : L2.St} {Q : L2.St → SH → Prop} (hj : j < acc.length) (h : Q σ ⟨F, E ++ (D, .lst (acc.set j v)) :: G⟩) :
    ∃ n xs j', (SH.mk F (E ++ (D, .lst acc) :: G)).G[n]? = some (D, .lst xs) ∧ ixN xs.length (j : Int) = some j' ∧ Q σ (SH.put ⟨F, E ++ (D, .lst acc) :: G⟩ n D (.lst (xs.set j' v))) := by
  refine ⟨E.length, acc, j, at_mid, ixN_nat hj, ?_⟩
  show Q σ ⟨F, (E ++ (D, .lst acc) :: G).set E.length (D, .lst (acc.set j v))⟩
  rw [set_mid]
  exact h
theorem app_eq {S : SH} {F : Hp} {E G : List (Addr × HO)} {D : Addr} {acc : List V} {y : V} {Q : V → SH → Prop} (e : S = ⟨F, E ++ (D, .lst acc) :: G⟩) (ha : acc.length < sizeLine) (h : Q .non ⟨F, E ++ (D, .lst (acc ++ [y])) :: G⟩) : mAppend (.ref D) [y] S Q := by
  subst e
  exact app_go ha h
/-! ### deep values: tuples of tuples -/
mutual
inductive MD (K : PySem.W.Frag) (F : Hp) (G : List (Addr × HO)) : V → PyData → Prop
  | non : MD K F G .non .none
  | bl (b : Bool) : MD K F G (.bl b) (.bool b)
  | int (i : Int) : MD K F G (.int i) (.int i)
  | str (x : Str) : MD K F G (.str x) (.str x)
  | tup {p : Addr} {xs : List V} {ds : List PyData} : mT K F G p xs → MDs K F G xs ds → MD K F G (.ref p) (.tuple ds)
inductive MDs (K : PySem.W.Frag) (F : Hp) (G : List (Addr × HO)) : List V → List PyData → Prop
  | nil : MDs K F G [] []
  | cons {v : V} {vs : List V} {d : PyData} {ds : List PyData} : MD K F G v d → MDs K F G vs ds → MDs K F G (v :: vs) (d :: ds)
end
section
variable {F F' H : Hp} {G G' : List (Addr × HO)}
mutual
theorem MD.mono (hT : ∀ p xs, mT K F G p xs → mT K F' G' p xs) : ∀ (d : PyData) (v : V), MD K F G v d → MD K F' G' v d
  | .none, _, h => by
    cases h
    exact .non
  | .bool _, _, h => by
    cases h
    exact .bl _
  | .int _, _, h => by
    cases h
    exact .int _
  | .str _, _, h => by
    cases h
    exact .str _
  | .list _, _, h => nomatch h
  | .tuple ds, _, h => by
    cases h with
    | tup h1 h2 => exact .tup (hT _ _ h1) (MDs.mono hT ds _ h2)
  | .dict _, _, h => nomatch h
theorem MDs.mono (hT : ∀ p xs, mT K F G p xs → mT K F' G' p xs) : ∀ (ds : List PyData) (vs : List V), MDs K F G vs ds → MDs K F' G' vs ds
  | [], _, h => by
    cases h
    exact .nil
  | d :: ds, _, h => by
    cases h with
    | cons h1 h2 => exact .cons (MD.mono hT d _ h1) (MDs.mono hT ds _ h2)
end
mutual
theorem MD.dp : ∀ (d : PyData) (v : V), MD K H [] v d → Dp K H v d
  | .none, _, h => by
    cases h
    exact .non
  | .bool _, _, h => by
    cases h
    exact .bl _
  | .int _, _, h => by
    cases h
    exact .int _
  | .str _, _, h => by
    cases h
    exact .str _
  | .list _, _, h => nomatch h
  | .tuple ds, _, h => by
    cases h with
    | tup h1 h2 => exact .tup (h1.elim (fun z => nomatch z) id) (MDs.dp ds _ h2)
  | .dict _, _, h => nomatch h
theorem MDs.dp : ∀ (ds : List PyData) (vs : List V), MDs K H [] vs ds → DpAll K H vs ds
  | [], _, h => by
    cases h
    exact .nil
  | d :: ds, _, h => by
    cases h with
    | cons h1 h2 => exact .cons (MD.dp d _ h1) (MDs.dp ds _ h2)
end
theorem MD.sub {v : V} {d : PyData} (h : MD K F G v d) (s : G ⊆ G') : MD K F G' v d := h.mono (fun _ _ z => z.sub s)
theorem MDs.sub {v : List V} {d : List PyData} (h : MDs K F G v d) (s : G ⊆ G') : MDs K F G' v d := h.mono (fun _ _ z => z.sub s)
theorem MD.own {v : V} {d : PyData} (h : MD K F G v d) (o : Own ⟨F, G⟩ H) : MD K H [] v d := h.mono (fun _ _ z => .inr (z.own o))
theorem MDs.own {v : List V} {d : List PyData} (h : MDs K F G v d) (o : Own ⟨F, G⟩ H) : MDs K H [] v d := h.mono (fun _ _ z => .inr (z.own o))
theorem mT.ext {p : Addr} {xs : List V} (h : mT K F G p xs) (e : Ext F F') : mT K F' G p xs := h.imp_right fun z => SqT.up e z
theorem mL.ext {p : Addr} {xs : List V} (h : mL K F G p xs) (e : Ext F F') : mL K F' G p xs := h.imp_right fun z => SqL.up e z
theorem MD.ext {v : V} {d : PyData} (h : MD K F G v d) (e : Ext F F') : MD K F' G v d := h.mono (fun _ _ z => z.ext e)
theorem MDs.ext {v : List V} {d : List PyData} (h : MDs K F G v d) (e : Ext F F') : MDs K F' G v d := h.mono (fun _ _ z => z.ext e)
/-- F has all of H but some plain lists -/
def KeepT (F H : Hp) : Prop := ∀ a o, H a = some o → (∀ xs, o ≠ .lst xs) → F a = some o
theorem mT.low {p : Addr} {xs : List V} (h : mT K H [] p xs) (k : KeepT F H) : mT K F G p xs := h.elim (fun z => nomatch z) fun z => by
  rcases z with (z | ⟨o, z⟩) | z
  · exact .inr (.inl (.inl (k _ _ z fun _ e => nomatch e)))
  · exact .inr (.inl (.inr ⟨o, k _ _ z fun _ e => nomatch e⟩))
  · exact .inr (.inr z)
theorem MD.low {v : V} {d : PyData} (h : MD K H [] v d) (k : KeepT F H) : MD K F G v d := h.mono (fun _ _ z => z.low k)
theorem MDs.low {v : List V} {d : List PyData} (h : MDs K H [] v d) (k : KeepT F H) : MDs K F G v d := h.mono (fun _ _ z => z.low k)
theorem MD.up {v : V} {d : PyData} (h : MD K F [] v d) : MD K F G v d := h.sub fun _ z => nomatch z
theorem MDs.up {v : List V} {d : List PyData} (h : MDs K F [] v d) : MDs K F G v d := h.sub fun _ z => nomatch z
theorem MD.sD {v : V} {d : PyData} (h : MD K F G v d) {G' : List (Addr × HO)} (s : G ⊆ G') : sD K ⟨F, G'⟩ v d := fun H o => MD.dp d v ((h.sub s).own o)
theorem MDs.len : ∀ {vs : List V} {ds : List PyData}, MDs K F G vs ds → vs.length = ds.length
  | [], _, h => by
    cases h
    rfl
  | v :: vs, _, h => by
    cases h with
    | cons h1 h2 => exact congrArg (· + 1) h2.len
theorem MDs.at : ∀ {vs : List V} {ds : List PyData}, MDs K F G vs ds → ∀ {i : Nat} {v : V}, vs[i]? = some v → ∃ d, ds[i]? = some d ∧ MD K F G v d
  | [], _, h, i, v, e => nomatch e
  | v :: vs, _, h, i, u, e => by
    cases h with
    | cons h1 h2 =>
      cases i with
      | zero =>
        cases e
        exact ⟨_, rfl, h1⟩
      | succ i => exact h2.at (i := i) e
theorem MDs.get {vs : List V} {ds : List PyData} (h : MDs K F G vs ds) {i : Nat} {d : PyData} (e : ds[i]? = some d) : ∃ v, vs[i]? = some v ∧ MD K F G v d := by
  have hl : i < vs.length := by
    rw [h.len]
    exact (List.getElem?_eq_some_iff.mp e).1
  obtain ⟨d2, e2, h2⟩ := h.at (List.getElem?_eq_getElem hl)
  rw [e] at e2
  cases e2
  exact ⟨_, List.getElem?_eq_getElem hl, h2⟩
theorem MDs.app : ∀ {vs ws : List V} {ds es : List PyData}, MDs K F G vs ds → MDs K F G ws es → MDs K F G (vs ++ ws) (ds ++ es)
  | [], _, _, _, h, h' => by
    cases h
    exact h'
  | v :: vs, _, _, _, h, h' => by
    cases h with
    | cons h1 h2 => exact .cons h1 (h2.app h')
theorem MDs.snoc {vs : List V} {v : V} {ds : List PyData} {d : PyData} (h : MDs K F G vs ds) (h' : MD K F G v d) : MDs K F G (vs ++ [v]) (ds ++ [d]) := h.app (.cons h' .nil)
theorem MDs.take : ∀ {vs : List V} {ds : List PyData} (_ : MDs K F G vs ds) (n : Nat), MDs K F G (vs.take n) (ds.take n)
  | _, _, _, 0 => .nil
  | [], _, h, n + 1 => by
    cases h
    exact .nil
  | v :: vs, _, h, n + 1 => by
    cases h with
    | cons h1 h2 => exact .cons h1 (h2.take n)
theorem MDs.drop : ∀ {vs : List V} {ds : List PyData} (_ : MDs K F G vs ds) (n : Nat), MDs K F G (vs.drop n) (ds.drop n)
  | _, _, h, 0 => h
  | [], _, h, n + 1 => by
    cases h
    exact .nil
  | v :: vs, _, h, n + 1 => by
    cases h with
    | cons h1 h2 => exact h2.drop n
theorem MD.tupI {v : V} {ds : List PyData} (h : MD K F G v (.tuple ds)) : ∃ p xs, v = .ref p ∧ mT K F G p xs ∧ MDs K F G xs ds := by
  cases h with
  | tup h1 h2 => exact ⟨_, _, rfl, h1, h2⟩
theorem MD.intI {v : V} {i : Int} (h : MD K F G v (.int i)) : v = .int i := by
  cases h
  rfl
theorem MD.strI {v : V} {i : Str} (h : MD K F G v (.str i)) : v = .str i := by
  cases h
  rfl
theorem MD.nonI {v : V} (h : MD K F G v .none) : v = .non := by
  cases h
  rfl
/-- ints -/
theorem MDs.ints : ∀ {vs : List V} {ns : List Nat}, MDs K F G vs (ns.map fun n => PyData.int (n : Nat)) → vs = nV ns
  | [], [], _ => rfl
  | [], _ :: _, h => nomatch h
  | _ :: _, [], h => nomatch h
  | v :: vs, n :: ns, h => by
    cases h with
    | cons h1 h2 =>
      rw [h1.intI, h2.ints]
      rfl
theorem MDs.of_ints : ∀ ns : List Nat, MDs K F G (nV ns) (ns.map fun n => PyData.int (n : Nat))
  | [] => .nil
  | n :: ns => .cons (.int _) (MDs.of_ints ns)
end
/-! ### a reading's single steps, more -/
theorem tup_go {t : sA} {W : sWX} {σ : L2.St} {S : SH} {Q : V → SH → Prop} (h : t W σ S fun xs S1 => xs.length ≤ sizeLine ∧ ∀ p, Q (.ref p) (S1.new p (.tup xs))) : sTup t W σ S Q := h
theorem ix_t {F : Hp} {G G' : List (Addr × HO)} {p : Addr} {xs : List V} {i : Nat} {v : V} {Q : V → SH → Prop} (h : mT K F G p xs) (s : G ⊆ G') (e : xs[i]? = some v) (q : Q v ⟨F, G'⟩) : oIx K (.ref p) (.int (i : Nat)) ⟨F, G'⟩ Q := ⟨xs, v, .inr (h.s s), atI_at e, q⟩
theorem ix_l {F : Hp} {G G' : List (Addr × HO)} {p : Addr} {xs : List V} {i : Nat} {v : V} {Q : V → SH → Prop} (h : mL K F G p xs) (s : G ⊆ G') (e : xs[i]? = some v) (q : Q v ⟨F, G'⟩) : oIx K (.ref p) (.int (i : Nat)) ⟨F, G'⟩ Q := ⟨xs, v, .inl (h.s s), atI_at e, q⟩
/-- a new object in front of what is kept -/
theorem own_front {F : Hp} {E : List (Addr × HO)} {H H' : Hp} {p : Addr} {o : HO} (h : Own ⟨F, E⟩ H) (hp : H p = none) (e : Ext H H') (hp' : H' p = some o) : Own ⟨F, (p, o) :: E⟩ H' := h.new hp e hp'
/-! ### a part of a tuple, the whole too -/
section
variable {X : Cx} {W : WX} {a : Expr} {pos : Pos} {ta : sE}
def oSlT (K : PySem.W.Frag) (x : V) (lo hi : Option Int) (S : SH) (Q : V → SH → Prop) : Prop := match x with
  | .ref p => ∃ xs, sU K S p xs ∧ (HT.sIx xs.length 0 lo = 0 ∧ HT.sIx xs.length xs.length hi = xs.length → Q (.ref p) S) ∧
      (¬ (HT.sIx xs.length 0 lo = 0 ∧ HT.sIx xs.length xs.length hi = xs.length) → ∀ r, Q (.ref r) (S.new r (.tup (cutV xs lo hi))))
  | _ => False
def sSlT (K : PySem.W.Frag) (te : sE) (tl th : sO) : sE := fun W z S Q => te W z S fun x S1 => tl W z S1 fun l S2 => th W z S2 fun u S3 => oSlT K x l u S3 Q
theorem gSlT {lo hi : Option Expr} {tl th : sO} {p2 : Pos} (he : PE X a (dE W ta)) (hl : PO X lo (dO W tl)) (hu : PO X hi (dO W th)) : PE X (.Subscript a (.Slice lo hi none p2) pos) (dE W (sSlT X.K ta tl th)) :=
  PE.by (pe_slice sl_tupA he hl hu) fun z H Q ⟨S, Q', W', kw, o, h, k⟩ => ⟨S, _, W', kw, o, h, fun x S1 H1 o1 h1 => ⟨S1, _, W', kw, o1, h1, fun l S2 H2 o2 h2 => ⟨S2, _, W', kw, o2, h2, fun u S3 H3 o3 h3 => by
    unfold oSlT at h3
    split at h3
    · obtain ⟨xs, h3, h4, h5⟩ := h3
      exact ⟨_, xs, rfl, o3.u h3, fun c => k _ _ _ o3 (h4 c), fun c r hr => k _ _ _ (o3.newU hr) (h5 c r)⟩
    · exact h3.elim⟩⟩⟩
end
/-! ### the box -/
structure Bx where
  g : Addr
  gs : List Int
  ms : List Int
  st : Int
def boxG (b m : Addr) (x : Bx) : List (Addr × HO) := [(b, .lst [.ref x.g, .ref m, .int x.st]), (x.g, .lst (x.gs.map V.int)), (m, .lst (x.ms.map V.int))]
structure BoxAt (b m : Addr) (x : Bx) (H : Hp) : Prop where
  pb : H b = some (.lst [.ref x.g, .ref m, .int x.st])
  pg : H x.g = some (.lst (x.gs.map V.int))
  pm : H m = some (.lst (x.ms.map V.int))
  bg : b ≠ x.g
  bm : b ≠ m
  gm : x.g ≠ m
def wo (H : Hp) (b m : Addr) (x : Bx) : Hp := fun c => if c = b ∨ c = x.g ∨ c = m then none else H c
theorem wo_in {H : Hp} {b m : Addr} {x : Bx} {c : Addr} (h : c = b ∨ c = x.g ∨ c = m) : wo H b m x c = none := if_pos h
theorem wo_out {H : Hp} {b m : Addr} {x : Bx} {c : Addr} (h : ¬ (c = b ∨ c = x.g ∨ c = m)) : wo H b m x c = H c := if_neg h
theorem wo_some {H : Hp} {b m : Addr} {x : Bx} {c : Addr} {o : HO} (h : wo H b m x c = some o) : H c = some o ∧ ¬ (c = b ∨ c = x.g ∨ c = m) := by
  by_cases q : c = b ∨ c = x.g ∨ c = m
  · rw [wo_in q] at h
    cases h
  · exact ⟨(wo_out q).symm.trans h, q⟩
theorem BoxAt.keepT {b m : Addr} {x : Bx} {H : Hp} (h : BoxAt b m x H) : KeepT (wo H b m x) H := fun c o e n => by
  have q : ¬ (c = b ∨ c = x.g ∨ c = m) := fun q => by
    rcases q with rfl | rfl | rfl
    · rw [h.pb] at e
      cases e
      exact n _ rfl
    · rw [h.pg] at e
      cases e
      exact n _ rfl
    · rw [h.pm] at e
      cases e
      exact n _ rfl
  exact (wo_out q).trans e
theorem box_of {F : Hp} {E : List (Addr × HO)} {b m : Addr} {x : Bx} {H : Hp} (o : Own ⟨F, E ++ boxG b m x⟩ H) : BoxAt b m x H ∧ Own ⟨F, E⟩ (wo H b m x) := by
  have nd : (E.map (·.1) ++ [b, x.g, m]).Nodup := by
    have := o.nd
    rw [List.map_append] at this
    exact this
  obtain ⟨n1, n2, n3⟩ := List.nodup_append.mp nd
  have mem : ∀ q ∈ boxG b m x, q ∈ E ++ boxG b m x := fun q hq => List.mem_append_right _ hq
  have h1 := o.gs _ (mem (b, .lst [.ref x.g, .ref m, .int x.st]) (.head _))
  have h2 := o.gs _ (mem (x.g, .lst (x.gs.map V.int)) (.tail _ (.head _)))
  have h3 := o.gs _ (mem (m, .lst (x.ms.map V.int)) (.tail _ (.tail _ (.head _))))
  simp only [List.nodup_cons, List.mem_cons, List.not_mem_nil, or_false, not_or, List.nodup_nil, not_false_eq_true, and_true] at n2
  refine ⟨⟨h1.1, h2.1, h3.1, n2.1.1, n2.1.2, n2.2⟩, fun c u e => ?_, fun q hq => ?_, n1⟩
  · have ne : ¬ (c = b ∨ c = x.g ∨ c = m) := fun q => by
      have e : F c = some u := e
      rcases q with rfl | rfl | rfl
      · have := h1.2
        rw [show F c = none from this] at e
        cases e
      · have := h2.2
        rw [show F _ = none from this] at e
        cases e
      · have := h3.2
        rw [show F c = none from this] at e
        cases e
    exact (wo_out ne).trans (o.fr c u e)
  · have hh := o.gs q (List.mem_append_left _ hq)
    have hm : q.1 ∈ E.map (·.1) := List.mem_map.mpr ⟨q, hq, rfl⟩
    have ne : ¬ (q.1 = b ∨ q.1 = x.g ∨ q.1 = m) := fun z => by
      rcases z with z | z | z
      · exact n3 _ hm b (.head _) z
      · exact n3 _ hm x.g (.tail _ (.head _)) z
      · exact n3 _ hm m (.tail _ (.tail _ (.head _))) z
    exact ⟨(wo_out ne).trans hh.1, hh.2⟩
theorem box_join {F : Hp} {E : List (Addr × HO)} {b m : Addr} {x : Bx} {H : Hp} (h : BoxAt b m x H) (o : Own ⟨F, E⟩ (wo H b m x)) : Own ⟨F, E ++ boxG b m x⟩ H := by
  have fn : ∀ c, (c = b ∨ c = x.g ∨ c = m) → F c = none := fun c hc => o.f_none (wo_in hc)
  refine ⟨fun c u e => (wo_some (o.fr c u e)).1, fun q hq => ?_, ?_⟩
  · rcases List.mem_append.mp hq with hq | hq
    · exact ⟨(wo_some (o.gs q hq).1).1, (o.gs q hq).2⟩
    · cases hq with
      | head => exact ⟨h.pb, fn _ (.inl rfl)⟩
      | tail _ hq =>
        cases hq with
        | head => exact ⟨h.pg, fn _ (.inr (.inl rfl))⟩
        | tail _ hq =>
          cases hq with
          | head => exact ⟨h.pm, fn _ (.inr (.inr rfl))⟩
          | tail _ hq => nomatch hq
  · show ((E ++ boxG b m x).map (·.1)).Nodup
    rw [List.map_append]
    refine List.nodup_append.mpr ⟨o.nd, ?_, fun c hc d hd e => ?_⟩
    · show [b, x.g, m].Nodup
      simp only [List.nodup_cons, List.mem_cons, List.not_mem_nil, or_false, not_or, List.nodup_nil, not_false_eq_true, and_true]
      exact ⟨⟨h.bg, h.bm⟩, h.gm⟩
    · obtain ⟨q, hq, rfl⟩ := List.mem_map.mp hc
      have := (wo_some (o.gs q hq).1).2
      refine this ?_
      rw [e]
      cases hd with
      | head => exact .inl rfl
      | tail _ hd =>
        cases hd with
        | head => exact .inr (.inl rfl)
        | tail _ hd =>
          cases hd with
          | head => exact .inr (.inr rfl)
          | tail _ hd => nomatch hd
/-- a def that draws from the box -/
def ct_box {α : Type} (args : α → List V) (res : α → Hp → V → Hp → Prop) (ok : α → Hp → Prop) : Ct (Addr × Addr × Bx × α) where
  pre g vs H := vs = .ref g.1 :: args g.2.2.2 ∧ BoxAt g.1 g.2.1 g.2.2.1 H ∧ g.2.2.1.ms ≠ [] ∧ ok g.2.2.2 (wo H g.1 g.2.1 g.2.2.1)
  post g H v H' := ∃ y, BoxAt g.1 g.2.1 y H' ∧ y.ms ≠ [] ∧ Ext (wo H g.1 g.2.1 g.2.2.1) (wo H' g.1 g.2.1 y) ∧ res g.2.2.2 (wo H g.1 g.2.1 g.2.2.1) v (wo H' g.1 g.2.1 y)
section
variable {α : Type} {args : α → List V} {res : α → Hp → V → Hp → Prop} {ok : α → Hp → Prop}
theorem use_box {W : sWX} {vs : List V} {σ : L2.St} {F : Hp} {E : List (Addr × HO)} {b m : Addr} {x : Bx} {Q : V → SH → Prop} (g : α) (e : vs = .ref b :: args g) (hx : x.ms ≠ []) (hg : ∀ H, Own ⟨F, E⟩ H → ok g H)
    (k : ∀ y H1 v H2, y.ms ≠ [] → Own ⟨F, E⟩ H1 → Own ⟨F, E⟩ H2 → Ext H1 H2 → res g H1 v H2 → ∃ F' E', Own ⟨F', E'⟩ H2 ∧ Q v ⟨F', E' ++ boxG b m y⟩) : rC (ct_box args res ok) W vs σ ⟨F, E ++ boxG b m x⟩ Q := by
  refine ⟨(b, m, x, g), fun H o => ?_, fun H v H' o q => ?_, fun _ _ _ _ _ q => q.elim⟩
  · obtain ⟨h1, h2⟩ := box_of o
    exact ⟨e, h1, hx, hg _ h2⟩
  · obtain ⟨h1, h2⟩ := box_of o
    obtain ⟨y, q1, q2, q3, q4⟩ := q
    obtain ⟨F', E', o', q'⟩ := k y _ v _ q2 h2 (h2.ex q3) q3 q4
    exact ⟨_, box_join q1 o', q'⟩
theorem body_box {vs : List V} {H : Hp} {t : sS} {z : L2.St} (gg : Addr × Addr × Bx × α) (h : (ct_box args res ok).pre gg vs H)
    (k : ∀ (b m : Addr) (x : Bx) (g : α) (F : Hp), gg = (b, m, x, g) → F = wo H b m x → x.ms ≠ [] → ok g F → vs = .ref b :: args g → t (endsC (ct_box args res ok) gg H) z ⟨F, boxG b m x⟩) : ∃ S, Own S H ∧ t (endsC (ct_box args res ok) gg H) z S := by
  obtain ⟨b, m, x, g⟩ := gg
  obtain ⟨e, h1, h2, h3⟩ := h
  exact ⟨_, box_join (E := []) h1 (Own.base _), k b m x g _ rfl rfl h2 h3 e⟩
/-- the end of such a def -/
theorem end_box {H H' : Hp} {b m : Addr} {x y : Bx} {g : α} {E : List (Addr × HO)} {v : V} (o : Own ⟨wo H b m x, E ++ boxG b m y⟩ H') (hy : y.ms ≠ []) (hr : ∀ H2, Own ⟨wo H b m x, E⟩ H2 → res g (wo H b m x) v H2) : (ct_box args res ok).post (b, m, x, g) H v H' := by
  obtain ⟨h1, h2⟩ := box_of o
  exact ⟨y, h1, hy, fun c u e => h2.fr c u e, hr _ h2⟩
end
end
end SY
namespace SY
open PySem PySem.Spec PyProof.Rows L2
section
variable {X : Cx} {W : WX} {i o k v : Expr} {pos : Pos} {ty td tk tv : sE}
/-! ### key in dict; a dict of one entry -/
def sDInT (neg : Bool) (ty td : sE) : sT := fun W z S Q => ty W z S fun y S1 => td W z S1 fun x S2 => match x with
  | .ref p => ∃ kvs k, At S2 p (.dK kvs) ∧ y = kV k ∧ Q (if neg then !(valV kvs k).isSome else (valV kvs k).isSome) S2
  | _ => False
theorem gTDIn (hu : X.A.units + 1 < cLine) (hi : PE X i (dE W ty)) (ho : PE X o (dE W td)) (hm : behindInMarks .In o = false := by rfl) : PT X (.Compare i [.In] [o] pos) (dT W (sDInT false ty td)) :=
  PT.by (pt_cmp (pc_din hu hi ho) hm) fun z H Q ⟨S, Q', W', kw, ow, h, kk⟩ => ⟨S, _, W', kw, ow, h, fun y S1 H1 o1 h1 => ⟨S1, _, W', kw, o1, h1, fun x S2 H2 o2 h2 => by
    split at h2
    · obtain ⟨kvs, k, q1, rfl, q2⟩ := h2
      exact ⟨_, _, rfl, .inl ⟨kvs, k, .inl (o2.at q1), rfl, rfl⟩, ⟨_, rfl, kk _ _ _ o2 q2⟩⟩
    · exact h2.elim⟩⟩
theorem gTDNotIn (hu : X.A.units + 1 < cLine) (hi : PE X i (dE W ty)) (ho : PE X o (dE W td)) (hm : behindInMarks .NotIn o = false := by rfl) : PT X (.Compare i [.NotIn] [o] pos) (dT W (sDInT true ty td)) :=
  PT.by (pt_cmp (pc_dnotin hu hi ho) hm) fun z H Q ⟨S, Q', W', kw, ow, h, kk⟩ => ⟨S, _, W', kw, ow, h, fun y S1 H1 o1 h1 => ⟨S1, _, W', kw, o1, h1, fun x S2 H2 o2 h2 => by
    split at h2
    · obtain ⟨kvs, k, q1, rfl, q2⟩ := h2
      exact ⟨_, _, rfl, .inl ⟨kvs, k, .inl (o2.at q1), rfl, rfl⟩, ⟨_, rfl, kk _ _ _ o2 q2⟩⟩
    · exact h2.elim⟩⟩
def sDis1 (tk tv : sE) : sE := fun W z S Q => ∀ p, tk W z (S.new p (.dK [])) fun x S1 => tv W z S1 fun y S2 => ∃ n k, S2.G[n]? = some (p, .dK []) ∧ x = kV k ∧ Q (.ref p) (S2.put n p (.dK (putK [] k y)))
theorem gDis1 (hk : PE X k (dE W tk)) (hv : PE X v (dE W tv)) : PE X (.Dict [some k] [v] pos) (dE W (sDis1 tk tv)) :=
  PE.by (pe_disp (pps_cons hk hv pps_nil) (by rfl) (by rfl) (fun z => by cases z) (Nat.le_of_ble_eq_true rfl)) fun z H Q ⟨S, Q', W', kw, ow, h, kk⟩ => fun p hp => ⟨_, _, W', kw, ow.newU hp, h p, fun x S1 H1 o1 h1 => ⟨S1, _, W', kw, o1, h1, fun y S2 H2 o2 h2 => by
    obtain ⟨n, kx, q1, rfl, q2⟩ := h2
    exact ⟨o2.g q1, [(kx, y)], rfl, Nat.le_of_ble_eq_true rfl, kk _ _ _ (o2.putU q1) q2⟩⟩⟩
/-! ### list(x), x a text -/
def sgV (z : Str) : List V := z.cps.toList.map fun c => V.str ⟨#[c]⟩
theorem cr_listS (hc : X.calm = true) : CallR X (.type "list") (fun xs H Q => ∃ z, xs = [.str z] ∧ z.cps.size ≤ sizeLine ∧ ∀ l, H l = none → Q (.ref l) (upd H l (.lst (sgV z)))) := by
  intro pins s z0 H xs us Q I r h
  obtain ⟨z, rfl, hz, q⟩ := h
  obtain ⟨u, rfl, rx⟩ := vals1 r
  obtain ⟨t, rfl⟩ := rx
  refine PySem.call_list_str (I.ok.hd hc) z t (fun h2 tk acc c2 kp e hi => ?_) hz
  refine ⟨.ref s.heap.objs.size, _, I.laid (t' := tk) kp (Nat.le_refl _) (show ObjOk X.prog X.w _ h2 _ (.lst (sgV z)) from ⟨?_, acc.toList, c2, ?_, ?_⟩), rfl, q _ (I.hok.fresh (Nat.le_refl _))⟩
  · unfold sgV
    rw [List.length_map, Array.length_toList]
    exact hz
  · refine vals_of_at (by unfold sgV; rw [List.length_map, Array.length_toList, Array.length_toList]; exact hi.1.symm) fun j x w h1 h3 => ?_
    obtain ⟨c, k, hc2, hw⟩ := hi.2 j w (by rw [← Array.getElem?_toList]; exact h3)
    unfold sgV at h1
    rw [List.getElem?_map, Array.getElem?_toList, hc2] at h1
    have h1 : V.str ⟨#[c]⟩ = x := Option.some.inj h1
    rw [← h1]
    exact ⟨k, hw⟩
  · rw [Array.toArray_toList]
    exact e
def nListS : sN := fun vs S Q => match vs with
  | [.str z] => z.cps.size ≤ sizeLine ∧ ∀ q, Q (.ref q) (S.new q (.lst (sgV z)))
  | _ => False
theorem lListS : LiftN nListS (fun xs H Q => ∃ z, xs = [.str z] ∧ z.cps.size ≤ sizeLine ∧ ∀ l, H l = none → Q (.ref l) (upd H l (.lst (sgV z)))) := by
  intro vs S Q' H Q o h k
  unfold nListS at h
  split at h
  · exact ⟨_, rfl, h.1, fun q hq => k _ _ _ (o.newU hq) (h.2 q)⟩
  · exact h.elim
end
end SY
namespace SY
open PySem PySem.Spec PyProof.Rows L2
section
variable {X : Cx} {W : WX} {i o e value : Expr} {pos : Pos} {ty td te tv : sE}
/-! ### dicts whose keys are tuples -/
def sDctT : sE := fun _ _ S Q => ∀ p, Q (.ref p) (S.new p (.dT []))
theorem gDctT : PE X (.Dict [] [] pos) (dE W sDctT) := PE.by pe_dnewT fun z H Q ⟨S, Q', W', kw, o, h, k⟩ => fun p hp => k _ _ _ (o.newU hp) (h p)
def sDPutT (td ty tv : sE) : sS := fun D z S => tv D.ex z S fun v S1 => td D.ex z S1 fun x S2 => ty D.ex z S2 fun y S3 => match x, y with
  | .ref p, .ref b => ∃ i kvs k, S3.G[i]? = some (p, .dT kvs) ∧ At S3 b (.tup (k.map kV)) ∧ kvs.length < sizeLine ∧ D.nx z (S3.put i p (.dT (putK kvs k v)))
  | _, _ => False
theorem hDPutT {pos2 : Pos} (hu : X.A.units + 1 < cLine) (ho : PE X o (dE W td)) (hi : PE X i (dE W ty)) (hv : PE X value (dE W tv)) (hs : swapsWith value (some (.Subscript o i pos2)) pos.line X.env = pure false := by rfl) :
    PS X (.Assign [.Subscript o i pos2] value pos) (dS W (sDPutT td ty tv)) :=
  PS.by (ps_dput hu ho hi hv hs) fun D z H ⟨S, D', ow, h, k⟩ => ⟨S, _, D'.ex, k.ex, ow, h, fun v S1 H1 o1 h1 => ⟨S1, _, D'.ex, k.ex, o1, h1, fun x S2 H2 o2 h2 => ⟨S2, _, D'.ex, k.ex, o2, h2, fun y S3 H3 o3 h3 => by
    split at h3
    · obtain ⟨n, kvs, kk, q1, q2, q3, q4⟩ := h3
      exact ⟨_, _, rfl, DPut.t (o3.g q1) (o3.at q2) q3, k.nx _ _ _ (o3.putU q1) q4⟩
    · exact h3.elim⟩⟩⟩
def sDGetT (td ty : sE) : sE := fun W z S Q => td W z S fun x S1 => ty W z S1 fun y S2 => match x, y with
  | .ref p, .ref b => ∃ kvs k v, At S2 p (.dT kvs) ∧ At S2 b (.tup (k.map kV)) ∧ valV kvs k = some v ∧ Q v S2
  | _, _ => False
theorem gDGetT (hu : X.A.units + 1 < cLine) (ho : PE X o (dE W td)) (hi : PE X i (dE W ty)) (hs : NoSl i := by intro _ _; rfl) : PE X (.Subscript o i pos) (dE W (sDGetT td ty)) :=
  PE.by (pe_dget hu ho hi hs) fun z H Q ⟨S, Q', W', kw, ow, h, k⟩ => ⟨S, _, W', kw, ow, h, fun x S1 H1 o1 h1 => ⟨S1, _, W', kw, o1, h1, fun y S2 H2 o2 h2 => by
    split at h2
    · obtain ⟨kvs, kk, v, q1, q2, q3, q4⟩ := h2
      exact ⟨_, v, rfl, by rw [← q3]; exact DGet.t (o2.at q1) (o2.at q2), k _ _ _ o2 q4⟩
    · exact h2.elim⟩⟩
/-! ### a list backwards -/
def sRevL (K : PySem.W.Frag) (te : sE) : sE := fun W z S Q => te W z S fun x S1 => match x with
  | .ref a => ∃ xs, sL K S1 a xs ∧ ∀ p, Q (.ref p) (S1.new p (.lst xs.reverse))
  | _ => False
theorem gRevL {k : Nat} {p1 p2 p3 : Pos} (he : PE X e (dE W te)) : PE X (.Subscript e (.Slice none none (some (.UnaryOp .USub (.Constant (.int 1) k p1) p2)) p3) pos) (dE W (sRevL X.K te)) :=
  PE.by (pe_revL he) fun z H Q ⟨S, Q', W', kw, ow, h, k⟩ => ⟨S, _, W', kw, ow, h, fun x S1 H1 o1 h1 => by
    split at h1
    · obtain ⟨xs, q1, q2⟩ := h1
      exact ⟨_, xs, rfl, o1.l q1, fun p hp => k _ _ _ (o1.newU hp) (q2 p)⟩
    · exact h1.elim⟩
end
/-! ### a box of lists, of any shape -/
def woL (H : Hp) (L : List (Addr × HO)) : Hp := fun c => if c ∈ L.map (·.1) then none else H c
structure LAt (L : List (Addr × HO)) (H : Hp) : Prop where
  at_ : ∀ q ∈ L, H q.1 = some q.2
  nd : (L.map (·.1)).Nodup
theorem woL_in {H : Hp} {L : List (Addr × HO)} {c : Addr} (h : c ∈ L.map (·.1)) : woL H L c = none := if_pos h
theorem woL_out {H : Hp} {L : List (Addr × HO)} {c : Addr} (h : c ∉ L.map (·.1)) : woL H L c = H c := if_neg h
theorem woL_some {H : Hp} {L : List (Addr × HO)} {c : Addr} {o : HO} (h : woL H L c = some o) : H c = some o ∧ c ∉ L.map (·.1) := by
  by_cases q : c ∈ L.map (·.1)
  · rw [woL_in q] at h
    cases h
  · exact ⟨(woL_out q).symm.trans h, q⟩
theorem lbox_of {F : Hp} {E L : List (Addr × HO)} {H : Hp} (o : Own ⟨F, E ++ L⟩ H) : LAt L H ∧ Own ⟨F, E⟩ (woL H L) := by
  have nd : (E.map (·.1) ++ L.map (·.1)).Nodup := by
    have := o.nd
    rw [List.map_append] at this
    exact this
  obtain ⟨n1, n2, n3⟩ := List.nodup_append.mp nd
  have mem : ∀ q ∈ L, q ∈ E ++ L := fun q hq => List.mem_append_right _ hq
  refine ⟨⟨fun q hq => (o.gs q (mem q hq)).1, n2⟩, fun c u e => ?_, fun q hq => ?_, n1⟩
  · have e : F c = some u := e
    have ne : c ∉ L.map (·.1) := fun z => by
      obtain ⟨q, hq, rfl⟩ := List.mem_map.mp z
      have : F q.1 = none := (o.gs q (mem q hq)).2
      rw [this] at e
      cases e
    exact (woL_out ne).trans (o.fr c u e)
  · have hh := o.gs q (List.mem_append_left _ hq)
    have hm : q.1 ∈ E.map (·.1) := List.mem_map.mpr ⟨q, hq, rfl⟩
    exact ⟨(woL_out fun z => n3 _ hm _ z rfl).trans hh.1, hh.2⟩
theorem lbox_join {F : Hp} {E L : List (Addr × HO)} {H : Hp} (h : LAt L H) (o : Own ⟨F, E⟩ (woL H L)) : Own ⟨F, E ++ L⟩ H := by
  have fn : ∀ c, c ∈ L.map (·.1) → F c = none := fun c hc => o.f_none (woL_in hc)
  refine ⟨fun c u e => (woL_some (o.fr c u e)).1, fun q hq => ?_, ?_⟩
  · rcases List.mem_append.mp hq with hq | hq
    · exact ⟨(woL_some (o.gs q hq).1).1, (o.gs q hq).2⟩
    · exact ⟨h.at_ q hq, fn _ (List.mem_map.mpr ⟨q, hq, rfl⟩)⟩
  · show ((E ++ L).map (·.1)).Nodup
    rw [List.map_append]
    refine List.nodup_append.mpr ⟨o.nd, h.nd, fun c hc d hd e => ?_⟩
    obtain ⟨q, hq, rfl⟩ := List.mem_map.mp hc
    exact (woL_some (o.gs q hq).1).2 (e ▸ hd)
/-- a def that draws from such a box: bg, what stands of it; inv, what is true of it -/
structure BoxK (β : Type) where
  bg : Addr → β → List (Addr × HO)
  inv : β → Prop
def ct_lbox {α β : Type} (B : BoxK β) (args : α → List V) (res : α → Hp → V → Hp → Prop) (ok : α → Hp → Prop) : Ct (Addr × β × α) where
  pre g vs H := vs = .ref g.1 :: args g.2.2 ∧ LAt (B.bg g.1 g.2.1) H ∧ B.inv g.2.1 ∧ ok g.2.2 (woL H (B.bg g.1 g.2.1))
  post g H v H' := ∃ y, LAt (B.bg g.1 y) H' ∧ B.inv y ∧ Ext (woL H (B.bg g.1 g.2.1)) (woL H' (B.bg g.1 y)) ∧ res g.2.2 (woL H (B.bg g.1 g.2.1)) v (woL H' (B.bg g.1 y))
section
variable {α β : Type} {B : BoxK β} {args : α → List V} {res : α → Hp → V → Hp → Prop} {ok : α → Hp → Prop}
theorem use_lbox {W : sWX} {vs : List V} {σ : L2.St} {F : Hp} {E : List (Addr × HO)} {b : Addr} {x : β} {Q : V → SH → Prop} (g : α) (e : vs = .ref b :: args g) (hx : B.inv x) (hg : ∀ H, Own ⟨F, E⟩ H → ok g H)
    (k : ∀ y H1 v H2, B.inv y → Own ⟨F, E⟩ H1 → Own ⟨F, E⟩ H2 → Ext H1 H2 → res g H1 v H2 → ∃ F' E', Own ⟨F', E'⟩ H2 ∧ Q v ⟨F', E' ++ B.bg b y⟩) : rC (ct_lbox B args res ok) W vs σ ⟨F, E ++ B.bg b x⟩ Q := by
  refine ⟨(b, x, g), fun H o => ?_, fun H v H' o q => ?_, fun _ _ _ _ _ q => q.elim⟩
  · obtain ⟨h1, h2⟩ := lbox_of o
    exact ⟨e, h1, hx, hg _ h2⟩
  · obtain ⟨h1, h2⟩ := lbox_of o
    obtain ⟨y, q1, q2, q3, q4⟩ := q
    obtain ⟨F', E', o', q'⟩ := k y _ v _ q2 h2 (h2.ex q3) q3 q4
    exact ⟨_, lbox_join q1 o', q'⟩
theorem body_lbox {vs : List V} {H : Hp} {t : sS} {z : L2.St} (gg : Addr × β × α) (h : (ct_lbox B args res ok).pre gg vs H)
    (k : ∀ (b : Addr) (x : β) (g : α) (F : Hp), gg = (b, x, g) → F = woL H (B.bg b x) → B.inv x → ok g F → vs = .ref b :: args g → t (endsC (ct_lbox B args res ok) gg H) z ⟨F, B.bg b x⟩) : ∃ S, Own S H ∧ t (endsC (ct_lbox B args res ok) gg H) z S := by
  obtain ⟨b, x, g⟩ := gg
  obtain ⟨e, h1, h2, h3⟩ := h
  exact ⟨_, lbox_join (E := []) h1 (Own.base _), k b x g _ rfl rfl h2 h3 e⟩
theorem end_lbox {H H' : Hp} {b : Addr} {x y : β} {g : α} {E : List (Addr × HO)} {v : V} (o : Own ⟨woL H (B.bg b x), E ++ B.bg b y⟩ H') (hy : B.inv y) (hr : ∀ H2, Own ⟨woL H (B.bg b x), E⟩ H2 → res g (woL H (B.bg b x)) v H2) : (ct_lbox B args res ok).post (b, x, g) H v H' := by
  obtain ⟨h1, h2⟩ := lbox_of o
  exact ⟨y, h1, hy, fun c u e => h2.fr c u e, hr _ h2⟩
end
/-! ### the heap without these objects -/
def hid (G : List (Addr × HO)) (H : Hp) : Hp := fun c => if c ∈ G.map (·.1) then none else H c
def Lists (G : List (Addr × HO)) : Prop := ∀ q ∈ G, ∃ xs, q.2 = .lst xs
theorem own_le {F F' : Hp} {G : List (Addr × HO)} {H : Hp} (e : Ext F F') (o : Own ⟨F', G⟩ H) : Own ⟨F, G⟩ H := by
  refine ⟨fun c u h => o.fr c u (e c u h), fun q hq => ⟨(o.gs q hq).1, ?_⟩, o.nd⟩
  have h2 : F' q.1 = none := (o.gs q hq).2
  show F q.1 = none
  cases h : F q.1 with
  | none => rfl
  | some u =>
    rw [e _ _ h] at h2
    cases h2
theorem own_hid {F : Hp} {G : List (Addr × HO)} {H H' : Hp} (o : Own ⟨F, G⟩ H) (e : Ext H H') (hl : Lists G) : Own ⟨hid G H', G⟩ H' ∧ Ext F (hid G H') ∧ KeepT (hid G H') H' := by
  refine ⟨⟨fun c u h => ?_, fun q hq => ⟨e _ _ (o.gs q hq).1, ?_⟩, o.nd⟩, fun c u h => ?_, fun c u h n => ?_⟩
  · have h : (if c ∈ G.map (·.1) then none else H' c) = some u := h
    split at h
    · cases h
    · exact h
  · show (if q.1 ∈ G.map (·.1) then none else H' q.1) = none
    rw [if_pos (List.mem_map.mpr ⟨q, hq, rfl⟩)]
  · have ne : c ∉ G.map (·.1) := fun z => by
      obtain ⟨q, hq, rfl⟩ := List.mem_map.mp z
      have : F q.1 = none := (o.gs q hq).2
      rw [this] at h
      cases h
    show (if c ∈ G.map (·.1) then none else H' c) = some u
    rw [if_neg ne]
    exact e _ _ (o.fr c u h)
  · have ne : c ∉ G.map (·.1) := fun z => by
      obtain ⟨q, hq, rfl⟩ := List.mem_map.mp z
      obtain ⟨xs, ex⟩ := hl q hq
      have h1 := e _ _ (o.gs q hq).1
      rw [h1] at h
      exact n xs (by rw [← Option.some.inj h]; exact ex)
    show (if c ∈ G.map (·.1) then none else H' c) = some u
    rw [if_neg ne]
    exact h
theorem own_hid2 {F : Hp} {G : List (Addr × HO)} {H H' : Hp} {p : Addr} {xs : List V} (o : Own ⟨F, G⟩ H) (e : Ext H H') (hl : Lists G) (hp : H p = none) (hp' : H' p = some (.lst xs)) : Own ⟨hid ((p, .lst xs) :: G) H', (p, .lst xs) :: G⟩ H' ∧ Ext F (hid ((p, .lst xs) :: G) H') ∧ KeepT (hid ((p, .lst xs) :: G) H') H' := by
  have o1 : Own ⟨F, (p, .lst xs) :: G⟩ H' := o.new hp e hp'
  exact own_hid o1 (Ext.refl _) fun q hq => by
    cases hq with
    | head => exact ⟨_, rfl⟩
    | tail _ hq => exact hl q hq
theorem lists_cons {G : List (Addr × HO)} {p : Addr} {xs : List V} (h : Lists G) : Lists ((p, .lst xs) :: G) := fun q hq => by
  cases hq with
  | head => exact ⟨_, rfl⟩
  | tail _ hq => exact h q hq
theorem lists_nil : Lists [] := fun _ z => nomatch z
theorem lists_one {p : Addr} {xs : List V} : Lists [(p, .lst xs)] := lists_cons lists_nil
theorem lists_app {G G' : List (Addr × HO)} (h : Lists G) (h' : Lists G') : Lists (G ++ G') := fun q hq => (List.mem_append.mp hq).elim (h q) (h' q)
theorem own_F {F : Hp} {G : List (Addr × HO)} {H : Hp} (o : Own ⟨F, G⟩ H) : Ext F H := fun c u e => o.fr c u e
/-! ### single steps, more -/
section
variable {K : PySem.W.Frag}
theorem c_go {v : V} {W : sWX} {σ : L2.St} {S : SH} {Q : V → SH → Prop} (h : Q v S) : sC v W σ S Q := h
theorem ne_s {x y : Str} {c : Bool} {S : SH} {Q : V → SH → Prop} (e : decide (V.str x = V.str y) = !c) (h : Q (.bl c) S) : oNe K (.str x) (.str y) S Q := by
  show Q (.bl (!decide (V.str x = V.str y))) S
  rw [e, Bool.not_not]
  exact h
theorem eq_s {x y : Str} {c : Bool} {S : SH} {Q : V → SH → Prop} (e : decide (V.str x = V.str y) = c) (h : Q (.bl c) S) : oEq K (.str x) (.str y) S Q := by
  show Q (.bl (decide (V.str x = V.str y))) S
  rw [e]
  exact h
theorem dec_int (x y : Int) : decide (V.int x = V.int y) = decide (x = y) := decide_eq_decide.mpr ⟨V.int.inj, congrArg V.int⟩
theorem ne_i {x y : Int} {c : Bool} {S : SH} {Q : V → SH → Prop} (e : decide (x = y) = !c) (h : Q (.bl c) S) : oNe K (.int x) (.int y) S Q := by
  show Q (.bl (!decide (V.int x = V.int y))) S
  rw [dec_int, e, Bool.not_not]
  exact h
theorem eq_i {x y : Int} {c : Bool} {S : SH} {Q : V → SH → Prop} (e : decide (x = y) = c) (h : Q (.bl c) S) : oEq K (.int x) (.int y) S Q := by
  show Q (.bl (decide (V.int x = V.int y))) S
  rw [dec_int, e]
  exact h
theorem gt_i {x y : Int} {c : Bool} {S : SH} {Q : V → SH → Prop} (e : decide (y < x) = c) (h : Q (.bl c) S) : oGt (.int x) (.int y) S Q := by
  show Q (.bl (decide (y < x))) S
  rw [e]
  exact h
theorem lt_i {x y : Int} {c : Bool} {S : SH} {Q : V → SH → Prop} (e : decide (x < y) = c) (h : Q (.bl c) S) : oLt (.int x) (.int y) S Q := by
  show Q (.bl (decide (x < y))) S
  rw [e]
  exact h
theorem le_i {x y : Int} {c : Bool} {S : SH} {Q : V → SH → Prop} (e : decide (x ≤ y) = c) (h : Q (.bl c) S) : oLe (.int x) (.int y) S Q := by
  show Q (.bl (decide (x ≤ y))) S
  rw [e]
  exact h
theorem ge_i {x y : Int} {c : Bool} {S : SH} {Q : V → SH → Prop} (e : decide (y ≤ x) = c) (h : Q (.bl c) S) : oGe (.int x) (.int y) S Q := by
  show Q (.bl (decide (y ≤ x))) S
  rw [e]
  exact h
theorem rgA_set {α : Type} {g : Nat → α} {n f : Nat} {v : α} : ((List.range n).map g).set f v = (List.range n).map fun x => if x = f then v else g x := by
  refine List.ext_getElem? fun k => ?_
  rw [List.getElem?_map]
  by_cases h : f = k
  · subst h
    by_cases hl : f < n
    · rw [List.getElem?_set_self (by rw [List.length_map, List.length_range]; exact hl), List.getElem?_range hl]
      exact congrArg some (if_pos rfl).symm
    · rw [List.getElem?_eq_none (by rw [List.length_set, List.length_map, List.length_range]; omega), List.getElem?_eq_none (by rw [List.length_range]; omega)]
      rfl
  · rw [List.getElem?_set_ne h, List.getElem?_map]
    cases e : (List.range n)[k]? with
    | none => rfl
    | some x =>
      have : x = k := by
        obtain ⟨h1, h2⟩ := List.getElem?_eq_some_iff.mp e
        rw [List.getElem_range] at h2
        exact h2.symm
      subst this
      exact congrArg some (if_neg (fun z => h z.symm)).symm
theorem rgA_congr {α : Type} {g g' : Nat → α} {n : Nat} (h : ∀ x, x < n → g x = g' x) : (List.range n).map g = (List.range n).map g' := List.map_congr_left fun x hx => h x (List.mem_range.mp hx)
theorem rgA_at {α : Type} {f : Nat → α} {n d : Nat} (h : d < n) : ((List.range n).map f)[d]? = some (f d) := by
  rw [List.getElem?_map, List.getElem?_range h]
  rfl
theorem rgA_more {α : Type} (f : Nat → α) (i : Nat) : (List.range (i + 1)).map f = (List.range i).map f ++ [f i] := by
  rw [List.range_succ, List.map_append]
  rfl
theorem filter_more {p : Nat → Bool} {i : Nat} : (List.range (i + 1)).filter p = (List.range i).filter p ++ if p i then [i] else [] := by
  rw [List.range_succ, List.filter_append]
  congr 1
  rw [List.filter_cons]
  rfl
theorem filter_take {α : Type} {p : α → Bool} {l : List α} {i : Nat} {x : α} (h : l[i]? = some x) : (l.take (i + 1)).filter p = (l.take i).filter p ++ if p x then [x] else [] := by
  rw [take_more h, List.filter_append]
  congr 1
  rw [List.filter_cons]
  rfl
end
end SY
namespace SY
open PySem PySem.Spec PyProof.Rows L2
/-! ### own errors with two fields -/
def spErr2 (C : Addr) (f g : Str) : Sp := fun vs H Q _ => ∃ a v u, vs = [.ref a, v, u] ∧ H a = some (exo a C none) ∧ ∀ dx, H dx = none → dx ≠ a → Q .non (upd (upd (upd H dx (exd dx [(f, v)])) a (exo a C (some dx))) dx (exd dx [(g, u), (f, v)]))
structure ErrC2 (P : Program) (w : World) (K : PySem.W.Frag) (mg : Str → Option Value) (base : Heap) (x f g : Str) (C : Addr) : Prop where
  oex : OexC K C
  xf : XfC K C
  isc : ExcC K C
  no : PySem.W.findIn K (.ref C) f = some none
  no2 : PySem.W.findIn K (.ref C) g = some none
  gC : mg x = some (.ref C)
  ini : ∃ fI fd, PySem.W.findIn K (.ref C) "__init__" = some (some (.ref fI)) ∧ PySem.W.typeIn K (.ref fI) = some (.type "function") ∧ FnOk P w K mg base (L2.CX P w) 1 fI fd ["self", f, g] (spErr2 C f g) ∧ Binds K fd ["self", f, g] []
def sRaise2 (C : Addr) (f g : Str) (ta tb : sE) : sS := fun D σ S => ta D.ex σ S fun v S1 => tb D.ex σ S1 fun u S2 => ∀ d, D.ex (.ref C) (some d) σ (S2.new d (.xd [(g, u), (f, v)]))
theorem hRaise2 {X : Cx} {W : WX} {x f g : Str} {C : Addr} {a b : Expr} {ta tb : sE} {p pos pos2 : Pos} {k : Nat} (hc : X.calm = true) (tk : Takes X W) (T : ErrC2 X.prog X.w X.K X.mg X.base x f g C) (hr : Room (k + 2) X.A) (hg : Gl X x) (ha : PE X a (dE W ta)) (hb2 : PE X b (dE W tb))
    (hdb : (x == ("__debug__" : Str)) = false := by decide) (hs : starEach (a :: [b]) X.env = (false, eval a X.env) :: starEach [b] X.env := by rfl) (hs2 : starEach (b :: []) X.env = (false, eval b X.env) :: starEach [] X.env := by rfl) (hpl : (backTo pos (starEach [b] X.env)).any (·.1) = false := by rfl) :
    PS X (.Raise (some (.Call (.Name x p) [a, b] [] pos)) none pos2) (dS W (sRaise2 C f g ta tb)) := by
  obtain ⟨fI, fd, h1, h2, F, hb⟩ := T.ini
  refine PS.by (ps_raise hc tk (pmk_oex T.oex h1 h2 F (hr.mono (by omega)) hb .nil passL hg T.gC (pa_cons ha (pa_cons hb2 pa_nil hs2) hs) hdb hs hpl)) fun D σ H ⟨S, D', o, h, k⟩ => ⟨S, _, D'.ex, k.ex, o, h, fun v S1 H1 o1 h1 => ⟨S1, _, D'.ex, k.ex, o1, h1, fun u S2 H2 o2 h2 => ?_⟩⟩
  refine ⟨by simp, fun e he => ⟨e, v, u, rfl, upd_same, fun dx hdx hne => ⟨rfl, dx, [(g, u), (f, v)], ?_, upd_same, ?_, ?_⟩⟩⟩
  · rw [upd_ne hne.symm, upd_same]
  · rw [upd_ne hne] at hdx
    exact hdx
  · rw [upd_ne hne] at hdx
    refine k.ex _ _ _ _ _ (o2.new hdx (fun b u hb => ?_) upd_same) (h2 dx)
    have n1 : b ≠ e := ne_of_none hb he
    have n2 : b ≠ dx := ne_of_none hb hdx
    rw [upd_ne n2, del_ne n1, upd_ne n2, upd_ne n1, upd_ne n2, upd_ne n1]
    exact hb
end SY
namespace SY
open PySem PySem.Spec PyProof.Rows L2
/-! ### a written dict of the module with text keys: d[k] -/
def sIxW (kvs : List (Str × V)) (ty : sE) : sE := fun W z S Q => ty W z S fun y S1 => match y with
  | .str s => ∃ v, kvs.lookup s = some v ∧ Q v S1
  | _ => False
/-- what stands at a -/
def WriD (K : PySem.W.Frag) (w : World) (a : Addr) (kvs : List (Str × V)) : Prop := ∀ s v, kvs.lookup s = some v → KDct K w a s v
theorem gIxW {X : Cx} {W : WX} {x : Str} {a : Addr} {kvs : List (Str × V)} {i : Expr} {p pos : Pos} {ty : sE} (hg : Gl X x) (hm : X.mg x = some (.ref a)) (hd : WriD X.K X.w a kvs) (hi : PE X i (dE W ty)) (hs : PlainIx i := by intro _ _; rfl) (hdb : (x == ("__debug__" : Str)) = false := by decide) :
    PE X (.Subscript (.Name x p) i pos) (dE W (sIxW kvs ty)) :=
  PE.by (pe_ix ix_kdict (gClV (W := W) hg hm hdb) hi hs) fun z H Q ⟨S, Q', W', kw, o, h, k⟩ => ⟨S, fun x S1 => x = .ref a ∧ S1 = S, W', kw, o, ⟨rfl, rfl⟩, fun x S1 H1 o1 h1 => by
    obtain ⟨e1, e2⟩ := h1
    subst e1
    subst e2
    exact ⟨_, _, W', kw, o1, h, fun y S2 H2 o2 h2 => by
      split at h2
      · obtain ⟨v, q1, q2⟩ := h2
        exact ⟨a, _, v, rfl, rfl, hd _ _ q1, k _ _ _ o2 q2⟩
      · exact h2.elim⟩⟩
/-- the facts of a written dict -/
theorem wriD_of {K : PySem.W.Frag} {w : World} {a : Addr} {kvs : List (Str × V)} {es : Array DictEntry} {n : Nat} (h1 : K.lookup a = some ⟨.type "dict", none, .dict es n, #[]⟩) (h2 : PySem.W.KeysLit w.params es.toList) (h : ∀ q ∈ kvs, ∃ u, PySem.W.nsIn K a q.1 = some (some u) ∧ RelV q.2 u) : WriD K w a kvs := by
  intro s v e
  have m : (s, v) ∈ kvs := by
    clear h
    induction kvs with
    | nil => cases e
    | cons q kvs ih =>
      obtain ⟨k, u⟩ := q
      rw [List.lookup_cons] at e
      split at e
      · rename_i hb
        have hk : s = k := eq_of_beq hb
        subst hk
        rw [← Option.some.inj e]
        exact .head _
      · exact .tail _ (ih e)
  obtain ⟨u, q1, q2⟩ := h _ m
  exact ⟨es, n, u, h1, h2, q1, q2⟩
/-! ### single steps, by shape -/
section
variable {K : PySem.W.Frag} {t u : sT} {ta tb te : sE} {p q : sS} {D : sEnds} {W : sWX} {σ : L2.St} {S : SH} {Q : Bool → SH → Prop} {R : V → SH → Prop}
theorem ifT_go (h : t D.ex σ S fun c S1 => match c with
    | true => p D σ S1
    | false => q D σ S1) : sIfS t p q D σ S := h
theorem and_go (h : t W σ S fun c S1 => match c with
    | true => u W σ S1 Q
    | false => Q false S1) : sAnd t u W σ S Q := h
theorem or_go (h : t W σ S fun c S1 => match c with
    | true => Q true S1
    | false => u W σ S1 Q) : sOr t u W σ S Q := h
theorem not_go (h : t W σ S fun c S1 => Q (!c) S1) : sNot t W σ S Q := h
theorem tst_go (h : te W σ S fun x S1 => match x with
    | .bl b => Q b S1
    | _ => False) : sTst te W σ S Q := h
theorem tru_go (h : te W σ S fun x S1 => oTru K x S1 Q) : sTru K te W σ S Q := h
theorem ifE_go (h : t W σ S fun c S1 => match c with
    | true => ta W σ S1 R
    | false => tb W σ S1 R) : sIf t ta tb W σ S R := h
theorem calld_go {r : sWX → List V → L2.St → SH → (V → SH → Prop) → Prop} {ts : sA} (h : ts W σ S fun vs S1 => r W (vs ++ []) σ S1 R) : sCallD r [] ts W σ S R := h
theorem call1_go {r : sN} {ts : sA} (h : ts W σ S fun vs S1 => r vs S1 R) : sCall1 r ts W σ S R := h
theorem nx_go (h : D.nx σ S) : sNext D σ S := h
theorem sub_g {x y : Int} (h : R (.int (x - y)) S) : oSub (.int x) (.int y) S R := h
theorem add_g {x y : Int} (h : R (.int (x + y)) S) : oAdd (.int x) (.int y) S R := h
theorem orV_go (h : ta W σ S fun x S1 => match x with
    | .bl false => tb W σ S1 R
    | .bl true => R (.bl true) S1
    | _ => False) : sOrV ta tb W σ S R := h
theorem andV_go (h : ta W σ S fun x S1 => match x with
    | .bl true => tb W σ S1 R
    | .bl false => R (.bl false) S1
    | _ => False) : sAndV ta tb W σ S R := h
theorem cut_go (M : L2.St → SH → Prop) (h1 : p { D with nx := fun σ' => Wk (M σ') } σ S) (h2 : ∀ σ' S', M σ' S' → q D σ' S') : sCut p q D σ S := ⟨M, h1, h2⟩
end
end SY
namespace SY
open PySem PySem.Spec PyProof.Rows L2
/-! ### dict comprehensions -/
def sDc (i : sI) (g : sG) (tt : sT) (tk tv : sE) (vs : List Nat) : sE := fun W σ S Q => i W σ S fun s S1 => ∀ D, ∃ P : Nat → SH → Prop, P 0 (S1.new D (.dK [])) ∧ (∀ i S, i ≤ s.n → P i S → s.ok S) ∧
  (∀ i S, i < s.n → P i S → s.yld i S fun v S' => g noW v (wipe σ vs) S' fun σ2 S2 => wipe σ2 vs = wipe σ vs ∧ tt noW σ2 S2 fun b S3 =>
    match b with
    | true => tk noW σ2 S3 fun y S4 => tv noW σ2 S4 fun z S5 => ∃ n kvs k, y = kV k ∧ S5.G[n]? = some (D, .dK kvs) ∧ kvs.length < sizeLine ∧ Wk (P (i + 1)) (S5.put n D (.dK (putK kvs k z)))
    | false => Wk (P (i + 1)) S3) ∧ ∀ S, P s.n S → Q (.ref D) S
section
variable {X : Cx} {W : WX}
theorem lift_dc {ti : sI} {g : sG} {tt : sT} {tk tv : sE} {vs : List Nat} : ∀ σ H Q, dE W (sDc ti g tt tk tv vs) σ H Q → tDc (dI W ti) (dG NoW g) (dT NoW tt) (dE NoW tk) (dE NoW tv) vs σ H Q := fun σ H Q ⟨S, Q', W', kw, o, h, k⟩ =>
  ⟨S, _, W', kw, o, h, fun s S1 H1 J o1 j h1 => by
    intro D hD
    obtain ⟨P, h0, hok, hs, hd⟩ := h1 D
    refine ⟨fun i m H => m = s.n - i ∧ i ≤ s.n ∧ ∃ S, Own S H ∧ P i S, ⟨s.n, by simp, Nat.zero_le _, _, o1.newU hD, h0⟩, ?_⟩
    rintro i m H ⟨rfl, hi, S2, o2, p⟩
    by_cases hlt : i < s.n
    · refine .inr ⟨j.go S2 H i o2 (hok i S2 hi p) hlt, fun H' => ∃ S', Own S' H' ∧ P (i + 1) S', fun H' p' => ⟨s.n - (i + 1), by omega, rfl, hlt, p'⟩, fun x H' y => ?_⟩
      obtain ⟨S', o', q⟩ := j.yld S2 H i x H' _ o2 (hok i S2 hi p) hlt y (hs i S2 hlt p)
      refine ⟨S', _, noW, noW_imp, o', q, fun σ2 S3 H3 o3 q3 => ⟨q3.1, S3, _, noW, noW_imp, o3, q3.2, fun b S4 H4 o4 q4 => ?_⟩⟩
      cases b with
      | false =>
        obtain ⟨S0, le, q4⟩ := q4
        exact ⟨S0, le _ o4, q4⟩
      | true =>
        refine ⟨S4, _, noW, noW_imp, o4, q4, fun y S5 H5 o5 q5 => ⟨S5, _, noW, noW_imp, o5, q5, fun z S6 H6 o6 q6 => ?_⟩⟩
        obtain ⟨n, kvs, kk, z0, z1, z2, S0, le, z3⟩ := q6
        exact ⟨kvs, kk, z0, o6.g z1, z2, _, le _ (o6.putU z1), z3⟩
    · have e : i = s.n := by omega
      subst e
      exact .inl ⟨j.stop S2 H _ o2 (hok _ S2 hi p) (Nat.le_refl _), k _ _ _ o2 (hd S2 p)⟩⟩
theorem gDc {kx vx tg iter : Expr} {ifs : List Expr} {scope : Scope} {own : List (Str × Nat)} {pos : Pos} {ti : sI} {g : sG} {tt : sT} {tk tv : sE} (hc : X.calm = true) (hN : X.N.Nodup) (hi : PI X tg iter (dI W ti)) (ok : BlkOk X.N X.env.scope scope own)
    (hg : ∀ (s : Shared) (H : Hp) (C : Addr) (cl : List (Str × Addr)) (fp : List Addr), PG (X.blk s H scope (compEnvC scope cl C X.env) fp) tg (dG NoW g)) (ht : ∀ (s : Shared) (H : Hp) (C : Addr) (cl : List (Str × Addr)) (fp : List Addr), sTs (X.blk s H scope (compEnvC scope cl C X.env) fp) NoW ifs tt)
    (hk : ∀ (s : Shared) (H : Hp) (C : Addr) (cl : List (Str × Addr)) (fp : List Addr), PE (X.blk s H scope (compEnvC scope cl C X.env) fp) kx (dE NoW tk))
    (he : ∀ (s : Shared) (H : Hp) (C : Addr) (cl : List (Str × Addr)) (fp : List Addr), PE (X.blk s H scope (compEnvC scope cl C X.env) fp) vx (dE NoW tv)) (hs : ∀ x, foldedSetIterable iter X.env x = pure x := by intro _; rfl) :
    PE X (.DictComp kx vx [⟨tg, iter, ifs, 0⟩] scope pos) (dE W (sDc ti g tt tk tv (own.map (·.2)))) :=
  PE.by (pe_dc hc hN hi ok hg (fun s H C cl fp => (ht s H C cl fp).to) hk he hs) lift_dc
end
/-! ### single steps, more -/
section
variable {K : PySem.W.Frag} {S : SH} {Q : Bool → SH → Prop} {R : V → SH → Prop}
theorem otb_go {b : Bool} (h : Q b S) : oTru K (.bl b) S Q := h
theorem yesg_go {W : sWX} {σ : L2.St} (h : Q true S) : sYes W σ S Q := h
theorem ne_b {x y c : Bool} (e : decide (V.bl x = V.bl y) = !c) (h : R (.bl c) S) : oNe K (.bl x) (.bl y) S R := by
  show R (.bl (!decide (V.bl x = V.bl y))) S
  rw [e, Bool.not_not]
  exact h
end
end SY
namespace SY
open PySem PySem.Spec PyProof.Rows L2
/-! ### min of two ints -/
def nMin2 : sN := fun vs S Q => match vs with
  | [.int i, .int j] => Q (.int (if j < i then j else i)) S
  | _ => False
theorem lMin2 : LiftN nMin2 (fun xs H Q => ∃ i j, xs = [.int i, .int j] ∧ Q (.int (if j < i then j else i)) H) := by
  intro vs S Q' H Q o h k
  unfold nMin2 at h
  split at h
  · exact ⟨_, _, rfl, k _ _ _ o h⟩
  · exact h.elim
/-! ### a method of an own object, called with arguments; it can't raise here -/
section
variable {X : Cx} {W : WX} {e o : Expr} {es : List Expr} {pos apos : Pos} {te : sE} {tas : sA}
variable {sp : Sp} {r : sWX → List V → L2.St → SH → (V → SH → Prop) → Prop} {k j : Nat}
def sMetO (C : Addr) (m : Str) (r : sWX → List V → L2.St → SH → (V → SH → Prop) → Prop) (te : sE) (tas : sA) : sE := fun W z S Q => te W z S fun x S1 => match x with
  | .ref p => ∃ dx fs, At S1 p (.ins C dx fs) ∧ fs.lookup m = none ∧ tas W z S1 fun vs S2 => r (fun _ _ _ _ => False) (.ref p :: vs) z S2 Q
  | _ => False
theorem gMetO {C : Addr} {m : Str} {ps : List Str} {pl : Sem Bool} (cr : Ctr sp r) (c : L2.Cls X.K C) (T : MetC X.prog X.w X.K X.mg X.base C m ps k sp) (hr : Room j X.A) (hj : k + 1 ≤ j) (he : PE X o (dE W te)) (ha : PA X (e :: es) (dA W tas))
    (hst : starEach (e :: es) X.env = (false, eval e X.env) :: starEach es X.env := by rfl) (hpl : (backTo pos (starEach es X.env)).any (·.1) = false := by rfl)
    (ht : eval (.Call (.Attribute o m apos) (e :: es) [] pos) X.env = (do
      let ov ← eval o X.env
      standAt apos.atName
      let (f, first) ← holding [ov] (getMethod ov m pl)
      callWith pos f first (backTo pos (starEach (e :: es) X.env)) (backToKw pos (keywordEach [] X.env))) := by rfl) :
    PE X (.Call (.Attribute o m apos) (e :: es) [] pos) (dE W (sMetO C m r te tas)) := by
  obtain ⟨f, fd, hm, F, b⟩ := T.ex
  exact PE.by (pe_meth (ds := []) (dvs := []) he c hm F (hr.mono (Nat.le_of_succ_le hj)) b .nil passF ha hst hpl ht) fun z H Q ⟨S, Q', W', kw, ow, h, k⟩ => ⟨S, _, W', kw, ow, h, fun x S1 H1 o1 h1 => by
    split at h1
    · obtain ⟨dx, fs, h1, h2, h3⟩ := h1
      exact ⟨_, dx, fs, rfl, o1.at h1, h2, S1, _, W', kw, o1, h3, fun vs S2 H2 o2 q => by show sp (.ref _ :: (vs ++ [])) H2 Q _; rw [List.append_nil]; exact lift_no cr o2 q fun v S3 H3 o3 q => k _ _ _ o3 q⟩
    · exact h1.elim⟩
end
end SY
namespace SY
open PySem PySem.Spec PyProof.Rows L2
/-! ### {t: v}, t a tuple of ints and texts -/
def tDispT1 (tk tv : TE) : TE := fun σ H Q => ∀ p, H p = none → tk σ (upd H p (.dT [])) fun x H1 => tv σ H1 fun y H2 => H2 p = some (.dT []) ∧ ∃ b k, x = .ref b ∧ H2 b = some (.tup (k.map kV)) ∧ Q (.ref p) (upd H2 p (.dT (putK [] k y)))
section
variable {X : Cx} {W : WX} {k v i o : Expr} {es : List Expr} {pos : Pos}
theorem pe_dispT1 {tk tv : TE} (hu : X.A.units + 1 < cLine) (hk : PE X k tk) (hv : PE X v tv) : PE X (.Dict [some k] [v] pos) (tDispT1 tk tv) := by
  refine ⟨fun pins s σ H Q I q => ?_⟩
  have hn := I.hok.fresh (Nat.le_refl s.heap.objs.size)
  have I1 := I.laid (a := s.heap.objs.size) (o := .dT []) (h' := s.heap.push { cls := .type "dict", data := .dict #[] }) (t' := s.toks) (fun _ _ q => Heap.get?_push_of_some _ q) (Nat.le_refl _) (dt_empty s.heap I.big)
  rw [arm_eval_Dict, zip_pairTrees [some k] [v] X.env pos rfl rfl, dictDisplay_pairs (pairTrees [some k] [v] X.env pos) (fun z => nomatch z) (show 1 < 17 from by decide)]
  refine wpAny_bind (wpAny_standAt (wpAny_bind (wpAny_subDictH (knd := tupleKind (mixKind X.prog X.w)) (Q := fun d s' => wpAny (model X.prog X.w) X.A (pure (Value.ref d)) (EP X pins σ Q) X.xe s') (Nat.lt_of_succ_lt hu) (show 1 ≤ 15 from by decide) ?_)))
  refine wpAny_mono ((pps_cons hk hv pps_nil).run pins _ σ _ (fun ps H2 => match ps with
    | [(x, y)] => H2 s.heap.objs.size = some (.dT []) ∧ ∃ b k, x = .ref b ∧ H2 b = some (.tup (k.map kV)) ∧ Q (.ref s.heap.objs.size) (upd H2 s.heap.objs.size (.dT (putK [] k y)))
    | _ => False) I1 (q _ hn)) (fun ws s2 hw => ?_) fun _ _ e => e
  obtain ⟨ps, H2, I2, rel, hq⟩ := hw
  split at hq
  · rename_i x y
    obtain ⟨e, b, kk, rfl, eb, q2⟩ := hq
    cases rel with
    | @cons a b2 as bs h t =>
      cases t
      obtain ⟨u, w⟩ := b2
      obtain ⟨r1, r2⟩ := h
      have e1 : u = Value.ref b := r1
      subst e1
      obtain ⟨z, hd, xs, rel0, dd⟩ := dt_of I2.hok e
      cases rel0
      refine ⟨[(kk, b, w)], ⟨rfl, rfl, key_of I2.hok eb, trivial⟩, dd, fun h' tk dd' hs => wpAny_pure ?_⟩
      obtain ⟨q, es, ep, hq, h2, h3, h4, _, h5⟩ := dd'
      have hl : (putK [] kk y).length ≤ sizeLine := Nat.le_trans (length_putK [] kk y) (by decide)
      have new : ObjOk X.prog X.w (upd H2 s.heap.objs.size (.dT (putK [] kk y))) h' s.heap.objs.size (.dT (putK [] kk y)) := ⟨hl, hd, _, (KT.put (H := H2) (kvs := []) (xs := []) .nil kk eb r2).keeps fun c ys ec => by
        rw [upd_ne (ne_of ec e (fun z => nomatch z))]
        exact ec, q, es, ep, hq, h2, h3, h4, h5⟩
      exact ⟨.ref s.heap.objs.size, _, d_write I2 (by rw [e]; exact True.intro) hs ⟨q, hq⟩ new, rfl, q2⟩
  · exact hq.elim
def sDisT1 (tk tv : sE) : sE := fun W z S Q => ∀ p, tk W z (S.new p (.dT [])) fun x S1 => tv W z S1 fun y S2 => match x with
  | .ref b => ∃ n k, S2.G[n]? = some (p, .dT []) ∧ At S2 b (.tup (k.map kV)) ∧ Q (.ref p) (S2.put n p (.dT (putK [] k y)))
  | _ => False
theorem gDisT1 {tk tv : sE} (hu : X.A.units + 1 < cLine) (hk : PE X k (dE W tk)) (hv : PE X v (dE W tv)) : PE X (.Dict [some k] [v] pos) (dE W (sDisT1 tk tv)) :=
  PE.by (pe_dispT1 hu hk hv) fun z H Q ⟨S, Q', W', kw, ow, h, kk⟩ => fun p hp => ⟨_, _, W', kw, ow.newU hp, h p, fun x S1 H1 o1 h1 => ⟨S1, _, W', kw, o1, h1, fun y S2 H2 o2 h2 => by
    split at h2
    · obtain ⟨n, kx, q1, q2, q3⟩ := h2
      exact ⟨o2.g q1, _, kx, rfl, o2.at q2, kk _ _ _ (o2.putU q1) q3⟩
    · exact h2.elim⟩⟩
/-! ### d.update(e), both with tuples as keys -/
def mergeT (kvs more : List (List Key × V)) : List (List Key × V) := more.foldl (fun acc kv => putK acc kv.1 kv.2) kvs
theorem KT.merge {H : Hp} : ∀ {more kvs : List (List Key × V)} {ys xs : List (List Key × Addr × Value)}, KT H more ys → KT H kvs xs → KT H (mergeT kvs more) (storedAllH xs ys) := by
  intro more kvs ys xs r
  induction r generalizing kvs xs with
  | nil => intro q; exact q
  | @cons p q ps qs h t ih =>
    intro r0
    have e : KT H (putK kvs p.1 p.2) (storedH xs q.1 q.2.1 q.2.2) := by
      have := KT.put r0 p.1 h.2.1 h.2.2
      rw [← h.1]; exact this
    exact ih e
theorem length_mergeT : ∀ (more kvs : List (List Key × V)), (mergeT kvs more).length ≤ kvs.length + more.length
  | [], kvs => by show kvs.length ≤ kvs.length + 0; omega
  | p :: r, kvs => by
    have h1 := length_mergeT r (putK kvs p.1 p.2)
    have h2 := length_putK kvs p.1 p.2
    show (mergeT (putK kvs p.1 p.2) r).length ≤ _
    rw [List.length_cons]; omega
theorem valV_merge (j : List Key) : ∀ (more kvs : List (List Key × V)), (more.map (·.1)).Nodup → valV (mergeT kvs more) j = (valV more j).or (valV kvs j)
  | [], kvs, _ => rfl
  | p :: r, kvs, nd => by
    have nd := List.nodup_cons.mp (by rw [List.map_cons] at nd; exact nd)
    show valV (mergeT (putK kvs p.1 p.2) r) j = _
    rw [valV_merge j r _ nd.2, valV_put]
    by_cases e : p.1 = j
    · rw [valV_pos e, if_pos e.symm]
      have : valV r j = none := by
        cases q : valV r j with
        | none => rfl
        | some x =>
          unfold valV at q
          obtain ⟨y, hy, _⟩ := Option.map_eq_some_iff.mp q
          have h1 := List.find?_some hy
          have h2 := List.mem_of_find?_eq_some hy
          exact absurd (List.mem_map.mpr ⟨y, h2, (of_decide_eq_true h1).trans e.symm⟩) nd.1
      rw [this]
      rfl
    · rw [valV_neg e, if_neg (fun z => e z.symm)]
theorem putK_nd {kvs : List (List Key × V)} {k : List Key} {v : V} (h : (kvs.map (·.1)).Nodup) : ((putK kvs k v).map (·.1)).Nodup := by
  unfold putK
  split
  · rw [List.map_map]
    have : ((fun x : List Key × V => x.1) ∘ fun kv => if kv.1 = k then (kv.1, v) else kv) = fun x => x.1 := by
      funext x
      show (if x.1 = k then (x.1, v) else x).1 = x.1
      split <;> rfl
    rw [this]
    exact h
  · rename_i ne
    rw [List.map_append]
    refine List.nodup_append.mpr ⟨h, by simp, fun a ha b hb e => ne ?_⟩
    subst e
    obtain ⟨x, hx, ex⟩ := List.mem_map.mp ha
    have hb : a = k := List.mem_singleton.mp hb
    exact List.any_eq_true.mpr ⟨x, hx, decide_eq_true (ex.trans hb)⟩
theorem mergeT_nd : ∀ (more kvs : List (List Key × V)), (kvs.map (·.1)).Nodup → ((mergeT kvs more).map (·.1)).Nodup
  | [], kvs, h => h
  | p :: r, kvs, h => mergeT_nd r _ (putK_nd h)
def rUpdT : V → List V → Hp → VK → Prop := fun x vs H Q => ∃ (a b : Addr) (kvs more : List (List Key × V)), x = .ref a ∧ vs = [.ref b] ∧ a ≠ b ∧ H a = some (.dT kvs) ∧ Rd H b (.dT more) ∧ kvs ≠ [] ∧ kvs.length + more.length ≤ sizeLine ∧ Q .non (upd H a (.dT (mergeT kvs more)))
theorem mt_updT (hu : X.A.units + 1 < cLine) : MtR X "dict.update" rUpdT := by
  intro pins s σ H x xs v us Q I rx rxs h
  obtain ⟨a, b, kvs, more, rfl, rfl, ne, hA, hB, hk, hz, q⟩ := h
  cases rx
  obtain ⟨u, rfl, ru⟩ := vals1 rxs
  cases ru
  obtain ⟨z1, hd1, x1, r1, d1⟩ := dt_of I.hok hA
  obtain ⟨z2, hd2, x2, r2, d2⟩ := dt_rd I.hok hB
  have hx1 : x1 ≠ [] := fun e => by
    subst e
    cases r1
    exact hk rfl
  refine call_update_dictH (knd := tupleKind (mixKind X.prog X.w)) (tupleKind_room_in1 hu) ne hd2 d1 d2 (.inl hx1) (by rw [← Paired.length r1, ← Paired.length r2]; exact hz) fun h' dd' _ hs => ?_
  obtain ⟨p, es, ep, hp, h2, h3, h4, _, h5⟩ := dd'
  have hl : (mergeT kvs more).length ≤ sizeLine := Nat.le_trans (length_mergeT more kvs) hz
  have new : ObjOk X.prog X.w (upd H a (.dT (mergeT kvs more))) h' a (.dT (mergeT kvs more)) := ⟨hl, hd1, _, (KT.merge r2 r1).keeps fun c ys ec => by
    rw [upd_ne (ne_of ec hA (fun z => nomatch z))]
    exact ec, p, es, ep, hp, h2, h3, h4, h5⟩
  exact ⟨.non, _, d_write (t' := s.toks) I (by rw [hA]; exact True.intro) hs ⟨p, hp⟩ new, rfl, q⟩
def mUpdT : sM := fun x vs S Q => match x, vs with
  | .ref p, [.ref b] => ∃ i kvs more, S.G[i]? = some (p, .dT kvs) ∧ S.F b = some (.dT more) ∧ kvs ≠ [] ∧ kvs.length + more.length ≤ sizeLine ∧ Q .non (S.put i p (.dT (mergeT kvs more)))
  | _, _ => False
theorem lUpdT : LiftM mUpdT rUpdT := by
  intro x vs S Q' H Q o h k
  unfold mUpdT at h
  split at h
  · obtain ⟨i, kvs, more, h1, h2, h3, h4, h5⟩ := h
    refine ⟨_, _, kvs, more, rfl, rfl, fun e => ?_, o.g h1, .inl (o.fr _ _ h2), h3, h4, k _ _ _ (o.putU h1) h5⟩
    subst e
    have := (o.gs _ (List.mem_of_getElem? h1)).2
    rw [show S.F _ = none from this] at h2
    cases h2
  · exact h.elim
/-! ### t in d, t a tuple -/
def sDInP (neg : Bool) (ty td : sE) : sT := fun W z S Q => ty W z S fun y S1 => td W z S1 fun x S2 => match x, y with
  | .ref p, .ref b => ∃ kvs k, At S2 p (.dT kvs) ∧ At S2 b (.tup (k.map kV)) ∧ Q (if neg then !(valV kvs k).isSome else (valV kvs k).isSome) S2
  | _, _ => False
theorem gTDInP {ty td : sE} (hu : X.A.units + 1 < cLine) (hi : PE X i (dE W ty)) (ho : PE X o (dE W td)) (hm : behindInMarks .In o = false := by rfl) : PT X (.Compare i [.In] [o] pos) (dT W (sDInP false ty td)) :=
  PT.by (pt_cmp (pc_din hu hi ho) hm) fun z H Q ⟨S, Q', W', kw, ow, h, kk⟩ => ⟨S, _, W', kw, ow, h, fun y S1 H1 o1 h1 => ⟨S1, _, W', kw, o1, h1, fun x S2 H2 o2 h2 => by
    split at h2
    · obtain ⟨kvs, k, q1, q2, q3⟩ := h2
      exact ⟨_, _, rfl, DGet.t (o2.at q1) (o2.at q2), ⟨_, rfl, kk _ _ _ o2 q3⟩⟩
    · exact h2.elim⟩⟩
theorem gTDNotInP {ty td : sE} (hu : X.A.units + 1 < cLine) (hi : PE X i (dE W ty)) (ho : PE X o (dE W td)) (hm : behindInMarks .NotIn o = false := by rfl) : PT X (.Compare i [.NotIn] [o] pos) (dT W (sDInP true ty td)) :=
  PT.by (pt_cmp (pc_dnotin hu hi ho) hm) fun z H Q ⟨S, Q', W', kw, ow, h, kk⟩ => ⟨S, _, W', kw, ow, h, fun y S1 H1 o1 h1 => ⟨S1, _, W', kw, o1, h1, fun x S2 H2 o2 h2 => by
    split at h2
    · obtain ⟨kvs, k, q1, q2, q3⟩ := h2
      exact ⟨_, _, rfl, DGet.t (o2.at q1) (o2.at q2), ⟨_, rfl, kk _ _ _ o2 q3⟩⟩
    · exact h2.elim⟩⟩
/-! ### a def called without arguments; it can't raise here -/
def sCall0 (r : sWX → List V → L2.St → SH → (V → SH → Prop) → Prop) : sE := fun W z S Q => r (fun _ _ _ _ => False) [] z S Q
theorem gCall0 {sp : Sp} {r : sWX → List V → L2.St → SH → (V → SH → Prop) → Prop} {x : Str} {p : Pos} {lv j : Nat} (c : Ctr sp r) (T : DefC X.prog X.w X.K X.mg X.base x [] lv [] sp) (hr : Room j X.A) (hj : lv ≤ j) (hg : Gl X x) (hdb : (x == ("__debug__" : Str)) = false := by decide) :
    PE X (.Call (.Name x p) [] [] pos) (dE W (sCall0 r)) := by
  obtain ⟨f, fd, dus, hm, hk, F, hd, hb⟩ := T.ex
  cases hd
  exact PE.by (pe_call0 (ds := []) (dvs := []) F (hr.mono hj) hg hm hk hb .nil passF hdb) fun z H Q ⟨S, Q', W', kw, ow, h, k⟩ => lift_no c ow h fun v S3 H3 o3 q => k _ _ _ o3 q
/-! ### a, b = x, y: stored from the right -/
def sPar (i j : Nat) (ta : sA) : sS := fun D z S => ta D.ex z S fun vs S1 => match vs with
  | [v, w] => D.nx ((z.set i (some v)).set j (some w)) S1
  | _ => False
theorem hPar {i j : Nat} {x y : Str} {a b : Expr} {ta : sA} {px py pt : Pos} {kt k2 pt2} (hc : X.calm = true) (hN : X.N.Nodup) (hi : X.N[i]? = some x) (hj : X.N[j]? = some y) (hij : i ≠ j)
    (hx : X.env.scope.names.lookup x = some .local) (hy : X.env.scope.names.lookup y = some .local) (ha : PA X [a, b] (dA W ta))
    (hw : swappedStores [.Tuple [.Name x px, .Name y py] kt pt] (.Tuple [a, b] k2 pt2) X.env = pure (some [x, y]) := by rfl)
    (hs : swapsWithSole [.Tuple [.Name x px, .Name y py] kt pt] (.Tuple [a, b] k2 pt2) pos.line X.env = pure false := by rfl) :
    PS X (.Assign [.Tuple [.Name x px, .Name y py] kt pt] (.Tuple [a, b] k2 pt2) pos) (dS W (sPar i j ta)) :=
  PS.by (ps_par hc hN hi hj hij hx hy ha hw hs) fun D z H ⟨S, D', ow, h, k⟩ => ⟨S, _, D'.ex, k.ex, ow, h, fun vs S1 H1 o1 h1 => by
    split at h1
    · exact ⟨_, _, rfl, k.nx _ _ _ o1 h1⟩
    · exact h1.elim⟩
/-! ### x.upper() -/
def mUpper : sM := fun x vs S Q => match x, vs with
  | .str a, [] => a.length ≤ 5592405 ∧ Q (.str (Txt.upper a)) S
  | _, _ => False
theorem lUpper : LiftM mUpper (fun x xs H Q => ∃ a, x = .str a ∧ xs = [] ∧ a.length ≤ 5592405 ∧ Q (.str (Txt.upper a)) H) := by
  intro x vs S Q' H Q o h k
  unfold mUpper at h
  split at h
  · exact ⟨_, rfl, rfl, h.1, k _ _ _ o h.2⟩
  · exact h.elim
/-! ### isinstance(e, (c1, c2, ..)), e the error that the suite holds -/
def rIsYT (K : PySem.W.Frag) (a : Addr) (cls : Value) (d : Option Addr) : List V → Hp → VK → Prop := fun xs H Q => ∃ (D dd tp : Addr) (cs : List V) (us : List Value) (b : Bool) (fs : List (Str × V)), cls = .ref D ∧ d = some dd ∧ ExcC K D ∧ xs = [.ref a, .ref tp] ∧ H dd = some (.xd fs) ∧ H tp = some (.tup cs) ∧ Paired ClsV cs us ∧
  PySem.W.kitAny K (.ref D) us = some b ∧ Q (.bl b) H
theorem call_isYT {a : Addr} {cls : Value} {d : Option Addr} {oe : Obj} {pn : List (Addr × Obj)} (hz : Zc cls d oe) (hf : ∃ vs, oe.data = .fields vs) : CallR (X.suite a ((a, oe) :: pn)) (.builtin "isinstance") (rIsYT X.K a cls d) := by
  intro pins s σ H xs us Q I r h
  obtain ⟨D, dd, tp, cs, ws, b, fs, rfl, rfl, C, rfl, hd, hT, k, e, q⟩ := h
  obtain ⟨u1, u2, rfl, r1, r2⟩ := vals2 r
  cases (show u1 = Value.ref a from r1)
  cases (show u2 = Value.ref tp from r2)
  obtain ⟨hget, _⟩ := I.pin (a, oe) (List.mem_append.mpr (.inl List.mem_cons_self))
  obtain ⟨vs, hv⟩ := hf
  have hx : ObjOk X.prog X.w H s.heap dd (.xd fs) := I.hok dd _ hd
  obtain ⟨mA, hns, hr⟩ := hx
  obtain ⟨od, ho, hl⟩ := lookIn_ns hns
  have J : PySem.W.InstAt s.heap a oe D (some od) := ⟨hget, hz.1, by unfold PySem.W.notCls; rw [hv] <;> rfl, by rw [hz.2]; exact ho⟩
  obtain ⟨_, its, rv, o, h1, h2, n, h3⟩ := (show ObjOk X.prog X.w H s.heap tp (.tup cs) from I.hok tp _ hT)
  have e3 := ClsV.all k rv
  subst e3
  obtain ⟨oc, od2, dt, sl⟩ := o
  simp only at h2 h3
  subst h2 h3
  exact PySem.W.kia_tup (PySem.W.sy_kitx C.hg C.hk C.hs C.hd C.ha C.hn C.ht C.hm) I.kIn J h1 e (fun z => nomatch z) fun tk => ⟨.bl b, H, I.kept (t' := tk) fun _ _ z => z, rfl, q⟩
def nIsYT (K : PySem.W.Frag) (a : Addr) (cls : Value) (d : Option Addr) : sN := fun vs S Q => match vs with
  | [.ref p, .ref tp] => p = a ∧ ∃ (D dd : Addr) (cs : List V) (us : List Value) (b : Bool) (fs : List (Str × V)), cls = .ref D ∧ d = some dd ∧ ExcC K D ∧ At S dd (.xd fs) ∧ At S tp (.tup cs) ∧ Paired ClsV cs us ∧ PySem.W.kitAny K (.ref D) us = some b ∧ Q (.bl b) S
  | _ => False
theorem lIsYT {K : PySem.W.Frag} {a : Addr} {cls : Value} {d : Option Addr} : LiftN (nIsYT K a cls d) (rIsYT K a cls d) := by
  intro vs S Q' H Q o h k
  unfold nIsYT at h
  split at h
  · obtain ⟨rfl, D, dd, cs, us, b, fs, h1, h2, h3, h4, h5, h6, h7, h8⟩ := h
    exact ⟨D, dd, _, cs, us, b, fs, h1, h2, h3, rfl, o.at h4, o.at h5, h6, h7, k _ _ _ o h8⟩
  · exact h.elim
theorem gIsYT {a : Addr} {cls : Value} {d : Option Addr} {oe : Obj} {pn : List (Addr × Obj)} (hz : Zc cls d oe) (hf : ∃ vs, oe.data = .fields vs) {x : Expr} {p : Pos} {tas : sA} (hg : Gl (X.suite a ((a, oe) :: pn)) "isinstance") (hm : X.mg "isinstance" = none) (ha : PA (X.suite a ((a, oe) :: pn)) (x :: es) (dA W tas))
    (he : starEach (x :: es) X.env = (false, eval x X.env) :: starEach es X.env := by rfl) (hpl : (backTo pos (starEach es X.env)).any (·.1) = false := by rfl) :
    PE (X.suite a ((a, oe) :: pn)) (.Call (.Name "isinstance" p) (x :: es) [] pos) (dE W (sCall1 (nIsYT X.K a cls d) tas)) := gB (X := X.suite a ((a, oe) :: pn)) (call_isYT hz hf) lIsYT hg hm (by decide +kernel) ha (by decide) (by decide) he hpl
end
end SY
namespace LW
/-! ### trees of slots -/
inductive TR where
  | leaf
  | node (l r : TR)
namespace TR
def nS : TR → Nat
  | leaf => 1
  | node l r => nS l + nS r
theorem nS_pos : ∀ b : TR, 1 ≤ nS b
  | leaf => Nat.le_refl 1
  | node l r => Nat.le_trans (nS_pos l) (Nat.le_add_right _ _)
/-- the ways from the root, slot by slot; o: the first slot -/
def wayB : TR → Nat → List (List (Nat × Bool))
  | leaf, _ => [[]]
  | node l r, o => (wayB l o).map ((o + nS l - 1, true) :: ·) ++ (wayB r (o + nS l)).map ((o + nS l - 1, false) :: ·)
theorem wayB_len : ∀ (b : TR) (o : Nat), (wayB b o).length = nS b
  | leaf, _ => rfl
  | node l r, o => by
    show ((wayB l o).map _ ++ (wayB r (o + nS l)).map _).length = nS l + nS r
    rw [List.length_append, List.length_map, List.length_map, wayB_len l, wayB_len r]
def txt : TR → List Nat
  | leaf => [46]
  | node l r => 40 :: (txt l ++ (txt r ++ [41]))
theorem txt_len : ∀ b : TR, (txt b).length + 2 = 3 * nS b
  | leaf => rfl
  | node l r => by
    have h1 := txt_len l
    have h2 := txt_len r
    show (40 :: (txt l ++ (txt r ++ [41]))).length + 2 = 3 * (nS l + nS r)
    rw [List.length_cons, List.length_append, List.length_append, List.length_singleton]
    omega
/-- a node's kind (1: slot, 2: fork) and number -/
def ndB : TR → Nat → Nat × Nat
  | leaf, o => (1, o)
  | node l _, o => (2, o + nS l - 1)
/-- .. with its first and last slot and where it begins -/
abbrev PN := Nat × Nat × Nat × Nat × Nat
def pnB : TR → Nat → Nat → PN
  | leaf, o, p => (1, o, o, o, p)
  | node l r, o, p => (2, o + nS l - 1, o, o + nS l + nS r - 1, p)
abbrev Row := Nat × (Nat × Nat) × (Nat × Nat) × (Nat × Nat) × (Nat × Nat)
def rowsB : TR → Nat → Nat → List Row
  | leaf, _, _ => []
  | node l r, o, p => rowsB l o (p + 1) ++ (rowsB r (o + nS l) (p + 1 + (txt l).length) ++ [(o + nS l - 1, ndB l o, ndB r (o + nS l), (o, o + nS l + nS r - 1), (p, p + (txt (node l r)).length))])
theorem rowsB_len : ∀ (b : TR) (o p : Nat), (rowsB b o p).length + 1 = nS b
  | leaf, _, _ => rfl
  | node l r, o, p => by
    have h1 := rowsB_len l o (p + 1)
    have h2 := rowsB_len r (o + nS l) (p + 1 + (txt l).length)
    show (rowsB l o (p + 1) ++ (rowsB r (o + nS l) (p + 1 + (txt l).length) ++ [_])).length + 1 = nS l + nS r
    rw [List.length_append, List.length_append, List.length_singleton]
    omega
/-! ### the reading with a stack -/
abbrev PS := List PN × List Row × Nat
def endsF (st : List PN) : Bool := ((st.drop (st.length - 3)).map fun n => n.1 == 0) == [true, false, false]
def joinP (st : List PN) (rows : List Row) (n p : Nat) : Option PS := match st.reverse with
  | r :: l :: o :: rest => some (rest.reverse ++ [(2, l.2.2.2.1, l.2.2.1, r.2.2.2.1, o.2.2.2.2)], rows ++ [(l.2.2.2.1, (l.1, l.2.1), (r.1, r.2.1), (l.2.2.1, r.2.2.2.1), (o.2.2.2.2, p + 1))], n)
  | _ => none
def stepP (s : PS) (p c : Nat) : Option PS :=
  if c = 40 then some (s.1 ++ [(0, 0, 0, 0, p)], s.2.1, s.2.2)
  else if c = 46 then some (s.1 ++ [(1, s.2.2, s.2.2, s.2.2, p)], s.2.1, s.2.2 + 1)
  else if c = 41 ∧ endsF s.1 = true then joinP s.1 s.2.1 s.2.2 p
  else none
def runP : List Nat → Nat → PS → Option PS
  | [], _, s => some s
  | c :: cs, p, s => (stepP s p c).bind fun s2 => runP cs (p + 1) s2
theorem runP_app : ∀ (xs ys : List Nat) (p : Nat) (s : PS), runP (xs ++ ys) p s = (runP xs p s).bind fun s2 => runP ys (p + xs.length) s2
  | [], ys, p, s => rfl
  | c :: xs, ys, p, s => by
    show (stepP s p c).bind (fun s2 => runP (xs ++ ys) (p + 1) s2) = ((stepP s p c).bind fun s2 => runP xs (p + 1) s2).bind fun s2 => runP ys (p + (xs.length + 1)) s2
    cases stepP s p c with
    | none => rfl
    | some s2 =>
      show runP (xs ++ ys) (p + 1) s2 = (runP xs (p + 1) s2).bind fun s2 => runP ys (p + (xs.length + 1)) s2
      rw [runP_app xs ys (p + 1) s2]
      congr 1
      funext s3
      congr 1
      omega
theorem pn_kind : ∀ (b : TR) (o p : Nat), ((pnB b o p).1 == 0) = false
  | leaf, _, _ => rfl
  | node _ _, _, _ => rfl
theorem pn_nd : ∀ (b : TR) (o p : Nat), ((pnB b o p).1, (pnB b o p).2.1) = ndB b o
  | leaf, _, _ => rfl
  | node _ _, _, _ => rfl
theorem pn_first : ∀ (b : TR) (o p : Nat), (pnB b o p).2.2.1 = o
  | leaf, _, _ => rfl
  | node _ _, _, _ => rfl
theorem pn_last : ∀ (b : TR) (o p : Nat), (pnB b o p).2.2.2.1 = o + nS b - 1
  | leaf, o, _ => by
    show o = o + 1 - 1
    omega
  | node l r, o, _ => by
    show o + nS l + nS r - 1 = o + (nS l + nS r) - 1
    omega
theorem endsF_three (st : List PN) {o l r : PN} (ho : (o.1 == 0) = true) (hl : (l.1 == 0) = false) (hr : (r.1 == 0) = false) : endsF (st ++ [o, l, r]) = true := by
  unfold endsF
  have e : (st ++ [o, l, r]).drop ((st ++ [o, l, r]).length - 3) = [o, l, r] := by
    rw [List.length_append]
    show (st ++ [o, l, r]).drop (st.length + 3 - 3) = _
    rw [Nat.add_sub_cancel, List.drop_left]
  rw [e]
  show ([o.1 == 0, l.1 == 0, r.1 == 0] == [true, false, false]) = true
  rw [ho, hl, hr]
  rfl
theorem parse_ok : ∀ (b : TR) (o p : Nat) (st : List PN) (rows : List Row), runP (txt b) p (st, rows, o) = some (st ++ [pnB b o p], rows ++ rowsB b o p, o + nS b)
  | leaf, o, p, st, rows => by
    show some (st ++ [(1, o, o, o, p)], rows, o + 1) = some (st ++ [(1, o, o, o, p)], rows ++ [], o + 1)
    rw [List.append_nil]
  | node l r, o, p, st, rows => by
    show runP (40 :: (txt l ++ (txt r ++ [41]))) p (st, rows, o) = _
    show runP (txt l ++ (txt r ++ [41])) (p + 1) (st ++ [(0, 0, 0, 0, p)], rows, o) = _
    rw [runP_app, parse_ok l]
    show runP (txt r ++ [41]) (p + 1 + (txt l).length) (st ++ [(0, 0, 0, 0, p)] ++ [pnB l o (p + 1)], rows ++ rowsB l o (p + 1), o + nS l) = _
    rw [runP_app, parse_ok r]
    have pl := nS_pos l
    have pr := nS_pos r
    generalize hL : pnB l o (p + 1) = L
    generalize hR : pnB r (o + nS l) (p + 1 + (txt l).length) = R
    have kL : (L.1 == 0) = false := by rw [← hL]; exact pn_kind l _ _
    have kR : (R.1 == 0) = false := by rw [← hR]; exact pn_kind r _ _
    have e : st ++ [(0, 0, 0, 0, p)] ++ [L] ++ [R] = st ++ [(0, 0, 0, 0, p), L, R] := by
      rw [List.append_assoc, List.append_assoc]
      rfl
    show ((stepP (st ++ [(0, 0, 0, 0, p)] ++ [L] ++ [R], rows ++ rowsB l o (p + 1) ++ rowsB r (o + nS l) (p + 1 + (txt l).length), o + nS l + nS r) (p + 1 + (txt l).length + (txt r).length) 41).bind fun s2 => some s2) = _
    rw [e]
    have es : stepP (st ++ [(0, 0, 0, 0, p), L, R], rows ++ rowsB l o (p + 1) ++ rowsB r (o + nS l) (p + 1 + (txt l).length), o + nS l + nS r) (p + 1 + (txt l).length + (txt r).length) 41 = joinP (st ++ [(0, 0, 0, 0, p), L, R]) (rows ++ rowsB l o (p + 1) ++ rowsB r (o + nS l) (p + 1 + (txt l).length)) (o + nS l + nS r) (p + 1 + (txt l).length + (txt r).length) := by
      unfold stepP
      rw [if_neg (by decide), if_neg (by decide), if_pos ⟨rfl, endsF_three st rfl kL kR⟩]
    rw [es]
    unfold joinP
    have er : (st ++ [((0, 0, 0, 0, p) : PN), L, R]).reverse = R :: L :: (0, 0, 0, 0, p) :: st.reverse := by
      rw [List.reverse_append]
      rfl
    rw [er]
    show some _ = some _
    have h1 : L.2.2.2.1 = o + nS l - 1 := by rw [← hL]; exact pn_last l _ _
    have h2 : L.2.2.1 = o := by rw [← hL]; exact pn_first l _ _
    have h3 : R.2.2.2.1 = o + nS l + nS r - 1 := by rw [← hR]; exact pn_last r _ _
    have h4 : (L.1, L.2.1) = ndB l o := by rw [← hL]; exact pn_nd l _ _
    have h5 : (R.1, R.2.1) = ndB r (o + nS l) := by rw [← hR]; exact pn_nd r _ _
    have h6 : p + 1 + (txt l).length + (txt r).length + 1 = p + (txt (node l r)).length := by
      show _ = p + (40 :: (txt l ++ (txt r ++ [41]))).length
      rw [List.length_cons, List.length_append, List.length_append, List.length_singleton]
      omega
    rw [h1, h2, h3, h4, h5, List.reverse_reverse]
    show some (st ++ [(2, o + nS l - 1, o, o + nS l + nS r - 1, p)], rows ++ rowsB l o (p + 1) ++ rowsB r (o + nS l) (p + 1 + (txt l).length) ++ [(o + nS l - 1, ndB l o, ndB r (o + nS l), (o, o + nS l + nS r - 1), (p, p + 1 + (txt l).length + (txt r).length + 1))], o + nS l + nS r) = _
    rw [h6]
    show _ = some (st ++ [(2, o + nS l - 1, o, o + nS l + nS r - 1, p)], rows ++ (rowsB l o (p + 1) ++ (rowsB r (o + nS l) (p + 1 + (txt l).length) ++ [_])), o + (nS l + nS r))
    simp only [List.append_assoc, Nat.add_assoc]
end TR
namespace TR
/-! ### trails -/
abbrev Way := List (Nat × Bool)
def trF (m : Nat × Bool → Bool) : Way → List Nat × Option Nat
  | [] => ([], none)
  | s :: w => match trF m w with
    | (p, some h) => (p, some h)
    | (p, none) => if m s then (s.1 :: p, none) else (p, some s.1)
theorem trF_all (m : Nat × Bool → Bool) : ∀ w : Way, (∀ s ∈ w, m s = true) → trF m w = (w.map Prod.fst, none)
  | [], _ => rfl
  | s :: w, h => by
    unfold trF
    rw [trF_all m w fun x hx => h x (.tail _ hx)]
    show (if m s then _ else _) = _
    rw [if_pos (h s (.head _))]
    rfl
theorem trF_pre (m : Nat × Bool → Bool) {w : Way} {p : List Nat} {f : Nat} (e : trF m w = (p, some f)) : ∀ u : Way, trF m (u ++ w) = (p, some f)
  | [] => e
  | s :: u => by
    show trF m (s :: (u ++ w)) = _
    unfold trF
    rw [trF_pre m e u]
theorem trF_stop (m : Nat × Bool → Bool) {u w : Way} {s : Nat × Bool} (hs : m s = false) (h : ∀ x ∈ w, m x = true) : trF m (u ++ s :: w) = (w.map Prod.fst, some s.1) := by
  refine trF_pre m ?_ u
  show trF m (s :: w) = _
  unfold trF
  rw [trF_all m w h]
  show (if m s then _ else _) = _
  rw [if_neg (by rw [hs]; exact Bool.false_ne_true)]
/-- as the loops make it: all from the k-th step on fit, and the step before does not -/
theorem trF_at (m : Nat × Bool → Bool) {w : Way} {k : Nat} {s : Nat × Bool} (hk : w[k]? = some s) (hs : m s = false) (h : ∀ x ∈ w.drop (k + 1), m x = true) : trF m w = ((w.drop (k + 1)).map Prod.fst, some s.1) := by
  obtain ⟨hl, e⟩ := List.getElem?_eq_some_iff.mp hk
  have e2 : w = w.take k ++ s :: w.drop (k + 1) := by
    rw [← e, List.getElem_cons_drop, List.take_append_drop]
  have := trF_stop m (u := w.take k) (w := w.drop (k + 1)) hs h
  rw [← e2] at this
  exact this
theorem trF_hang (m : Nat × Bool → Bool) : ∀ (w : Way) (p : List Nat) (f : Nat), trF m w = (p, some f) → ∃ s ∈ w, s.1 = f
  | [], p, f, e => by cases e
  | s :: w, p, f, e => by
    unfold trF at e
    split at e
    · rename_i p2 h2 e2
      cases e
      obtain ⟨x, hx, e3⟩ := trF_hang m w p f e2
      exact ⟨x, .tail _ hx, e3⟩
    · rename_i p2 e2
      split at e
      · cases e
      · cases e
        exact ⟨s, .head _, rfl⟩
theorem trF_passed (m : Nat × Bool → Bool) : ∀ (w : Way) (x : Nat), x ∈ (trF m w).1 → ∃ s ∈ w, s.1 = x
  | [], x, h => nomatch h
  | s :: w, x, h => by
    unfold trF at h
    split at h
    · rename_i p2 h2 e2
      obtain ⟨y, hy, e3⟩ := trF_passed m w x (by rw [e2]; exact h)
      exact ⟨y, .tail _ hy, e3⟩
    · rename_i p2 e2
      split at h
      · cases h with
        | head => exact ⟨s, .head _, rfl⟩
        | tail _ h =>
          obtain ⟨y, hy, e3⟩ := trF_passed m w x (by rw [e2]; exact h)
          exact ⟨y, .tail _ hy, e3⟩
      · obtain ⟨y, hy, e3⟩ := trF_passed m w x (by rw [e2]; exact h)
        exact ⟨y, .tail _ hy, e3⟩
abbrev Tr := List Nat × Option Nat
def stpT (c : Bool) (f : Nat) : Tr → Tr
  | (p, some h) => (p, some h)
  | (p, none) => if c then (f :: p, none) else (p, some f)
theorem trF_cons (m : Nat × Bool → Bool) (s : Nat × Bool) (w : Way) : trF m (s :: w) = stpT (m s) s.1 (trF m w) := by
  show (match trF m w with | (p, some h) => (p, some h) | (p, none) => if m s then (s.1 :: p, none) else (p, some s.1)) = _
  rcases trF m w with ⟨p, _ | h⟩ <;> rfl
def open_ (L : List Tr) : Nat := L.countP fun t => t.2.isNone
theorem stp_false (f : Nat) : ∀ L : List Tr, (L.map (stpT false f)).flatMap Prod.fst = L.flatMap Prod.fst ∧ open_ (L.map (stpT false f)) = 0
  | [] => ⟨rfl, rfl⟩
  | t :: L => by
    obtain ⟨h1, h2⟩ := stp_false f L
    rcases t with ⟨p, _ | h⟩
    · exact ⟨congrArg (p ++ ·) h1, by show List.countP _ ((p, some f) :: _) = 0; rw [List.countP_cons_of_neg (by simp)]; exact h2⟩
    · exact ⟨congrArg (p ++ ·) h1, by show List.countP _ ((p, some h) :: _) = 0; rw [List.countP_cons_of_neg (by simp)]; exact h2⟩
theorem stp_none (f : Nat) : ∀ L : List Tr, open_ L = 0 → L.map (stpT true f) = L
  | [], _ => rfl
  | (p, none) :: L, h => by
    have : open_ ((p, none) :: L) = open_ L + 1 := List.countP_cons_of_pos rfl
    omega
  | (p, some x) :: L, h => by
    have : open_ ((p, some x) :: L) = open_ L := List.countP_cons_of_neg (by simp)
    show (p, some x) :: L.map (stpT true f) = _
    rw [stp_none f L (by omega)]
theorem stp_true (f : Nat) : ∀ L : List Tr, open_ L = 1 → ((L.map (stpT true f)).flatMap Prod.fst).Perm (f :: L.flatMap Prod.fst) ∧ open_ (L.map (stpT true f)) = 1
  | [], h => nomatch h
  | (p, none) :: L, h => by
    have e : open_ ((p, none) :: L) = open_ L + 1 := List.countP_cons_of_pos rfl
    have e0 : open_ L = 0 := by omega
    have em := stp_none f L e0
    constructor
    · show ((f :: p) ++ (L.map (stpT true f)).flatMap Prod.fst).Perm (f :: (p ++ L.flatMap Prod.fst))
      rw [em]
      exact .refl _
    · show open_ ((f :: p, none) :: L.map (stpT true f)) = 1
      rw [em]
      exact (List.countP_cons_of_pos rfl).trans (by show open_ L + 1 = 1; rw [e0])
  | (p, some x) :: L, h => by
    have e : open_ ((p, some x) :: L) = open_ L := List.countP_cons_of_neg (by simp)
    obtain ⟨h1, h2⟩ := stp_true f L (by omega)
    constructor
    · show (p ++ (L.map (stpT true f)).flatMap Prod.fst).Perm (f :: (p ++ L.flatMap Prod.fst))
      exact (h1.append_left p).trans List.perm_middle
    · exact (List.countP_cons_of_neg (by show ¬ (some x).isNone = true; simp)).trans h2
theorem open_append (A B : List Tr) : open_ (A ++ B) = open_ A + open_ B := List.countP_append
/-- each fork is on one trail, and one way fits wholly -/
theorem trails_all (m : Nat × Bool → Bool) (hm : ∀ f, m (f, true) = !m (f, false)) : ∀ (b : TR) (o : Nat), (((wayB b o).map (trF m)).flatMap Prod.fst).Perm (List.range' o (nS b - 1)) ∧ open_ ((wayB b o).map (trF m)) = 1
  | leaf, o => ⟨.refl _, rfl⟩
  | node l r, o => by
    obtain ⟨l1, l2⟩ := trails_all m hm l o
    obtain ⟨r1, r2⟩ := trails_all m hm r (o + nS l)
    have pl := nS_pos l
    have pr := nS_pos r
    have e : ((wayB (node l r) o).map (trF m)) = ((wayB l o).map (trF m)).map (stpT (m (o + nS l - 1, true)) (o + nS l - 1)) ++ ((wayB r (o + nS l)).map (trF m)).map (stpT (m (o + nS l - 1, false)) (o + nS l - 1)) := by
      show List.map _ (_ ++ _) = _
      rw [List.map_append, List.map_map, List.map_map, List.map_map, List.map_map]
      exact congr (congrArg HAppend.hAppend (List.map_congr_left fun w _ => trF_cons m _ w)) (List.map_congr_left fun w _ => trF_cons m _ w)
    have er : List.range' o (nS (node l r) - 1) = List.range' o (nS l - 1) ++ (o + nS l - 1) :: List.range' (o + nS l) (nS r - 1) := by
      rw [show nS (node l r) - 1 = (nS l - 1) + (nS r - 1 + 1) by (show nS l + nS r - 1 = _; omega), ← List.range'_append_1, show o + (nS l - 1) = o + nS l - 1 by omega, List.range'_succ, show o + nS l - 1 + 1 = o + nS l by omega]
    rw [e, er]
    generalize hL : (wayB l o).map (trF m) = L at l1 l2
    generalize hR : (wayB r (o + nS l)).map (trF m) = R at r1 r2
    generalize o + nS l - 1 = f
    generalize hLL : List.range' o (nS l - 1) = LL at l1
    generalize hRR : List.range' (o + nS l) (nS r - 1) = RR at r1
    rw [List.flatMap_append, open_append, hm f]
    cases m (f, false) with
    | false =>
      obtain ⟨a1, a2⟩ := stp_true f L l2
      obtain ⟨b1, b2⟩ := stp_false f R
      show ((L.map (stpT true f)).flatMap Prod.fst ++ (R.map (stpT false f)).flatMap Prod.fst).Perm _ ∧ open_ (L.map (stpT true f)) + open_ (R.map (stpT false f)) = 1
      rw [a2, b1, b2]
      refine ⟨(a1.append r1).trans ?_, rfl⟩
      show (f :: (L.flatMap Prod.fst ++ RR)).Perm _
      exact (((l1.append (.refl RR)).cons f)).trans List.perm_middle.symm
    | true =>
      obtain ⟨a1, a2⟩ := stp_false f L
      obtain ⟨b1, b2⟩ := stp_true f R r2
      show ((L.map (stpT false f)).flatMap Prod.fst ++ (R.map (stpT true f)).flatMap Prod.fst).Perm _ ∧ open_ (L.map (stpT false f)) + open_ (R.map (stpT true f)) = 1
      rw [a1, a2, b2]
      exact ⟨l1.append (b1.trans (r1.cons f)), rfl⟩
theorem way_small : ∀ (b : TR) (o : Nat), ∀ w ∈ wayB b o, ∀ s ∈ w, o ≤ s.1 ∧ s.1 + 1 < o + nS b
  | leaf, o, w, hw, s, hs => by
    cases hw with
    | head => nomatch hs
    | tail _ h => nomatch h
  | node l r, o, w, hw, s, hs => by
    have pl := nS_pos l
    have pr := nS_pos r
    show _ ∧ _ < o + (nS l + nS r)
    rcases List.mem_append.mp hw with h | h
    · obtain ⟨w2, h2, rfl⟩ := List.mem_map.mp h
      cases hs with
      | head => exact ⟨by show o ≤ o + nS l - 1; omega, by show o + nS l - 1 + 1 < _; omega⟩
      | tail _ hs =>
        have := way_small l o w2 h2 s hs
        omega
    · obtain ⟨w2, h2, rfl⟩ := List.mem_map.mp h
      cases hs with
      | head => exact ⟨by show o ≤ o + nS l - 1; omega, by show o + nS l - 1 + 1 < _; omega⟩
      | tail _ hs =>
        have := way_small r (o + nS l) w2 h2 s hs
        omega
theorem way_len : ∀ (b : TR) (o : Nat), ∀ w ∈ wayB b o, w.length < nS b
  | leaf, o, w, hw => by
    cases hw with
    | head => exact Nat.one_pos
    | tail _ h => nomatch h
  | node l r, o, w, hw => by
    have pl := nS_pos l
    have pr := nS_pos r
    show _ < nS l + nS r
    rcases List.mem_append.mp hw with h | h
    · obtain ⟨w2, h2, rfl⟩ := List.mem_map.mp h
      have := way_len l o w2 h2
      show w2.length + 1 < _
      omega
    · obtain ⟨w2, h2, rfl⟩ := List.mem_map.mp h
      have := way_len r (o + nS l) w2 h2
      show w2.length + 1 < _
      omega
/-- the step fits the flags -/
def okF (fl : List Bool) (s : Nat × Bool) : Bool := (fl[s.1]?.getD false) == s.2
theorem okF_not (fl : List Bool) (f : Nat) : okF fl (f, true) = !okF fl (f, false) := by
  unfold okF
  show ((fl[f]?.getD false) == true) = !((fl[f]?.getD false) == false)
  cases fl[f]?.getD false <;> rfl
/-- the trails of a tree -/
def trB (b : TR) (fl : List Bool) : List Tr := (wayB b 0).map (trF (okF fl))
theorem trB_len (b : TR) (fl : List Bool) : (trB b fl).length = nS b := by
  unfold trB
  rw [List.length_map, wayB_len]
theorem trB_perm (b : TR) (fl : List Bool) : ((trB b fl).flatMap Prod.fst).Perm (List.range (nS b - 1)) := by
  rw [List.range_eq_range']
  exact (trails_all (okF fl) (okF_not fl) b 0).1
/-- the slot whose trail holds f: the first -/
def ownB (L : List Tr) (f : Nat) : Option Nat := L.findIdx? fun t => t.1.contains f
theorem own_some {b : TR} {fl : List Bool} {f : Nat} (h : f + 1 < nS b) : ∃ i t, ownB (trB b fl) f = some i ∧ (trB b fl)[i]? = some t ∧ f ∈ t.1 := by
  have hm : f ∈ (trB b fl).flatMap Prod.fst := (trB_perm b fl).mem_iff.mpr (List.mem_range.mpr (by omega))
  obtain ⟨t, ht, hf⟩ := List.mem_flatMap.mp hm
  cases e : ownB (trB b fl) f with
  | none =>
    have := List.findIdx?_eq_none_iff.mp e t ht
    rw [List.contains_iff_mem.mpr hf] at this
    cases this
  | some i =>
    obtain ⟨hi, h1, _⟩ := List.findIdx?_eq_some_iff_getElem.mp e
    exact ⟨i, (trB b fl)[i], rfl, List.getElem?_eq_getElem hi, List.contains_iff_mem.mp h1⟩
theorem nodup_flat {L : List Tr} (h : (L.flatMap Prod.fst).Nodup) : ∀ {i j : Nat} {t u : Tr} {f : Nat}, L[i]? = some t → L[j]? = some u → f ∈ t.1 → f ∈ u.1 → i = j := by
  induction L with
  | nil => exact fun e => nomatch e
  | cons a L ih =>
    intro i j t u f hi hj ht hu
    have h0 : (a.1 ++ L.flatMap Prod.fst).Nodup := h
    rw [List.nodup_append] at h0
    obtain ⟨_, h2, h3⟩ := h0
    cases i with
    | zero =>
      cases j with
      | zero => rfl
      | succ j =>
        cases hi
        exact absurd rfl (h3 f ht f (List.mem_flatMap.mpr ⟨u, List.mem_of_getElem? hj, hu⟩))
    | succ i =>
      cases j with
      | zero =>
        cases hj
        exact absurd rfl (h3 f hu f (List.mem_flatMap.mpr ⟨t, List.mem_of_getElem? hi, ht⟩))
      | succ j => exact congrArg (· + 1) (ih h2 hi hj ht hu)
theorem trB_one {b : TR} {fl : List Bool} {i j : Nat} {t u : Tr} {f : Nat} (hi : (trB b fl)[i]? = some t) (hj : (trB b fl)[j]? = some u) (ht : f ∈ t.1) (hu : f ∈ u.1) : i = j :=
  nodup_flat ((trB_perm b fl).nodup_iff.mpr List.nodup_range) hi hj ht hu
theorem own_at {b : TR} {fl : List Bool} {i : Nat} {t : Tr} {f : Nat} (hi : (trB b fl)[i]? = some t) (ht : f ∈ t.1) : ownB (trB b fl) f = some i := by
  have hs : f + 1 < nS b := by
    have hm : f ∈ (trB b fl).flatMap Prod.fst := List.mem_flatMap.mpr ⟨t, List.mem_of_getElem? hi, ht⟩
    have := List.mem_range.mp ((trB_perm b fl).mem_iff.mp hm)
    omega
  obtain ⟨j, u, e1, e2, e3⟩ := own_some (fl := fl) hs
  rw [e1, trB_one hi e2 ht e3]
theorem hang_small {b : TR} {fl : List Bool} {i : Nat} {p : List Nat} {h : Nat} (hi : (trB b fl)[i]? = some (p, some h)) : h + 1 < nS b := by
  unfold trB at hi
  rw [List.getElem?_map] at hi
  cases e : (wayB b 0)[i]? with
  | none =>
    rw [e] at hi
    cases hi
  | some w =>
    rw [e] at hi
    obtain ⟨s, hs, rfl⟩ := trF_hang _ w p h (Option.some.inj hi)
    have := way_small b 0 w (List.mem_of_getElem? e) s hs
    omega
/-! ### the laying of the ways -/
abbrev Job := TR × Nat × Way
def jobW (j : Job) : List Way := (wayB j.1 j.2.1).map (j.2.2 ++ ·)
def jobS (js : List Job) : Nat := (js.map fun j => 2 * nS j.1 - 1).sum
theorem jobW_leaf (o : Nat) (w : Way) : jobW (leaf, o, w) = [w] := by
  show [w ++ []] = [w]
  rw [List.append_nil]
theorem jobW_node (l r : TR) (o : Nat) (w : Way) : jobW (node l r, o, w) = jobW (l, o, w ++ [(o + nS l - 1, true)]) ++ jobW (r, o + nS l, w ++ [(o + nS l - 1, false)]) := by
  show ((wayB l o).map _ ++ (wayB r (o + nS l)).map _).map (w ++ ·) = (wayB l o).map _ ++ (wayB r (o + nS l)).map _
  rw [List.map_append, List.map_map, List.map_map]
  congr 1
  · refine List.map_congr_left fun u _ => ?_
    show w ++ (_ :: u) = w ++ [_] ++ u
    rw [List.append_assoc]
    rfl
  · refine List.map_congr_left fun u _ => ?_
    show w ++ (_ :: u) = w ++ [_] ++ u
    rw [List.append_assoc]
    rfl
def Fits : TR → Nat → List (Nat × Nat) → List (Nat × Nat) → Prop
  | leaf, _, _, _ => True
  | node l r, o, L, R => L[o + nS l - 1]? = some (ndB l o) ∧ R[o + nS l - 1]? = some (ndB r (o + nS l)) ∧ Fits l o L R ∧ Fits r (o + nS l) L R
theorem fits_of : ∀ (b : TR) (o p : Nat) (L R : List (Nat × Nat)), (∀ row ∈ rowsB b o p, L[row.1]? = some row.2.1 ∧ R[row.1]? = some row.2.2.1) → Fits b o L R
  | leaf, _, _, _, _, _ => trivial
  | node l r, o, p, L, R, h => by
    have h0 := h (o + nS l - 1, ndB l o, ndB r (o + nS l), (o, o + nS l + nS r - 1), (p, p + (txt (node l r)).length)) (List.mem_append_right _ (List.mem_append_right _ (.head _)))
    exact ⟨h0.1, h0.2, fits_of l o (p + 1) L R fun row hr => h row (List.mem_append_left _ hr), fits_of r (o + nS l) _ L R fun row hr => h row (List.mem_append_right _ (List.mem_append_left _ hr))⟩
theorem rows_keys : ∀ (b : TR) (o p : Nat), ((rowsB b o p).map Prod.fst).Perm (List.range' o (nS b - 1))
  | leaf, _, _ => .refl _
  | node l r, o, p => by
    have h1 := rows_keys l o (p + 1)
    have h2 := rows_keys r (o + nS l) (p + 1 + (txt l).length)
    have pl := nS_pos l
    have pr := nS_pos r
    have er : List.range' o (nS (node l r) - 1) = List.range' o (nS l - 1) ++ (o + nS l - 1) :: List.range' (o + nS l) (nS r - 1) := by
      rw [show nS (node l r) - 1 = (nS l - 1) + (nS r - 1 + 1) by (show nS l + nS r - 1 = _; omega), ← List.range'_append_1, show o + (nS l - 1) = o + nS l - 1 by omega, List.range'_succ, show o + nS l - 1 + 1 = o + nS l by omega]
    rw [er]
    show (List.map Prod.fst (rowsB l o (p + 1) ++ (rowsB r (o + nS l) (p + 1 + (txt l).length) ++ [_]))).Perm _
    rw [List.map_append, List.map_append]
    exact h1.append (List.perm_append_comm.trans (h2.cons _))
/-- sorted by their forks: each row at the place of its fork -/
theorem rows_sorted {b : TR} {ys : List Row} (hp : ys.Perm (rowsB b 0 0)) (hs : ys.Pairwise fun x y => x.1 ≤ y.1) : ∀ row ∈ rowsB b 0 0, ys[row.1]? = some row := by
  have hk : (ys.map Prod.fst).Perm (List.range (nS b - 1)) := by
    rw [List.range_eq_range']
    exact (hp.map _).trans (rows_keys b 0 0)
  have e : ys.map Prod.fst = List.range (nS b - 1) := by
    refine List.Perm.eq_of_pairwise (le := fun x y => decide (x ≤ y)) (fun a c _ _ h1 h2 => ?_) ?_ ?_ hk
    · have := of_decide_eq_true h1
      have := of_decide_eq_true h2
      omega
    · exact List.pairwise_map.mpr (hs.imp fun h => decide_eq_true h)
    · exact List.pairwise_le_range.imp fun h => decide_eq_true h
  intro row hr
  obtain ⟨i, hi⟩ := List.mem_iff_getElem?.mp (hp.mem_iff.mpr hr)
  have : (ys.map Prod.fst)[i]? = some row.1 := by
    rw [List.getElem?_map, hi]
    rfl
  rw [e] at this
  obtain ⟨h1, h2⟩ := List.getElem?_eq_some_iff.mp this
  rw [List.getElem_range] at h2
  rw [← h2]
  exact hi
theorem rows_inj {b : TR} : ∀ x ∈ rowsB b 0 0, ∀ y ∈ rowsB b 0 0, x.1 = y.1 → x = y := by
  have hn : ((rowsB b 0 0).map Prod.fst).Nodup := (rows_keys b 0 0).nodup_iff.mpr (by rw [← List.range_eq_range']; exact List.nodup_range)
  generalize rowsB b 0 0 = L at hn
  induction L with
  | nil => exact fun x hx => nomatch hx
  | cons a L ih =>
    have hn : (a.1 :: L.map Prod.fst).Nodup := hn
    obtain ⟨h1, h2⟩ := List.nodup_cons.mp hn
    intro x hx y hy e
    cases hx with
    | head =>
      cases hy with
      | head => rfl
      | tail _ hy => exact absurd (by rw [e]; exact List.mem_map.mpr ⟨y, hy, rfl⟩) h1
    | tail _ hx =>
      cases hy with
      | head => exact absurd (by rw [← e]; exact List.mem_map.mpr ⟨x, hx, rfl⟩) h1
      | tail _ hy => exact ih h2 x hx y hy e
/-! ### the law's tree: a row of trees -/
def pcs : List TR → Nat → List (TR × Nat)
  | [], _ => []
  | t :: ts, o => (t, o) :: pcs ts (o + nS t)
def szs (ts : List TR) : Nat := (ts.map nS).sum
def fw : List TR → Nat → List Way
  | [], _ => []
  | t :: ts, o => wayB t o ++ fw ts (o + nS t)
theorem pcs_len : ∀ (ts : List TR) (o : Nat), (pcs ts o).length = ts.length
  | [], _ => rfl
  | t :: ts, o => congrArg (· + 1) (pcs_len ts _)
theorem fw_len : ∀ (ts : List TR) (o : Nat), (fw ts o).length = szs ts
  | [], _ => rfl
  | t :: ts, o => by
    show (wayB t o ++ fw ts _).length = nS t + szs ts
    rw [List.length_append, wayB_len, fw_len]
theorem pcs_app : ∀ (A B : List TR) (o : Nat), pcs (A ++ B) o = pcs A o ++ pcs B (o + szs A)
  | [], B, o => rfl
  | t :: A, B, o => by
    show (t, o) :: pcs (A ++ B) (o + nS t) = (t, o) :: (pcs A (o + nS t) ++ pcs B (o + (nS t + szs A)))
    rw [pcs_app A B, Nat.add_assoc]
theorem fw_app : ∀ (A B : List TR) (o : Nat), fw (A ++ B) o = fw A o ++ fw B (o + szs A)
  | [], B, o => rfl
  | t :: A, B, o => by
    show wayB t o ++ fw (A ++ B) (o + nS t) = wayB t o ++ fw A (o + nS t) ++ fw B (o + (nS t + szs A))
    rw [fw_app A B, Nat.add_assoc, List.append_assoc]
theorem szs_app (A B : List TR) : szs (A ++ B) = szs A + szs B := by
  unfold szs
  rw [List.map_append, List.sum_append]
theorem szs_len : ∀ ts : List TR, ts.length ≤ szs ts
  | [] => Nat.le_refl 0
  | t :: ts => by
    have := szs_len ts
    have := nS_pos t
    show ts.length + 1 ≤ nS t + szs ts
    omega
/-- a row of trees, parted at two neighbours -/
theorem at_two {ts : List TR} {i : Nat} (h : i + 1 < ts.length) : ∃ A l r B, ts = A ++ l :: r :: B ∧ A.length = i := by
  refine ⟨ts.take i, ts[i], ts[i + 1], ts.drop (i + 2), ?_, by rw [List.length_take]; omega⟩
  rw [List.getElem_cons_drop, List.getElem_cons_drop, List.take_append_drop]
/-- the ways while the two are joined: k of their slots are done -/
def midW (l r : TR) (o k : Nat) : List Way := ((wayB (node l r) o).take k) ++ ((wayB l o ++ wayB r (o + nS l)).drop k)
theorem mid_get {l r : TR} {o k : Nat} {w : Way} (h : (wayB l o ++ wayB r (o + nS l))[k]? = some w) : (wayB (node l r) o)[k]? = some ((o + nS l - 1, decide (k < nS l)) :: w) := by
  show ((wayB l o).map _ ++ (wayB r (o + nS l)).map _)[k]? = _
  by_cases hk : k < nS l
  · rw [List.getElem?_append_left (by rw [wayB_len]; exact hk)] at h
    rw [List.getElem?_append_left (by rw [List.length_map, wayB_len]; exact hk), List.getElem?_map, h, decide_eq_true hk]
    rfl
  · rw [List.getElem?_append_right (by rw [wayB_len]; omega), wayB_len] at h
    rw [List.getElem?_append_right (by rw [List.length_map, wayB_len]; omega), List.length_map, wayB_len, List.getElem?_map, h, decide_eq_false hk]
    rfl
end TR
namespace TR
/-! ### spans -/
def spnF : TR → Nat → Nat → Nat × Nat
  | leaf, o, _ => (o, o)
  | node l r, o, h => if h = o + nS l - 1 then (o, o + nS l + nS r - 1) else if h < o + nS l - 1 then spnF l o h else spnF r (o + nS l) h
theorem spn_node {l r : TR} {o h : Nat} : spnF (node l r) o h = if h = o + nS l - 1 then (o, o + nS l + nS r - 1) else if h < o + nS l - 1 then spnF l o h else spnF r (o + nS l) h := rfl
theorem spn_l {l r : TR} {o h : Nat} (e : h + 1 < o + nS l) : spnF (node l r) o h = spnF l o h := by rw [spn_node, if_neg (by omega), if_pos (by omega)]
theorem spn_r {l r : TR} {o h : Nat} (e : o + nS l ≤ h) : spnF (node l r) o h = spnF r (o + nS l) h := by
  have := nS_pos l
  rw [spn_node, if_neg (by omega), if_neg (by omega)]
/-- spans of the rows -/
theorem rows_spans : ∀ (b : TR) (o p : Nat), ∀ row ∈ rowsB b o p, row.2.2.2.1 = spnF b o row.1
  | leaf, _, _, row, h => nomatch h
  | node l r, o, p, row, h => by
    have pl := nS_pos l
    have kl : ∀ row ∈ rowsB l o (p + 1), o ≤ row.1 ∧ row.1 + 1 < o + nS l := fun row hr => by
      have := (rows_keys l o (p + 1)).mem_iff.mp (List.mem_map.mpr ⟨row, hr, rfl⟩)
      have := List.mem_range'_1.mp this
      omega
    have kr : ∀ row ∈ rowsB r (o + nS l) (p + 1 + (txt l).length), o + nS l ≤ row.1 := fun row hr => by
      have := (rows_keys r _ _).mem_iff.mp (List.mem_map.mpr ⟨row, hr, rfl⟩)
      have := List.mem_range'_1.mp this
      omega
    rcases List.mem_append.mp h with h | h
    · rw [spn_l (kl row h).2]
      exact rows_spans l o _ row h
    · rcases List.mem_append.mp h with h | h
      · rw [spn_r (kr row h)]
        exact rows_spans r _ _ row h
      · rw [List.mem_singleton.mp h]
        show (o, o + nS l + nS r - 1) = spnF (node l r) o (o + nS l - 1)
        rw [spn_node, if_pos rfl]
def cdB (b : Bool) : Nat := if b then 76 else 82
theorem cdB_inj {c d : Bool} (h : cdB c = cdB d) : c = d := by
  cases c <;> cases d <;> first | rfl | cases h
def hitL (s : List Nat) (w : Way) : List Nat := w.foldl (fun s t => s.set t.1 (cdB t.2)) s
theorem hitL_len : ∀ (w : Way) (s : List Nat), (hitL s w).length = s.length
  | [], _ => rfl
  | t :: w, s => by
    show (hitL (s.set t.1 (cdB t.2)) w).length = _
    rw [hitL_len w, List.length_set]
theorem way_forks : ∀ (b : TR) (o : Nat), ∀ w ∈ wayB b o, (w.map Prod.fst).Nodup
  | leaf, o, w, h => by
    rw [List.mem_singleton.mp (show w ∈ [[]] from h)]
    exact List.nodup_nil
  | node l r, o, w, h => by
    have p1 := nS_pos l
    rcases List.mem_append.mp h with h | h
    · obtain ⟨u, hu, rfl⟩ := List.mem_map.mp h
      refine List.nodup_cons.mpr ⟨fun hm => ?_, way_forks l o u hu⟩
      obtain ⟨t, ht, e⟩ := List.mem_map.mp hm
      have := way_small l o u hu t ht
      have e : t.1 = o + nS l - 1 := e
      omega
    · obtain ⟨u, hu, rfl⟩ := List.mem_map.mp h
      refine List.nodup_cons.mpr ⟨fun hm => ?_, way_forks r _ u hu⟩
      obtain ⟨t, ht, e⟩ := List.mem_map.mp hm
      have := way_small r _ u hu t ht
      have e : t.1 = o + nS l - 1 := e
      omega
/-- a hit sets what its way tells -/
theorem hit_on : ∀ (w : Way) (s : List Nat) (f : Nat) (c : Bool), (w.map Prod.fst).Nodup → (f, c) ∈ w → f < s.length → (hitL s w)[f]? = some (cdB c)
  | t :: w, s, f, c, hn, hm, hf => by
    obtain ⟨n1, n2⟩ := List.nodup_cons.mp hn
    show (hitL (s.set t.1 (cdB t.2)) w)[f]? = _
    rcases List.mem_cons.mp hm with e | hm
    · have off : ∀ (w : Way) (s : List Nat), f ∉ w.map Prod.fst → (hitL s w)[f]? = s[f]? := by
        intro w
        induction w with
        | nil => exact fun _ _ => rfl
        | cons t w ih =>
          intro s h
          show (hitL (s.set t.1 (cdB t.2)) w)[f]? = _
          rw [ih _ fun z => h (.tail _ z), List.getElem?_set_ne fun z => h (by rw [← z]; exact .head _)]
      subst e
      rw [off w _ n1, List.getElem?_set_self hf]
    · exact hit_on w _ f c n2 hm (by rw [List.length_set]; exact hf)
  | [], _, _, _, _, hm, _ => nomatch hm
theorem hit_off : ∀ (w : Way) (s : List Nat) (f : Nat), (∀ c, (f, c) ∉ w) → (hitL s w)[f]? = s[f]?
  | [], _, _, _ => rfl
  | t :: w, s, f, h => by
    show (hitL (s.set t.1 (cdB t.2)) w)[f]? = _
    rw [hit_off w _ f fun c z => h c (.tail _ z), List.getElem?_set_ne fun z => h t.2 (by rw [← z]; exact .head _)]
def hitsL (s : List Nat) (ws : List Way) : List Nat := ws.foldl hitL s
theorem hitsL_len : ∀ (ws : List Way) (s : List Nat), (hitsL s ws).length = s.length
  | [], _ => rfl
  | w :: ws, s => by
    show (hitsL (hitL s w) ws).length = _
    rw [hitsL_len ws, hitL_len]
theorem hitsL_snoc (s : List Nat) (ws : List Way) (w : Way) : hitsL s (ws ++ [w]) = hitL (hitsL s ws) w := by
  unfold hitsL
  rw [List.foldl_append]
  rfl
theorem hits_off : ∀ (ws : List Way) (s : List Nat) (f : Nat), (∀ w ∈ ws, ∀ c, (f, c) ∉ w) → (hitsL s ws)[f]? = s[f]?
  | [], _, _, _ => rfl
  | w :: ws, s, f, h => by
    show (hitsL (hitL s w) ws)[f]? = _
    rw [hits_off ws _ f fun u hu => h u (.tail _ hu), hit_off w s f (h w (.head _))]
def wy (b : TR) (i : Nat) : Way := (wayB b 0).getD i []
theorem wy_at {b : TR} {i : Nat} (h : i < nS b) : (wayB b 0)[i]? = some (wy b i) := by
  unfold wy
  rw [List.getD_eq_getElem?_getD, List.getElem?_eq_getElem (by rw [wayB_len]; exact h)]
  rfl
theorem wy_nodup {b : TR} {i : Nat} (h : i < nS b) : ((wy b i).map Prod.fst).Nodup := way_forks b 0 _ (List.mem_of_getElem? (wy_at h))
theorem wy_small {b : TR} {i : Nat} (h : i < nS b) : ∀ t ∈ wy b i, t.1 + 1 < nS b := fun t ht => by
  have := way_small b 0 _ (List.mem_of_getElem? (wy_at h)) t ht
  omega
theorem spn_bd : ∀ (b : TR) (o f : Nat), o ≤ f → f + 1 < o + nS b → o ≤ (spnF b o f).1 ∧ (spnF b o f).1 ≤ f ∧ f < (spnF b o f).2 ∧ (spnF b o f).2 + 1 ≤ o + nS b
  | leaf, o, f, h1, h2 => by
    have : f + 1 < o + 1 := h2
    omega
  | node l r, o, f, h1, h2 => by
    have p1 := nS_pos l
    have p2 := nS_pos r
    have e : nS (node l r) = nS l + nS r := rfl
    rw [e] at h2 ⊢
    rw [spn_node]
    split
    · show o ≤ o ∧ o ≤ f ∧ f < o + nS l + nS r - 1 ∧ o + nS l + nS r - 1 + 1 ≤ o + (nS l + nS r)
      omega
    · split
      · have := spn_bd l o f h1 (by omega)
        omega
      · have := spn_bd r (o + nS l) f (by omega) (by omega)
        omega
theorem spn_inj : ∀ (b : TR) (o f g : Nat), o ≤ f → f + 1 < o + nS b → o ≤ g → g + 1 < o + nS b → spnF b o f = spnF b o g → f = g
  | leaf, o, f, g, h1, h2, _, _, _ => by
    have : f + 1 < o + 1 := h2
    omega
  | node l r, o, f, g, h1, h2, h3, h4, h => by
    have p1 := nS_pos l
    have p2 := nS_pos r
    have e : nS (node l r) = nS l + nS r := rfl
    rw [e] at h2 h4
    have bl : ∀ x, o ≤ x → x < o + nS l - 1 → (spnF (node l r) o x).2 + 1 ≤ o + nS l := fun x a b => by
      rw [spn_l (by omega)]
      exact (spn_bd l o x a (by omega)).2.2.2
    have br : ∀ x, o + nS l - 1 < x → x + 1 < o + (nS l + nS r) → o + nS l ≤ (spnF (node l r) o x).1 ∧ (spnF (node l r) o x).1 < (spnF (node l r) o x).2 := fun x a b => by
      rw [spn_r (by omega)]
      have := spn_bd r (o + nS l) x (by omega) (by omega)
      omega
    have bk : spnF (node l r) o (o + nS l - 1) = (o, o + nS l + nS r - 1) := by rw [spn_node, if_pos rfl]
    rcases Nat.lt_trichotomy f (o + nS l - 1) with a | a | a
    · have fl := bl f h1 a
      rcases Nat.lt_trichotomy g (o + nS l - 1) with c | c | c
      · rw [spn_l (by omega), spn_l (by omega)] at h
        exact spn_inj l o f g h1 (by omega) h3 (by omega) h
      · rw [h, c, bk] at fl
        have fl : o + nS l + nS r - 1 + 1 ≤ o + nS l := fl
        omega
      · have := br g c h4
        rw [h] at fl
        omega
    · rcases Nat.lt_trichotomy g (o + nS l - 1) with c | c | c
      · have gl := bl g h3 c
        rw [← h, a, bk] at gl
        have gl : o + nS l + nS r - 1 + 1 ≤ o + nS l := gl
        omega
      · omega
      · have := br g c h4
        rw [← h, a, bk] at this
        have : o + nS l ≤ o ∧ _ := this
        omega
    · have fr := br f a h2
      rcases Nat.lt_trichotomy g (o + nS l - 1) with c | c | c
      · have gl := bl g h3 c
        rw [h] at fr
        omega
      · rw [h, c, bk] at fr
        have fr : o + nS l ≤ o ∧ _ := fr
        omega
      · rw [spn_r (by omega), spn_r (by omega)] at h
        exact spn_inj r _ f g (by omega) (by omega) (by omega) (by omega) h
def belB (b : TR) (f s : Nat) : Bool := decide ((spnF b 0 f).1 ≤ s) && decide (s ≤ (spnF b 0 f).2)
theorem way_nodeS {l r : TR} {o s : Nat} {w : Way} (h1 : o ≤ s) (h : (wayB (node l r) o)[s - o]? = some w) : (s < o + nS l ∧ ∃ u, (wayB l o)[s - o]? = some u ∧ w = (o + nS l - 1, true) :: u) ∨ (o + nS l ≤ s ∧ ∃ u, (wayB r (o + nS l))[s - (o + nS l)]? = some u ∧ w = (o + nS l - 1, false) :: u) := by
  have h : ((wayB l o).map ((o + nS l - 1, true) :: ·) ++ (wayB r (o + nS l)).map ((o + nS l - 1, false) :: ·))[s - o]? = some w := h
  rcases Nat.lt_or_ge (s - o) (nS l) with c | c
  · rw [List.getElem?_append_left (by rw [List.length_map, wayB_len]; exact c), List.getElem?_map] at h
    obtain ⟨u, hu, e⟩ := Option.map_eq_some_iff.mp h
    exact .inl ⟨by omega, u, hu, e.symm⟩
  · rw [List.getElem?_append_right (by rw [List.length_map, wayB_len]; exact c), List.length_map, wayB_len, List.getElem?_map] at h
    obtain ⟨u, hu, e⟩ := Option.map_eq_some_iff.mp h
    refine .inr ⟨by omega, u, ?_, e.symm⟩
    rw [show s - (o + nS l) = s - o - nS l by omega]
    exact hu
theorem way_bel : ∀ (b : TR) (o s : Nat) (w : Way) (f : Nat) (c : Bool), o ≤ s → (wayB b o)[s - o]? = some w → ((f, c) ∈ w ↔ (o ≤ f ∧ f + 1 < o + nS b ∧ (spnF b o f).1 ≤ s ∧ s ≤ (spnF b o f).2 ∧ c = decide (s ≤ f)))
  | leaf, o, s, w, f, c, h1, h => by
    have : w = [] := by
      have h : ([[]] : List Way)[s - o]? = some w := h
      cases e : s - o with
      | zero =>
        rw [e] at h
        exact (Option.some.inj h).symm
      | succ k =>
        rw [e] at h
        cases h
    subst this
    constructor
    · exact fun z => nomatch z
    · rintro ⟨a, b, _⟩
      have b : f + 1 < o + 1 := b
      omega
  | node l r, o, s, w, f, c, h1, h => by
    have p1 := nS_pos l
    have p2 := nS_pos r
    have e : nS (node l r) = nS l + nS r := rfl
    have hs : s < o + (nS l + nS r) := by
      have := (List.getElem?_eq_some_iff.mp h).1
      rw [wayB_len, e] at this
      omega
    rcases way_nodeS h1 h with ⟨a, u, hu, rfl⟩ | ⟨a, u, hu, rfl⟩
    · have ih := way_bel l o s u f c h1 hu
      rw [List.mem_cons, e]
      constructor
      · rintro (z | z)
        · obtain ⟨rfl, rfl⟩ := Prod.mk.inj z
          rw [spn_node, if_pos rfl]
          refine ⟨by omega, by omega, h1, by show s ≤ o + nS l + nS r - 1; omega, (decide_eq_true (by omega)).symm⟩
        · obtain ⟨a1, a2, a3, a4, a5⟩ := ih.mp z
          rw [spn_l (by omega)]
          exact ⟨a1, by omega, a3, a4, a5⟩
      · rintro ⟨a1, a2, a3, a4, a5⟩
        rcases Nat.lt_trichotomy f (o + nS l - 1) with d | d | d
        · rw [spn_l (by omega)] at a3 a4
          exact .inr (ih.mpr ⟨a1, by omega, a3, a4, a5⟩)
        · left
          rw [a5, d, decide_eq_true (by omega)]
        · rw [spn_r (by omega)] at a3
          have := spn_bd r (o + nS l) f (by omega) (by omega)
          omega
    · have ih := way_bel r (o + nS l) s u f c a hu
      rw [List.mem_cons, e]
      constructor
      · rintro (z | z)
        · obtain ⟨rfl, rfl⟩ := Prod.mk.inj z
          rw [spn_node, if_pos rfl]
          refine ⟨by omega, by omega, h1, by show s ≤ o + nS l + nS r - 1; omega, (decide_eq_false (by omega)).symm⟩
        · obtain ⟨a1, a2, a3, a4, a5⟩ := ih.mp z
          rw [spn_r (by omega)]
          exact ⟨by omega, by omega, a3, a4, a5⟩
      · rintro ⟨a1, a2, a3, a4, a5⟩
        rcases Nat.lt_trichotomy f (o + nS l - 1) with d | d | d
        · rw [spn_l (by omega)] at a4
          have := spn_bd l o f a1 (by omega)
          omega
        · left
          rw [a5, d, decide_eq_false (by omega)]
        · rw [spn_r (by omega)] at a3 a4
          exact .inr (ih.mpr ⟨by omega, by omega, a3, a4, a5⟩)
theorem wy_bel {b : TR} {s f : Nat} {c : Bool} (hs : s < nS b) (hf : f + 1 < nS b) : (f, c) ∈ wy b s ↔ belB b f s = true ∧ c = decide (s ≤ f) := by
  rw [way_bel b 0 s (wy b s) f c (Nat.zero_le _) (wy_at hs)]
  unfold belB
  rw [Bool.and_eq_true, decide_eq_true_iff, decide_eq_true_iff]
  constructor
  · rintro ⟨_, _, h3, h4, h5⟩
    exact ⟨⟨h3, h4⟩, h5⟩
  · rintro ⟨⟨h3, h4⟩, h5⟩
    exact ⟨Nat.zero_le _, by omega, h3, h4, h5⟩
theorem hit_at {b : TR} {st : List Nat} {s f : Nat} (hs : s < nS b) (hf : f + 1 < nS b) (hl : st.length + 1 = nS b) : (hitL st (wy b s))[f]? = if belB b f s then some (cdB (decide (s ≤ f))) else st[f]? := by
  cases h : belB b f s with
  | true =>
    rw [if_pos rfl]
    exact hit_on _ _ f _ (wy_nodup hs) ((wy_bel hs hf).mpr ⟨h, rfl⟩) (by omega)
  | false =>
    rw [if_neg Bool.false_ne_true]
    refine hit_off _ _ f fun c z => ?_
    rw [((wy_bel hs hf).mp z).1] at h
    cases h
end TR
namespace TR
/-! ### walks down -/
inductive Dn : TR → Nat → TR → Nat → Way → Prop
  | here (b : TR) (o : Nat) : Dn b o b o []
  | left {b : TR} {o : Nat} {l r : TR} {p : Nat} {w : Way} : Dn b o (node l r) p w → Dn b o l p (w ++ [(p + nS l - 1, true)])
  | right {b : TR} {o : Nat} {l r : TR} {p : Nat} {w : Way} : Dn b o (node l r) p w → Dn b o r (p + nS l) (w ++ [(p + nS l - 1, false)])
theorem dn_in {b : TR} {o : Nat} {t : TR} {p : Nat} {w : Way} (h : Dn b o t p w) : o ≤ p ∧ p + nS t ≤ o + nS b ∧ nS t + w.length ≤ nS b := by
  induction h with
  | here => exact ⟨Nat.le_refl _, Nat.le_refl _, Nat.le_refl _⟩
  | @left l r p w _ ih =>
    have p1 := nS_pos l
    have p2 := nS_pos r
    have e : nS (node l r) = nS l + nS r := rfl
    rw [e] at ih
    rw [List.length_append, List.length_singleton]
    omega
  | @right l r p w _ ih =>
    have p1 := nS_pos l
    have p2 := nS_pos r
    have e : nS (node l r) = nS l + nS r := rfl
    rw [e] at ih
    rw [List.length_append, List.length_singleton]
    omega
theorem dn_spn {b : TR} {o : Nat} {t : TR} {p : Nat} {w : Way} (h : Dn b o t p w) : ∀ f, p ≤ f → f + 1 < p + nS t → spnF b o f = spnF t p f := by
  induction h with
  | here => exact fun f _ _ => rfl
  | @left l r p w _ ih =>
    intro f h1 h2
    have p2 := nS_pos r
    have e : nS (node l r) = nS l + nS r := rfl
    rw [ih f h1 (by omega), spn_l (by omega)]
  | @right l r p w _ ih =>
    intro f h1 h2
    have e : nS (node l r) = nS l + nS r := rfl
    rw [ih f (by omega) (by omega), spn_r (by omega)]
theorem dn_way {b : TR} {o : Nat} {t : TR} {p : Nat} {w : Way} (h : Dn b o t p w) : ∀ (s : Nat) (v : Way), o ≤ s → (wayB b o)[s - o]? = some v → p ≤ s → s < p + nS t → ∃ u, v = w ++ u ∧ (wayB t p)[s - p]? = some u := by
  induction h with
  | here => exact fun s v _ h _ _ => ⟨v, rfl, h⟩
  | @left l r p w _ ih =>
    intro s v h0 h1 h2 h3
    have p2 := nS_pos r
    have e : nS (node l r) = nS l + nS r := rfl
    obtain ⟨u, e1, e2⟩ := ih s v h0 h1 h2 (by omega)
    rcases way_nodeS h2 e2 with ⟨_, u2, hu, rfl⟩ | ⟨a, _⟩
    · exact ⟨u2, by rw [e1, List.append_assoc]; rfl, hu⟩
    · omega
  | @right l r p w _ ih =>
    intro s v h0 h1 h2 h3
    have e : nS (node l r) = nS l + nS r := rfl
    obtain ⟨u, e1, e2⟩ := ih s v h0 h1 (by omega) (by omega)
    rcases way_nodeS (by omega) e2 with ⟨a, _⟩ | ⟨_, u2, hu, rfl⟩
    · omega
    · exact ⟨u2, by rw [e1, List.append_assoc]; rfl, hu⟩
/-- the fork at the top of a part -/
theorem dn_top {b l r : TR} {p : Nat} {w : Way} (h : Dn b 0 (node l r) p w) : p + nS l - 1 + 1 < nS b ∧ spnF b 0 (p + nS l - 1) = (p, p + nS l + nS r - 1) := by
  have p1 := nS_pos l
  have p2 := nS_pos r
  have e : nS (node l r) = nS l + nS r := rfl
  have h1 := dn_in h
  rw [e] at h1
  refine ⟨by omega, ?_⟩
  rw [dn_spn h _ (by omega) (by omega), spn_node, if_pos rfl]
/-- the flags block this step -/
def blk (st : List Nat) (t : Nat × Bool) : Bool := decide (st[t.1]? ≠ some 82) == t.2
def dep (st : List Nat) (w : Way) : Option Nat := (w.find? (blk st)).map Prod.fst
theorem dep_none {st : List Nat} {w : Way} : dep st w = none ↔ ∀ t ∈ w, blk st t = false := by
  unfold dep
  rw [Option.map_eq_none_iff, List.find?_eq_none]
  exact ⟨fun h t ht => Bool.not_eq_true _ ▸ h t ht, fun h t ht => by rw [h t ht]; exact Bool.false_ne_true⟩
theorem dep_app {st : List Nat} {w u : Way} {t : Nat × Bool} (h : ∀ x ∈ w, blk st x = false) (ht : blk st t = true) : dep st (w ++ t :: u) = some t.1 := by
  unfold dep
  rw [List.find?_append, List.find?_eq_none.mpr fun x hx => by rw [h x hx]; exact Bool.false_ne_true, Option.none_or, List.find?_cons, ht]
  rfl
/-! ### lines -/
abbrev Ln := Bool × Nat
def latW (i : Int) (w : Way) (la : List Int) : List Int := w.foldl (fun la t => la.set t.1 i) la
theorem latW_len (i : Int) : ∀ (w : Way) (la : List Int), (latW i w la).length = la.length
  | [], _ => rfl
  | t :: w, la => by
    show (latW i w (la.set t.1 i)).length = _
    rw [latW_len i w, List.length_set]
theorem latW_at (i : Int) : ∀ (w : Way) (la : List Int) (f : Nat), f < la.length → (latW i w la)[f]? = if f ∈ w.map Prod.fst then some i else la[f]?
  | [], _, _, _ => rfl
  | t :: w, la, f, h => by
    show (latW i w (la.set t.1 i))[f]? = _
    rw [latW_at i w _ f (by rw [List.length_set]; exact h)]
    by_cases h1 : f ∈ w.map Prod.fst
    · rw [if_pos h1, if_pos (.tail _ h1)]
    · rw [if_neg h1]
      by_cases h2 : t.1 = f
      · subst h2
        rw [List.getElem?_set_self h, if_pos (.head _)]
      · rw [List.getElem?_set_ne h2, if_neg (show ¬ f ∈ (t :: w).map Prod.fst from fun z => (List.mem_cons.mp z).elim (fun y => h2 y.symm) h1)]
def bfor (b : TR) (s : Nat) (i : Int) (la : List Int) : List Int := (List.range (nS b - 1)).map fun k => if belB b k s then i else la.getD k 0
theorem way_mem {b : TR} {s f : Nat} (hs : s < nS b) (hf : f + 1 < nS b) : f ∈ (wy b s).map Prod.fst ↔ belB b f s = true := by
  rw [List.mem_map]
  constructor
  · rintro ⟨t, ht, rfl⟩
    exact ((wy_bel hs hf (c := t.2)).mp ht).1
  · exact fun h => ⟨(f, decide (s ≤ f)), (wy_bel hs hf).mpr ⟨h, rfl⟩, rfl⟩
theorem latW_bfor {b : TR} {s : Nat} {i : Int} {la : List Int} (hs : s < nS b) (hl : la.length + 1 = nS b) : latW i (wy b s) la = bfor b s i la := by
  refine List.ext_getElem? fun f => ?_
  unfold bfor
  rcases Nat.lt_or_ge f la.length with h | h
  · rw [latW_at i _ _ f h, List.getElem?_map, List.getElem?_range (by omega)]
    show _ = some (if belB b f s then i else la.getD f 0)
    cases hb : belB b f s with
    | true => rw [if_pos ((way_mem hs (by omega)).mpr hb), if_pos rfl]
    | false =>
      rw [if_neg (fun z => by rw [(way_mem hs (by omega)).mp z] at hb; cases hb), if_neg Bool.false_ne_true, List.getD_eq_getElem?_getD, List.getElem?_eq_getElem h]
      rfl
  · rw [List.getElem?_eq_none (by rw [latW_len]; exact h), List.getElem?_eq_none (by rw [List.length_map, List.length_range]; omega)]
abbrev Wr := Nat × Nat × Int
def hitP (st : List Nat) (t : Nat × Bool) : Bool := decide (st[t.1]? = some (cdB t.2))
def oneP (k : Bool) (st : List Nat) (w : Way) (i : Nat) (la : List Int) : List Wr := if k then match w.find? (hitP st) with | some t => [(i, t.1, la.getD t.1 0)] | none => [] else []
/-- what the program lists -/
def wrP (b : TR) : List Ln → Nat → List Nat → List Int → List Wr
  | [], _, _, _ => []
  | l :: ls, i, st, la => oneP l.1 st (wy b l.2) i la ++ wrP b ls (i + 1) (hitL st (wy b l.2)) (latW i (wy b l.2) la)
def oneG (k : Bool) (fl : List Nat) (w : Way) (i : Nat) (la : List Int) : List Wr := if k then match dep fl w with | some f => [(i, f, la.getD f 0)] | none => [] else []
/-- what the law lists -/
def wrG (b : TR) : List Ln → Nat → List Nat → List Int → List Wr
  | [], _, _, _ => []
  | l :: ls, i, fl, la => oneG l.1 fl (wy b l.2) i la ++ wrG b ls (i + 1) (hitL fl (wy b l.2)) (bfor b l.2 i la)
/-- the best flag of a fork that nothing is known of -/
def bestC (b : TR) (f : Nat) (ls : List Ln) : Nat := match ls.find? fun l => belB b f l.2 with
  | some l => if l.2 ≤ f then 82 else 76
  | none => 76
def bstL (b : TR) (st : List Nat) (ls : List Ln) : List Nat := (List.range (nS b - 1)).map fun f => if st[f]? = some 63 then bestC b f ls else st.getD f 0
structure Rel (b : TR) (st fl : List Nat) (ls : List Ln) : Prop where
  l1 : st.length + 1 = nS b
  l2 : fl.length + 1 = nS b
  at_ : ∀ f, f + 1 < nS b → (∃ x : Bool, st[f]? = some (cdB x) ∧ fl[f]? = some (cdB x)) ∨ (st[f]? = some 63 ∧ fl[f]? = some (bestC b f ls))
theorem cd_63 (x : Bool) : cdB x ≠ 63 := by cases x <;> decide
theorem pat_cases {c : Nat} (h : c ∈ [76, 82, 63]) : (∃ x : Bool, c = cdB x) ∨ c = 63 := by
  simp only [List.mem_cons, List.not_mem_nil, or_false] at h
  rcases h with rfl | rfl | rfl
  · exact .inl ⟨true, rfl⟩
  · exact .inl ⟨false, rfl⟩
  · exact .inr rfl
theorem rel_start {b : TR} {st : List Nat} {ls : List Ln} (hl : st.length + 1 = nS b) (hp : ∀ c ∈ st, c ∈ [76, 82, 63]) : Rel b st (bstL b st ls) ls := by
  refine ⟨hl, ?_, fun f hf => ?_⟩
  · unfold bstL
    rw [List.length_map, List.length_range]
    have := nS_pos b
    omega
  · obtain ⟨c, hc⟩ : ∃ c, st[f]? = some c := ⟨_, List.getElem?_eq_getElem (by omega)⟩
    have ef : (bstL b st ls)[f]? = some (if st[f]? = some 63 then bestC b f ls else st.getD f 0) := by
      unfold bstL
      rw [List.getElem?_map, List.getElem?_range (by omega)]
      rfl
    rcases pat_cases (hp c (List.mem_of_getElem? hc)) with ⟨x, rfl⟩ | rfl
    · left
      refine ⟨x, hc, ?_⟩
      rw [ef, hc, if_neg fun z => cd_63 x (Option.some.inj z), List.getD_eq_getElem?_getD, hc]
      rfl
    · right
      refine ⟨hc, ?_⟩
      rw [ef, hc, if_pos rfl]
theorem best_pass {b : TR} {f : Nat} {l : Ln} {ls : List Ln} (h : belB b f l.2 = true) : bestC b f (l :: ls) = cdB (!decide (l.2 ≤ f)) := by
  unfold bestC
  rw [List.find?_cons, h]
  show (if l.2 ≤ f then 82 else 76) = _
  by_cases h2 : l.2 ≤ f
  · rw [if_pos h2, decide_eq_true h2]
    rfl
  · rw [if_neg h2, decide_eq_false h2]
    rfl
theorem best_skip {b : TR} {f : Nat} {l : Ln} {ls : List Ln} (h : belB b f l.2 = false) : bestC b f (l :: ls) = bestC b f ls := by
  unfold bestC
  rw [List.find?_cons, h]
theorem rel_step {b : TR} {st fl : List Nat} {l : Ln} {ls : List Ln} (h : Rel b st fl (l :: ls)) (hs : l.2 < nS b) : Rel b (hitL st (wy b l.2)) (hitL fl (wy b l.2)) ls := by
  refine ⟨by rw [hitL_len]; exact h.l1, by rw [hitL_len]; exact h.l2, fun f hf => ?_⟩
  rw [hit_at hs hf h.l1, hit_at hs hf h.l2]
  cases hb : belB b f l.2 with
  | true =>
    rw [if_pos rfl, if_pos rfl]
    exact .inl ⟨_, rfl, rfl⟩
  | false =>
    rw [if_neg Bool.false_ne_true, if_neg Bool.false_ne_true]
    rcases h.at_ f hf with h1 | ⟨h1, h2⟩
    · exact .inl h1
    · rw [best_skip hb] at h2
      exact .inr ⟨h1, h2⟩
theorem cd_eq (x c : Bool) : decide (cdB x = cdB c) = (x == c) := by cases x <;> cases c <;> decide
theorem cd_82 (x : Bool) : decide (some (cdB x) ≠ some 82) = x := by cases x <;> decide
/-- the two ways to look for the first wrong fork are one -/
theorem rel_blk {b : TR} {st fl : List Nat} {l : Ln} {ls : List Ln} (h : Rel b st fl (l :: ls)) (hs : l.2 < nS b) : ∀ t ∈ wy b l.2, hitP st t = blk fl t := fun t ht => by
  have hf := wy_small hs t ht
  obtain ⟨hb, hc⟩ := (wy_bel hs hf (c := t.2)).mp ht
  unfold hitP blk
  rcases h.at_ t.1 hf with ⟨x, h1, h2⟩ | ⟨h1, h2⟩
  · rw [h1, h2, cd_82, ← cd_eq]
    exact decide_eq_decide.mpr ⟨fun z => Option.some.inj z, fun z => congrArg some z⟩
  · rw [h1, h2, best_pass hb, cd_82, ← hc]
    rw [decide_eq_false fun z => cd_63 t.2 (Option.some.inj z).symm]
    cases t.2 <;> rfl
theorem find_same {α : Type} {p q : α → Bool} : ∀ l : List α, (∀ x ∈ l, p x = q x) → l.find? p = l.find? q
  | [], _ => rfl
  | x :: l, h => by
    rw [List.find?_cons, List.find?_cons, h x (.head _), find_same l fun y hy => h y (.tail _ hy)]
theorem one_same {b : TR} {st fl : List Nat} {l : Ln} {ls : List Ln} {i : Nat} {la : List Int} (h : Rel b st fl (l :: ls)) (hs : l.2 < nS b) : oneP l.1 st (wy b l.2) i la = oneG l.1 fl (wy b l.2) i la := by
  unfold oneP oneG dep
  rw [find_same _ (rel_blk h hs)]
  cases (wy b l.2).find? (blk fl) <;> rfl
theorem wr_same {b : TR} : ∀ (ls : List Ln) (i : Nat) (st fl : List Nat) (la : List Int), Rel b st fl ls → la.length + 1 = nS b → (∀ l ∈ ls, l.2 < nS b) → wrP b ls i st la = wrG b ls i fl la
  | [], _, _, _, _, _, _, _ => rfl
  | l :: ls, i, st, fl, la, h, hl, hs => by
    have h0 := hs l (.head _)
    show oneP l.1 st (wy b l.2) i la ++ wrP b ls (i + 1) (hitL st (wy b l.2)) (latW i (wy b l.2) la) = oneG l.1 fl (wy b l.2) i la ++ wrG b ls (i + 1) (hitL fl (wy b l.2)) (bfor b l.2 i la)
    rw [one_same h h0, wr_same ls (i + 1) _ _ _ (rel_step h h0) (by rw [latW_len]; exact hl) fun x hx => hs x (.tail _ hx), latW_bfor h0 hl]
/-! ### all flags -/
theorem rev_ind {P : List Nat → Prop} (h0 : P []) (h1 : ∀ l c, P l → P (l ++ [c])) (l : List Nat) : P l := by
  have : ∀ m : List Nat, P m.reverse := fun m => by
    induction m with
    | nil => exact h0
    | cons c m ih =>
      rw [List.reverse_cons]
      exact h1 _ c ih
  have := this l.reverse
  rw [List.reverse_reverse] at this
  exact this
/-- step by step, from the front -/
def evrS (st : List Nat) : List (List Nat) := st.foldl (fun acc c => acc.flatMap fun fl => (if c ≠ 82 then [fl ++ [76]] else []) ++ if c ≠ 76 then [fl ++ [82]] else []) [[]]
def Fit (a st : List Nat) : Prop := a.length = st.length ∧ ∀ (f c : Nat), st[f]? = some c → (c ≠ 82 ∧ a[f]? = some 76) ∨ (c ≠ 76 ∧ a[f]? = some 82)
theorem evrS_snoc (st : List Nat) (c : Nat) : evrS (st ++ [c]) = (evrS st).flatMap fun fl => (if c ≠ 82 then [fl ++ [76]] else []) ++ if c ≠ 76 then [fl ++ [82]] else [] := by
  unfold evrS
  rw [List.foldl_append]
  rfl
theorem evrS_len (st : List Nat) : (evrS st).length ≤ 2 ^ st.length := by
  refine rev_ind (P := fun st => (evrS st).length ≤ 2 ^ st.length) (Nat.le_refl 1) (fun st c ih => ?_) st
  · rw [evrS_snoc, List.length_append, List.length_singleton, Nat.pow_succ, List.length_flatMap]
    have : ∀ (L : List (List Nat)), (L.map fun fl => ((if c ≠ 82 then [fl ++ [76]] else []) ++ if c ≠ 76 then [fl ++ [82]] else [] : List (List Nat)).length).sum ≤ L.length * 2 := by
      intro L
      induction L with
      | nil => exact Nat.le_refl 0
      | cons x L ih =>
        rw [List.map_cons, List.sum_cons, List.length_cons, List.length_append]
        have h1 : (if c ≠ 82 then [x ++ [76]] else [] : List (List Nat)).length ≤ 1 := by split <;> first | exact Nat.le_refl 1 | exact Nat.zero_le 1
        have h2 : (if c ≠ 76 then [x ++ [82]] else [] : List (List Nat)).length ≤ 1 := by split <;> first | exact Nat.le_refl 1 | exact Nat.zero_le 1
        omega
    have := this (evrS st)
    omega
theorem evrS_mem (st : List Nat) : ∀ a, a ∈ evrS st ↔ Fit a st := by
  refine rev_ind (P := fun st => ∀ a, a ∈ evrS st ↔ Fit a st) ?_ (fun st c ih => ?_) st
  · intro a
    constructor
    · intro h
      rw [List.mem_singleton.mp (show a ∈ [[]] from h)]
      exact ⟨rfl, fun f c z => nomatch z⟩
    · rintro ⟨h, _⟩
      rw [List.length_eq_zero_iff.mp h]
      exact .head _
  · intro a
    rw [evrS_snoc, List.mem_flatMap]
    have key : ∀ (x : List Nat) (d : Nat), x.length = st.length → (∀ (f e : Nat), st[f]? = some e → (e ≠ 82 ∧ x[f]? = some 76) ∨ (e ≠ 76 ∧ x[f]? = some 82)) → ((c ≠ 82 ∧ d = 76) ∨ (c ≠ 76 ∧ d = 82)) → Fit (x ++ [d]) (st ++ [c]) := fun x d h1 h2 h3 => by
      refine ⟨by rw [List.length_append, List.length_append, h1]; rfl, fun f e he => ?_⟩
      rcases Nat.lt_or_ge f st.length with hf | hf
      · rw [List.getElem?_append_left hf] at he
        rw [List.getElem?_append_left (by omega)]
        exact h2 f e he
      · rw [List.getElem?_append_right hf] at he
        rw [List.getElem?_append_right (by omega), h1]
        cases hk : f - st.length with
        | zero =>
          rw [hk] at he
          cases he
          rcases h3 with ⟨h3, rfl⟩ | ⟨h3, rfl⟩
          · exact .inl ⟨h3, rfl⟩
          · exact .inr ⟨h3, rfl⟩
        | succ k =>
          rw [hk] at he
          cases he
    constructor
    · rintro ⟨x, hx, h⟩
      obtain ⟨h1, h2⟩ := (ih x).mp hx
      rcases List.mem_append.mp h with h | h
      · by_cases hc : c ≠ 82
        · rw [if_pos hc] at h
          rw [List.mem_singleton.mp h]
          exact key x 76 h1 h2 (.inl ⟨hc, rfl⟩)
        · rw [if_neg hc] at h
          nomatch h
      · by_cases hc : c ≠ 76
        · rw [if_pos hc] at h
          rw [List.mem_singleton.mp h]
          exact key x 82 h1 h2 (.inr ⟨hc, rfl⟩)
        · rw [if_neg hc] at h
          nomatch h
    · rintro ⟨h1, h2⟩
      rw [List.length_append, List.length_singleton] at h1
      obtain ⟨x, d, rfl⟩ : ∃ x d, a = x ++ [d] := by
        have hne : a ≠ [] := fun z => by
          rw [z] at h1
          cases h1
        exact ⟨a.dropLast, a.getLast hne, (List.dropLast_concat_getLast hne).symm⟩
      rw [List.length_append, List.length_singleton] at h1
      have hx : Fit x st := by
        refine ⟨by omega, fun f e he => ?_⟩
        have hf := (List.getElem?_eq_some_iff.mp he).1
        have := h2 f e (by rw [List.getElem?_append_left hf]; exact he)
        rw [List.getElem?_append_left (by omega)] at this
        exact this
      refine ⟨x, (ih x).mpr hx, ?_⟩
      have hl := h2 st.length c (by rw [List.getElem?_append_right (Nat.le_refl _), Nat.sub_self]; rfl)
      rw [List.getElem?_append_right (by omega), show st.length - x.length = 0 by omega] at hl
      rcases hl with ⟨h3, h4⟩ | ⟨h3, h4⟩
      · cases h4
        refine List.mem_append_left _ ?_
        rw [if_pos h3]
        exact .head _
      · cases h4
        refine List.mem_append_right _ ?_
        rw [if_pos h3]
        exact .head _
def fbaG (b : TR) : List Ln → Nat → List (List Nat) → Option Nat
  | [], _, _ => none
  | l :: ls, i, al => if (if l.1 then al.filter fun a => (dep a (wy b l.2)).isNone else al) = [] then some i else fbaG b ls (i + 1) ((if l.1 then al.filter fun a => (dep a (wy b l.2)).isNone else al).map fun a => hitL a (wy b l.2))
structure Kn (b : TR) (st fl : List Nat) (al : List (List Nat)) : Prop where
  mem : fl ∈ al
  kn : ∀ a ∈ al, a.length + 1 = nS b ∧ ∀ f (x : Bool), f + 1 < nS b → st[f]? = some (cdB x) → a[f]? = some (cdB x)
theorem kn_step {b : TR} {st fl : List Nat} {al al2 : List (List Nat)} {l : Ln} (k : Kn b st fl al) (h1 : st.length + 1 = nS b) (hs : l.2 < nS b) (hm : fl ∈ al2) (sub : ∀ a ∈ al2, a ∈ al) : Kn b (hitL st (wy b l.2)) (hitL fl (wy b l.2)) (al2.map fun a => hitL a (wy b l.2)) := by
  refine ⟨List.mem_map.mpr ⟨fl, hm, rfl⟩, fun a ha => ?_⟩
  obtain ⟨a0, h0, rfl⟩ := List.mem_map.mp ha
  obtain ⟨k1, k2⟩ := k.kn a0 (sub a0 h0)
  refine ⟨by rw [hitL_len]; exact k1, fun f x hf he => ?_⟩
  rw [hit_at hs hf h1] at he
  rw [hit_at hs hf k1]
  split at he
  · rename_i hb
    rw [if_pos hb]
    exact he
  · rename_i hb
    rw [if_neg hb]
    exact k2 f x hf he
theorem fba_wr {b : TR} : ∀ (ls : List Ln) (i : Nat) (st fl : List Nat) (la : List Int) (al : List (List Nat)), Rel b st fl ls → Kn b st fl al → (∀ l ∈ ls, l.2 < nS b) → fbaG b ls i al = (wrG b ls i fl la).head?.map Prod.fst
  | [], _, _, _, _, _, _, _, _ => rfl
  | l :: ls, i, st, fl, la, al, h, k, hs => by
    have h0 := hs l (.head _)
    have hs2 : ∀ x ∈ ls, x.2 < nS b := fun x hx => hs x (.tail _ hx)
    unfold fbaG wrG
    obtain ⟨kd, s⟩ := l
    cases kd with
    | false =>
      rw [if_neg (show ¬ ((if (false, s).1 = true then al.filter fun a => (dep a (wy b (false, s).2)).isNone else al) = []) from fun z => by
        have z : al = [] := z
        rw [z] at k
        exact nomatch k.mem)]
      exact fba_wr ls (i + 1) _ _ _ _ (rel_step h h0) (kn_step k h.l1 h0 k.mem fun _ z => z) hs2
    | true =>
      show (if al.filter (fun a => (dep a (wy b s)).isNone) = [] then some i else fbaG b ls (i + 1) ((al.filter fun a => (dep a (wy b s)).isNone).map fun a => hitL a (wy b s))) = _
      cases hd : dep fl (wy b s) with
      | none =>
        have hm : fl ∈ al.filter fun a => (dep a (wy b s)).isNone := List.mem_filter.mpr ⟨k.mem, by rw [hd]; rfl⟩
        rw [if_neg fun z => by rw [z] at hm; nomatch hm]
        have e1 : oneG true fl (wy b s) i la = [] := by
          unfold oneG
          rw [hd]
          rfl
        show _ = (oneG true fl (wy b s) i la ++ _).head?.map Prod.fst
        rw [e1, List.nil_append]
        exact fba_wr ls (i + 1) _ _ _ _ (rel_step h h0) (kn_step k h.l1 h0 hm fun a ha => (List.mem_filter.mp ha).1) hs2
      | some f0 =>
        have e1 : oneG true fl (wy b s) i la = [(i, f0, la.getD f0 0)] := by
          unfold oneG
          rw [hd]
          rfl
        show _ = (oneG true fl (wy b s) i la ++ _).head?.map Prod.fst
        rw [e1]
        refine if_pos (List.filter_eq_nil_iff.mpr fun a ha z => ?_)
        have hz : dep a (wy b s) = none := Option.isNone_iff_eq_none.mp z
        rw [dep_none] at hz
        unfold dep at hd
        obtain ⟨t, ht, rfl⟩ := Option.map_eq_some_iff.mp hd
        have htm := List.mem_of_find?_eq_some ht
        have htb : blk fl t = true := List.find?_some ht
        have hf := wy_small h0 t htm
        have hp := rel_blk h h0 t htm
        rw [htb] at hp
        have hp : st[t.1]? = some (cdB t.2) := of_decide_eq_true hp
        have := (k.kn a ha).2 t.1 t.2 hf hp
        have h9 := hz t htm
        unfold blk at h9
        rw [this, cd_82] at h9
        simp at h9
theorem kn_start {b : TR} {st : List Nat} {ls : List Ln} (hl : st.length + 1 = nS b) (hp : ∀ c ∈ st, c ∈ [76, 82, 63]) : Kn b st (bstL b st ls) (evrS st) := by
  have r := rel_start (ls := ls) hl hp
  refine ⟨(evrS_mem st _).mpr ⟨by have := r.l2; omega, fun f c hc => ?_⟩, fun a ha => ?_⟩
  · have hf := (List.getElem?_eq_some_iff.mp hc).1
    rcases r.at_ f (by omega) with ⟨x, h1, h2⟩ | ⟨h1, h2⟩
    · rw [hc] at h1
      cases h1
      rw [h2]
      cases x
      · exact .inr ⟨by decide, rfl⟩
      · exact .inl ⟨by decide, rfl⟩
    · rw [hc] at h1
      cases h1
      rw [h2]
      unfold bestC
      split
      · split
        · exact .inr ⟨by decide, rfl⟩
        · exact .inl ⟨by decide, rfl⟩
      · exact .inl ⟨by decide, rfl⟩
  · obtain ⟨h1, h2⟩ := (evrS_mem st a).mp ha
    refine ⟨by omega, fun f x hf he => ?_⟩
    rcases h2 f _ he with ⟨h3, h4⟩ | ⟨h3, h4⟩
    · rw [h4]
      cases x
      · exact absurd rfl h3
      · rfl
    · rw [h4]
      cases x
      · rfl
      · exact absurd rfl h3
end TR
namespace TR
open PySem L2 SY
/-! ### rules: a hit turns, a load turns, a load goes against the flags -/
abbrev Rl := Bool × Bool × Bool
def rls : List Rl := [(true, true, true), (true, true, false), (true, false, true), (true, false, false), (false, true, true), (false, true, false), (false, false, true), (false, false, false)]
theorem rls_all (r : Rl) : r ∈ rls := by
  obtain ⟨a, b, c⟩ := r
  cases a <;> cases b <;> cases c <;> decide
def turnR (r : Rl) (k : Bool) : Bool := if k then r.2.1 else r.1
def trnW (t : Bool) (st : List Nat) (w : Way) : List Nat := if t then hitL st w else st
def trnL (b : TR) (r : Rl) (k : Bool) (st : List Nat) (s : Nat) : List Nat := trnW (turnR r k) st (wy b s)
theorem trnW_len (t : Bool) (st : List Nat) (w : Way) : (trnW t st w).length = st.length := by
  unfold trnW
  split
  · exact hitL_len w st
  · rfl
theorem trnL_len (b : TR) (r : Rl) (k : Bool) (st : List Nat) (s : Nat) : (trnL b r k st s).length = st.length := trnW_len _ _ _
def wrgR (g : Bool) (st : List Nat) (t : Nat × Bool) : Bool := hitP st t == g
def wrfL (r : Rl) (st : List Nat) (w : Way) : Option Nat := (w.find? (wrgR r.2.2 st)).map Prod.fst
def fwR (b : TR) (r : Rl) : List Ln → Nat → List Nat → Option (Nat × Nat)
  | [], _, _ => none
  | l :: ls, i, st => match (if l.1 then wrfL r st (wy b l.2) else none) with
    | some f => some (i, f)
    | none => fwR b r ls (i + 1) (trnL b r l.1 st l.2)
def fbL (b : TR) (r : Rl) (st : List Nat) (run : List Ln) : List Nat := run.foldl (fun st l => trnL b r l.1 st l.2) st
theorem fbL_snoc (b : TR) (r : Rl) (st : List Nat) (run : List Ln) (l : Ln) : fbL b r st (run ++ [l]) = trnL b r l.1 (fbL b r st run) l.2 := by
  unfold fbL
  rw [List.foldl_append]
  rfl
theorem fbL_len (b : TR) (r : Rl) : ∀ (run : List Ln) (st : List Nat), (fbL b r st run).length = st.length
  | [], _ => rfl
  | l :: ls, st => (fbL_len b r ls _).trans (trnL_len b r l.1 st l.2)
/-- the first wrong line, as seen from the left -/
def fwS (r : Rl) (w : Option (Nat × Nat)) (k : Bool) (i : Nat) (st : List Nat) (wy : Way) : Option (Nat × Nat) := match w with
  | some x => some x
  | none => if k then (wrfL r st wy).map fun f => (i, f) else none
def fwA (b : TR) (r : Rl) : List Ln → Nat → List Nat → Option (Nat × Nat) → Option (Nat × Nat)
  | [], _, _, w => w
  | l :: ls, i, st, w => fwA b r ls (i + 1) (trnL b r l.1 st l.2) (fwS r w l.1 i st (wy b l.2))
theorem fwA_some (b : TR) (r : Rl) : ∀ (ls : List Ln) (i : Nat) (st : List Nat) (x : Nat × Nat), fwA b r ls i st (some x) = some x
  | [], _, _, _ => rfl
  | l :: ls, i, st, x => fwA_some b r ls (i + 1) _ x
theorem fwA_eq (b : TR) (r : Rl) : ∀ (ls : List Ln) (i : Nat) (st : List Nat), fwA b r ls i st none = fwR b r ls i st
  | [], _, _ => rfl
  | l :: ls, i, st => by
    show fwA b r ls (i + 1) (trnL b r l.1 st l.2) (if l.1 then (wrfL r st (wy b l.2)).map fun f => (i, f) else none) = match (if l.1 then wrfL r st (wy b l.2) else none) with
      | some f => some (i, f)
      | none => fwR b r ls (i + 1) (trnL b r l.1 st l.2)
    cases l.1 with
    | false => exact fwA_eq b r ls (i + 1) _
    | true =>
      rw [if_pos rfl, if_pos rfl]
      cases wrfL r st (wy b l.2) with
      | none => exact fwA_eq b r ls (i + 1) _
      | some f => exact fwA_some b r ls (i + 1) _ _
/-- the state after i lines -/
def fwT (b : TR) (r : Rl) (st : List Nat) (run : List Ln) (i : Nat) : Option (Nat × Nat) := fwA b r (run.take i) 0 st none
theorem fwA_snoc (b : TR) (r : Rl) (l : Ln) : ∀ (ls : List Ln) (i : Nat) (st : List Nat) (w : Option (Nat × Nat)), fwA b r (ls ++ [l]) i st w = fwS r (fwA b r ls i st w) l.1 (i + ls.length) (fbL b r st ls) (wy b l.2)
  | [], i, st, w => rfl
  | m :: ls, i, st, w => by
    show fwA b r (ls ++ [l]) (i + 1) _ _ = _
    rw [fwA_snoc b r l ls (i + 1)]
    show fwS r (fwA b r ls (i + 1) _ _) l.1 (i + 1 + ls.length) (fbL b r _ ls) _ = fwS r (fwA b r ls (i + 1) _ _) l.1 (i + (ls.length + 1)) _ _
    rw [show i + 1 + ls.length = i + (ls.length + 1) by omega]
    rfl
theorem fwT_more (b : TR) (r : Rl) (st : List Nat) (run : List Ln) (i : Nat) (l : Ln) (h : run[i]? = some l) : fwT b r st run (i + 1) = fwS r (fwT b r st run i) l.1 i (fbL b r st (run.take i)) (wy b l.2) := by
  unfold fwT
  rw [take_more h, fwA_snoc, List.length_take]
  have := (List.getElem?_eq_some_iff.mp h).1
  rw [Nat.min_eq_left (by omega), Nat.zero_add]
theorem fwT_all (b : TR) (r : Rl) (st : List Nat) (run : List Ln) : fwT b r st run run.length = fwR b r run 0 st := by
  unfold fwT
  rw [List.take_length, fwA_eq]
/-- within a way: what a fork shows is not yet turned -/
theorem trn_fresh {t : Bool} {st : List Nat} {u v : Way} {x : Nat × Bool} (nd : ((u ++ x :: v).map Prod.fst).Nodup) : (trnW t st u)[x.1]? = st[x.1]? := by
  unfold trnW
  split
  · refine hit_off u st x.1 fun c hc => ?_
    rw [List.map_append] at nd
    exact (List.nodup_append.mp nd).2.2 x.1 (List.mem_map.mpr ⟨(x.1, c), hc, rfl⟩) x.1 (List.mem_map.mpr ⟨x, .head _, rfl⟩) rfl
  · rfl
theorem trnW_snoc (t : Bool) (st : List Nat) (u : Way) (x : Nat × Bool) : trnW t st (u ++ [x]) = if t then (trnW t st u).set x.1 (cdB x.2) else trnW t st u := by
  unfold trnW
  cases t with
  | true =>
    rw [if_pos rfl, if_pos rfl, if_pos rfl]
    unfold hitL
    rw [List.foldl_append]
    rfl
  | false => rw [if_neg Bool.false_ne_true, if_neg Bool.false_ne_true, if_neg Bool.false_ne_true]
theorem wrf_snoc (r : Rl) (st : List Nat) (u : Way) (x : Nat × Bool) : wrfL r st (u ++ [x]) = (wrfL r st u).or (if wrgR r.2.2 st x then some x.1 else none) := by
  unfold wrfL
  rw [List.find?_append]
  cases u.find? (wrgR r.2.2 st) with
  | some y => rfl
  | none =>
    show ([x].find? (wrgR r.2.2 st)).map Prod.fst = _
    rw [List.find?_cons]
    cases wrgR r.2.2 st x <;> rfl
theorem fwS_snoc (r : Rl) (w : Option (Nat × Nat)) (k : Bool) (i : Nat) (st : List Nat) (u : Way) (x : Nat × Bool) : fwS r w k i st (u ++ [x]) = if (fwS r w k i st u).isNone && k && wrgR r.2.2 st x then some (i, x.1) else fwS r w k i st u := by
  unfold fwS
  cases w with
  | some y => rfl
  | none =>
    cases k with
    | false => rfl
    | true =>
      show (wrfL r st (u ++ [x])).map (fun f => (i, f)) = if ((wrfL r st u).map (fun f => (i, f))).isNone && true && wrgR r.2.2 st x then some (i, x.1) else (wrfL r st u).map fun f => (i, f)
      rw [wrf_snoc]
      cases wrfL r st u with
      | some f => rfl
      | none => cases wrgR r.2.2 st x <;> rfl
theorem fwS_nil (r : Rl) (w : Option (Nat × Nat)) (k : Bool) (i : Nat) (st : List Nat) : fwS r w k i st [] = w := by
  unfold fwS
  cases w with
  | some _ => rfl
  | none => cases k <;> rfl
/-! ### the victim -/
def vicN : TR → Nat → List Nat → Bool → Nat
  | leaf, o, _, _ => o
  | node l r, o, st, g => if decide (st[o + nS l - 1]? = some 76) == !g then vicN l o st g else vicN r (o + nS l) st g
theorem vic_in : ∀ (b : TR) (o : Nat) (st : List Nat) (g : Bool), o ≤ vicN b o st g ∧ vicN b o st g < o + nS b
  | leaf, o, st, g => ⟨Nat.le_refl _, Nat.lt_succ_self _⟩
  | node l r, o, st, g => by
    have h1 := vic_in l o st g
    have h2 := vic_in r (o + nS l) st g
    have e : nS (node l r) = nS l + nS r := rfl
    have p1 := nS_pos l
    have p2 := nS_pos r
    show o ≤ (if _ then _ else _) ∧ (if _ then _ else _) < _
    split <;> omega
/-! ### same rules; the search -/
def smB (b : TR) (r o : Rl) : Bool := (decide (r = o) || decide (nS b = 1)) || ((!r.2.2 && !o.2.2) && (r.1 == o.1))
abbrev Pf := List Nat × List Nat
def stpS (n g : Nat) : List (Bool × Nat) := ((List.range n).map fun s => (false, s)) ++ [(true, g)]
def addS (b : TR) (r o : Rl) (p : Pf) (met : List Pf) (q : Bool × Nat) : List Pf :=
  if met.contains (trnL b r q.1 p.1 q.2, trnL b o q.1 p.2 q.2) then met else met ++ [(trnL b r q.1 p.1 q.2, trnL b o q.1 p.2 q.2)]
def rchS (b : TR) (r o : Rl) : Nat → Nat → List Pf → Bool
  | 0, _, _ => true
  | n + 1, k, met => match met[k]? with
    | none => true
    | some p => if vicN b 0 p.1 r.2.2 = vicN b 0 p.2 o.2.2 then rchS b r o n (k + 1) ((stpS (nS b) (vicN b 0 p.1 r.2.2)).foldl (addS b r o p) met) else false
def tr4 : List TR := let t1 := leaf; let t2 := node t1 t1; let t3a := node t1 t2; let t3b := node t2 t1
  [t1, t2, t3a, t3b, node t1 t3a, node t1 t3b, node t2 t2, node t3a t1, node t3b t1]
theorem tr1_all {b : TR} (h : nS b = 1) : b = leaf := by
  cases b with
  | leaf => rfl
  | node l r => have h1 := nS_pos l; have h2 := nS_pos r; have : nS l + nS r = 1 := h; omega
theorem tr2_all {b : TR} (h : nS b = 2) : b = node leaf leaf := by
  cases b with
  | leaf => exact absurd h (by decide)
  | node l r => have h1 := nS_pos l; have h2 := nS_pos r; have : nS l + nS r = 2 := h; rw [tr1_all (b := l) (by omega), tr1_all (b := r) (by omega)]
theorem tr3_all {b : TR} (h : nS b = 3) : b = node leaf (node leaf leaf) ∨ b = node (node leaf leaf) leaf := by
  cases b with
  | leaf => exact absurd h (by decide)
  | node l r =>
    have h1 := nS_pos l; have h2 := nS_pos r; have : nS l + nS r = 3 := h
    by_cases e : nS l = 1
    · rw [tr1_all e, tr2_all (b := r) (by omega)]; exact .inl rfl
    · rw [tr2_all (b := l) (by omega), tr1_all (b := r) (by omega)]; exact .inr rfl
theorem tr4_all {b : TR} (h : nS b ≤ 4) : b ∈ tr4 := by
  have p := nS_pos b
  by_cases e1 : nS b = 1
  · rw [tr1_all e1]; simp [tr4]
  by_cases e2 : nS b = 2
  · rw [tr2_all e2]; simp [tr4]
  by_cases e3 : nS b = 3
  · rcases tr3_all e3 with e | e <;> rw [e] <;> simp [tr4]
  cases b with
  | leaf => exact absurd rfl e1
  | node l r =>
    have h1 := nS_pos l; have h2 := nS_pos r; have : nS (node l r) = nS l + nS r := rfl
    by_cases f1 : nS l = 1
    · rcases tr3_all (b := r) (by omega) with e | e <;> rw [tr1_all f1, e] <;> simp [tr4]
    by_cases f2 : nS l = 2
    · rw [tr2_all f2, tr2_all (b := r) (by omega)]; simp [tr4]
    · rcases tr3_all (b := l) (by omega) with e | e <;> rw [tr1_all (b := r) (by omega), e] <;> simp [tr4]
def flsN : Nat → List (List Nat)
  | 0 => [[]]
  | n + 1 => (flsN n).flatMap fun l => [76 :: l, 82 :: l]
def flgOk (st : List Nat) : Prop := ∀ c ∈ st, c = 76 ∨ c = 82
theorem fls_all : ∀ (st : List Nat), flgOk st → st ∈ flsN st.length
  | [], _ => .head _
  | c :: st, h => by
    refine List.mem_flatMap.mpr ⟨st, fls_all st fun x hx => h x (.tail _ hx), ?_⟩
    rcases h c (.head _) with rfl | rfl
    · exact .head _
    · exact .tail _ (.head _)
theorem rch_table : ∀ b ∈ tr4, ∀ st ∈ flsN (nS b - 1), ∀ r ∈ rls, ∀ o ∈ rls, rchS b r o 64 0 [(st, st)] = smB b r o := by decide +kernel
theorem rch_same {b : TR} {st : List Nat} (r o : Rl) (h : nS b ≤ 4) (hl : st.length + 1 = nS b) (hf : flgOk st) : rchS b r o 64 0 [(st, st)] = smB b r o := by
  refine rch_table b (tr4_all h) st ?_ r (rls_all r) o (rls_all o)
  rw [show nS b - 1 = st.length by omega]
  exact fls_all st hf
/-! ### the law's table of forks -/
def keyP (q : Nat × Nat) : List Key := [.inl (q.1 : Nat), .inl (q.2 : Nat)]
def topK : TR → Nat → List Key → Option V
  | leaf, _, _ => none
  | node l r, o, k => (topK r (o + nS l) k).or ((topK l o k).or (if k = keyP (o, o + nS l + nS r - 1) then some (.int (o + nS l - 1 : Nat)) else none))
theorem keyP_inj {p q : Nat × Nat} (h : keyP p = keyP q) : p = q := by
  have h1 := List.head_eq_of_cons_eq h
  have h2 := List.head_eq_of_cons_eq (List.tail_eq_of_cons_eq h)
  have e1 := Int.ofNat.inj (Sum.inl.inj h1)
  have e2 := Int.ofNat.inj (Sum.inl.inj h2)
  exact Prod.ext e1 e2
theorem topK_rng : ∀ (b : TR) (o : Nat) (k : List Key) (v : V), topK b o k = some v → ∃ i j, k = keyP (i, j) ∧ o ≤ i ∧ j < o + nS b ∧ i < j
  | leaf, _, _, _, h => nomatch h
  | node l r, o, k, v, h => by
    have e : nS (node l r) = nS l + nS r := rfl
    have p1 := nS_pos l
    have p2 := nS_pos r
    have h : (topK r (o + nS l) k).or ((topK l o k).or (if k = keyP (o, o + nS l + nS r - 1) then some (.int (o + nS l - 1 : Nat)) else none)) = some v := h
    cases h1 : topK r (o + nS l) k with
    | some x =>
      obtain ⟨i, j, e1, e2, e3, e4⟩ := topK_rng r _ k x h1
      exact ⟨i, j, e1, by omega, by omega, e4⟩
    | none =>
      cases h2 : topK l o k with
      | some x =>
        obtain ⟨i, j, e1, e2, e3, e4⟩ := topK_rng l _ k x h2
        exact ⟨i, j, e1, e2, by omega, e4⟩
      | none =>
        rw [h1, h2] at h
        have h : (if k = keyP (o, o + nS l + nS r - 1) then some (V.int (o + nS l - 1 : Nat)) else none) = some v := h
        split at h
        · rename_i ek
          exact ⟨_, _, ek, Nat.le_refl _, by omega, by omega⟩
        · cases h
theorem topK_no {b : TR} {o i j : Nat} (h : ¬ (o ≤ i ∧ j < o + nS b ∧ i < j)) : topK b o (keyP (i, j)) = none := by
  cases e : topK b o (keyP (i, j)) with
  | none => rfl
  | some v =>
    obtain ⟨i2, j2, e1, e2⟩ := topK_rng b o _ v e
    have := keyP_inj e1
    injection this with a1 a2
    subst a1 a2
    exact absurd e2 h
theorem topK_here (l r : TR) (o : Nat) : topK (node l r) o (keyP (o, o + nS l + nS r - 1)) = some (.int (o + nS l - 1 : Nat)) := by
  have p1 := nS_pos l
  have p2 := nS_pos r
  show (topK r (o + nS l) _).or ((topK l o _).or (if _ then _ else _)) = _
  rw [topK_no (by omega), topK_no (by omega), if_pos rfl]
  rfl
theorem topK_dn {b : TR} {o : Nat} {t : TR} {p : Nat} {w : Way} (h : Dn b o t p w) : ∀ i j, p ≤ i → j < p + nS t → i < j → topK b o (keyP (i, j)) = topK t p (keyP (i, j)) := by
  induction h with
  | here => exact fun _ _ _ _ _ => rfl
  | @left l r p w _ ih =>
    intro i j h1 h2 h3
    have e : nS (node l r) = nS l + nS r := rfl
    have p2 := nS_pos r
    rw [ih i j h1 (by omega) h3]
    show (topK r (p + nS l) _).or ((topK l p _).or (if _ then _ else _)) = _
    rw [topK_no (by omega), if_neg (fun z => by have := keyP_inj z; injection this with a1 a2; omega)]
    show (topK l p (keyP (i, j))).or none = _
    cases topK l p (keyP (i, j)) <;> rfl
  | @right l r p w _ ih =>
    intro i j h1 h2 h3
    have e : nS (node l r) = nS l + nS r := rfl
    have p1 := nS_pos l
    rw [ih i j (by omega) (by omega) h3]
    show (topK r (p + nS l) _).or ((topK l p _).or (if _ then _ else _)) = _
    rw [show topK l p (keyP (i, j)) = none from topK_no (by omega), if_neg (fun z => by have := keyP_inj z; injection this with a1 a2; omega)]
    cases topK r (p + nS l) (keyP (i, j)) <;> rfl
theorem topK_at {b l r : TR} {p : Nat} {w : Way} (h : Dn b 0 (node l r) p w) : topK b 0 (keyP (p, p + nS (node l r) - 1)) = some (.int (p + nS l - 1 : Nat)) := by
  have p1 := nS_pos l
  have p2 := nS_pos r
  have e : nS (node l r) = nS l + nS r := rfl
  rw [topK_dn h p (p + nS (node l r) - 1) (Nat.le_refl _) (by omega) (by omega), show p + nS (node l r) - 1 = p + nS l + nS r - 1 by omega, topK_here]
end TR
end LW
namespace LW
open PySem PySem.Spec PyProof.Rows L2 SY
/-! ### the text -/
def topS (i : Nat) : Stmt := PySem.Challenge.pw_lastside_k34_whole_rules.main.body.getD i (.Pass ⟨0, 0, 0, 0⟩)
abbrev s_wall : Stmt := topS 0
abbrev N_wall : List Str := ["k"]
theorem sc_wall : FnScope N_wall ["k"] (defScope s_wall) := ⟨rfl, rfl, rfl, by decide +kernel, rfl, by decide +kernel, by decide +kernel⟩
abbrev s_InvalidTree_init : Stmt := inClass (topS 3) 0
abbrev N_InvalidTree_init : List Str := ["self", "text"]
theorem sc_InvalidTree_init : FnScope N_InvalidTree_init ["self", "text"] (defScope s_InvalidTree_init) := ⟨rfl, rfl, rfl, by decide +kernel, rfl, by decide +kernel, by decide +kernel⟩
abbrev s_InvalidFlags_init : Stmt := inClass (topS 4) 0
abbrev N_InvalidFlags_init : List Str := ["self", "flags"]
theorem sc_InvalidFlags_init : FnScope N_InvalidFlags_init ["self", "flags"] (defScope s_InvalidFlags_init) := ⟨rfl, rfl, rfl, by decide +kernel, rfl, by decide +kernel, by decide +kernel⟩
abbrev s_InvalidLine_init : Stmt := inClass (topS 5) 0
abbrev N_InvalidLine_init : List Str := ["self", "index"]
theorem sc_InvalidLine_init : FnScope N_InvalidLine_init ["self", "index"] (defScope s_InvalidLine_init) := ⟨rfl, rfl, rfl, by decide +kernel, rfl, by decide +kernel, by decide +kernel⟩
abbrev s_InvalidRule_init : Stmt := inClass (topS 6) 0
abbrev N_InvalidRule_init : List Str := ["self", "rule"]
theorem sc_InvalidRule_init : FnScope N_InvalidRule_init ["self", "rule"] (defScope s_InvalidRule_init) := ⟨rfl, rfl, rfl, by decide +kernel, rfl, by decide +kernel, by decide +kernel⟩
abbrev s_TooMany_init : Stmt := inClass (topS 7) 0
abbrev N_TooMany_init : List Str := ["self", "most"]
theorem sc_TooMany_init : FnScope N_TooMany_init ["self", "most"] (defScope s_TooMany_init) := ⟨rfl, rfl, rfl, by decide +kernel, rfl, by decide +kernel, by decide +kernel⟩
abbrev s_is_integer : Stmt := topS 11
abbrev N_is_integer : List Str := ["value"]
theorem sc_is_integer : FnScope N_is_integer ["value"] (defScope s_is_integer) := ⟨rfl, rfl, rfl, by decide +kernel, rfl, by decide +kernel, by decide +kernel⟩
abbrev s_is_place : Stmt := topS 12
abbrev N_is_place : List Str := ["many", "value"]
theorem sc_is_place : FnScope N_is_place ["many", "value"] (defScope s_is_place) := ⟨rfl, rfl, rfl, by decide +kernel, rfl, by decide +kernel, by decide +kernel⟩
abbrev s_is_made_of : Stmt := topS 13
abbrev N_is_made_of : List Str := ["value", "signs", "sign"]
theorem sc_is_made_of : FnScope N_is_made_of ["value", "signs"] (defScope s_is_made_of) := ⟨rfl, rfl, rfl, by decide +kernel, rfl, by decide +kernel, by decide +kernel⟩
abbrev s_is_line : Stmt := topS 14
abbrev N_is_line : List Str := ["many", "value"]
theorem sc_is_line : FnScope N_is_line ["many", "value"] (defScope s_is_line) := ⟨rfl, rfl, rfl, by decide +kernel, rfl, by decide +kernel, by decide +kernel⟩
abbrev s_checked_flags : Stmt := topS 15
abbrev N_checked_flags : List Str := ["tree", "flags"]
theorem sc_checked_flags : FnScope N_checked_flags ["tree", "flags"] (defScope s_checked_flags) := ⟨rfl, rfl, rfl, by decide +kernel, rfl, by decide +kernel, by decide +kernel⟩
abbrev s_checked_run : Stmt := topS 16
abbrev N_checked_run : List Str := ["tree", "run"]
theorem sc_checked_run : FnScope N_checked_run ["tree", "run"] (defScope s_checked_run) := ⟨rfl, rfl, rfl, by decide +kernel, rfl, by decide +kernel, by decide +kernel⟩
abbrev s_checked_lines : Stmt := topS 17
abbrev N_checked_lines : List Str := ["many", "run", "index", "line"]
theorem sc_checked_lines : FnScope N_checked_lines ["many", "run"] (defScope s_checked_lines) := ⟨rfl, rfl, rfl, by decide +kernel, rfl, by decide +kernel, by decide +kernel⟩
abbrev s_turned : Stmt := topS 19
abbrev N_turned : List Str := ["tree", "flags", "slot", "characters", "fork", "side"]
theorem sc_turned : FnScope N_turned ["tree", "flags", "slot"] (defScope s_turned) := ⟨rfl, rfl, rfl, by decide +kernel, rfl, by decide +kernel, by decide +kernel⟩
abbrev s_checked_rule : Stmt := topS 22
abbrev N_checked_rule : List Str := ["rule"]
theorem sc_checked_rule : FnScope N_checked_rule ["rule"] (defScope s_checked_rule) := ⟨rfl, rfl, rfl, by decide +kernel, rfl, by decide +kernel, by decide +kernel⟩
abbrev s_turned_by : Stmt := topS 23
abbrev N_turned_by : List Str := ["tree", "rule", "flags", "kind", "slot", "letter"]
theorem sc_turned_by : FnScope N_turned_by ["tree", "rule", "flags", "kind", "slot"] (defScope s_turned_by) := ⟨rfl, rfl, rfl, by decide +kernel, rfl, by decide +kernel, by decide +kernel⟩
abbrev s_goes_against : Stmt := topS 24
abbrev N_goes_against : List Str := ["rule"]
theorem sc_goes_against : FnScope N_goes_against ["rule"] (defScope s_goes_against) := ⟨rfl, rfl, rfl, by decide +kernel, rfl, by decide +kernel, by decide +kernel⟩
abbrev s_wrong_fork : Stmt := topS 25
abbrev N_wrong_fork : List Str := ["tree", "rule", "flags", "slot", "fork", "side", "shows_side"]
theorem sc_wrong_fork : FnScope N_wrong_fork ["tree", "rule", "flags", "slot"] (defScope s_wrong_fork) := ⟨rfl, rfl, rfl, by decide +kernel, rfl, by decide +kernel, by decide +kernel⟩
abbrev s_first_wrong_by : Stmt := topS 26
abbrev N_first_wrong_by : List Str := ["tree", "rule", "flags", "run", "present", "index", "kind", "slot", "fork"]
theorem sc_first_wrong_by : FnScope N_first_wrong_by ["tree", "rule", "flags", "run"] (defScope s_first_wrong_by) := ⟨rfl, rfl, rfl, by decide +kernel, rfl, by decide +kernel, by decide +kernel⟩
abbrev s_flags_by : Stmt := topS 27
abbrev N_flags_by : List Str := ["tree", "rule", "flags", "run", "present", "kind", "slot"]
theorem sc_flags_by : FnScope N_flags_by ["tree", "rule", "flags", "run"] (defScope s_flags_by) := ⟨rfl, rfl, rfl, by decide +kernel, rfl, by decide +kernel, by decide +kernel⟩
abbrev s_same_rule : Stmt := topS 28
abbrev N_same_rule : List Str := ["tree", "rule", "other"]
theorem sc_same_rule : FnScope N_same_rule ["tree", "rule", "other"] (defScope s_same_rule) := ⟨rfl, rfl, rfl, by decide +kernel, rfl, by decide +kernel, by decide +kernel⟩
abbrev s_ends_fork : Stmt := topS 30
abbrev N_ends_fork : List Str := ["stack", "node"]
theorem sc_ends_fork : FnScope N_ends_fork ["stack"] (defScope s_ends_fork) := ⟨rfl, rfl, rfl, by decide +kernel, rfl, by decide +kernel, by decide +kernel⟩
abbrev s_read_forks : Stmt := topS 31
abbrev N_read_forks : List Str := ["text", "stack", "rows", "slots", "place", "sign", "right", "left", "first", "fork", "last", "start"]
theorem sc_read_forks : FnScope N_read_forks ["text"] (defScope s_read_forks) := ⟨rfl, rfl, rfl, by decide +kernel, rfl, by decide +kernel, by decide +kernel⟩
abbrev s_lay_ways : Stmt := topS 32
abbrev N_lay_ways : List Str := ["root", "lefts", "rights", "preorder", "ways", "stack", "word", "number", "way"]
theorem sc_lay_ways : FnScope N_lay_ways ["root", "lefts", "rights"] (defScope s_lay_ways) := ⟨rfl, rfl, rfl, by decide +kernel, rfl, by decide +kernel, by decide +kernel⟩
abbrev s_Tree_init : Stmt := inClass (topS 33) 1
abbrev N_Tree_init : List Str := ["self", "text", "rows", "ascending", "row"]
theorem sc_Tree_init : FnScope N_Tree_init ["self", "text"] (defScope s_Tree_init) := ⟨rfl, rfl, rfl, by decide +kernel, rfl, by decide +kernel, by decide +kernel⟩
abbrev s_Tree_str : Stmt := inClass (topS 33) 2
abbrev N_Tree_str : List Str := ["self"]
theorem sc_Tree_str : FnScope N_Tree_str ["self"] (defScope s_Tree_str) := ⟨rfl, rfl, rfl, by decide +kernel, rfl, by decide +kernel, by decide +kernel⟩
abbrev s_Tree_len : Stmt := inClass (topS 33) 3
abbrev N_Tree_len : List Str := ["self"]
theorem sc_Tree_len : FnScope N_Tree_len ["self"] (defScope s_Tree_len) := ⟨rfl, rfl, rfl, by decide +kernel, rfl, by decide +kernel, by decide +kernel⟩
abbrev s_Tree_eq : Stmt := inClass (topS 33) 4
abbrev N_Tree_eq : List Str := ["self", "other"]
theorem sc_Tree_eq : FnScope N_Tree_eq ["self", "other"] (defScope s_Tree_eq) := ⟨rfl, rfl, rfl, by decide +kernel, rfl, by decide +kernel, by decide +kernel⟩
abbrev s_Tree_add : Stmt := inClass (topS 33) 5
abbrev N_Tree_add : List Str := ["self", "other"]
theorem sc_Tree_add : FnScope N_Tree_add ["self", "other"] (defScope s_Tree_add) := ⟨rfl, rfl, rfl, by decide +kernel, rfl, by decide +kernel, by decide +kernel⟩
abbrev s_Tree_forks : Stmt := inClass (topS 33) 6
abbrev N_Tree_forks : List Str := ["self"]
theorem sc_Tree_forks : FnScope N_Tree_forks ["self"] (defScope s_Tree_forks) := ⟨rfl, rfl, rfl, by decide +kernel, rfl, by decide +kernel, by decide +kernel⟩
abbrev s_Tree_height : Stmt := inClass (topS 33) 7
abbrev N_Tree_height : List Str := ["self"]
theorem sc_Tree_height : FnScope N_Tree_height ["self"] (defScope s_Tree_height) := ⟨rfl, rfl, rfl, by decide +kernel, rfl, by decide +kernel, by decide +kernel⟩
abbrev s_Tree_least_depth : Stmt := inClass (topS 33) 8
abbrev N_Tree_least_depth : List Str := ["self"]
theorem sc_Tree_least_depth : FnScope N_Tree_least_depth ["self"] (defScope s_Tree_least_depth) := ⟨rfl, rfl, rfl, by decide +kernel, rfl, by decide +kernel, by decide +kernel⟩
abbrev s_Tree_is_even : Stmt := inClass (topS 33) 9
abbrev N_Tree_is_even : List Str := ["self"]
theorem sc_Tree_is_even : FnScope N_Tree_is_even ["self"] (defScope s_Tree_is_even) := ⟨rfl, rfl, rfl, by decide +kernel, rfl, by decide +kernel, by decide +kernel⟩
abbrev s_Tree_top : Stmt := inClass (topS 33) 10
abbrev N_Tree_top : List Str := ["self"]
theorem sc_Tree_top : FnScope N_Tree_top ["self"] (defScope s_Tree_top) := ⟨rfl, rfl, rfl, by decide +kernel, rfl, by decide +kernel, by decide +kernel⟩
abbrev s_Tree_sides : Stmt := inClass (topS 33) 11
abbrev N_Tree_sides : List Str := ["self", "fork"]
theorem sc_Tree_sides : FnScope N_Tree_sides ["self", "fork"] (defScope s_Tree_sides) := ⟨rfl, rfl, rfl, by decide +kernel, rfl, by decide +kernel, by decide +kernel⟩
abbrev s_Tree_path : Stmt := inClass (topS 33) 12
abbrev N_Tree_path : List Str := ["self", "slot"]
theorem sc_Tree_path : FnScope N_Tree_path ["self", "slot"] (defScope s_Tree_path) := ⟨rfl, rfl, rfl, by decide +kernel, rfl, by decide +kernel, by decide +kernel⟩
abbrev s_Tree_depth : Stmt := inClass (topS 33) 13
abbrev N_Tree_depth : List Str := ["self", "slot"]
theorem sc_Tree_depth : FnScope N_Tree_depth ["self", "slot"] (defScope s_Tree_depth) := ⟨rfl, rfl, rfl, by decide +kernel, rfl, by decide +kernel, by decide +kernel⟩
abbrev s_Tree_span : Stmt := inClass (topS 33) 14
abbrev N_Tree_span : List Str := ["self", "fork"]
theorem sc_Tree_span : FnScope N_Tree_span ["self", "fork"] (defScope s_Tree_span) := ⟨rfl, rfl, rfl, by decide +kernel, rfl, by decide +kernel, by decide +kernel⟩
abbrev s_Tree_walk : Stmt := inClass (topS 33) 15
abbrev N_Tree_walk : List Str := ["self", "last"]
theorem sc_Tree_walk : FnScope N_Tree_walk ["self", "last"] (defScope s_Tree_walk) := ⟨rfl, rfl, rfl, by decide +kernel, rfl, by decide +kernel, by decide +kernel⟩
abbrev s_Tree_subtree : Stmt := inClass (topS 33) 16
abbrev N_Tree_subtree : List Str := ["self", "fork"]
theorem sc_Tree_subtree : FnScope N_Tree_subtree ["self", "fork"] (defScope s_Tree_subtree) := ⟨rfl, rfl, rfl, by decide +kernel, rfl, by decide +kernel, by decide +kernel⟩
abbrev s_Tree_collapsed : Stmt := inClass (topS 33) 17
abbrev N_Tree_collapsed : List Str := ["self", "fork"]
theorem sc_Tree_collapsed : FnScope N_Tree_collapsed ["self", "fork"] (defScope s_Tree_collapsed) := ⟨rfl, rfl, rfl, by decide +kernel, rfl, by decide +kernel, by decide +kernel⟩
abbrev s_Tree_mirrored : Stmt := inClass (topS 33) 18
abbrev N_Tree_mirrored : List Str := ["self"]
theorem sc_Tree_mirrored : FnScope N_Tree_mirrored ["self"] (defScope s_Tree_mirrored) := ⟨rfl, rfl, rfl, by decide +kernel, rfl, by decide +kernel, by decide +kernel⟩
abbrev s_Tree_grown : Stmt := inClass (topS 33) 19
abbrev N_Tree_grown : List Str := ["self", "slot"]
theorem sc_Tree_grown : FnScope N_Tree_grown ["self", "slot"] (defScope s_Tree_grown) := ⟨rfl, rfl, rfl, by decide +kernel, rfl, by decide +kernel, by decide +kernel⟩
abbrev s_Tree_closed : Stmt := inClass (topS 33) 20
abbrev N_Tree_closed : List Str := ["self", "slot"]
theorem sc_Tree_closed : FnScope N_Tree_closed ["self", "slot"] (defScope s_Tree_closed) := ⟨rfl, rfl, rfl, by decide +kernel, rfl, by decide +kernel, by decide +kernel⟩
abbrev s_Tree_even : Stmt := inClass (topS 33) 21
abbrev N_Tree_even : List Str := ["cls", "height"]
theorem sc_Tree_even : FnScope N_Tree_even ["cls", "height"] (defScope s_Tree_even) := ⟨rfl, rfl, rfl, by decide +kernel, rfl, by decide +kernel, by decide +kernel⟩
abbrev s_Tree_comb : Stmt := inClass (topS 33) 22
abbrev N_Tree_comb : List Str := ["cls", "slots", "side"]
theorem sc_Tree_comb : FnScope N_Tree_comb ["cls", "slots", "side"] (defScope s_Tree_comb) := ⟨rfl, rfl, rfl, by decide +kernel, rfl, by decide +kernel, by decide +kernel⟩
abbrev s_l_source : Stmt := topS 35
abbrev N_l_source : List Str := ["_law_script", "_law_place", "_law_cell", "_law_great"]
theorem sc_l_source : FnScope N_l_source ["_law_script", "_law_place"] (defScope s_l_source) := ⟨rfl, rfl, rfl, by decide +kernel, rfl, by decide +kernel, by decide +kernel⟩
abbrev s_l_take : Stmt := topS 36
abbrev N_l_take : List Str := ["_law_source_here", "_law_many", "_law_digit", "_law_mixed"]
theorem sc_l_take : FnScope N_l_take ["_law_source_here", "_law_many"] (defScope s_l_take) := ⟨rfl, rfl, rfl, by decide +kernel, rfl, by decide +kernel, by decide +kernel⟩
abbrev s_l_part : Stmt := topS 37
abbrev N_l_part : List Str := ["_law_source_here", "_law_start", "_law_many", "_law_lean", "_law_size", "_law_one", "_law_two", "_law_tops"]
theorem sc_l_part : FnScope N_l_part ["_law_source_here", "_law_start", "_law_many", "_law_lean"] (defScope s_l_part) := ⟨rfl, rfl, rfl, by decide +kernel, rfl, by decide +kernel, by decide +kernel⟩
abbrev s_l_tree : Stmt := topS 38
abbrev N_l_tree : List Str := ["_law_source_here", "_law_most", "_law_edge", "_law_many", "_law_lean", "_law_evens", "_law_part_here", "_law_size"]
theorem sc_l_tree : FnScope N_l_tree ["_law_source_here", "_law_most"] (defScope s_l_tree) := ⟨rfl, rfl, rfl, by decide +kernel, rfl, by decide +kernel, by decide +kernel⟩
abbrev s_l_flags : Stmt := topS 39
abbrev N_l_flags : List Str := ["_law_source_here", "_law_many", "_law_k"]
theorem sc_l_flags : FnScope N_l_flags ["_law_source_here", "_law_many"] (defScope s_l_flags) := ⟨rfl, rfl, rfl, by decide +kernel, rfl, by decide +kernel, by decide +kernel⟩
abbrev s_l_victim : Stmt := topS 40
abbrev N_l_victim : List Str := ["_law_tops", "_law_many", "_law_flags_here", "_law_letter", "_law_low", "_law_high", "_law_level", "_law_fork"]
theorem sc_l_victim : FnScope N_l_victim ["_law_tops", "_law_many", "_law_flags_here", "_law_letter"] (defScope s_l_victim) := ⟨rfl, rfl, rfl, by decide +kernel, rfl, by decide +kernel, by decide +kernel⟩
abbrev s_l_after : Stmt := topS 41
abbrev N_l_after : List Str := ["_law_tops", "_law_many", "_law_flags_here", "_law_slot", "_law_shown", "_law_low", "_law_high", "_law_level", "_law_fork"]
theorem sc_l_after : FnScope N_l_after ["_law_tops", "_law_many", "_law_flags_here", "_law_slot"] (defScope s_l_after) := ⟨rfl, rfl, rfl, by decide +kernel, rfl, by decide +kernel, by decide +kernel⟩
abbrev s_l_rules : Stmt := topS 42
abbrev N_l_rules : List Str := []
theorem sc_l_rules : FnScope N_l_rules [] (defScope s_l_rules) := ⟨rfl, rfl, rfl, by decide +kernel, rfl, by decide +kernel, by decide +kernel⟩
abbrev s_l_run : Stmt := topS 43
abbrev N_l_run : List Str := ["_law_source_here", "_law_tops", "_law_many", "_law_flags_here", "_law_rule", "_law_count", "_law_style", "_law_odd", "_law_run_here", "_law_k", "_law_word", "_law_slot"]
theorem sc_l_run : FnScope N_l_run ["_law_source_here", "_law_tops", "_law_many", "_law_flags_here", "_law_rule"] (defScope s_l_run) := ⟨rfl, rfl, rfl, by decide +kernel, rfl, by decide +kernel, by decide +kernel⟩
abbrev s_l_judged : Stmt := topS 44
abbrev N_l_judged : List Str := ["_law_tops", "_law_many", "_law_rule", "_law_flags_here", "_law_run_here", "_law_shown", "_law_wrong", "_law_k", "_law_word", "_law_slot", "_law_low", "_law_high", "_law_level", "_law_fork", "_law_side"]
theorem sc_l_judged : FnScope N_l_judged ["_law_tops", "_law_many", "_law_rule", "_law_flags_here", "_law_run_here"] (defScope s_l_judged) := ⟨rfl, rfl, rfl, by decide +kernel, rfl, by decide +kernel, by decide +kernel⟩
abbrev s_l_is_integer : Stmt := topS 45
abbrev N_l_is_integer : List Str := ["_law_told"]
theorem sc_l_is_integer : FnScope N_l_is_integer ["_law_told"] (defScope s_l_is_integer) := ⟨rfl, rfl, rfl, by decide +kernel, rfl, by decide +kernel, by decide +kernel⟩
abbrev s_l_rule_right : Stmt := topS 46
abbrev N_l_rule_right : List Str := ["_law_tree_here", "_law_tops", "_law_many", "_law_rule", "_law_flags_here", "_law_run_here", "_law_due", "_law_passed", "_law_told", "_law_after_here"]
theorem sc_l_rule_right : FnScope N_l_rule_right ["_law_tree_here", "_law_tops", "_law_many", "_law_rule", "_law_flags_here", "_law_run_here"] (defScope s_l_rule_right) := ⟨rfl, rfl, rfl, by decide +kernel, rfl, by decide +kernel, by decide +kernel⟩
abbrev s_l_reached : Stmt := topS 47
abbrev N_l_reached : List Str := ["_law_tops", "_law_many", "_law_flags_here", "_law_rule", "_law_other", "_law_met", "_law_seen", "_law_k", "_law_here", "_law_there", "_law_goal", "_law_steps", "_law_kind", "_law_slot", "_law_pair"]
theorem sc_l_reached : FnScope N_l_reached ["_law_tops", "_law_many", "_law_flags_here", "_law_rule", "_law_other"] (defScope s_l_reached) := ⟨rfl, rfl, rfl, by decide +kernel, rfl, by decide +kernel, by decide +kernel⟩
abbrev s_l_same_right : Stmt := topS 48
abbrev N_l_same_right : List Str := ["_law_tree_here", "_law_many", "_law_rules_here", "_law_rule", "_law_other", "_law_due", "_law_told"]
theorem sc_l_same_right : FnScope N_l_same_right ["_law_tree_here", "_law_many", "_law_rules_here"] (defScope s_l_same_right) := ⟨rfl, rfl, rfl, by decide +kernel, rfl, by decide +kernel, by decide +kernel⟩
abbrev s_l_bad_rule : Stmt := topS 49
abbrev N_l_bad_rule : List Str := ["_law_source_here", "_law_rule", "_law_at", "_law_bent", "_law_menu"]
theorem sc_l_bad_rule : FnScope N_l_bad_rule ["_law_source_here", "_law_rule"] (defScope s_l_bad_rule) := ⟨rfl, rfl, rfl, by decide +kernel, rfl, by decide +kernel, by decide +kernel⟩
abbrev s_l_bad_flags : Stmt := topS 50
abbrev N_l_bad_flags : List Str := ["_law_source_here", "_law_flags_here", "_law_at", "_law_sign", "_law_menu"]
theorem sc_l_bad_flags : FnScope N_l_bad_flags ["_law_source_here", "_law_flags_here"] (defScope s_l_bad_flags) := ⟨rfl, rfl, rfl, by decide +kernel, rfl, by decide +kernel, by decide +kernel⟩
abbrev s_l_bad_run : Stmt := topS 51
abbrev N_l_bad_run : List Str := ["_law_source_here", "_law_run_here", "_law_many", "_law_at", "_law_slot", "_law_menu", "_law_bad"]
theorem sc_l_bad_run : FnScope N_l_bad_run ["_law_source_here", "_law_run_here", "_law_many"] (defScope s_l_bad_run) := ⟨rfl, rfl, rfl, by decide +kernel, rfl, by decide +kernel, by decide +kernel⟩
abbrev s_l_refused : Stmt := topS 52
abbrev N_l_refused : List Str := ["_law_door", "_law_tree_here", "_law_rule", "_law_flags_here", "_law_run_here", "raised", "_law_clean"]
theorem sc_l_refused : FnScope N_l_refused ["_law_door", "_law_tree_here", "_law_rule", "_law_flags_here", "_law_run_here"] (defScope s_l_refused) := ⟨rfl, rfl, rfl, by decide +kernel, rfl, by decide +kernel, by decide +kernel⟩
abbrev s_l_doors_right : Stmt := topS 53
abbrev N_l_doors_right : List Str := ["_law_source_here", "_law_tree_here", "_law_many", "_law_rule", "_law_flags_here", "_law_run_here", "_law_given", "_law_due", "_law_which", "_law_broken", "_law_worse", "_law_worst", "_law_door", "_law_told"]
theorem sc_l_doors_right : FnScope N_l_doors_right ["_law_source_here", "_law_tree_here", "_law_many", "_law_rule", "_law_flags_here", "_law_run_here"] (defScope s_l_doors_right) := ⟨rfl, rfl, rfl, by decide +kernel, rfl, by decide +kernel, by decide +kernel⟩
abbrev s_l_both_refused : Stmt := topS 54
abbrev N_l_both_refused : List Str := ["_law_tree_here", "_law_rule", "_law_other", "raised"]
theorem sc_l_both_refused : FnScope N_l_both_refused ["_law_tree_here", "_law_rule", "_law_other"] (defScope s_l_both_refused) := ⟨rfl, rfl, rfl, by decide +kernel, rfl, by decide +kernel, by decide +kernel⟩
abbrev s_l_pairs_right : Stmt := topS 55
abbrev N_l_pairs_right : List Str := ["_law_source_here", "_law_tree_here", "_law_rule", "_law_other", "_law_bad", "_law_worse"]
theorem sc_l_pairs_right : FnScope N_l_pairs_right ["_law_source_here", "_law_tree_here", "_law_rule", "_law_other"] (defScope s_l_pairs_right) := ⟨rfl, rfl, rfl, by decide +kernel, rfl, by decide +kernel, by decide +kernel⟩
abbrev s_law : Stmt := topS 56
abbrev N_law : List Str := ["_law_script", "_law_shape", "_law_tops", "_law_many", "_law_tree_here", "_law_flags_here", "_law_rules_here", "_law_lines", "_law_run_here", "_law_rule", "_law_odd", "_law_other"]
theorem sc_law : FnScope N_law ["_law_script"] (defScope s_law) := ⟨rfl, rfl, rfl, by decide +kernel, rfl, by decide +kernel, by decide +kernel⟩
/-- where the text's classes stand -/
structure Ads where
  CacheError : Addr
  InvalidTree : Addr
  InvalidFlags : Addr
  InvalidLine : Addr
  InvalidRule : Addr
  TooMany : Addr
  Refused : Addr
  Tree : Addr
  KINDS : Addr
  RULES : Addr
/-- what the module's names hold -/
structure Env (P : Program) (w : World) (K : PySem.W.Frag) (mg : Str → Option Value) (base : Heap) (a : Ads) : Prop where
  n_ValueError : mg "ValueError" = none
  n_all : mg "all" = none
  n_bool : mg "bool" = none
  n_enumerate : mg "enumerate" = none
  n_int : mg "int" = none
  n_isinstance : mg "isinstance" = none
  n_len : mg "len" = none
  n_list : mg "list" = none
  n_min : mg "min" = none
  n_range : mg "range" = none
  n_sorted : mg "sorted" = none
  n_str : mg "str" = none
  n_sum : mg "sum" = none
  n_tuple : mg "tuple" = none
  g_CacheError : mg "CacheError" = some (.ref a.CacheError)
  g_InvalidFlags : mg "InvalidFlags" = some (.ref a.InvalidFlags)
  g_InvalidLine : mg "InvalidLine" = some (.ref a.InvalidLine)
  g_InvalidRule : mg "InvalidRule" = some (.ref a.InvalidRule)
  g_InvalidTree : mg "InvalidTree" = some (.ref a.InvalidTree)
  g_Refused : mg "Refused" = some (.ref a.Refused)
  t_KINDS : mg "KINDS" = some (.ref a.KINDS)
  t_RULES : mg "RULES" = some (.ref a.RULES)
  o_Tree : L2.Cls K a.Tree
  na_Tree_bounds : NoAttr K a.Tree "bounds"
  na_Tree_lefts : NoAttr K a.Tree "lefts"
  na_Tree_postorder : NoAttr K a.Tree "postorder"
  na_Tree_preorder : NoAttr K a.Tree "preorder"
  na_Tree_rights : NoAttr K a.Tree "rights"
  na_Tree_root : NoAttr K a.Tree "root"
  na_Tree_spans : NoAttr K a.Tree "spans"
  na_Tree_text : NoAttr K a.Tree "text"
  na_Tree_ways : NoAttr K a.Tree "ways"
  k_Tree_MOST : ∃ u, Con K a.Tree "MOST" (.int 64) u
  e_InvalidFlags : ErrC P w K mg base "InvalidFlags" "flags" a.InvalidFlags
  e_InvalidLine : ErrC P w K mg base "InvalidLine" "index" a.InvalidLine
  e_InvalidRule : ErrC P w K mg base "InvalidRule" "rule" a.InvalidRule
  e_InvalidTree : ErrC P w K mg base "InvalidTree" "text" a.InvalidTree
section
variable {P : Program} {w : World} {K : PySem.W.Frag} {mg : Str → Option Value} {base : Heap}
theorem ini_InvalidTree {C fI : Addr} {fd : FuncData} (T : OexC K C) (hno : PySem.W.findIn K (.ref C) "text" = some none) (F : Fun K "__init__" "InvalidTree.__init__" s_InvalidTree_init fI fd) : FnOk P w K mg base (L2.CX P w) 1 fI fd ["self", "text"] (spErr C "text") := by
  refine F.okX sc_InvalidTree_init (fun vs H Q E h => ?_) (fun cdv A outer s H vs Q E hr h => ⟨_, pss_one (ps_ost (pv 0) (pv 1)), ?_⟩)
  · obtain ⟨a, v, rfl, _⟩ := h
    rfl
  · obtain ⟨a, v, rfl, h1, h2⟩ := h
    exact ⟨v, rfl, .ref a, rfl, a, C, rfl, T, hno, .inl ⟨h1, fun dx n1 n2 => h2 dx n1 n2⟩⟩
theorem ini_InvalidFlags {C fI : Addr} {fd : FuncData} (T : OexC K C) (hno : PySem.W.findIn K (.ref C) "flags" = some none) (F : Fun K "__init__" "InvalidFlags.__init__" s_InvalidFlags_init fI fd) : FnOk P w K mg base (L2.CX P w) 1 fI fd ["self", "flags"] (spErr C "flags") := by
  refine F.okX sc_InvalidFlags_init (fun vs H Q E h => ?_) (fun cdv A outer s H vs Q E hr h => ⟨_, pss_one (ps_ost (pv 0) (pv 1)), ?_⟩)
  · obtain ⟨a, v, rfl, _⟩ := h
    rfl
  · obtain ⟨a, v, rfl, h1, h2⟩ := h
    exact ⟨v, rfl, .ref a, rfl, a, C, rfl, T, hno, .inl ⟨h1, fun dx n1 n2 => h2 dx n1 n2⟩⟩
theorem ini_InvalidLine {C fI : Addr} {fd : FuncData} (T : OexC K C) (hno : PySem.W.findIn K (.ref C) "index" = some none) (F : Fun K "__init__" "InvalidLine.__init__" s_InvalidLine_init fI fd) : FnOk P w K mg base (L2.CX P w) 1 fI fd ["self", "index"] (spErr C "index") := by
  refine F.okX sc_InvalidLine_init (fun vs H Q E h => ?_) (fun cdv A outer s H vs Q E hr h => ⟨_, pss_one (ps_ost (pv 0) (pv 1)), ?_⟩)
  · obtain ⟨a, v, rfl, _⟩ := h
    rfl
  · obtain ⟨a, v, rfl, h1, h2⟩ := h
    exact ⟨v, rfl, .ref a, rfl, a, C, rfl, T, hno, .inl ⟨h1, fun dx n1 n2 => h2 dx n1 n2⟩⟩
theorem ini_InvalidRule {C fI : Addr} {fd : FuncData} (T : OexC K C) (hno : PySem.W.findIn K (.ref C) "rule" = some none) (F : Fun K "__init__" "InvalidRule.__init__" s_InvalidRule_init fI fd) : FnOk P w K mg base (L2.CX P w) 1 fI fd ["self", "rule"] (spErr C "rule") := by
  refine F.okX sc_InvalidRule_init (fun vs H Q E h => ?_) (fun cdv A outer s H vs Q E hr h => ⟨_, pss_one (ps_ost (pv 0) (pv 1)), ?_⟩)
  · obtain ⟨a, v, rfl, _⟩ := h
    rfl
  · obtain ⟨a, v, rfl, h1, h2⟩ := h
    exact ⟨v, rfl, .ref a, rfl, a, C, rfl, T, hno, .inl ⟨h1, fun dx n1 n2 => h2 dx n1 n2⟩⟩
theorem ini_TooMany {C fI : Addr} {fd : FuncData} (T : OexC K C) (hno : PySem.W.findIn K (.ref C) "most" = some none) (F : Fun K "__init__" "TooMany.__init__" s_TooMany_init fI fd) : FnOk P w K mg base (L2.CX P w) 1 fI fd ["self", "most"] (spErr C "most") := by
  refine F.okX sc_TooMany_init (fun vs H Q E h => ?_) (fun cdv A outer s H vs Q E hr h => ⟨_, pss_one (ps_ost (pv 0) (pv 1)), ?_⟩)
  · obtain ⟨a, v, rfl, _⟩ := h
    rfl
  · obtain ⟨a, v, rfl, h1, h2⟩ := h
    exact ⟨v, rfl, .ref a, rfl, a, C, rfl, T, hno, .inl ⟨h1, fun dx n1 n2 => h2 dx n1 n2⟩⟩
end
/-! ### levels -/
abbrev l_is_integer : Nat := 1
abbrev l_is_place : Nat := 2
abbrev l_is_made_of : Nat := 1
abbrev l_is_line : Nat := 3
abbrev l_checked_flags : Nat := 3
abbrev l_checked_run : Nat := 5
abbrev l_checked_lines : Nat := 4
abbrev l_turned : Nat := 1
abbrev l_checked_rule : Nat := 3
abbrev l_turned_by : Nat := 2
abbrev l_goes_against : Nat := 1
abbrev l_wrong_fork : Nat := 2
abbrev l_first_wrong_by : Nat := 6
abbrev l_flags_by : Nat := 6
abbrev l_same_rule : Nat := 4
abbrev l_ends_fork : Nat := 1
abbrev l_read_forks : Nat := 2
abbrev l_lay_ways : Nat := 1
abbrev l_Tree_init : Nat := 3
abbrev l_Tree_len : Nat := 1
abbrev l_Tree_forks : Nat := 1
abbrev l_l_source : Nat := 1
abbrev l_l_take : Nat := 1
abbrev l_l_part : Nat := 2
abbrev l_l_tree : Nat := 67
abbrev l_l_flags : Nat := 2
abbrev l_l_victim : Nat := 1
abbrev l_l_after : Nat := 1
abbrev l_l_rules : Nat := 1
abbrev l_l_run : Nat := 2
abbrev l_l_judged : Nat := 1
abbrev l_l_is_integer : Nat := 1
abbrev l_l_rule_right : Nat := 7
abbrev l_l_reached : Nat := 2
abbrev l_l_same_right : Nat := 5
abbrev l_l_bad_rule : Nat := 2
abbrev l_l_bad_flags : Nat := 2
abbrev l_l_bad_run : Nat := 2
abbrev l_l_refused : Nat := 7
abbrev l_l_doors_right : Nat := 8
abbrev l_l_both_refused : Nat := 5
abbrev l_l_pairs_right : Nat := 6
abbrev l_law : Nat := 68
/-! ### what each def promises -/
open TR
def ct_is_integer (K : PySem.W.Frag) : Ct (V × TY) where
  pre g vs H := vs = [g.1] ∧ Ty0 K H g.1 g.2
  post g H v H' := v = .bl (isInt g.1) ∧ Ext H H'
abbrev p_is_integer (K : PySem.W.Frag) (a : Ads) : Sp := spC (ct_is_integer K)
abbrev q_is_integer (K : PySem.W.Frag) (a : Ads) := rC (ct_is_integer K)
theorem c_is_integer {K : PySem.W.Frag} {a : Ads} : Ctr (p_is_integer K a) (q_is_integer K a) := ctrC
/-- a slot of n -/
def plcB (n : Nat) : V → Bool
  | .int i => decide (0 ≤ i) && decide (i < n)
  | _ => false
def ct_is_place (K : PySem.W.Frag) : Ct (Nat × V × TY) where
  pre g vs H := vs = [.int (g.1 : Nat), g.2.1] ∧ Ty0 K H g.2.1 g.2.2
  post g H v H' := v = .bl (plcB g.1 g.2.1) ∧ Ext H H'
abbrev p_is_place (K : PySem.W.Frag) (a : Ads) : Sp := spC (ct_is_place K)
abbrev q_is_place (K : PySem.W.Frag) (a : Ads) := rC (ct_is_place K)
theorem c_is_place {K : PySem.W.Frag} {a : Ads} : Ctr (p_is_place K a) (q_is_place K a) := ctrC
/-- the signs that patterns are tried with -/
def sgnOk (u : Str) : Prop := u.cps.toList.length ≤ 100 ∧ ∀ c ∈ u.cps.toList, c ∈ [76, 82, 63, 108, 114, 46, 120, 32, 10]
def strOk : V → Prop
  | .str u => sgnOk u
  | _ => True
def madeL (q : Bool) (u : Str) : Bool := u.cps.toList.all fun c => c == 76 || c == 82 || (q && c == 63)
def madeB (q : Bool) : V → Bool
  | .str u => madeL q u
  | _ => false
def ct_is_made_of (K : PySem.W.Frag) : Ct (V × TY × Bool) where
  pre g vs H := vs = [g.1, .str (if g.2.2 then "LR?" else "LR")] ∧ Ty0 K H g.1 g.2.1 ∧ strOk g.1
  post g H v H' := v = .bl (madeB g.2.2 g.1) ∧ Ext H H'
abbrev p_is_made_of (K : PySem.W.Frag) (a : Ads) : Sp := spC (ct_is_made_of K)
abbrev q_is_made_of (K : PySem.W.Frag) (a : Ads) := rC (ct_is_made_of K)
theorem c_is_made_of {K : PySem.W.Frag} {a : Ads} : Ctr (p_is_made_of K a) (q_is_made_of K a) := ctrC
/-! trees -/
def sdS (b : Bool) : Str := ⟨#[cdB b]⟩
def pS (l : List Nat) : Str := ⟨l.toArray⟩
def tS (b : TR) : Str := ⟨(txt b).toArray⟩
def stD (s : Nat × Bool) : PyData := .tuple [.int (s.1 : Nat), .str (sdS s.2)]
def wyD (w : Way) : PyData := .tuple (w.map stD)
def wysD (b : TR) : PyData := .tuple ((wayB b 0).map wyD)
def hgV : Option Nat → V
  | none => .non
  | some f => .int (f : Nat)
def prD (q : Nat × Nat) : PyData := .tuple [.int (q.1 : Nat), .int (q.2 : Nat)]
def spsD (b : TR) : PyData := .tuple ((List.range (nS b - 1)).map fun f => prD (spnF b 0 f))
structure TreeAt (K : PySem.W.Frag) (a : Ads) (H : Hp) (v : V) (b : TR) : Prop where
  ex : ∃ (p dx : Addr) (fs : List (Str × V)) (w sp : V), v = .ref p ∧ H p = some (.ins a.Tree dx fs) ∧ fs.lookup ("text" : Str) = some (.str (tS b)) ∧ fs.lookup ("ways" : Str) = some w ∧ MD K H [] w (wysD b) ∧ fs.lookup ("spans" : Str) = some sp ∧ MD K H [] sp (spsD b)
  sm : nS b ≤ 64
def flOk (q : Bool) (b : TR) : V → Bool
  | .str u => madeL q u && decide (u.cps.toList.length + 1 = nS b)
  | _ => false
/-- an error of one attribute is raised -/
def Exn1 (H : Hp) (c : Value) (d : Option Addr) (H' : Hp) (C : Addr) (f : Str) (v : V) : Prop := c = .ref C ∧ ∃ dd, d = some dd ∧ H dd = none ∧ Ext H H' ∧ H' dd = some (.xd [(f, v)])
def ct_checked (K : PySem.W.Frag) (a : Ads) (q : Bool) : Ct (V × TR × V × TY) where
  pre g vs H := vs = [g.1, g.2.2.1] ∧ TreeAt K a H g.1 g.2.1 ∧ Ty0 K H g.2.2.1 g.2.2.2 ∧ strOk g.2.2.1
  post g H v H' := flOk q g.2.1 g.2.2.1 = true ∧ v = g.2.2.1 ∧ Ext H H'
  exn g H c d H' := flOk q g.2.1 g.2.2.1 = false ∧ Exn1 H c d H' a.InvalidFlags "flags" g.2.2.1
abbrev p_checked_flags (K : PySem.W.Frag) (a : Ads) : Sp := spC (ct_checked K a false)
abbrev q_checked_flags (K : PySem.W.Frag) (a : Ads) := rC (ct_checked K a false)
theorem c_checked_flags {K : PySem.W.Frag} {a : Ads} : Ctr (p_checked_flags K a) (q_checked_flags K a) := ctrC
/-! lines -/
def kS (k : Bool) : Str := if k then "load" else "hit"
def lnD (l : Ln) : PyData := .tuple [.str (kS l.1), .int (l.2 : Nat)]
/-- a thing that may be a line of n slots: is it one? -/
def LineV (K : PySem.W.Frag) (H : Hp) (n : Nat) (v : V) (ok : Bool) : Prop := (ok = false ∧ ∃ t, t ≠ .tuple ∧ Ty0 K H v t) ∨
  ∃ p xs, v = .ref p ∧ SqT K H p xs ∧ ((xs.length ≠ 2 ∧ ok = false) ∨ ∃ x y t, xs = [x, y] ∧ flatV x = true ∧ Ty0 K H y t ∧ ok = (inV x [.str "hit", .str "load"] && plcB n y))
/-- no run of n slots: the index that is told -/
def RunB (K : PySem.W.Frag) (H : Hp) (n : Nat) (v : V) (i : Int) : Prop := (i = -1 ∧ ∃ t, t ≠ .list ∧ Ty0 K H v t) ∨
  ∃ p xs j x, v = .ref p ∧ SqL K H p xs ∧ i = (j : Nat) ∧ xs[j]? = some x ∧ LineV K H n x false ∧ ∀ k y, k < j → xs[k]? = some y → LineV K H n y true
def RunG (K : PySem.W.Frag) (H : Hp) (b : TR) (v : V) (run : List Ln) : Prop := (∃ p xs, v = .ref p ∧ SqL K H p xs ∧ MDs K H [] xs (run.map lnD)) ∧ ∀ l ∈ run, l.2 < nS b
def newD (K : PySem.W.Frag) (ds : List PyData) (H : Hp) (v : V) (H' : Hp) : Prop := ∃ p xs, v = .ref p ∧ H p = none ∧ H' p = some (.lst xs) ∧ MDs K H' [] xs ds
def newV (xs : List V) (H : Hp) (v : V) (H' : Hp) : Prop := ∃ p, v = .ref p ∧ H p = none ∧ H' p = some (.lst xs)
def ct_is_line (K : PySem.W.Frag) : Ct (Nat × V × Bool) where
  pre g vs H := vs = [.int (g.1 : Nat), g.2.1] ∧ LineV K H g.1 g.2.1 g.2.2
  post g H v H' := v = .bl g.2.2 ∧ Ext H H'
abbrev p_is_line (K : PySem.W.Frag) (a : Ads) : Sp := spC (ct_is_line K)
abbrev q_is_line (K : PySem.W.Frag) (a : Ads) := rC (ct_is_line K)
theorem c_is_line {K : PySem.W.Frag} {a : Ads} : Ctr (p_is_line K a) (q_is_line K a) := ctrC
def linesOk (K : PySem.W.Frag) (H : Hp) (n : Nat) (v : V) : List V ⊕ Int → Prop
  | .inl xs => (∃ p, v = .ref p ∧ SqL K H p xs) ∧ ∀ x ∈ xs, LineV K H n x true
  | .inr i => RunB K H n v i
def ct_lines (K : PySem.W.Frag) (a : Ads) : Ct (Nat × V × (List V ⊕ Int)) where
  pre g vs H := vs = [.int (g.1 : Nat), g.2.1] ∧ linesOk K H g.1 g.2.1 g.2.2
  post g H v H' := (∃ xs, g.2.2 = .inl xs ∧ newV xs H v H') ∧ Ext H H'
  exn g H c d H' := ∃ i, g.2.2 = .inr i ∧ Exn1 H c d H' a.InvalidLine "index" (.int i)
abbrev p_checked_lines (K : PySem.W.Frag) (a : Ads) : Sp := spC (ct_lines K a)
abbrev q_checked_lines (K : PySem.W.Frag) (a : Ads) := rC (ct_lines K a)
theorem c_checked_lines {K : PySem.W.Frag} {a : Ads} : Ctr (p_checked_lines K a) (q_checked_lines K a) := ctrC
def ct_crun (K : PySem.W.Frag) (a : Ads) : Ct (V × TR × V × (List V ⊕ Int)) where
  pre g vs H := vs = [g.1, g.2.2.1] ∧ TreeAt K a H g.1 g.2.1 ∧ linesOk K H (nS g.2.1) g.2.2.1 g.2.2.2
  post g H v H' := (∃ xs, g.2.2.2 = .inl xs ∧ newV xs H v H') ∧ Ext H H'
  exn g H c d H' := ∃ i, g.2.2.2 = .inr i ∧ Exn1 H c d H' a.InvalidLine "index" (.int i)
abbrev p_checked_run (K : PySem.W.Frag) (a : Ads) : Sp := spC (ct_crun K a)
abbrev q_checked_run (K : PySem.W.Frag) (a : Ads) := rC (ct_crun K a)
theorem c_checked_run {K : PySem.W.Frag} {a : Ads} : Ctr (p_checked_run K a) (q_checked_run K a) := ctrC
def cV (st : List Nat) : List V := st.map fun c => V.str (pS [c])
def patOk (st : List Nat) : Prop := ∀ c ∈ st, c ∈ [76, 82]
/-! rules -/
def rlS (r : Rl) : Str := pS [if r.1 then 116 else 107, if r.2.1 then 116 else 107, if r.2.2 then 97 else 115]
def rlsS : List Str := rls.map rlS
def rulB : V → Bool
  | .str u => decide (u ∈ rlsS)
  | _ => false
def ct_checked_rule (K : PySem.W.Frag) (a : Ads) : Ct (V × TY) where
  pre g vs H := vs = [g.1] ∧ Ty0 K H g.1 g.2
  post g H v H' := rulB g.1 = true ∧ v = g.1 ∧ Ext H H'
  exn g H c d H' := rulB g.1 = false ∧ Exn1 H c d H' a.InvalidRule "rule" g.1
abbrev p_checked_rule (K : PySem.W.Frag) (a : Ads) : Sp := spC (ct_checked_rule K a)
abbrev q_checked_rule (K : PySem.W.Frag) (a : Ads) := rC (ct_checked_rule K a)
theorem c_checked_rule {K : PySem.W.Frag} {a : Ads} : Ctr (p_checked_rule K a) (q_checked_rule K a) := ctrC
def ct_turned (K : PySem.W.Frag) (a : Ads) : Ct (V × TR × List Nat × Nat) where
  pre g vs H := vs = [g.1, .str (pS g.2.2.1), .int (g.2.2.2 : Nat)] ∧ TreeAt K a H g.1 g.2.1 ∧ g.2.2.1.length + 1 = nS g.2.1 ∧ g.2.2.2 < nS g.2.1
  post g H v H' := v = .str (pS (hitL g.2.2.1 (wy g.2.1 g.2.2.2))) ∧ Ext H H'
abbrev p_turned (K : PySem.W.Frag) (a : Ads) : Sp := spC (ct_turned K a)
abbrev q_turned (K : PySem.W.Frag) (a : Ads) := rC (ct_turned K a)
theorem c_turned {K : PySem.W.Frag} {a : Ads} : Ctr (p_turned K a) (q_turned K a) := ctrC
def ct_turned_by (K : PySem.W.Frag) (a : Ads) : Ct (V × TR × Rl × List Nat × Bool × Nat) where
  pre g vs H := vs = [g.1, .str (rlS g.2.2.1), .str (pS g.2.2.2.1), .str (kS g.2.2.2.2.1), .int (g.2.2.2.2.2 : Nat)] ∧ TreeAt K a H g.1 g.2.1 ∧ g.2.2.2.1.length + 1 = nS g.2.1 ∧ g.2.2.2.2.2 < nS g.2.1
  post g H v H' := v = .str (pS (trnL g.2.1 g.2.2.1 g.2.2.2.2.1 g.2.2.2.1 g.2.2.2.2.2)) ∧ Ext H H'
abbrev p_turned_by (K : PySem.W.Frag) (a : Ads) : Sp := spC (ct_turned_by K a)
abbrev q_turned_by (K : PySem.W.Frag) (a : Ads) := rC (ct_turned_by K a)
theorem c_turned_by {K : PySem.W.Frag} {a : Ads} : Ctr (p_turned_by K a) (q_turned_by K a) := ctrC
def ct_goes_against : Ct Rl where
  pre r vs H := vs = [.str (rlS r)] ∧ True
  post r H v H' := v = .bl r.2.2 ∧ Ext H H'
abbrev p_goes_against (K : PySem.W.Frag) (a : Ads) : Sp := spC ct_goes_against
abbrev q_goes_against (K : PySem.W.Frag) (a : Ads) := rC ct_goes_against
theorem c_goes_against {K : PySem.W.Frag} {a : Ads} : Ctr (p_goes_against K a) (q_goes_against K a) := ctrC
def ct_wrong_fork (K : PySem.W.Frag) (a : Ads) : Ct (V × TR × Rl × List Nat × Nat) where
  pre g vs H := vs = [g.1, .str (rlS g.2.2.1), .str (pS g.2.2.2.1), .int (g.2.2.2.2 : Nat)] ∧ TreeAt K a H g.1 g.2.1 ∧ g.2.2.2.1.length + 1 = nS g.2.1 ∧ g.2.2.2.2 < nS g.2.1
  post g H v H' := v = hgV (wrfL g.2.2.1 g.2.2.2.1 (wy g.2.1 g.2.2.2.2)) ∧ Ext H H'
abbrev p_wrong_fork (K : PySem.W.Frag) (a : Ads) : Sp := spC (ct_wrong_fork K a)
abbrev q_wrong_fork (K : PySem.W.Frag) (a : Ads) := rC (ct_wrong_fork K a)
theorem c_wrong_fork {K : PySem.W.Frag} {a : Ads} : Ctr (p_wrong_fork K a) (q_wrong_fork K a) := ctrC
/-- what is handed to first_wrong_by, flags_by -/
inductive QB where
  | ok (r : Rl) (st : List Nat) (run : List Ln)
  | rule (t : TY) (d : PyData)
  | flags (r : Rl) (t : TY) (d : PyData)
  | line (r : Rl) (st : List Nat) (i : Int)
def qbOk (K : PySem.W.Frag) (H : Hp) (b : TR) (rv sv lv : V) : QB → Prop
  | .ok r st run => rv = .str (rlS r) ∧ sv = .str (pS st) ∧ st.length + 1 = nS b ∧ flgOk st ∧ RunG K H b lv run ∧ run.length ≤ 200
  | .rule t d => Ty0 K H rv t ∧ rulB rv = false ∧ Dp K H rv d
  | .flags r t d => rv = .str (rlS r) ∧ Ty0 K H sv t ∧ strOk sv ∧ flOk false b sv = false ∧ Dp K H sv d
  | .line r st i => rv = .str (rlS r) ∧ sv = .str (pS st) ∧ st.length + 1 = nS b ∧ flgOk st ∧ RunB K H (nS b) lv i
def qbEx (a : Ads) (H : Hp) (c : Value) (d : Option Addr) (H' : Hp) (rv sv : V) : QB → Prop
  | .ok _ _ _ => False
  | .rule _ _ => Exn1 H c d H' a.InvalidRule "rule" rv
  | .flags _ _ _ => Exn1 H c d H' a.InvalidFlags "flags" sv
  | .line _ _ i => Exn1 H c d H' a.InvalidLine "index" (.int i)
structure QbG where
  tv : V
  b : TR
  rv : V
  sv : V
  lv : V
  q : QB
def ct_qb (K : PySem.W.Frag) (a : Ads) (res : TR → Rl → List Nat → List Ln → V → Hp → Prop) : Ct QbG where
  pre g vs H := vs = [g.tv, g.rv, g.sv, g.lv] ∧ TreeAt K a H g.tv g.b ∧ qbOk K H g.b g.rv g.sv g.lv g.q
  post g H v H' := (∃ r st run, g.q = .ok r st run ∧ res g.b r st run v H') ∧ Ext H H'
  exn g H c d H' := qbEx a H c d H' g.rv g.sv g.q
def fwD : Option (Nat × Nat) → PyData
  | none => .none
  | some q => .tuple [.int (q.1 : Nat), .int (q.2 : Nat)]
abbrev resFw (K : PySem.W.Frag) (b : TR) (r : Rl) (st : List Nat) (run : List Ln) (v : V) (H' : Hp) : Prop := MD K H' [] v (fwD (fwR b r run 0 st))
abbrev resFb (b : TR) (r : Rl) (st : List Nat) (run : List Ln) (v : V) (_ : Hp) : Prop := v = .str (pS (fbL b r st run))
abbrev p_first_wrong_by (K : PySem.W.Frag) (a : Ads) : Sp := spC (ct_qb K a (resFw K))
abbrev q_first_wrong_by (K : PySem.W.Frag) (a : Ads) := rC (ct_qb K a (resFw K))
theorem c_first_wrong_by {K : PySem.W.Frag} {a : Ads} : Ctr (p_first_wrong_by K a) (q_first_wrong_by K a) := ctrC
abbrev p_flags_by (K : PySem.W.Frag) (a : Ads) : Sp := spC (ct_qb K a resFb)
abbrev q_flags_by (K : PySem.W.Frag) (a : Ads) := rC (ct_qb K a resFb)
theorem c_flags_by {K : PySem.W.Frag} {a : Ads} : Ctr (p_flags_by K a) (q_flags_by K a) := ctrC
/-- two rules: the first bad one -/
inductive QC where
  | ok (r o : Rl)
  | one (t : TY) (d : PyData)
  | two (r : Rl) (t : TY) (d : PyData)
def qcOk (K : PySem.W.Frag) (H : Hp) (rv ov : V) : QC → Prop
  | .ok r o => rv = .str (rlS r) ∧ ov = .str (rlS o)
  | .one t d => Ty0 K H rv t ∧ rulB rv = false ∧ Dp K H rv d
  | .two r t d => rv = .str (rlS r) ∧ Ty0 K H ov t ∧ rulB ov = false ∧ Dp K H ov d
def qcEx (a : Ads) (H : Hp) (c : Value) (d : Option Addr) (H' : Hp) (rv ov : V) : QC → Prop
  | .ok _ _ => False
  | .one _ _ => Exn1 H c d H' a.InvalidRule "rule" rv
  | .two _ _ _ => Exn1 H c d H' a.InvalidRule "rule" ov
structure QcG where
  tv : V
  b : TR
  rv : V
  ov : V
  q : QC
def ct_same_rule (K : PySem.W.Frag) (a : Ads) : Ct QcG where
  pre g vs H := vs = [g.tv, g.rv, g.ov] ∧ TreeAt K a H g.tv g.b ∧ qcOk K H g.rv g.ov g.q
  post g H v H' := (∃ r o, g.q = .ok r o ∧ v = .bl (smB g.b r o)) ∧ Ext H H'
  exn g H c d H' := qcEx a H c d H' g.rv g.ov g.q
abbrev p_same_rule (K : PySem.W.Frag) (a : Ads) : Sp := spC (ct_same_rule K a)
abbrev q_same_rule (K : PySem.W.Frag) (a : Ads) := rC (ct_same_rule K a)
theorem c_same_rule {K : PySem.W.Frag} {a : Ads} : Ctr (p_same_rule K a) (q_same_rule K a) := ctrC
/-! the reading -/
def kdS (k : Nat) : Str := if k = 0 then "open" else if k = 1 then "slot" else "fork"
def pnD (n : PN) : PyData := .tuple [.str (kdS n.1), .int (n.2.1 : Nat), .int (n.2.2.1 : Nat), .int (n.2.2.2.1 : Nat), .int (n.2.2.2.2 : Nat)]
def ndD (n : Nat × Nat) : PyData := .tuple [.str (kdS n.1), .int (n.2 : Nat)]
def ct_ends_fork (K : PySem.W.Frag) : Ct (V × List PN) where
  pre g vs H := vs = [g.1] ∧ (∃ p xs, g.1 = .ref p ∧ SqL K H p xs ∧ MDs K H [] xs (g.2.map pnD)) ∧ g.2.length ≤ 1000 ∧ ∀ n ∈ g.2, n.1 ≤ 2
  post g H v H' := v = .bl (endsF g.2) ∧ Ext H H'
abbrev p_ends_fork (K : PySem.W.Frag) (a : Ads) : Sp := spC (ct_ends_fork K)
abbrev q_ends_fork (K : PySem.W.Frag) (a : Ads) := rC (ct_ends_fork K)
theorem c_ends_fork {K : PySem.W.Frag} {a : Ads} : Ctr (p_ends_fork K a) (q_ends_fork K a) := ctrC
/-- a row of read_forks -/
def rowR (K : PySem.W.Frag) (G : List (Addr × HO)) (F : Hp) (v : V) (r : TR.Row) : Prop := ∃ t r1 r2 r3 r4, v = .ref t ∧ At ⟨F, G⟩ t (.tup [.int (r.1 : Nat), r1, r2, r3, r4]) ∧ MD K F G r1 (ndD r.2.1) ∧ MD K F G r2 (ndD r.2.2.1) ∧ MD K F G r3 (prD r.2.2.2.1)
def ct_read_forks (K : PySem.W.Frag) : Ct TR where
  pre b vs H := vs = [.str (tS b)] ∧ nS b ≤ 64
  post b H v H' := (∃ p xs, v = .ref p ∧ H p = none ∧ H' p = some (.lst xs) ∧ allV (rowR K [] H') xs (rowsB b 0 0)) ∧ Ext H H'
abbrev p_read_forks (K : PySem.W.Frag) (a : Ads) : Sp := spC (ct_read_forks K)
abbrev q_read_forks (K : PySem.W.Frag) (a : Ads) := rC (ct_read_forks K)
theorem c_read_forks {K : PySem.W.Frag} {a : Ads} : Ctr (p_read_forks K a) (q_read_forks K a) := ctrC
def ct_lay_ways (K : PySem.W.Frag) : Ct (TR × V × V × V × List (Nat × Nat) × List (Nat × Nat)) where
  pre g vs H := vs = [g.2.1, g.2.2.1, g.2.2.2.1] ∧ nS g.1 ≤ 64 ∧ MD K H [] g.2.1 (ndD (ndB g.1 0)) ∧ MD K H [] g.2.2.1 (.tuple (g.2.2.2.2.1.map ndD)) ∧ MD K H [] g.2.2.2.1 (.tuple (g.2.2.2.2.2.map ndD)) ∧ Fits g.1 0 g.2.2.2.2.1 g.2.2.2.2.2
  post g H v H' := (∃ p u w, v = .ref p ∧ SqT K H' p [u, w] ∧ MD K H' [] w (wysD g.1)) ∧ Ext H H'
abbrev p_lay_ways (K : PySem.W.Frag) (a : Ads) : Sp := spC (ct_lay_ways K)
abbrev q_lay_ways (K : PySem.W.Frag) (a : Ads) := rC (ct_lay_ways K)
theorem c_lay_ways {K : PySem.W.Frag} {a : Ads} : Ctr (p_lay_ways K a) (q_lay_ways K a) := ctrC
def ct_Tree_init (K : PySem.W.Frag) (a : Ads) : Ct (Addr × Addr × TR) where
  pre g vs H := vs = [.ref g.1, .str (tS g.2.2)] ∧ H g.1 = some (.ins a.Tree g.2.1 []) ∧ nS g.2.2 ≤ 64
  post g H v H' := v = .non ∧ TreeAt K a H' (.ref g.1) g.2.2 ∧ ∀ c o, c ≠ g.1 → H c = some o → H' c = some o
abbrev p_Tree_init (K : PySem.W.Frag) (a : Ads) : Sp := spC (ct_Tree_init K a)
abbrev q_Tree_init (K : PySem.W.Frag) (a : Ads) := rC (ct_Tree_init K a)
theorem c_Tree_init {K : PySem.W.Frag} {a : Ads} : Ctr (p_Tree_init K a) (q_Tree_init K a) := ctrC
def ct_tree_n (K : PySem.W.Frag) (a : Ads) (f : TR → Nat) : Ct (V × TR) where
  pre g vs H := vs = [g.1] ∧ TreeAt K a H g.1 g.2
  post g H v H' := v = .int (f g.2 : Nat) ∧ Ext H H'
abbrev p_Tree_len (K : PySem.W.Frag) (a : Ads) : Sp := spC (ct_tree_n K a nS)
abbrev q_Tree_len (K : PySem.W.Frag) (a : Ads) := rC (ct_tree_n K a nS)
theorem c_Tree_len {K : PySem.W.Frag} {a : Ads} : Ctr (p_Tree_len K a) (q_Tree_len K a) := ctrC
abbrev p_Tree_forks (K : PySem.W.Frag) (a : Ads) : Sp := spC (ct_tree_n K a fun b => nS b - 1)
abbrev q_Tree_forks (K : PySem.W.Frag) (a : Ads) := rC (ct_tree_n K a fun b => nS b - 1)
theorem c_Tree_forks {K : PySem.W.Frag} {a : Ads} : Ctr (p_Tree_forks K a) (q_Tree_forks K a) := ctrC
/-! the law's -/
abbrev Sx := Int × Int × Int
def sxG (b : Addr) (y : Sx) : List (Addr × HO) := [(b, .lst [.int y.1, .int y.2.1, .int y.2.2])]
def SK : BoxK Sx := ⟨sxG, fun _ => True⟩
def ct_l_source (K : PySem.W.Frag) : Ct (Addr × List Int × Nat) where
  pre g vs H := vs = [.ref g.1, .int (g.2.2 : Nat)] ∧ SqL K H g.1 (g.2.1.map V.int)
  post g H v H' := ∃ b y, v = .ref b ∧ H b = none ∧ LAt (sxG b y) H' ∧ Ext H H'
abbrev p_l_source (K : PySem.W.Frag) (a : Ads) : Sp := spC (ct_l_source K)
abbrev q_l_source (K : PySem.W.Frag) (a : Ads) := rC (ct_l_source K)
theorem c_l_source {K : PySem.W.Frag} {a : Ads} : Ctr (p_l_source K a) (q_l_source K a) := ctrC
def ct_l_take : Ct (Addr × Sx × Nat) := ct_lbox SK (fun n : Nat => [.int (n : Nat)]) (fun n _ v _ => ∃ r : Nat, v = .int (r : Nat) ∧ r < n) (fun n _ => 0 < n ∧ n < 1000000)
abbrev p_l_take (K : PySem.W.Frag) (a : Ads) : Sp := spC (ct_l_take)
abbrev q_l_take (K : PySem.W.Frag) (a : Ads) := rC (ct_l_take)
theorem c_l_take {K : PySem.W.Frag} {a : Ads} : Ctr (p_l_take K a) (q_l_take K a) := ctrC
structure TopD (b : TR) (o : Nat) (kvs : List (List Key × V)) : Prop where
  val : ∀ k, valV kvs k = topK b o k
  nd : (kvs.map (·.1)).Nodup
  len : kvs.length + 1 ≤ nS b
def ct_l_part (K : PySem.W.Frag) (n : Nat) : Ct (Addr × Sx × Nat × Nat × Nat) := ct_lbox SK (fun g : Nat × Nat × Nat => [.int (g.1 : Nat), .int (g.2.1 : Nat), .int (g.2.2 : Nat)])
  (fun g _ v H' => ∃ b p d kvs, nS b = g.2.1 ∧ v = .ref p ∧ H' p = some (.tup [.str (tS b), .ref d]) ∧ H' d = some (.dT kvs) ∧ TopD b g.1 kvs) (fun g _ => 1 ≤ g.2.1 ∧ g.2.1 ≤ n ∧ g.2.1 ≤ 64 ∧ g.1 + g.2.1 ≤ 64)
abbrev p_l_part (K : PySem.W.Frag) (a : Ads) (n : Nat) : Sp := spC (ct_l_part K n)
abbrev q_l_part (K : PySem.W.Frag) (a : Ads) (n : Nat) := rC (ct_l_part K n)
theorem c_l_part {K : PySem.W.Frag} {a : Ads} {n : Nat} : Ctr (p_l_part K a n) (q_l_part K a n) := ctrC
def topsR (H : Hp) (v : V) (b : TR) : Prop := ∃ d kvs, v = .ref d ∧ H d = some (.dT kvs) ∧ ∀ k, valV kvs k = topK b 0 k
def ct_l_tree (K : PySem.W.Frag) : Ct (Addr × Sx × Unit) := ct_lbox SK (fun _ => [.int 64]) (fun _ _ v H' => ∃ b p d, v = .ref p ∧ H' p = some (.tup [.str (tS b), .ref d, .int (nS b : Nat)]) ∧ topsR H' (.ref d) b ∧ nS b ≤ 64) (fun _ _ => True)
abbrev p_l_tree (K : PySem.W.Frag) (a : Ads) : Sp := spC (ct_l_tree K)
abbrev q_l_tree (K : PySem.W.Frag) (a : Ads) := rC (ct_l_tree K)
theorem c_l_tree {K : PySem.W.Frag} {a : Ads} : Ctr (p_l_tree K a) (q_l_tree K a) := ctrC
def ct_l_flags (K : PySem.W.Frag) : Ct (Addr × Sx × Nat) := ct_lbox SK (fun n => [.int (n : Nat)]) (fun n _ v _ => ∃ st, v = .str (pS st) ∧ st.length + 1 = n ∧ flgOk st) (fun n _ => 1 ≤ n ∧ n ≤ 64)
abbrev p_l_flags (K : PySem.W.Frag) (a : Ads) : Sp := spC (ct_l_flags K)
abbrev q_l_flags (K : PySem.W.Frag) (a : Ads) := rC (ct_l_flags K)
theorem c_l_flags {K : PySem.W.Frag} {a : Ads} : Ctr (p_l_flags K a) (q_l_flags K a) := ctrC
def lttS (g : Bool) : Str := if g then "a" else "s"
def ct_l_victim : Ct (V × TR × List Nat × Bool) where
  pre g vs H := vs = [g.1, .int (nS g.2.1 : Nat), .str (pS g.2.2.1), .str (lttS g.2.2.2)] ∧ topsR H g.1 g.2.1 ∧ g.2.2.1.length + 1 = nS g.2.1 ∧ nS g.2.1 ≤ 64
  post g H v H' := v = .int (vicN g.2.1 0 g.2.2.1 g.2.2.2 : Nat) ∧ Ext H H'
abbrev p_l_victim (K : PySem.W.Frag) (a : Ads) : Sp := spC ct_l_victim
abbrev q_l_victim (K : PySem.W.Frag) (a : Ads) := rC ct_l_victim
theorem c_l_victim {K : PySem.W.Frag} {a : Ads} : Ctr (p_l_victim K a) (q_l_victim K a) := ctrC
def ct_l_after : Ct (V × TR × List Nat × Nat) where
  pre g vs H := vs = [g.1, .int (nS g.2.1 : Nat), .str (pS g.2.2.1), .int (g.2.2.2 : Nat)] ∧ topsR H g.1 g.2.1 ∧ g.2.2.1.length + 1 = nS g.2.1 ∧ nS g.2.1 ≤ 64 ∧ g.2.2.2 < nS g.2.1
  post g H v H' := v = .str (pS (hitL g.2.2.1 (wy g.2.1 g.2.2.2))) ∧ Ext H H'
abbrev p_l_after (K : PySem.W.Frag) (a : Ads) : Sp := spC ct_l_after
abbrev q_l_after (K : PySem.W.Frag) (a : Ads) := rC ct_l_after
theorem c_l_after {K : PySem.W.Frag} {a : Ads} : Ctr (p_l_after K a) (q_l_after K a) := ctrC
def ct_l_rules : Ct Unit where
  pre g vs H := vs = [] ∧ True
  post g H v H' := newV (rlsS.map V.str) H v H' ∧ Ext H H'
abbrev p_l_rules (K : PySem.W.Frag) (a : Ads) : Sp := spC ct_l_rules
abbrev q_l_rules (K : PySem.W.Frag) (a : Ads) := rC ct_l_rules
theorem c_l_rules {K : PySem.W.Frag} {a : Ads} : Ctr (p_l_rules K a) (q_l_rules K a) := ctrC
def ct_l_run (K : PySem.W.Frag) : Ct (Addr × Sx × V × TR × List Nat × Rl) := ct_lbox SK (fun g => [g.1, .int (nS g.2.1 : Nat), .str (pS g.2.2.1), .str (rlS g.2.2.2)]) (fun g _ v H' => ∃ run, RunG K H' g.2.1 v run ∧ run.length ≤ 60)
  (fun g H => topsR H g.1 g.2.1 ∧ g.2.2.1.length + 1 = nS g.2.1 ∧ nS g.2.1 ≤ 64)
abbrev p_l_run (K : PySem.W.Frag) (a : Ads) : Sp := spC (ct_l_run K)
abbrev q_l_run (K : PySem.W.Frag) (a : Ads) := rC (ct_l_run K)
theorem c_l_run {K : PySem.W.Frag} {a : Ads} : Ctr (p_l_run K a) (q_l_run K a) := ctrC
def ct_l_judged (K : PySem.W.Frag) : Ct (V × TR × Rl × List Nat × V × List Ln) where
  pre g vs H := vs = [g.1, .int (nS g.2.1 : Nat), .str (rlS g.2.2.1), .str (pS g.2.2.2.1), g.2.2.2.2.1] ∧ topsR H g.1 g.2.1 ∧ g.2.2.2.1.length + 1 = nS g.2.1 ∧ nS g.2.1 ≤ 64 ∧ RunG K H g.2.1 g.2.2.2.2.1 g.2.2.2.2.2 ∧ g.2.2.2.2.2.length ≤ 200
  post g H v H' := MD K H' [] v (.tuple [fwD (fwR g.2.1 g.2.2.1 g.2.2.2.2.2 0 g.2.2.2.1), .str (pS (fbL g.2.1 g.2.2.1 g.2.2.2.1 g.2.2.2.2.2))]) ∧ Ext H H'
abbrev p_l_judged (K : PySem.W.Frag) (a : Ads) : Sp := spC (ct_l_judged K)
abbrev q_l_judged (K : PySem.W.Frag) (a : Ads) := rC (ct_l_judged K)
theorem c_l_judged {K : PySem.W.Frag} {a : Ads} : Ctr (p_l_judged K a) (q_l_judged K a) := ctrC
abbrev p_l_is_integer (K : PySem.W.Frag) (a : Ads) : Sp := spC (ct_is_integer K)
abbrev q_l_is_integer (K : PySem.W.Frag) (a : Ads) := rC (ct_is_integer K)
theorem c_l_is_integer {K : PySem.W.Frag} {a : Ads} : Ctr (p_l_is_integer K a) (q_l_is_integer K a) := ctrC
structure RrG where
  tv : V
  kv : V
  b : TR
  r : Rl
  st : List Nat
  rv : V
  run : List Ln
def ct_l_rule_right (K : PySem.W.Frag) (a : Ads) : Ct RrG where
  pre g vs H := vs = [g.tv, g.kv, .int (nS g.b : Nat), .str (rlS g.r), .str (pS g.st), g.rv] ∧ TreeAt K a H g.tv g.b ∧ topsR H g.kv g.b ∧ g.st.length + 1 = nS g.b ∧ flgOk g.st ∧ RunG K H g.b g.rv g.run ∧ g.run.length ≤ 200
  post g H v H' := v = .bl true ∧ Ext H H'
abbrev p_l_rule_right (K : PySem.W.Frag) (a : Ads) : Sp := spC (ct_l_rule_right K a)
abbrev q_l_rule_right (K : PySem.W.Frag) (a : Ads) := rC (ct_l_rule_right K a)
theorem c_l_rule_right {K : PySem.W.Frag} {a : Ads} : Ctr (p_l_rule_right K a) (q_l_rule_right K a) := ctrC
def ct_l_reached (K : PySem.W.Frag) : Ct (V × TR × List Nat × Rl × Rl) where
  pre g vs H := vs = [g.1, .int (nS g.2.1 : Nat), .str (pS g.2.2.1), .str (rlS g.2.2.2.1), .str (rlS g.2.2.2.2)] ∧ topsR H g.1 g.2.1 ∧ g.2.2.1.length + 1 = nS g.2.1 ∧ nS g.2.1 ≤ 4
  post g H v H' := v = .bl (rchS g.2.1 g.2.2.2.1 g.2.2.2.2 64 0 [(g.2.2.1, g.2.2.1)]) ∧ Ext H H'
abbrev p_l_reached (K : PySem.W.Frag) (a : Ads) : Sp := spC (ct_l_reached K)
abbrev q_l_reached (K : PySem.W.Frag) (a : Ads) := rC (ct_l_reached K)
theorem c_l_reached {K : PySem.W.Frag} {a : Ads} : Ctr (p_l_reached K a) (q_l_reached K a) := ctrC
def ct_l_same_right (K : PySem.W.Frag) (a : Ads) : Ct (V × TR × V) where
  pre g vs H := vs = [g.1, .int (nS g.2.1 : Nat), g.2.2] ∧ TreeAt K a H g.1 g.2.1 ∧ ∃ p, g.2.2 = .ref p ∧ SqL K H p (rlsS.map V.str)
  post g H v H' := v = .bl true ∧ Ext H H'
abbrev p_l_same_right (K : PySem.W.Frag) (a : Ads) : Sp := spC (ct_l_same_right K a)
abbrev q_l_same_right (K : PySem.W.Frag) (a : Ads) := rC (ct_l_same_right K a)
theorem c_l_same_right {K : PySem.W.Frag} {a : Ads} : Ctr (p_l_same_right K a) (q_l_same_right K a) := ctrC
/-- a bad value, and its data -/
def OddD (K : PySem.W.Frag) (H : Hp) (v : V) : Prop := ∃ t d, Ty0 K H v t ∧ t ≠ .bool ∧ Dp K H v d ∧ PyData.canLay0 d = true ∧ PyData.depth d ≤ 5
/-- what is new stands in F3, what is old and no list, too -/
def NewK (F H' F3 : Hp) : Prop := (∀ c o, F c = none → H' c = some o → F3 c = some o) ∧ KeepT F3 F
def ct_l_bad_rule (K : PySem.W.Frag) : Ct (Addr × Sx × Rl) := ct_lbox SK (fun r => [.str (rlS r)]) (fun _ F v H' => (∀ F3, NewK F H' F3 → OddD K F3 v) ∧ rulB v = false) (fun _ _ => True)
abbrev p_l_bad_rule (K : PySem.W.Frag) (a : Ads) : Sp := spC (ct_l_bad_rule K)
abbrev q_l_bad_rule (K : PySem.W.Frag) (a : Ads) := rC (ct_l_bad_rule K)
theorem c_l_bad_rule {K : PySem.W.Frag} {a : Ads} : Ctr (p_l_bad_rule K a) (q_l_bad_rule K a) := ctrC
def ct_l_bad_flags (K : PySem.W.Frag) : Ct (Addr × Sx × TR × List Nat) := ct_lbox SK (fun g => [.str (pS g.2)]) (fun g F v H' => (∀ F3, NewK F H' F3 → OddD K F3 v) ∧ strOk v ∧ flOk false g.1 v = false) (fun g _ => g.2.length + 1 = nS g.1 ∧ nS g.1 ≤ 64 ∧ flgOk g.2)
abbrev p_l_bad_flags (K : PySem.W.Frag) (a : Ads) : Sp := spC (ct_l_bad_flags K)
abbrev q_l_bad_flags (K : PySem.W.Frag) (a : Ads) := rC (ct_l_bad_flags K)
theorem c_l_bad_flags {K : PySem.W.Frag} {a : Ads} : Ctr (p_l_bad_flags K a) (q_l_bad_flags K a) := ctrC
def ct_l_bad_run (K : PySem.W.Frag) : Ct (Addr × Sx × V × List Ln × TR) := ct_lbox SK (fun g => [g.1, .int (nS g.2.2 : Nat)]) (fun g F v H' => ∃ p u i, v = .ref p ∧ ∀ F3, NewK F H' F3 → SqT K F3 p [u, .int i] ∧ RunB K F3 (nS g.2.2) u i) (fun g H => RunG K H g.2.2 g.1 g.2.1 ∧ g.2.1.length ≤ 200 ∧ nS g.2.2 ≤ 64)
abbrev p_l_bad_run (K : PySem.W.Frag) (a : Ads) : Sp := spC (ct_l_bad_run K)
abbrev q_l_bad_run (K : PySem.W.Frag) (a : Ads) := rC (ct_l_bad_run K)
theorem c_l_bad_run {K : PySem.W.Frag} {a : Ads} : Ctr (p_l_bad_run K a) (q_l_bad_run K a) := ctrC
def qbW : QB → Str × PyData
  | .ok _ _ _ => ("let", .none)
  | .rule _ d => ("rule", d)
  | .flags _ _ d => ("flags", d)
  | .line _ _ i => ("run", .int i)
def qbX (rv sv : V) : QB → V
  | .ok _ _ _ => .non
  | .rule _ _ => rv
  | .flags _ _ _ => sv
  | .line _ _ i => .int i
def ct_l_refused (K : PySem.W.Frag) (a : Ads) : Ct (Nat × QbG) where
  pre g vs H := vs = [.int (g.1 : Nat), g.2.tv, g.2.rv, g.2.sv, g.2.lv] ∧ TreeAt K a H g.2.tv g.2.b ∧ qbOk K H g.2.b g.2.rv g.2.sv g.2.lv g.2.q
  post g H v H' := (∃ p, v = .ref p ∧ H p = none ∧ H' p = some (.lst [.str (qbW g.2.q).1, qbX g.2.rv g.2.sv g.2.q, .bl true])) ∧ Ext H H'
abbrev p_l_refused (K : PySem.W.Frag) (a : Ads) : Sp := spC (ct_l_refused K a)
abbrev q_l_refused (K : PySem.W.Frag) (a : Ads) := rC (ct_l_refused K a)
theorem c_l_refused {K : PySem.W.Frag} {a : Ads} : Ctr (p_l_refused K a) (q_l_refused K a) := ctrC
structure DoG where
  tv : V
  b : TR
  r : Rl
  st : List Nat
  rv : V
  run : List Ln
def ct_l_doors_right (K : PySem.W.Frag) (a : Ads) : Ct (Addr × Sx × DoG) := ct_lbox SK (fun g => [g.tv, .int (nS g.b : Nat), .str (rlS g.r), .str (pS g.st), g.rv]) (fun _ _ v _ => v = .bl true)
  (fun g H => TreeAt K a H g.tv g.b ∧ g.st.length + 1 = nS g.b ∧ flgOk g.st ∧ RunG K H g.b g.rv g.run ∧ g.run.length ≤ 60)
abbrev p_l_doors_right (K : PySem.W.Frag) (a : Ads) : Sp := spC (ct_l_doors_right K a)
abbrev q_l_doors_right (K : PySem.W.Frag) (a : Ads) := rC (ct_l_doors_right K a)
theorem c_l_doors_right {K : PySem.W.Frag} {a : Ads} : Ctr (p_l_doors_right K a) (q_l_doors_right K a) := ctrC
def qcX (rv ov : V) : QC → List V
  | .ok _ _ => []
  | .one _ _ => [rv, .bl true]
  | .two _ _ _ => [ov, .bl true]
def ct_l_both_refused (K : PySem.W.Frag) (a : Ads) : Ct QcG where
  pre g vs H := vs = [g.tv, g.rv, g.ov] ∧ TreeAt K a H g.tv g.b ∧ qcOk K H g.rv g.ov g.q
  post g H v H' := (∃ p, v = .ref p ∧ H p = none ∧ H' p = some (.lst (qcX g.rv g.ov g.q))) ∧ Ext H H'
abbrev p_l_both_refused (K : PySem.W.Frag) (a : Ads) : Sp := spC (ct_l_both_refused K a)
abbrev q_l_both_refused (K : PySem.W.Frag) (a : Ads) := rC (ct_l_both_refused K a)
theorem c_l_both_refused {K : PySem.W.Frag} {a : Ads} : Ctr (p_l_both_refused K a) (q_l_both_refused K a) := ctrC
def ct_l_pairs_right (K : PySem.W.Frag) (a : Ads) : Ct (Addr × Sx × V × TR × Rl × Rl) := ct_lbox SK (fun g => [g.1, .str (rlS g.2.2.1), .str (rlS g.2.2.2)]) (fun _ _ v _ => v = .bl true) (fun g H => TreeAt K a H g.1 g.2.1)
abbrev p_l_pairs_right (K : PySem.W.Frag) (a : Ads) : Sp := spC (ct_l_pairs_right K a)
abbrev q_l_pairs_right (K : PySem.W.Frag) (a : Ads) := rC (ct_l_pairs_right K a)
theorem c_l_pairs_right {K : PySem.W.Frag} {a : Ads} : Ctr (p_l_pairs_right K a) (q_l_pairs_right K a) := ctrC
def ct_law (K : PySem.W.Frag) : Ct (Addr × List Int) where
  pre g vs H := vs = [.ref g.1] ∧ SqL K H g.1 (g.2.map V.int)
  post g H v H' := v = .bl true
abbrev p_law (K : PySem.W.Frag) (a : Ads) : Sp := spC (ct_law K)
abbrev q_law (K : PySem.W.Frag) (a : Ads) := rC (ct_law K)
theorem c_law {K : PySem.W.Frag} {a : Ads} : Ctr (p_law K a) (q_law K a) := ctrC
/-! ### readings and derivations (printed by gen.py) -/
def r_is_integer (K : PySem.W.Frag) (a : Ads) : sS := sRet (sAndV (sIsi K .int (sVar 0)) (sNotV K (sIsi K .bool (sVar 0))))
def r_is_place (K : PySem.W.Frag) (a : Ads) : sS := sRet (sAndV (sCallD (q_is_integer K a) [] (sCons (sVar 1) (sNil))) (sChain oLe oLt (sC (.int 0)) (sVar 1) (sVar 0)))
def r_is_made_of (K : PySem.W.Frag) (a : Ads) : sS := sRet (sAndV (sIsi K .str (sVar 0)) (sCall1 (nAll K) (sCons (sLc (siStr (sVar 0)) (sgName 2) (sYes) (sOp (oIn K false) (sVar 2) (sVar 1)) [2]) (sNil))))
def r_is_line (K : PySem.W.Frag) (a : Ads) : sS := sSeq (sIfS (sOr (sNot (sTru K (sIsi K .tuple (sVar 1)))) (sTst (sOp (oNe K) (sCall1 (nLen K) (sCons (sVar 1) (sNil))) (sC (.int 2))))) (sRet (sC (.bl false))) (sNext)) (sRet (sAndV (sOp (oIn K false) (sOp (oIx K) (sVar 1) (sC (.int 0))) (sC (.ref a.KINDS))) (sCallD (q_is_place K a) [] (sCons (sVar 0) (sCons (sOp (oIx K) (sVar 1) (sC (.int 1))) (sNil))))))
def r_checked_flags (K : PySem.W.Frag) (a : Ads) : sS := sSeq (sIfS (sOr (sNot (sTru K (sCallD (q_is_made_of K a) [] (sCons (sVar 1) (sCons (sC (.str ("LR" : Str))) (sNil)))))) (sTst (sOp (oNe K) (sCall1 (nLen K) (sCons (sVar 1) (sNil))) (sProO a.Tree (q_Tree_forks K a) (sVar 0))))) (sRaise a.InvalidFlags ("flags" : Str) (sVar 1)) (sNext)) (sRet (sVar 1))
def r_checked_run (K : PySem.W.Frag) (a : Ads) : sS := sRet (sCallD (q_checked_lines K a) [] (sCons (sLenO a.Tree (q_Tree_len K a) (sVar 0)) (sCons (sVar 1) (sNil))))
def r_checked_lines (K : PySem.W.Frag) (a : Ads) : sS := sSeq (sIfS (sNot (sTru K (sIsi K .list (sVar 1)))) (sRaise a.InvalidLine ("index" : Str) (s1Op oNeg (sC (.int 1)))) (sNext)) (sSeq (sFor (siEn K (sCons (sVar 1) (sNil))) (sgTup K 2 (sgCons (sgName 2) (sgCons (sgName 3) (sgNil)))) (sIfS (sNot (sTru K (sCallD (q_is_line K a) [] (sCons (sVar 0) (sCons (sVar 3) (sNil)))))) (sRaise a.InvalidLine ("index" : Str) (sVar 2)) (sNext))) (sRet (sCall1 (nList K) (sCons (sVar 1) (sNil)))))
def r_turned (K : PySem.W.Frag) (a : Ads) : sS := sSeq (sSet (sCall1 nListS (sCons (sVar 1) (sNil))) 3) (sSeq (sFor (siSeq K (sOp (oIx K) (sFldO a.Tree ("ways" : Str) (sVar 0)) (sVar 2))) (sgTup K 2 (sgCons (sgName 4) (sgCons (sgName 5) (sgNil)))) (sAsg (sVar 5) (sgSub (sVar 3) (sVar 4)))) (sRet (sMt K "str" (mJoin K) (sC (.str ("" : Str))) (sCons (sVar 3) (sNil)))))
def r_checked_rule (K : PySem.W.Frag) (a : Ads) : sS := sSeq (sIfS (sOr (sNot (sTru K (sIsi K .str (sVar 0)))) (sTst (sOp (oIn K true) (sVar 0) (sC (.ref a.RULES))))) (sRaise a.InvalidRule ("rule" : Str) (sVar 0)) (sNext)) (sRet (sVar 0))
def r_turned_by (K : PySem.W.Frag) (a : Ads) : sS := sSeq (sSet (sIf (sTst (sOp (oEq K) (sVar 3) (sC (.str ("hit" : Str))))) (sOp (oIx K) (sVar 1) (sC (.int 0))) (sOp (oIx K) (sVar 1) (sC (.int 1)))) 5) (sSeq (sIfS (sTst (sOp (oEq K) (sVar 5) (sC (.str ("t" : Str))))) (sRet (sCallD (q_turned K a) [] (sCons (sVar 0) (sCons (sVar 2) (sCons (sVar 4) (sNil)))))) (sNext)) (sRet (sVar 2)))
def r_goes_against (K : PySem.W.Frag) (a : Ads) : sS := sRet (sOp (oEq K) (sOp (oIx K) (sVar 0) (sC (.int 2))) (sC (.str ("a" : Str))))
def r_wrong_fork (K : PySem.W.Frag) (a : Ads) : sS := sSeq (sFor (siSeq K (sOp (oIx K) (sFldO a.Tree ("ways" : Str) (sVar 0)) (sVar 3))) (sgTup K 2 (sgCons (sgName 4) (sgCons (sgName 5) (sgNil)))) (sSeq (sSet (sOp (oEq K) (sOp (oIx K) (sVar 2) (sVar 4)) (sVar 5)) 6) (sIfS (sTst (sOp (oEq K) (sVar 6) (sCallD (q_goes_against K a) [] (sCons (sVar 1) (sNil))))) (sRet (sVar 4)) (sNext)))) (sRet (sC .non))
def r_first_wrong_by (K : PySem.W.Frag) (a : Ads) : sS := sSeq (sDrop (sCallD (q_checked_rule K a) [] (sCons (sVar 1) (sNil)))) (sSeq (sSet (sCallD (q_checked_flags K a) [] (sCons (sVar 0) (sCons (sVar 2) (sNil)))) 4) (sSeq (sFor (siEn K (sCons (sCallD (q_checked_run K a) [] (sCons (sVar 0) (sCons (sVar 3) (sNil)))) (sNil))) (sgTup K 2 (sgCons (sgName 5) (sgCons (sgTup K 2 (sgCons (sgName 6) (sgCons (sgName 7) (sgNil)))) (sgNil)))) (sCut (sIfS (sTst (sOp (oEq K) (sVar 6) (sC (.str ("load" : Str))))) (sSeq (sSet (sCallD (q_wrong_fork K a) [] (sCons (sVar 0) (sCons (sVar 1) (sCons (sVar 4) (sCons (sVar 7) (sNil)))))) 8) (sIfS (sTst (sOp oNotN (sVar 8) (sC .non))) (sRet (sTup (sCons (sVar 5) (sCons (sVar 8) (sNil))))) (sNext))) (sNext)) (sSet (sCallD (q_turned_by K a) [] (sCons (sVar 0) (sCons (sVar 1) (sCons (sVar 4) (sCons (sVar 6) (sCons (sVar 7) (sNil))))))) 4))) (sRet (sC .non))))
def r_flags_by (K : PySem.W.Frag) (a : Ads) : sS := sSeq (sDrop (sCallD (q_checked_rule K a) [] (sCons (sVar 1) (sNil)))) (sSeq (sSet (sCallD (q_checked_flags K a) [] (sCons (sVar 0) (sCons (sVar 2) (sNil)))) 4) (sSeq (sFor (siSeq K (sCallD (q_checked_run K a) [] (sCons (sVar 0) (sCons (sVar 3) (sNil))))) (sgTup K 2 (sgCons (sgName 5) (sgCons (sgName 6) (sgNil)))) (sSet (sCallD (q_turned_by K a) [] (sCons (sVar 0) (sCons (sVar 1) (sCons (sVar 4) (sCons (sVar 5) (sCons (sVar 6) (sNil))))))) 4)) (sRet (sVar 4))))
def r_same_rule (K : PySem.W.Frag) (a : Ads) : sS := sSeq (sDrop (sCallD (q_checked_rule K a) [] (sCons (sVar 1) (sNil)))) (sSeq (sDrop (sCallD (q_checked_rule K a) [] (sCons (sVar 2) (sNil)))) (sSeq (sIfS (sOr (sTst (sOp (oEq K) (sVar 1) (sVar 2))) (sTst (sOp (oEq K) (sLenO a.Tree (q_Tree_len K a) (sVar 0)) (sC (.int 1))))) (sRet (sC (.bl true))) (sNext)) (sRet (sAndV (sOp (oEq K) (sOp (oIx K) (sVar 1) (sC (.int 2))) (sC (.str ("s" : Str)))) (sAndV (sOp (oEq K) (sOp (oIx K) (sVar 2) (sC (.int 2))) (sC (.str ("s" : Str)))) (sOp (oEq K) (sOp (oIx K) (sVar 1) (sC (.int 0))) (sOp (oIx K) (sVar 2) (sC (.int 0)))))))))
def r_ends_fork (K : PySem.W.Frag) (a : Ads) : sS := sRet (sOp (oEq K) (sLc (siSeq K (sSl K (sVar 0) (sPart (s1Op oNeg (sC (.int 3)))) sNoP)) (sgName 1) (sYes) (sOp (oEq K) (sOp (oIx K) (sVar 1) (sC (.int 0))) (sC (.str ("open" : Str)))) [1]) (sLst (sCons (sC (.bl true)) (sCons (sC (.bl false)) (sCons (sC (.bl false)) (sNil))))))
def r_read_forks (K : PySem.W.Frag) (a : Ads) : sS := sSeq (sSet (sLst (sNil)) 1) (sSeq (sSet (sLst (sNil)) 2) (sSeq (sSet (sC (.int 0)) 3) (sSeq (sFor (siEnS (sCons (sVar 0) (sNil))) (sgTup K 2 (sgCons (sgName 4) (sgCons (sgName 5) (sgNil)))) (sIfS (sTst (sOp (oEq K) (sVar 5) (sC (.str ("(" : Str))))) (sDrop (sMt K "list" mAppend (sVar 1) (sCons (sTup (sCons (sC (.str ("open" : Str))) (sCons (sC (.int 0)) (sCons (sC (.int 0)) (sCons (sC (.int 0)) (sCons (sVar 4) (sNil))))))) (sNil)))) (sIfS (sTst (sOp (oEq K) (sVar 5) (sC (.str ("." : Str))))) (sSeq (sDrop (sMt K "list" mAppend (sVar 1) (sCons (sTup (sCons (sC (.str ("slot" : Str))) (sCons (sVar 3) (sCons (sVar 3) (sCons (sVar 3) (sCons (sVar 4) (sNil))))))) (sNil)))) (sSet (sOp oAdd (sVar 3) (sC (.int 1))) 3)) (sIfS (sAnd (sTst (sOp (oEq K) (sVar 5) (sC (.str (")" : Str))))) (sTru K (sCallD (q_ends_fork K a) [] (sCons (sVar 1) (sNil))))) (sSeq (sSet (sMt K "list" mPop (sVar 1) sNil) 6) (sSeq (sSet (sMt K "list" mPop (sVar 1) sNil) 7) (sSeq (sAsg (sTup (sCons (sOp (oIx K) (sVar 7) (sC (.int 2))) (sCons (sOp (oIx K) (sVar 7) (sC (.int 3))) (sCons (sOp (oIx K) (sVar 6) (sC (.int 3))) (sCons (sOp (oIx K) (sMt K "list" mPop (sVar 1) sNil) (sC (.int 4))) (sNil)))))) (sgTup K 4 (sgCons (sgName 8) (sgCons (sgName 9) (sgCons (sgName 10) (sgCons (sgName 11) (sgNil))))))) (sSeq (sDrop (sMt K "list" mAppend (sVar 2) (sCons (sTup (sCons (sVar 9) (sCons (sSl K (sVar 7) sNoP (sPart (sC (.int 2)))) (sCons (sSl K (sVar 6) sNoP (sPart (sC (.int 2)))) (sCons (sTup (sCons (sVar 8) (sCons (sVar 10) (sNil)))) (sCons (sTup (sCons (sVar 11) (sCons (sOp oAdd (sVar 4) (sC (.int 1))) (sNil)))) (sNil))))))) (sNil)))) (sDrop (sMt K "list" mAppend (sVar 1) (sCons (sTup (sCons (sC (.str ("fork" : Str))) (sCons (sVar 9) (sCons (sVar 8) (sCons (sVar 10) (sCons (sVar 11) (sNil))))))) (sNil)))))))) (sRet (sC .non)))))) (sSeq (sIfS (sOr (sTst (sOp (oNe K) (sCall1 (nLen K) (sCons (sVar 1) (sNil))) (sC (.int 1)))) (sTst (sOp (oEq K) (sOp (oIx K) (sOp (oIx K) (sVar 1) (sC (.int 0))) (sC (.int 0))) (sC (.str ("open" : Str)))))) (sRet (sC .non)) (sNext)) (sRet (sVar 2))))))
def r_lay_ways (K : PySem.W.Frag) (a : Ads) : sS := sSeq (sSet (sLst (sNil)) 3) (sSeq (sSet (sLst (sNil)) 4) (sSeq (sSet (sLst (sCons (sTup (sCons (sVar 0) (sCons (sTup (sNil)) (sNil)))) (sNil))) 5) (sSeq (sWhile (sTru K (sVar 5)) (sSeq (sAsg (sMt K "list" mPop (sVar 5) sNil) (sgTup K 2 (sgCons (sgTup K 2 (sgCons (sgName 6) (sgCons (sgName 7) (sgNil)))) (sgCons (sgName 8) (sgNil))))) (sIfS (sTst (sOp (oEq K) (sVar 6) (sC (.str ("slot" : Str))))) (sDrop (sMt K "list" mAppend (sVar 4) (sCons (sVar 8) (sNil)))) (sSeq (sDrop (sMt K "list" mAppend (sVar 3) (sCons (sVar 7) (sNil)))) (sSeq (sDrop (sMt K "list" mAppend (sVar 5) (sCons (sTup (sCons (sOp (oIx K) (sVar 2) (sVar 7)) (sCons (sOp (oAddT K) (sVar 8) (sTup (sCons (sTup (sCons (sVar 7) (sCons (sC (.str ("R" : Str))) (sNil)))) (sNil)))) (sNil)))) (sNil)))) (sDrop (sMt K "list" mAppend (sVar 5) (sCons (sTup (sCons (sOp (oIx K) (sVar 1) (sVar 7)) (sCons (sOp (oAddT K) (sVar 8) (sTup (sCons (sTup (sCons (sVar 7) (sCons (sC (.str ("L" : Str))) (sNil)))) (sNil)))) (sNil)))) (sNil))))))))) (sRet (sTup (sCons (sTuple K (sVar 3)) (sCons (sTuple K (sVar 4)) (sNil))))))))
def r_Tree_init (K : PySem.W.Frag) (a : Ads) : sS := sSeq (sSet (sC .non) 2) (sCut (sIfS (sAnd (sTru K (sIsi K .str (sVar 1))) (sTst (sOp oLe (sCall1 (nLen K) (sCons (sVar 1) (sNil))) (sOp oSub (sOp oMul (sC (.int 3)) (sConO a.Tree ("MOST" : Str) (.int 64) (sVar 0))) (sC (.int 2)))))) (sSet (sCallD (q_read_forks K a) [] (sCons (sVar 1) (sNil))) 2) (sNext)) (sSeq (sIfS (sTst (sOp oIsN (sVar 2) (sC .non))) (sRaise a.InvalidTree ("text" : Str) (sVar 1)) (sNext)) (sSeq (sSet (sCall1 (nSortRow K) (sCons (sVar 2) (sNil))) 3) (sSeq (sSetO a.Tree ("text" : Str) (sVar 0) (sVar 1)) (sSeq (sSetO a.Tree ("lefts" : Str) (sVar 0) (sTuple K (sLc (siSeq K (sVar 3)) (sgName 4) (sYes) (sOp (oIx K) (sVar 4) (sC (.int 1))) [4]))) (sSeq (sSetO a.Tree ("rights" : Str) (sVar 0) (sTuple K (sLc (siSeq K (sVar 3)) (sgName 4) (sYes) (sOp (oIx K) (sVar 4) (sC (.int 2))) [4]))) (sSeq (sSetO a.Tree ("spans" : Str) (sVar 0) (sTuple K (sLc (siSeq K (sVar 3)) (sgName 4) (sYes) (sOp (oIx K) (sVar 4) (sC (.int 3))) [4]))) (sSeq (sSetO a.Tree ("bounds" : Str) (sVar 0) (sTuple K (sLc (siSeq K (sVar 3)) (sgName 4) (sYes) (sOp (oIx K) (sVar 4) (sC (.int 4))) [4]))) (sSeq (sSetO a.Tree ("postorder" : Str) (sVar 0) (sTuple K (sLc (siSeq K (sVar 2)) (sgName 4) (sYes) (sOp (oIx K) (sVar 4) (sC (.int 0))) [4]))) (sSeq (sSetO a.Tree ("root" : Str) (sVar 0) (sIf (sTru K (sVar 2)) (sTup (sCons (sC (.str ("fork" : Str))) (sCons (sOp (oIx K) (sOp (oIx K) (sVar 2) (s1Op oNeg (sC (.int 1)))) (sC (.int 0))) (sNil)))) (sTup (sCons (sC (.str ("slot" : Str))) (sCons (sC (.int 0)) (sNil)))))) (sAsg (sCallD (q_lay_ways K a) [] (sCons (sFldO a.Tree ("root" : Str) (sVar 0)) (sCons (sFldO a.Tree ("lefts" : Str) (sVar 0)) (sCons (sFldO a.Tree ("rights" : Str) (sVar 0)) (sNil))))) (sgTup K 2 (sgCons (sgFld a.Tree ("preorder" : Str) (sVar 0)) (sgCons (sgFld a.Tree ("ways" : Str) (sVar 0)) (sgNil)))))))))))))))
def r_Tree_len (K : PySem.W.Frag) (a : Ads) : sS := sRet (sCall1 (nLen K) (sCons (sFldO a.Tree ("ways" : Str) (sVar 0)) (sNil)))
def r_Tree_forks (K : PySem.W.Frag) (a : Ads) : sS := sRet (sCall1 (nLen K) (sCons (sFldO a.Tree ("spans" : Str) (sVar 0)) (sNil)))
def r_l_source (K : PySem.W.Frag) (a : Ads) : sS := sSeq (sSet (sOp oAdd (sOp oAdd (sC (.int 104617)) (sOp oMul (sC (.int 7919)) (sVar 1))) (sOp oMod (sCall1 (nSum K) (sCons (sSl K (sVar 0) sNoP (sPart (sC (.int 1)))) (sNil))) (sC (.int 1000003)))) 2) (sCut (sIfS (sTst (sOp oLt (sVar 1) (sCall1 (nLen K) (sCons (sVar 0) (sNil))))) (sSet (sOp (oIx K) (sVar 0) (sVar 1)) 2) (sNext)) (sCut (sIfS (sTst (sOp oLt (sVar 2) (sC (.int 0)))) (sSet (sOp oSub (sC (.int 1)) (sVar 2)) 2) (sNext)) (sSeq (sSet (sC (.int 0)) 3) (sCut (sIfS (sTst (sOp oGe (sVar 2) (sOp oPow (sC (.int 10)) (sC (.int 18))))) (sSet (sVar 2) 3) (sNext)) (sRet (sLst (sCons (sVar 3) (sCons (sOp oMod (sCall1 nInt (sCons (sVar 2) (sNil))) (sC (.int 2147483647))) (sCons (sC (.int 0)) (sNil))))))))))
def r_l_take (K : PySem.W.Frag) (a : Ads) : sS := sSeq (sIfS (sTst (sOp oGt (sOp (oIx K) (sVar 0) (sC (.int 0))) (sC (.int 0)))) (sSeq (sSet (sOp oMod (sCall1 nInt (sCons (sOp (oIx K) (sVar 0) (sC (.int 0))) (sNil))) (sVar 1)) 2) (sSeq (sAsg (sOp oFdv (sOp (oIx K) (sVar 0) (sC (.int 0))) (sVar 1)) (sgSub (sVar 0) (sC (.int 0)))) (sRet (sVar 2)))) (sNext)) (sSeq (sAsg (sOp oAdd (sOp (oIx K) (sVar 0) (sC (.int 2))) (sC (.int 1))) (sgSub (sVar 0) (sC (.int 2)))) (sSeq (sSet (sOp oMod (sCall1 nInt (sCons (sOp oAdd (sOp oMul (sOp oAdd (sOp (oIx K) (sVar 0) (sC (.int 1))) (sOp oMul (sC (.int 40503)) (sOp (oIx K) (sVar 0) (sC (.int 2))))) (sC (.int 48271))) (sC (.int 12820163))) (sNil))) (sC (.int 2147483647))) 3) (sSeq (sSet (sOp oMod (sCall1 nInt (sCons (sOp oAdd (sOp oAdd (sOp oMul (sVar 3) (sVar 3)) (sOp oMul (sC (.int 69621)) (sOp (oIx K) (sVar 0) (sC (.int 2))))) (sOp (oIx K) (sVar 0) (sC (.int 1)))) (sNil))) (sC (.int 2147483629))) 3) (sSeq (sSet (sOp oMod (sCall1 nInt (sCons (sOp oAdd (sOp oMul (sVar 3) (sC (.int 16807))) (sOp (oIx K) (sVar 0) (sC (.int 2)))) (sNil))) (sC (.int 2147483647))) 3) (sRet (sOp oMod (sCall1 nInt (sCons (sOp oFdv (sVar 3) (sC (.int 13))) (sNil))) (sVar 1)))))))
def r_l_part (K : PySem.W.Frag) (a : Ads) (n : Nat) : sS := sSeq (sIfS (sTst (sOp (oEq K) (sVar 2) (sC (.int 1)))) (sRet (sTup (sCons (sC (.str ("." : Str))) (sCons (sDctT) (sNil))))) (sNext)) (sSeq (sSet (sOp oAdd (sC (.int 1)) (sCallD (q_l_take K a) [] (sCons (sVar 0) (sCons (sOp oSub (sVar 2) (sC (.int 1))) (sNil))))) 4) (sCut (sIfS (sTst (sOp (oEq K) (sVar 3) (sC (.int 1)))) (sSet (sC (.int 1)) 4) (sNext)) (sCut (sIfS (sTst (sOp (oEq K) (sVar 3) (sC (.int 2)))) (sSet (sOp oSub (sVar 2) (sC (.int 1))) 4) (sNext)) (sCut (sIfS (sTst (sOp (oEq K) (sVar 3) (sC (.int 3)))) (sSet (sOp oFdv (sVar 2) (sC (.int 2))) 4) (sNext)) (sSeq (sSet (sCallD (q_l_part K a n) [] (sCons (sVar 0) (sCons (sVar 1) (sCons (sVar 4) (sCons (sVar 3) (sNil)))))) 5) (sSeq (sSet (sCallD (q_l_part K a n) [] (sCons (sVar 0) (sCons (sOp oAdd (sVar 1) (sVar 4)) (sCons (sOp oSub (sVar 2) (sVar 4)) (sCons (sVar 3) (sNil)))))) 6) (sSeq (sSet (sDisT1 (sTup (sCons (sVar 1) (sCons (sOp oSub (sOp oAdd (sVar 1) (sVar 2)) (sC (.int 1))) (sNil)))) (sOp oSub (sOp oAdd (sVar 1) (sVar 4)) (sC (.int 1)))) 7) (sSeq (sDrop (sMt K "dict" mUpdT (sVar 7) (sCons (sOp (oIx K) (sVar 5) (sC (.int 1))) (sNil)))) (sSeq (sDrop (sMt K "dict" mUpdT (sVar 7) (sCons (sOp (oIx K) (sVar 6) (sC (.int 1))) (sNil)))) (sRet (sTup (sCons (sOp oAdd (sOp oAdd (sOp oAdd (sC (.str ("(" : Str))) (sOp (oIx K) (sVar 5) (sC (.int 0)))) (sOp (oIx K) (sVar 6) (sC (.int 0)))) (sC (.str (")" : Str)))) (sCons (sVar 7) (sNil))))))))))))))
def r_l_tree (K : PySem.W.Frag) (a : Ads) : sS := sSeq (sSet (sCallD (q_l_take K a) [] (sCons (sVar 0) (sCons (sC (.int 9)) (sNil)))) 2) (sSeq (sSet (sOp oAdd (sC (.int 1)) (sCallD (q_l_take K a) [] (sCons (sVar 0) (sCons (sCall1 nMin2 (sCons (sVar 1) (sCons (sC (.int 7)) (sNil)))) (sNil))))) 3) (sCut (sIfS (sTst (sOp (oEq K) (sCallD (q_l_take K a) [] (sCons (sVar 0) (sCons (sC (.int 6)) (sNil)))) (sC (.int 0)))) (sSet (sOp oAdd (sC (.int 1)) (sCallD (q_l_take K a) [] (sCons (sVar 0) (sCons (sVar 1) (sNil))))) 3) (sNext)) (sSeq (sSet (sC (.int 0)) 4) (sCut (sIfS (sTst (sOp (oEq K) (sVar 2) (sC (.int 0)))) (sSet (sC (.int 1)) 3) (sNext)) (sCut (sIfS (sOr (sTst (sOp (oEq K) (sVar 2) (sC (.int 1)))) (sTst (sOp (oEq K) (sVar 2) (sC (.int 2))))) (sSet (sVar 2) 4) (sNext)) (sCut (sIfS (sTst (sOp (oEq K) (sVar 2) (sC (.int 3)))) (sSeq (sSet (sLc (siSeq K (sLst (sCons (sC (.int 1)) (sCons (sC (.int 2)) (sCons (sC (.int 4)) (sCons (sC (.int 8)) (sCons (sC (.int 16)) (sCons (sC (.int 32)) (sCons (sC (.int 64)) (sNil)))))))))) (sgName 7) (sTst (sOp oLe (sVar 7) (sVar 1))) (sVar 7) [7]) 5) (sSeq (sSet (sOp (oIx K) (sVar 5) (sCallD (q_l_take K a) [] (sCons (sVar 0) (sCons (sCall1 (nLen K) (sCons (sVar 5) (sNil))) (sNil))))) 3) (sSet (sC (.int 3)) 4))) (sNext)) (sSeq (sSet (sCallD (q_l_part K a 64) [] (sCons (sVar 0) (sCons (sC (.int 0)) (sCons (sVar 3) (sCons (sVar 4) (sNil)))))) 6) (sRet (sTup (sCons (sOp (oIx K) (sVar 6) (sC (.int 0))) (sCons (sOp (oIx K) (sVar 6) (sC (.int 1))) (sCons (sVar 3) (sNil)))))))))))))
def r_l_flags (K : PySem.W.Frag) (a : Ads) : sS := sRet (sMt K "str" (mJoin K) (sC (.str ("" : Str))) (sCons (sLc (siR1 (sCons (sOp oSub (sVar 1) (sC (.int 1))) (sNil))) (sgName 2) (sYes) (sOp (oIx K) (sC (.str ("LR" : Str))) (sCallD (q_l_take K a) [] (sCons (sVar 0) (sCons (sC (.int 2)) (sNil))))) [2]) (sNil)))
def r_l_victim (K : PySem.W.Frag) (a : Ads) : sS := sSeq (sPar 4 5 (sCons (sC (.int 0)) (sCons (sOp oSub (sVar 1) (sC (.int 1))) (sNil)))) (sCut (sFor (siR1 (sCons (sC (.int 64)) (sNil))) (sgName 6) (sSeq (sIfS (sTst (sOp (oEq K) (sVar 4) (sVar 5))) (sBreak) (sNext)) (sSeq (sSet (sDGetT (sVar 0) (sTup (sCons (sVar 4) (sCons (sVar 5) (sNil))))) 7) (sIfS (sTst (sOp (oEq K) (sOp (oEq K) (sOp (oIx K) (sVar 2) (sVar 7)) (sC (.str ("L" : Str)))) (sOp (oEq K) (sVar 3) (sC (.str ("s" : Str)))))) (sSet (sVar 7) 5) (sSet (sOp oAdd (sVar 7) (sC (.int 1))) 4))))) (sRet (sVar 4)))
def r_l_after (K : PySem.W.Frag) (a : Ads) : sS := sSeq (sSet (sCall1 nListS (sCons (sVar 2) (sNil))) 4) (sSeq (sPar 5 6 (sCons (sC (.int 0)) (sCons (sOp oSub (sVar 1) (sC (.int 1))) (sNil)))) (sCut (sFor (siR1 (sCons (sC (.int 64)) (sNil))) (sgName 7) (sSeq (sIfS (sTst (sOp (oEq K) (sVar 5) (sVar 6))) (sBreak) (sNext)) (sSeq (sSet (sDGetT (sVar 0) (sTup (sCons (sVar 5) (sCons (sVar 6) (sNil))))) 8) (sIfS (sTst (sOp oLe (sVar 3) (sVar 8))) (sSeq (sAsg (sC (.str ("L" : Str))) (sgSub (sVar 4) (sVar 8))) (sSet (sVar 8) 6)) (sSeq (sAsg (sC (.str ("R" : Str))) (sgSub (sVar 4) (sVar 8))) (sSet (sOp oAdd (sVar 8) (sC (.int 1))) 5)))))) (sRet (sMt K "str" (mJoin K) (sC (.str ("" : Str))) (sCons (sVar 4) (sNil))))))
def r_l_rules (K : PySem.W.Frag) (a : Ads) : sS := sRet (sLst (sCons (sC (.str ("tta" : Str))) (sCons (sC (.str ("tts" : Str))) (sCons (sC (.str ("tka" : Str))) (sCons (sC (.str ("tks" : Str))) (sCons (sC (.str ("kta" : Str))) (sCons (sC (.str ("kts" : Str))) (sCons (sC (.str ("kka" : Str))) (sCons (sC (.str ("kks" : Str))) (sNil))))))))))
def r_l_run (K : PySem.W.Frag) (a : Ads) : sS := sSeq (sSet (sCallD (q_l_take K a) [] (sCons (sVar 0) (sCons (sC (.int 13)) (sNil)))) 5) (sCut (sIfS (sTst (sOp (oEq K) (sCallD (q_l_take K a) [] (sCons (sVar 0) (sCons (sC (.int 6)) (sNil)))) (sC (.int 0)))) (sSet (sOp oAdd (sC (.int 13)) (sCallD (q_l_take K a) [] (sCons (sVar 0) (sCons (sC (.int 48)) (sNil))))) 5) (sNext)) (sSeq (sSet (sCallD (q_l_take K a) [] (sCons (sVar 0) (sCons (sC (.int 3)) (sNil)))) 6) (sSeq (sSet (sCallD (q_l_take K a) [] (sCons (sVar 0) (sCons (sOp oAdd (sVar 5) (sC (.int 1))) (sNil)))) 7) (sSeq (sSet (sLst (sNil)) 8) (sSeq (sFor (siR1 (sCons (sVar 5) (sNil))) (sgName 9) (sSeq (sSet (sOp (oIx K) (sLst (sCons (sC (.str ("hit" : Str))) (sCons (sC (.str ("load" : Str))) (sNil)))) (sCallD (q_l_take K a) [] (sCons (sVar 0) (sCons (sC (.int 2)) (sNil))))) 10) (sSeq (sSet (sCallD (q_l_take K a) [] (sCons (sVar 0) (sCons (sVar 2) (sNil)))) 11) (sCut (sIfS (sAnd (sTst (sOp (oEq K) (sVar 10) (sC (.str ("load" : Str))))) (sOr (sTst (sOp (oEq K) (sVar 6) (sC (.int 1)))) (sAnd (sTst (sOp (oEq K) (sVar 6) (sC (.int 2)))) (sTst (sOp (oNe K) (sVar 9) (sVar 7)))))) (sSet (sCallD (q_l_victim K a) [] (sCons (sVar 1) (sCons (sVar 2) (sCons (sVar 3) (sCons (sOp (oIx K) (sVar 4) (sC (.int 2))) (sNil)))))) 11) (sNext)) (sCut (sIfS (sTst (sOp (oEq K) (sOp (oIx K) (sVar 4) (sCall1 nInt (sCons (sOp (oEq K) (sVar 10) (sC (.str ("load" : Str)))) (sNil)))) (sC (.str ("t" : Str))))) (sSet (sCallD (q_l_after K a) [] (sCons (sVar 1) (sCons (sVar 2) (sCons (sVar 3) (sCons (sVar 11) (sNil)))))) 3) (sNext)) (sDrop (sMt K "list" mAppend (sVar 8) (sCons (sTup (sCons (sVar 10) (sCons (sVar 11) (sNil)))) (sNil))))))))) (sRet (sVar 8)))))))
def r_l_judged (K : PySem.W.Frag) (a : Ads) : sS := sSeq (sSet (sCall1 nListS (sCons (sVar 3) (sNil))) 5) (sSeq (sSet (sC .non) 6) (sCut (sFor (siR1 (sCons (sCall1 (nLen K) (sCons (sVar 4) (sNil))) (sNil))) (sgName 7) (sSeq (sSet (sOp (oIx K) (sOp (oIx K) (sVar 4) (sVar 7)) (sC (.int 0))) 8) (sSeq (sSet (sOp (oIx K) (sOp (oIx K) (sVar 4) (sVar 7)) (sC (.int 1))) 9) (sSeq (sPar 10 11 (sCons (sC (.int 0)) (sCons (sOp oSub (sVar 1) (sC (.int 1))) (sNil)))) (sFor (siR1 (sCons (sC (.int 64)) (sNil))) (sgName 12) (sSeq (sIfS (sTst (sOp (oEq K) (sVar 10) (sVar 11))) (sBreak) (sNext)) (sSeq (sSet (sDGetT (sVar 0) (sTup (sCons (sVar 10) (sCons (sVar 11) (sNil))))) 13) (sSeq (sSet (sC (.str ("R" : Str))) 14) (sCut (sIfS (sTst (sOp oLe (sVar 9) (sVar 13))) (sSet (sC (.str ("L" : Str))) 14) (sNext)) (sCut (sIfS (sAnd (sTst (sOp oIsN (sVar 6) (sC .non))) (sAnd (sTst (sOp (oEq K) (sVar 8) (sC (.str ("load" : Str))))) (sTst (sOp (oEq K) (sOp (oEq K) (sOp (oIx K) (sVar 5) (sVar 13)) (sVar 14)) (sOp (oEq K) (sOp (oIx K) (sVar 2) (sC (.int 2))) (sC (.str ("a" : Str)))))))) (sSet (sTup (sCons (sVar 7) (sCons (sVar 13) (sNil)))) 6) (sNext)) (sCut (sIfS (sTst (sOp (oEq K) (sOp (oIx K) (sVar 2) (sCall1 nInt (sCons (sOp (oEq K) (sVar 8) (sC (.str ("load" : Str)))) (sNil)))) (sC (.str ("t" : Str))))) (sAsg (sVar 14) (sgSub (sVar 5) (sVar 13))) (sNext)) (sIfS (sTst (sOp (oEq K) (sVar 14) (sC (.str ("L" : Str))))) (sSet (sVar 13) 11) (sSet (sOp oAdd (sVar 13) (sC (.int 1))) 10))))))))))))) (sRet (sTup (sCons (sVar 6) (sCons (sMt K "str" (mJoin K) (sC (.str ("" : Str))) (sCons (sVar 5) (sNil))) (sNil)))))))
def r_l_is_integer (K : PySem.W.Frag) (a : Ads) : sS := sRet (sAndV (sIsi K .int (sVar 0)) (sNotV K (sIsi K .bool (sVar 0))))
def r_l_rule_right (K : PySem.W.Frag) (a : Ads) : sS := sSeq (sSet (sCallD (q_l_judged K a) [] (sCons (sVar 1) (sCons (sVar 2) (sCons (sVar 3) (sCons (sVar 4) (sCons (sVar 5) (sNil))))))) 6) (sSeq (sSet (sCall1 (nList K) (sCons (sVar 5) (sNil))) 7) (sSeq (sSet (sCallD (q_first_wrong_by K a) [] (sCons (sVar 0) (sCons (sVar 3) (sCons (sVar 4) (sCons (sVar 7) (sNil)))))) 8) (sSeq (sSet (sCallD (q_flags_by K a) [] (sCons (sVar 0) (sCons (sVar 3) (sCons (sVar 4) (sCons (sVar 7) (sNil)))))) 9) (sSeq (sIfS (sOr (sTst (sOp (oNe K) (sVar 7) (sVar 5))) (sOr (sNot (sTru K (sIsi K .str (sVar 9)))) (sTst (sOp (oNe K) (sVar 9) (sOp (oIx K) (sVar 6) (sC (.int 1))))))) (sRet (sC (.bl false))) (sNext)) (sSeq (sIfS (sTst (sOp oIsN (sOp (oIx K) (sVar 6) (sC (.int 0))) (sC .non))) (sRet (sOp oIsN (sVar 8) (sC .non))) (sNext)) (sSeq (sIfS (sOr (sNot (sTru K (sIsi K .tuple (sVar 8)))) (sTst (sOp (oNe K) (sCall1 (nLen K) (sCons (sVar 8) (sNil))) (sC (.int 2))))) (sRet (sC (.bl false))) (sNext)) (sRet (sAndV (sCallD (q_l_is_integer K a) [] (sCons (sOp (oIx K) (sVar 8) (sC (.int 0))) (sNil))) (sAndV (sCallD (q_l_is_integer K a) [] (sCons (sOp (oIx K) (sVar 8) (sC (.int 1))) (sNil))) (sOp (oEq K) (sVar 8) (sOp (oIx K) (sVar 6) (sC (.int 0)))))))))))))
def r_l_reached (K : PySem.W.Frag) (a : Ads) : sS := sSeq (sSet (sLst (sCons (sTup (sCons (sVar 2) (sCons (sVar 2) (sNil)))) (sNil))) 5) (sSeq (sSet (sDisT1 (sTup (sCons (sVar 2) (sCons (sVar 2) (sNil)))) (sC (.bl true))) 6) (sCut (sFor (siR1 (sCons (sC (.int 64)) (sNil))) (sgName 7) (sSeq (sIfS (sTst (sOp (oEq K) (sVar 7) (sCall1 (nLen K) (sCons (sVar 5) (sNil))))) (sBreak) (sNext)) (sSeq (sSet (sOp (oIx K) (sOp (oIx K) (sVar 5) (sVar 7)) (sC (.int 0))) 8) (sSeq (sSet (sOp (oIx K) (sOp (oIx K) (sVar 5) (sVar 7)) (sC (.int 1))) 9) (sSeq (sSet (sCallD (q_l_victim K a) [] (sCons (sVar 0) (sCons (sVar 1) (sCons (sVar 8) (sCons (sOp (oIx K) (sVar 3) (sC (.int 2))) (sNil)))))) 10) (sSeq (sIfS (sTst (sOp (oNe K) (sVar 10) (sCallD (q_l_victim K a) [] (sCons (sVar 0) (sCons (sVar 1) (sCons (sVar 9) (sCons (sOp (oIx K) (sVar 4) (sC (.int 2))) (sNil)))))))) (sRet (sC (.bl false))) (sNext)) (sSeq (sSet (sOp oAdd (sLc (siR1 (sCons (sVar 1) (sNil))) (sgName 13) (sYes) (sTup (sCons (sC (.int 0)) (sCons (sVar 13) (sNil)))) [13]) (sLst (sCons (sTup (sCons (sC (.int 1)) (sCons (sVar 10) (sNil)))) (sNil)))) 11) (sFor (siSeq K (sVar 11)) (sgTup K 2 (sgCons (sgName 12) (sgCons (sgName 13) (sgNil)))) (sSeq (sSet (sLst (sCons (sVar 8) (sCons (sVar 9) (sNil)))) 14) (sCut (sIfS (sTst (sOp (oEq K) (sOp (oIx K) (sVar 3) (sVar 12)) (sC (.str ("t" : Str))))) (sAsg (sCallD (q_l_after K a) [] (sCons (sVar 0) (sCons (sVar 1) (sCons (sVar 8) (sCons (sVar 13) (sNil)))))) (sgSub (sVar 14) (sC (.int 0)))) (sNext)) (sCut (sIfS (sTst (sOp (oEq K) (sOp (oIx K) (sVar 4) (sVar 12)) (sC (.str ("t" : Str))))) (sAsg (sCallD (q_l_after K a) [] (sCons (sVar 0) (sCons (sVar 1) (sCons (sVar 9) (sCons (sVar 13) (sNil)))))) (sgSub (sVar 14) (sC (.int 1)))) (sNext)) (sIfS (sDInP true (sTup (sCons (sOp (oIx K) (sVar 14) (sC (.int 0))) (sCons (sOp (oIx K) (sVar 14) (sC (.int 1))) (sNil)))) (sVar 6)) (sSeq (sDPutT (sVar 6) (sTup (sCons (sOp (oIx K) (sVar 14) (sC (.int 0))) (sCons (sOp (oIx K) (sVar 14) (sC (.int 1))) (sNil)))) (sC (.bl true))) (sDrop (sMt K "list" mAppend (sVar 5) (sCons (sTup (sCons (sOp (oIx K) (sVar 14) (sC (.int 0))) (sCons (sOp (oIx K) (sVar 14) (sC (.int 1))) (sNil)))) (sNil))))) (sNext))))))))))))) (sRet (sC (.bl true)))))
def r_l_same_right (K : PySem.W.Frag) (a : Ads) : sS := sSeq (sFor (siSeq K (sVar 2)) (sgName 3) (sFor (siSeq K (sVar 2)) (sgName 4) (sSeq (sSet (sOrV (sOp (oEq K) (sVar 3) (sVar 4)) (sOp (oEq K) (sVar 1) (sC (.int 1)))) 5) (sCut (sIfS (sAnd (sTst (sOp (oEq K) (sOp (oIx K) (sVar 3) (sC (.int 2))) (sC (.str ("s" : Str))))) (sAnd (sTst (sOp (oEq K) (sOp (oIx K) (sVar 4) (sC (.int 2))) (sC (.str ("s" : Str))))) (sTst (sOp (oEq K) (sOp (oIx K) (sVar 3) (sC (.int 0))) (sOp (oIx K) (sVar 4) (sC (.int 0))))))) (sSet (sC (.bl true)) 5) (sNext)) (sSeq (sSet (sCallD (q_same_rule K a) [] (sCons (sVar 0) (sCons (sVar 3) (sCons (sVar 4) (sNil))))) 6) (sIfS (sOr (sNot (sTru K (sIsi K .bool (sVar 6)))) (sTst (sOp (oNe K) (sVar 6) (sVar 5)))) (sRet (sC (.bl false))) (sNext))))))) (sRet (sC (.bl true)))
def r_l_bad_rule (K : PySem.W.Frag) (a : Ads) : sS := sSeq (sSet (sCallD (q_l_take K a) [] (sCons (sVar 0) (sCons (sC (.int 3)) (sNil)))) 2) (sSeq (sSet (sOp oAdd (sOp oAdd (sSl K (sVar 1) sNoP (sPart (sVar 2))) (sOp (oIx K) (sC (.str ("aat" : Str))) (sVar 2))) (sSl K (sVar 1) (sPart (sOp oAdd (sVar 2) (sC (.int 1)))) sNoP)) 3) (sSeq (sSet (sLst (sCons (sVar 3) (sCons (sOp oAdd (sVar 1) (sC (.str ("a" : Str)))) (sCons (sSl K (sVar 1) sNoP (sPart (sC (.int 2)))) (sCons (sSl K (sVar 1) (sPart (sC (.int 1))) sNoP) (sCons (sMt K "str" mUpper (sVar 1) sNil) (sCons (sOp oAdd (sVar 1) (sC (.str (" " : Str)))) (sCons (sOp oAdd (sC (.str (" " : Str))) (sVar 1)) (sCons (sOp oAdd (sVar 1) (sC (.str ("
" : Str)))) (sNil)))))))))) 4) (sSeq (sSet (sOp oAdd (sVar 4) (sLst (sCons (sC (.str ("" : Str))) (sCons (sC .non) (sCons (sC (.int 3)) (sCons (sTuple K (sCall1 nListS (sCons (sVar 1) (sNil)))) (sCons (sCall1 nListS (sCons (sVar 1) (sNil))) (sNil)))))))) 4) (sRet (sOp (oIx K) (sVar 4) (sCallD (q_l_take K a) [] (sCons (sVar 0) (sCons (sCall1 (nLen K) (sCons (sVar 4) (sNil))) (sNil)))))))))
def r_l_bad_flags (K : PySem.W.Frag) (a : Ads) : sS := sSeq (sSet (sCallD (q_l_take K a) [] (sCons (sVar 0) (sCons (sOp oAdd (sCall1 (nLen K) (sCons (sVar 1) (sNil))) (sC (.int 1))) (sNil)))) 2) (sSeq (sSet (sOp (oIx K) (sC (.str ("?lr.x 
" : Str))) (sCallD (q_l_take K a) [] (sCons (sVar 0) (sCons (sC (.int 7)) (sNil))))) 3) (sSeq (sSet (sLst (sCons (sOp oAdd (sOp oAdd (sSl K (sVar 1) sNoP (sPart (sVar 2))) (sVar 3)) (sSl K (sVar 1) (sPart (sOp oAdd (sVar 2) (sC (.int 1)))) sNoP)) (sCons (sOp oAdd (sVar 1) (sC (.str ("L" : Str)))) (sCons (sOp oAdd (sVar 1) (sC (.str ("R" : Str)))) (sCons (sOp oAdd (sVar 1) (sC (.str ("
" : Str)))) (sNil)))))) 4) (sSeq (sSet (sOp oAdd (sVar 4) (sLst (sCons (sC .non) (sCons (sC (.int 0)) (sCons (sCall1 nListS (sCons (sVar 1) (sNil))) (sNil)))))) 4) (sCut (sIfS (sTst (sOp (oNe K) (sVar 1) (sC (.str ("" : Str))))) (sSet (sOp oAdd (sVar 4) (sLst (sCons (sSl K (sVar 1) (sPart (sC (.int 1))) sNoP) (sCons (sSl K (sVar 1) sNoP (sPart (s1Op oNeg (sC (.int 1))))) (sNil))))) 4) (sNext)) (sRet (sOp (oIx K) (sVar 4) (sCallD (q_l_take K a) [] (sCons (sVar 0) (sCons (sCall1 (nLen K) (sCons (sVar 4) (sNil))) (sNil))))))))))
def r_l_bad_run (K : PySem.W.Frag) (a : Ads) : sS := sSeq (sIfS (sTst (sOp (oEq K) (sCallD (q_l_take K a) [] (sCons (sVar 0) (sCons (sC (.int 5)) (sNil)))) (sC (.int 0)))) (sRet (sTup (sCons (sOp (oIx K) (sLst (sCons (sC .non) (sCons (sC (.int 3)) (sCons (sC (.str ("" : Str))) (sCons (sTuple K (sVar 1)) (sNil)))))) (sCallD (q_l_take K a) [] (sCons (sVar 0) (sCons (sC (.int 4)) (sNil))))) (sCons (s1Op oNeg (sC (.int 1))) (sNil))))) (sNext)) (sSeq (sSet (sCallD (q_l_take K a) [] (sCons (sVar 0) (sCons (sOp oAdd (sCall1 (nLen K) (sCons (sVar 1) (sNil))) (sC (.int 1))) (sNil)))) 3) (sSeq (sSet (sCallD (q_l_take K a) [] (sCons (sVar 0) (sCons (sVar 2) (sNil)))) 4) (sSeq (sSet (sLst (sCons (sTup (sCons (sC (.str ("hit" : Str))) (sCons (sVar 2) (sNil)))) (sCons (sTup (sCons (sC (.str ("load" : Str))) (sCons (sVar 2) (sNil)))) (sCons (sTup (sCons (sC (.str ("load" : Str))) (sCons (s1Op oNeg (sC (.int 1))) (sNil)))) (sCons (sTup (sCons (sC (.str ("look" : Str))) (sCons (sVar 4) (sNil)))) (sCons (sTup (sCons (sC (.str ("HIT" : Str))) (sCons (sVar 4) (sNil)))) (sCons (sLst (sCons (sC (.str ("hit" : Str))) (sCons (sVar 4) (sNil)))) (sNil)))))))) 5) (sSeq (sSet (sOp oAdd (sVar 5) (sLst (sCons (sTup (sCons (sC (.str ("load" : Str))) (sNil))) (sCons (sTup (sCons (sC (.str ("load" : Str))) (sCons (sVar 4) (sCons (sVar 4) (sNil))))) (sCons (sTup (sCons (sC (.str ("hit" : Str))) (sCons (sC .non) (sNil)))) (sCons (sTup (sCons (sC (.str ("hit" : Str))) (sCons (sCall1 nStrI (sCons (sVar 4) (sNil))) (sNil)))) (sCons (sTup (sCons (sVar 4) (sCons (sC (.str ("hit" : Str))) (sNil)))) (sCons (sC .non) (sNil))))))))) 5) (sSeq (sSet (sOp oAdd (sVar 5) (sLst (sCons (sC (.str ("load" : Str))) (sCons (sTup (sCons (sC (.str ("hit" : Str))) (sCons (sC (.bl true)) (sNil)))) (sCons (sTup (sCons (sC (.str ("load" : Str))) (sCons (sC (.bl false)) (sNil)))) (sCons (sTup (sNil)) (sNil))))))) 5) (sSeq (sSet (sOp oAdd (sOp oAdd (sSl K (sVar 1) sNoP (sPart (sVar 3))) (sLst (sCons (sOp (oIx K) (sVar 5) (sCallD (q_l_take K a) [] (sCons (sVar 0) (sCons (sCall1 (nLen K) (sCons (sVar 5) (sNil))) (sNil))))) (sNil)))) (sSl K (sVar 1) (sPart (sVar 3)) sNoP)) 6) (sCut (sIfS (sTst (sOp (oEq K) (sCallD (q_l_take K a) [] (sCons (sVar 0) (sCons (sC (.int 3)) (sNil)))) (sC (.int 0)))) (sDrop (sMt K "list" mAppend (sVar 6) (sCons (sTup (sCons (sC (.str ("load" : Str))) (sCons (sVar 2) (sNil)))) (sNil)))) (sNext)) (sRet (sTup (sCons (sVar 6) (sCons (sVar 3) (sNil))))))))))))
def r_l_refused (K : PySem.W.Frag) (a : Ads) : sS := sCut (sTryG K (sIfS (sTst (sOp (oEq K) (sVar 0) (sC (.int 0)))) (sDrop (sCallD (q_first_wrong_by K a) [] (sCons (sVar 1) (sCons (sVar 2) (sCons (sVar 3) (sCons (sVar 4) (sNil))))))) (sDrop (sCallD (q_flags_by K a) [] (sCons (sVar 1) (sCons (sVar 2) (sCons (sVar 3) (sCons (sVar 4) (sNil)))))))) [(.ref a.InvalidRule, some 5, fun ea cls ed => sSeq (sSet (sAndV (sCall1 (nIsY K ea cls ed) (sCons (sVar 5) (sCons (sC (.ref a.CacheError)) (sNil)))) (sCall1 (nIsY K ea cls ed) (sCons (sVar 5) (sCons (sC (.ty "ValueError")) (sNil))))) 6) (sRet (sLst (sCons (sC (.str ("rule" : Str))) (sCons (sXf ea cls ed a.InvalidRule ("rule" : Str) (sVar 5)) (sCons (sAndV (sVar 6) (sNotV K (sCall1 (nIsYT K ea cls ed) (sCons (sVar 5) (sCons (sTup (sCons (sC (.ref a.Refused)) (sCons (sC (.ref a.InvalidFlags)) (sCons (sC (.ref a.InvalidLine)) (sNil))))) (sNil)))))) (sNil))))))), (.ref a.InvalidFlags, some 5, fun ea cls ed => sSeq (sSet (sAndV (sCall1 (nIsY K ea cls ed) (sCons (sVar 5) (sCons (sC (.ref a.CacheError)) (sNil)))) (sCall1 (nIsY K ea cls ed) (sCons (sVar 5) (sCons (sC (.ty "ValueError")) (sNil))))) 6) (sRet (sLst (sCons (sC (.str ("flags" : Str))) (sCons (sXf ea cls ed a.InvalidFlags ("flags" : Str) (sVar 5)) (sCons (sAndV (sVar 6) (sNotV K (sCall1 (nIsYT K ea cls ed) (sCons (sVar 5) (sCons (sTup (sCons (sC (.ref a.Refused)) (sCons (sC (.ref a.InvalidLine)) (sNil)))) (sNil)))))) (sNil))))))), (.ref a.InvalidLine, some 5, fun ea cls ed => sSeq (sSet (sAndV (sCall1 (nIsY K ea cls ed) (sCons (sVar 5) (sCons (sC (.ref a.CacheError)) (sNil)))) (sCall1 (nIsY K ea cls ed) (sCons (sVar 5) (sCons (sC (.ty "ValueError")) (sNil))))) 6) (sRet (sLst (sCons (sC (.str ("run" : Str))) (sCons (sXf ea cls ed a.InvalidLine ("index" : Str) (sVar 5)) (sCons (sAndV (sVar 6) (sNotV K (sCall1 (nIsY K ea cls ed) (sCons (sVar 5) (sCons (sC (.ref a.Refused)) (sNil)))))) (sNil)))))))]) (sRet (sLst (sCons (sC (.str ("let" : Str))) (sCons (sC .non) (sCons (sC (.bl true)) (sNil))))))
def r_l_doors_right (K : PySem.W.Frag) (a : Ads) : sS := sSeq (sSet (sLst (sCons (sVar 3) (sCons (sVar 4) (sCons (sVar 5) (sNil))))) 6) (sSeq (sSet (sLst (sCons (sC (.str ("let" : Str))) (sCons (sC .non) (sCons (sC (.bl true)) (sNil))))) 7) (sSeq (sSet (sCallD (q_l_take K a) [] (sCons (sVar 0) (sCons (sC (.int 8)) (sNil)))) 8) (sSeq (sSet (sCallD (q_l_bad_run K a) [] (sCons (sVar 0) (sCons (sVar 5) (sCons (sVar 2) (sNil))))) 9) (sCut (sIfS (sTst (sOp (oEq K) (sOp oFdv (sVar 8) (sC (.int 4))) (sC (.int 1)))) (sSeq (sAsg (sOp (oIx K) (sVar 9) (sC (.int 0))) (sgSub (sVar 6) (sC (.int 2)))) (sSet (sLst (sCons (sC (.str ("run" : Str))) (sCons (sOp (oIx K) (sVar 9) (sC (.int 1))) (sCons (sC (.bl true)) (sNil))))) 7)) (sNext)) (sSeq (sSet (sCallD (q_l_bad_flags K a) [] (sCons (sVar 0) (sCons (sVar 4) (sNil)))) 10) (sCut (sIfS (sTst (sOp (oEq K) (sOp oMod (sCall1 nInt (sCons (sOp oFdv (sVar 8) (sC (.int 2))) (sNil))) (sC (.int 2))) (sC (.int 1)))) (sSeq (sAsg (sVar 10) (sgSub (sVar 6) (sC (.int 1)))) (sSet (sLst (sCons (sC (.str ("flags" : Str))) (sCons (sVar 10) (sCons (sC (.bl true)) (sNil))))) 7)) (sNext)) (sSeq (sSet (sCallD (q_l_bad_rule K a) [] (sCons (sVar 0) (sCons (sVar 3) (sNil)))) 11) (sCut (sIfS (sTst (sOp (oEq K) (sOp oMod (sCall1 nInt (sCons (sVar 8) (sNil))) (sC (.int 2))) (sC (.int 1)))) (sSeq (sAsg (sVar 11) (sgSub (sVar 6) (sC (.int 0)))) (sSet (sLst (sCons (sC (.str ("rule" : Str))) (sCons (sVar 11) (sCons (sC (.bl true)) (sNil))))) 7)) (sNext)) (sSeq (sFor (siR1 (sCons (sC (.int 2)) (sNil))) (sgName 12) (sSeq (sSet (sCallD (q_l_refused K a) [] (sCons (sVar 12) (sCons (sVar 1) (sCons (sOp (oIx K) (sVar 6) (sC (.int 0))) (sCons (sOp (oIx K) (sVar 6) (sC (.int 1))) (sCons (sOp (oIx K) (sVar 6) (sC (.int 2))) (sNil))))))) 13) (sIfS (sOr (sTst (sOp (oNe K) (sVar 13) (sVar 7))) (sTru K (sIsi K .bool (sOp (oIx K) (sVar 13) (sC (.int 1)))))) (sRet (sC (.bl false))) (sNext)))) (sRet (sC (.bl true))))))))))))
def r_l_both_refused (K : PySem.W.Frag) (a : Ads) : sS := sCut (sTryAs K (.ref a.InvalidRule) 3 (sDrop (sCallD (q_same_rule K a) [] (sCons (sVar 0) (sCons (sVar 1) (sCons (sVar 2) (sNil)))))) (fun ea cls ed => sRet (sLst (sCons (sXf ea cls ed a.InvalidRule ("rule" : Str) (sVar 3)) (sCons (sAndV (sCall1 (nIsY K ea cls ed) (sCons (sVar 3) (sCons (sC (.ref a.CacheError)) (sNil)))) (sNotV K (sCall1 (nIsY K ea cls ed) (sCons (sVar 3) (sCons (sC (.ref a.Refused)) (sNil)))))) (sNil)))))) (sRet (sLst (sNil)))
def r_l_pairs_right (K : PySem.W.Frag) (a : Ads) : sS := sSeq (sSet (sCallD (q_l_bad_rule K a) [] (sCons (sVar 0) (sCons (sVar 2) (sNil)))) 4) (sSeq (sSet (sCallD (q_l_bad_rule K a) [] (sCons (sVar 0) (sCons (sVar 3) (sNil)))) 5) (sSeq (sIfS (sTst (sOp (oNe K) (sCallD (q_l_both_refused K a) [] (sCons (sVar 1) (sCons (sVar 4) (sCons (sVar 3) (sNil))))) (sLst (sCons (sVar 4) (sCons (sC (.bl true)) (sNil)))))) (sRet (sC (.bl false))) (sNext)) (sSeq (sIfS (sTst (sOp (oNe K) (sCallD (q_l_both_refused K a) [] (sCons (sVar 1) (sCons (sVar 2) (sCons (sVar 5) (sNil))))) (sLst (sCons (sVar 5) (sCons (sC (.bl true)) (sNil)))))) (sRet (sC (.bl false))) (sNext)) (sRet (sAndV (sOp (oEq K) (sCallD (q_l_both_refused K a) [] (sCons (sVar 1) (sCons (sVar 4) (sCons (sVar 5) (sNil))))) (sLst (sCons (sVar 4) (sCons (sC (.bl true)) (sNil))))) (sOp (oEq K) (sCallD (q_l_both_refused K a) [] (sCons (sVar 1) (sCons (sVar 2) (sCons (sVar 3) (sNil))))) (sLst (sNil))))))))
def r_law (K : PySem.W.Frag) (a : Ads) : sS := sSeq (sSet (sCallD (q_l_tree K a) [] (sCons (sCallD (q_l_source K a) [] (sCons (sVar 0) (sCons (sC (.int 0)) (sNil)))) (sCons (sC (.int 64)) (sNil)))) 1) (sSeq (sSet (sOp (oIx K) (sVar 1) (sC (.int 1))) 2) (sSeq (sSet (sOp (oIx K) (sVar 1) (sC (.int 2))) 3) (sSeq (sSet (sMakO a.Tree (q_Tree_init K a) (sCons (sOp (oIx K) (sVar 1) (sC (.int 0))) (sNil))) 4) (sSeq (sSet (sCallD (q_l_flags K a) [] (sCons (sCallD (q_l_source K a) [] (sCons (sVar 0) (sCons (sC (.int 1)) (sNil)))) (sCons (sVar 3) (sNil)))) 5) (sSeq (sSet (sCall0 (q_l_rules K a)) 6) (sSeq (sIfS (sOr (sNot (sTru K (sIsi K .tuple (sC (.ref a.RULES))))) (sTst (sOp (oNe K) (sCall1 (nList K) (sCons (sC (.ref a.RULES)) (sNil))) (sVar 6)))) (sRet (sC (.bl false))) (sNext)) (sSeq (sSet (sCallD (q_l_source K a) [] (sCons (sVar 0) (sCons (sC (.int 2)) (sNil)))) 7) (sSeq (sSet (sCallD (q_l_run K a) [] (sCons (sVar 7) (sCons (sVar 2) (sCons (sVar 3) (sCons (sVar 5) (sCons (sOp (oIx K) (sVar 6) (sCallD (q_l_take K a) [] (sCons (sVar 7) (sCons (sC (.int 8)) (sNil))))) (sNil))))))) 8) (sSeq (sFor (siSeq K (sVar 6)) (sgName 9) (sIfS (sNot (sTru K (sCallD (q_l_rule_right K a) [] (sCons (sVar 4) (sCons (sVar 2) (sCons (sVar 3) (sCons (sVar 9) (sCons (sVar 5) (sCons (sVar 8) (sNil)))))))))) (sRet (sC (.bl false))) (sNext))) (sSeq (sIfS (sNot (sTru K (sCallD (q_l_same_right K a) [] (sCons (sVar 4) (sCons (sVar 3) (sCons (sVar 6) (sNil))))))) (sRet (sC (.bl false))) (sNext)) (sSeq (sSet (sCallD (q_l_source K a) [] (sCons (sVar 0) (sCons (sC (.int 3)) (sNil)))) 10) (sSeq (sSet (sOp (oIx K) (sVar 6) (sCallD (q_l_take K a) [] (sCons (sVar 10) (sCons (sC (.int 8)) (sNil))))) 9) (sSeq (sSet (sOp (oIx K) (sVar 6) (sCallD (q_l_take K a) [] (sCons (sVar 10) (sCons (sC (.int 8)) (sNil))))) 11) (sSeq (sIfS (sAnd (sTst (sOp oLe (sVar 3) (sC (.int 4)))) (sTst (sOp (oNe K) (sCallD (q_same_rule K a) [] (sCons (sVar 4) (sCons (sVar 9) (sCons (sVar 11) (sNil))))) (sCallD (q_l_reached K a) [] (sCons (sVar 2) (sCons (sVar 3) (sCons (sVar 5) (sCons (sVar 9) (sCons (sVar 11) (sNil)))))))))) (sRet (sC (.bl false))) (sNext)) (sSeq (sIfS (sNot (sTru K (sCallD (q_l_doors_right K a) [] (sCons (sVar 10) (sCons (sVar 4) (sCons (sVar 3) (sCons (sVar 9) (sCons (sVar 5) (sCons (sVar 8) (sNil)))))))))) (sRet (sC (.bl false))) (sNext)) (sRet (sCallD (q_l_pairs_right K a) [] (sCons (sVar 10) (sCons (sVar 4) (sCons (sVar 9) (sCons (sVar 11) (sNil))))))))))))))))))))))
section
variable {P : Program} {w : World} {K : PySem.W.Frag} {mg : Str → Option Value} {base : Heap} {a : Ads}
theorem d_is_integer (G : Env P w K mg base a)  {f : Addr} {cdv : Value} {A : Around} {outer : List PySem.Env} {s : Shared} {H : Hp} {E : XK} (hr : Room (l_is_integer - 1) (A.deeper (envOfC "is_integer" (defScope s_is_integer) s.heap.objs.size f cdv))) :
    PSs (cxOf (L2.CX P w) P w K mg base N_is_integer "is_integer" (defScope s_is_integer) f cdv A outer s H E) (defBody s_is_integer) (dS (fun c d _ H => E c d H) (r_is_integer K a)) := by
  have tk : Takes (cxOf (L2.CX P w) P w K mg base N_is_integer "is_integer" (defScope s_is_integer) f cdv A outer s H E) (fun c d _ H => E c d H) := takes_of rfl rfl rfl rfl
  have hp : PassesOwn (model P w) (cxOf (L2.CX P w) P w K mg base N_is_integer "is_integer" (defScope s_is_integer) f cdv A outer s H E).A (cxOf (L2.CX P w) P w K mg base N_is_integer "is_integer" (defScope s_is_integer) f cdv A outer s H E).env (cxOf (L2.CX P w) P w K mg base N_is_integer "is_integer" (defScope s_is_integer) f cdv A outer s H E).xe := passes_of rfl
  exact (hOne (hRet (gAndV (gIsi (by rfl) G.n_isinstance (gv 0) (by decide) (by rfl) G.n_int (by decide +kernel)) (gOneV (gNotV (gIsi (by rfl) G.n_isinstance (gv 0) (by decide) (by rfl) G.n_bool (by decide +kernel)))))))
theorem d_is_place (G : Env P w K mg base a) (T_is_integer : DefC P w K mg base "is_integer" ["value"] l_is_integer [] (p_is_integer K a)) {f : Addr} {cdv : Value} {A : Around} {outer : List PySem.Env} {s : Shared} {H : Hp} {E : XK} (hr : Room (l_is_place - 1) (A.deeper (envOfC "is_place" (defScope s_is_place) s.heap.objs.size f cdv))) :
    PSs (cxOf (L2.CX P w) P w K mg base N_is_place "is_place" (defScope s_is_place) f cdv A outer s H E) (defBody s_is_place) (dS (fun c d _ H => E c d H) (r_is_place K a)) := by
  have tk : Takes (cxOf (L2.CX P w) P w K mg base N_is_place "is_place" (defScope s_is_place) f cdv A outer s H E) (fun c d _ H => E c d H) := takes_of rfl rfl rfl rfl
  have hp : PassesOwn (model P w) (cxOf (L2.CX P w) P w K mg base N_is_place "is_place" (defScope s_is_place) f cdv A outer s H E).A (cxOf (L2.CX P w) P w K mg base N_is_place "is_place" (defScope s_is_place) f cdv A outer s H E).env (cxOf (L2.CX P w) P w K mg base N_is_place "is_place" (defScope s_is_place) f cdv A outer s H E).xe := passes_of rfl
  exact (hOne (hRet (gAndV (gCall1 c_is_integer T_is_integer hr (by decide) (by rfl) tk (gCons (gv 1) gNil)) (gOneV (gChain (OpR.or op_le op_le_str) (OpR.or op_lt op_lt_str) lOrd lOrd gInt (gv 1) (gv 0))))))
theorem d_is_made_of (G : Env P w K mg base a)  {f : Addr} {cdv : Value} {A : Around} {outer : List PySem.Env} {s : Shared} {H : Hp} {E : XK} (hr : Room (l_is_made_of - 1) (A.deeper (envOfC "is_made_of" (defScope s_is_made_of) s.heap.objs.size f cdv))) :
    PSs (cxOf (L2.CX P w) P w K mg base N_is_made_of "is_made_of" (defScope s_is_made_of) f cdv A outer s H E) (defBody s_is_made_of) (dS (fun c d _ H => E c d H) (r_is_made_of K a)) := by
  have tk : Takes (cxOf (L2.CX P w) P w K mg base N_is_made_of "is_made_of" (defScope s_is_made_of) f cdv A outer s H E) (fun c d _ H => E c d H) := takes_of rfl rfl rfl rfl
  have hp : PassesOwn (model P w) (cxOf (L2.CX P w) P w K mg base N_is_made_of "is_made_of" (defScope s_is_made_of) f cdv A outer s H E).A (cxOf (L2.CX P w) P w K mg base N_is_made_of "is_made_of" (defScope s_is_made_of) f cdv A outer s H E).env (cxOf (L2.CX P w) P w K mg base N_is_made_of "is_made_of" (defScope s_is_made_of) f cdv A outer s H E).xe := passes_of rfl
  exact (hOne (hRet (gAndV (gIsi (by rfl) G.n_isinstance (gv 0) (by decide) (by rfl) G.n_str (by decide +kernel)) (gOneV (gB (cr_all rfl) lAll (by rfl) G.n_all (by decide +kernel) (gCons (gLc (own := [("sign", 2)]) rfl sc_is_made_of.nd (iStrS (gv 0)) (blkOk_by (own := [("sign", 2)]) (N := N_is_made_of) (sc := defScope s_is_made_of) (by decide +kernel)) (fun _ _ _ _ _ => (ggName (i := 2) sc_is_made_of.nd rfl (.inl rfl))) (fun _ _ _ _ _ => gNoIf) (fun _ _ _ _ _ => (gIn (gv 2) (gv 1) (by rfl)))) gNil))))))
theorem d_is_line (G : Env P w K mg base a) (T_is_place : DefC P w K mg base "is_place" ["many", "value"] l_is_place [] (p_is_place K a)) {f : Addr} {cdv : Value} {A : Around} {outer : List PySem.Env} {s : Shared} {H : Hp} {E : XK} (hr : Room (l_is_line - 1) (A.deeper (envOfC "is_line" (defScope s_is_line) s.heap.objs.size f cdv))) :
    PSs (cxOf (L2.CX P w) P w K mg base N_is_line "is_line" (defScope s_is_line) f cdv A outer s H E) (defBody s_is_line) (dS (fun c d _ H => E c d H) (r_is_line K a)) := by
  have tk : Takes (cxOf (L2.CX P w) P w K mg base N_is_line "is_line" (defScope s_is_line) f cdv A outer s H E) (fun c d _ H => E c d H) := takes_of rfl rfl rfl rfl
  have hp : PassesOwn (model P w) (cxOf (L2.CX P w) P w K mg base N_is_line "is_line" (defScope s_is_line) f cdv A outer s H E).A (cxOf (L2.CX P w) P w K mg base N_is_line "is_line" (defScope s_is_line) f cdv A outer s H E).env (cxOf (L2.CX P w) P w K mg base N_is_line "is_line" (defScope s_is_line) f cdv A outer s H E).xe := passes_of rfl
  exact (hCons (hIf (PW.pt (gOr (gTNot (gTru (gIsi (by rfl) G.n_isinstance (gv 1) (by decide) (by rfl) G.n_tuple (by decide +kernel)))) (gOr1 (gTNe hr.units (gB call_len lLen (by rfl) G.n_len (by decide +kernel) (gCons (gv 1) gNil)) gInt)))) (hOne (hRet gBl)) hNil) (hOne (hRet (gAndV (gIn (gIx (gv 1) gInt (by intro _ _; rfl)) (gClV (by rfl) G.t_KINDS) (by rfl)) (gOneV (gCall1 c_is_place T_is_place hr (by decide) (by rfl) tk (gCons (gv 0) (gCons (gIx (gv 1) gInt (by intro _ _; rfl)) gNil))))))))
theorem d_checked_flags (G : Env P w K mg base a) (T_is_made_of : DefC P w K mg base "is_made_of" ["value", "signs"] l_is_made_of [] (p_is_made_of K a)) (T_Tree_forks : ProC P w K mg base a.Tree "forks" l_Tree_forks (p_Tree_forks K a)) {f : Addr} {cdv : Value} {A : Around} {outer : List PySem.Env} {s : Shared} {H : Hp} {E : XK} (hr : Room (l_checked_flags - 1) (A.deeper (envOfC "checked_flags" (defScope s_checked_flags) s.heap.objs.size f cdv))) :
    PSs (cxOf (L2.CX P w) P w K mg base N_checked_flags "checked_flags" (defScope s_checked_flags) f cdv A outer s H E) (defBody s_checked_flags) (dS (fun c d _ H => E c d H) (r_checked_flags K a)) := by
  have tk : Takes (cxOf (L2.CX P w) P w K mg base N_checked_flags "checked_flags" (defScope s_checked_flags) f cdv A outer s H E) (fun c d _ H => E c d H) := takes_of rfl rfl rfl rfl
  have hp : PassesOwn (model P w) (cxOf (L2.CX P w) P w K mg base N_checked_flags "checked_flags" (defScope s_checked_flags) f cdv A outer s H E).A (cxOf (L2.CX P w) P w K mg base N_checked_flags "checked_flags" (defScope s_checked_flags) f cdv A outer s H E).env (cxOf (L2.CX P w) P w K mg base N_checked_flags "checked_flags" (defScope s_checked_flags) f cdv A outer s H E).xe := passes_of rfl
  exact (hCons (hIf (PW.pt (gOr (gTNot (gTru (gCall1 c_is_made_of T_is_made_of hr (by decide) (by rfl) tk (gCons (gv 1) (gCons gStr gNil))))) (gOr1 (gTNe hr.units (gB call_len lLen (by rfl) G.n_len (by decide +kernel) (gCons (gv 1) gNil)) (gProO c_Tree_forks G.o_Tree T_Tree_forks hr (by decide) (gv 0)))))) (hOne (hRaise (k := 0) rfl tk G.e_InvalidFlags (hr.mono (by decide)) (by rfl) (gv 1))) hNil) (hOne (hRet (gv 1))))
theorem d_checked_run (G : Env P w K mg base a) (T_checked_lines : DefC P w K mg base "checked_lines" ["many", "run"] l_checked_lines [] (p_checked_lines K a)) (T_Tree_len : MetC P w K mg base a.Tree "__len__" ["self"] l_Tree_len (p_Tree_len K a)) {f : Addr} {cdv : Value} {A : Around} {outer : List PySem.Env} {s : Shared} {H : Hp} {E : XK} (hr : Room (l_checked_run - 1) (A.deeper (envOfC "checked_run" (defScope s_checked_run) s.heap.objs.size f cdv))) :
    PSs (cxOf (L2.CX P w) P w K mg base N_checked_run "checked_run" (defScope s_checked_run) f cdv A outer s H E) (defBody s_checked_run) (dS (fun c d _ H => E c d H) (r_checked_run K a)) := by
  have tk : Takes (cxOf (L2.CX P w) P w K mg base N_checked_run "checked_run" (defScope s_checked_run) f cdv A outer s H E) (fun c d _ H => E c d H) := takes_of rfl rfl rfl rfl
  have hp : PassesOwn (model P w) (cxOf (L2.CX P w) P w K mg base N_checked_run "checked_run" (defScope s_checked_run) f cdv A outer s H E).A (cxOf (L2.CX P w) P w K mg base N_checked_run "checked_run" (defScope s_checked_run) f cdv A outer s H E).env (cxOf (L2.CX P w) P w K mg base N_checked_run "checked_run" (defScope s_checked_run) f cdv A outer s H E).xe := passes_of rfl
  exact (hOne (hRet (gCall1 c_checked_lines T_checked_lines hr (by decide) (by rfl) tk (gCons (gLenO c_Tree_len T_Tree_len hr (by decide) (by rfl) G.n_len (gv 0)) (gCons (gv 1) gNil)))))
theorem d_checked_lines (G : Env P w K mg base a) (T_is_line : DefC P w K mg base "is_line" ["many", "value"] l_is_line [] (p_is_line K a)) {f : Addr} {cdv : Value} {A : Around} {outer : List PySem.Env} {s : Shared} {H : Hp} {E : XK} (hr : Room (l_checked_lines - 1) (A.deeper (envOfC "checked_lines" (defScope s_checked_lines) s.heap.objs.size f cdv))) :
    PSs (cxOf (L2.CX P w) P w K mg base N_checked_lines "checked_lines" (defScope s_checked_lines) f cdv A outer s H E) (defBody s_checked_lines) (dS (fun c d _ H => E c d H) (r_checked_lines K a)) := by
  have tk : Takes (cxOf (L2.CX P w) P w K mg base N_checked_lines "checked_lines" (defScope s_checked_lines) f cdv A outer s H E) (fun c d _ H => E c d H) := takes_of rfl rfl rfl rfl
  have hp : PassesOwn (model P w) (cxOf (L2.CX P w) P w K mg base N_checked_lines "checked_lines" (defScope s_checked_lines) f cdv A outer s H E).A (cxOf (L2.CX P w) P w K mg base N_checked_lines "checked_lines" (defScope s_checked_lines) f cdv A outer s H E).env (cxOf (L2.CX P w) P w K mg base N_checked_lines "checked_lines" (defScope s_checked_lines) f cdv A outer s H E).xe := passes_of rfl
  exact (hCons (hIf (gTNot (gTru (gIsi (by rfl) G.n_isinstance (gv 1) (by decide) (by rfl) G.n_list (by decide +kernel)))) (hOne (hRaise (k := 0) rfl tk G.e_InvalidLine (hr.mono (by decide)) (by rfl) (gNeg gInt))) hNil) (hCons (hFor hp rfl (iEn (by rfl) G.n_enumerate (gCons (gv 1) gNil)) (ggTup rfl (ggCons (ggName (i := 2) sc_checked_lines.nd rfl (.inl rfl)) (ggCons (ggName (i := 3) sc_checked_lines.nd rfl (.inl rfl)) ggNil))) (hOne (hIf (gTNot (gTru (gCall1 c_is_line T_is_line hr (by decide) (by rfl) tk (gCons (gv 0) (gCons (gv 3) gNil))))) (hOne (hRaise (k := 0) rfl tk G.e_InvalidLine (hr.mono (by decide)) (by rfl) (gv 2))) hNil))) (hOne (hRet (gTy call_list_of lList (by rfl) G.n_list (by decide +kernel) (gCons (gv 1) gNil))))))
theorem d_turned (G : Env P w K mg base a)  {f : Addr} {cdv : Value} {A : Around} {outer : List PySem.Env} {s : Shared} {H : Hp} {E : XK} (hr : Room (l_turned - 1) (A.deeper (envOfC "turned" (defScope s_turned) s.heap.objs.size f cdv))) :
    PSs (cxOf (L2.CX P w) P w K mg base N_turned "turned" (defScope s_turned) f cdv A outer s H E) (defBody s_turned) (dS (fun c d _ H => E c d H) (r_turned K a)) := by
  have tk : Takes (cxOf (L2.CX P w) P w K mg base N_turned "turned" (defScope s_turned) f cdv A outer s H E) (fun c d _ H => E c d H) := takes_of rfl rfl rfl rfl
  have hp : PassesOwn (model P w) (cxOf (L2.CX P w) P w K mg base N_turned "turned" (defScope s_turned) f cdv A outer s H E).A (cxOf (L2.CX P w) P w K mg base N_turned "turned" (defScope s_turned) f cdv A outer s H E).env (cxOf (L2.CX P w) P w K mg base N_turned "turned" (defScope s_turned) f cdv A outer s H E).xe := passes_of rfl
  exact (hCons (hSet (i := 3) sc_turned.nd rfl (.inl rfl) (gTy (cr_listS rfl) lListS (by rfl) G.n_list (by decide +kernel) (gCons (gv 1) gNil))) (hCons (hFor hp rfl (iSeq (gIx (gFldO G.o_Tree G.na_Tree_ways (gv 0)) (gv 2) (by intro _ _; rfl))) (ggTup rfl (ggCons (ggName (i := 4) sc_turned.nd rfl (.inl rfl)) (ggCons (ggName (i := 5) sc_turned.nd rfl (.inl rfl)) ggNil))) (hOne (hAsg (gv 5) (ggSub (gv 3) (gv 4))))) (hOne (hRet (gM PySem.F.plainAttrs_str PySem.F.slot_str_join PySem.F.type_str_join mt_join lJoin gStr (gCons (gv 3) gNil))))))
theorem d_checked_rule (G : Env P w K mg base a)  {f : Addr} {cdv : Value} {A : Around} {outer : List PySem.Env} {s : Shared} {H : Hp} {E : XK} (hr : Room (l_checked_rule - 1) (A.deeper (envOfC "checked_rule" (defScope s_checked_rule) s.heap.objs.size f cdv))) :
    PSs (cxOf (L2.CX P w) P w K mg base N_checked_rule "checked_rule" (defScope s_checked_rule) f cdv A outer s H E) (defBody s_checked_rule) (dS (fun c d _ H => E c d H) (r_checked_rule K a)) := by
  have tk : Takes (cxOf (L2.CX P w) P w K mg base N_checked_rule "checked_rule" (defScope s_checked_rule) f cdv A outer s H E) (fun c d _ H => E c d H) := takes_of rfl rfl rfl rfl
  have hp : PassesOwn (model P w) (cxOf (L2.CX P w) P w K mg base N_checked_rule "checked_rule" (defScope s_checked_rule) f cdv A outer s H E).A (cxOf (L2.CX P w) P w K mg base N_checked_rule "checked_rule" (defScope s_checked_rule) f cdv A outer s H E).env (cxOf (L2.CX P w) P w K mg base N_checked_rule "checked_rule" (defScope s_checked_rule) f cdv A outer s H E).xe := passes_of rfl
  exact (hCons (hIf (PW.pt (gOr (gTNot (gTru (gIsi (by rfl) G.n_isinstance (gv 0) (by decide) (by rfl) G.n_str (by decide +kernel)))) (gOr1 (gTNotIn (gv 0) (gClV (by rfl) G.t_RULES) (by rfl))))) (hOne (hRaise (k := 0) rfl tk G.e_InvalidRule (hr.mono (by decide)) (by rfl) (gv 0))) hNil) (hOne (hRet (gv 0))))
theorem d_turned_by (G : Env P w K mg base a) (T_turned : DefC P w K mg base "turned" ["tree", "flags", "slot"] l_turned [] (p_turned K a)) {f : Addr} {cdv : Value} {A : Around} {outer : List PySem.Env} {s : Shared} {H : Hp} {E : XK} (hr : Room (l_turned_by - 1) (A.deeper (envOfC "turned_by" (defScope s_turned_by) s.heap.objs.size f cdv))) :
    PSs (cxOf (L2.CX P w) P w K mg base N_turned_by "turned_by" (defScope s_turned_by) f cdv A outer s H E) (defBody s_turned_by) (dS (fun c d _ H => E c d H) (r_turned_by K a)) := by
  have tk : Takes (cxOf (L2.CX P w) P w K mg base N_turned_by "turned_by" (defScope s_turned_by) f cdv A outer s H E) (fun c d _ H => E c d H) := takes_of rfl rfl rfl rfl
  have hp : PassesOwn (model P w) (cxOf (L2.CX P w) P w K mg base N_turned_by "turned_by" (defScope s_turned_by) f cdv A outer s H E).A (cxOf (L2.CX P w) P w K mg base N_turned_by "turned_by" (defScope s_turned_by) f cdv A outer s H E).env (cxOf (L2.CX P w) P w K mg base N_turned_by "turned_by" (defScope s_turned_by) f cdv A outer s H E).xe := passes_of rfl
  exact (hCons (hSet (i := 5) sc_turned_by.nd rfl (.inl rfl) (gIfE (gTEq hr.units (gv 3) gStr) (gIx (gv 1) gInt (by intro _ _; rfl)) (gIx (gv 1) gInt (by intro _ _; rfl)))) (hCons (hIf (gTEq hr.units (gv 5) gStr) (hOne (hRet (gCall1 c_turned T_turned hr (by decide) (by rfl) tk (gCons (gv 0) (gCons (gv 2) (gCons (gv 4) gNil)))))) hNil) (hOne (hRet (gv 2)))))
theorem d_goes_against (G : Env P w K mg base a)  {f : Addr} {cdv : Value} {A : Around} {outer : List PySem.Env} {s : Shared} {H : Hp} {E : XK} (hr : Room (l_goes_against - 1) (A.deeper (envOfC "goes_against" (defScope s_goes_against) s.heap.objs.size f cdv))) :
    PSs (cxOf (L2.CX P w) P w K mg base N_goes_against "goes_against" (defScope s_goes_against) f cdv A outer s H E) (defBody s_goes_against) (dS (fun c d _ H => E c d H) (r_goes_against K a)) := by
  have tk : Takes (cxOf (L2.CX P w) P w K mg base N_goes_against "goes_against" (defScope s_goes_against) f cdv A outer s H E) (fun c d _ H => E c d H) := takes_of rfl rfl rfl rfl
  have hp : PassesOwn (model P w) (cxOf (L2.CX P w) P w K mg base N_goes_against "goes_against" (defScope s_goes_against) f cdv A outer s H E).A (cxOf (L2.CX P w) P w K mg base N_goes_against "goes_against" (defScope s_goes_against) f cdv A outer s H E).env (cxOf (L2.CX P w) P w K mg base N_goes_against "goes_against" (defScope s_goes_against) f cdv A outer s H E).xe := passes_of rfl
  exact (hOne (hRet (gEq hr.units (gIx (gv 0) gInt (by intro _ _; rfl)) gStr)))
theorem d_wrong_fork (G : Env P w K mg base a) (T_goes_against : DefC P w K mg base "goes_against" ["rule"] l_goes_against [] (p_goes_against K a)) {f : Addr} {cdv : Value} {A : Around} {outer : List PySem.Env} {s : Shared} {H : Hp} {E : XK} (hr : Room (l_wrong_fork - 1) (A.deeper (envOfC "wrong_fork" (defScope s_wrong_fork) s.heap.objs.size f cdv))) :
    PSs (cxOf (L2.CX P w) P w K mg base N_wrong_fork "wrong_fork" (defScope s_wrong_fork) f cdv A outer s H E) (defBody s_wrong_fork) (dS (fun c d _ H => E c d H) (r_wrong_fork K a)) := by
  have tk : Takes (cxOf (L2.CX P w) P w K mg base N_wrong_fork "wrong_fork" (defScope s_wrong_fork) f cdv A outer s H E) (fun c d _ H => E c d H) := takes_of rfl rfl rfl rfl
  have hp : PassesOwn (model P w) (cxOf (L2.CX P w) P w K mg base N_wrong_fork "wrong_fork" (defScope s_wrong_fork) f cdv A outer s H E).A (cxOf (L2.CX P w) P w K mg base N_wrong_fork "wrong_fork" (defScope s_wrong_fork) f cdv A outer s H E).env (cxOf (L2.CX P w) P w K mg base N_wrong_fork "wrong_fork" (defScope s_wrong_fork) f cdv A outer s H E).xe := passes_of rfl
  exact (hCons (hFor hp rfl (iSeq (gIx (gFldO G.o_Tree G.na_Tree_ways (gv 0)) (gv 3) (by intro _ _; rfl))) (ggTup rfl (ggCons (ggName (i := 4) sc_wrong_fork.nd rfl (.inl rfl)) (ggCons (ggName (i := 5) sc_wrong_fork.nd rfl (.inl rfl)) ggNil))) (hCons (hSet (i := 6) sc_wrong_fork.nd rfl (.inl rfl) (gEq hr.units (gIx (gv 2) (gv 4) (by intro _ _; rfl)) (gv 5))) (hOne (hIf (gTEq hr.units (gv 6) (gCall1 c_goes_against T_goes_against hr (by decide) (by rfl) tk (gCons (gv 1) gNil))) (hOne (hRet (gv 4))) hNil)))) (hOne (hRet gNon)))
theorem d_first_wrong_by (G : Env P w K mg base a) (T_checked_flags : DefC P w K mg base "checked_flags" ["tree", "flags"] l_checked_flags [] (p_checked_flags K a)) (T_checked_rule : DefC P w K mg base "checked_rule" ["rule"] l_checked_rule [] (p_checked_rule K a)) (T_checked_run : DefC P w K mg base "checked_run" ["tree", "run"] l_checked_run [] (p_checked_run K a)) (T_turned_by : DefC P w K mg base "turned_by" ["tree", "rule", "flags", "kind", "slot"] l_turned_by [] (p_turned_by K a)) (T_wrong_fork : DefC P w K mg base "wrong_fork" ["tree", "rule", "flags", "slot"] l_wrong_fork [] (p_wrong_fork K a)) {f : Addr} {cdv : Value} {A : Around} {outer : List PySem.Env} {s : Shared} {H : Hp} {E : XK} (hr : Room (l_first_wrong_by - 1) (A.deeper (envOfC "first_wrong_by" (defScope s_first_wrong_by) s.heap.objs.size f cdv))) :
    PSs (cxOf (L2.CX P w) P w K mg base N_first_wrong_by "first_wrong_by" (defScope s_first_wrong_by) f cdv A outer s H E) (defBody s_first_wrong_by) (dS (fun c d _ H => E c d H) (r_first_wrong_by K a)) := by
  have tk : Takes (cxOf (L2.CX P w) P w K mg base N_first_wrong_by "first_wrong_by" (defScope s_first_wrong_by) f cdv A outer s H E) (fun c d _ H => E c d H) := takes_of rfl rfl rfl rfl
  have hp : PassesOwn (model P w) (cxOf (L2.CX P w) P w K mg base N_first_wrong_by "first_wrong_by" (defScope s_first_wrong_by) f cdv A outer s H E).A (cxOf (L2.CX P w) P w K mg base N_first_wrong_by "first_wrong_by" (defScope s_first_wrong_by) f cdv A outer s H E).env (cxOf (L2.CX P w) P w K mg base N_first_wrong_by "first_wrong_by" (defScope s_first_wrong_by) f cdv A outer s H E).xe := passes_of rfl
  exact (hCons (hExpr (gCall1 c_checked_rule T_checked_rule hr (by decide) (by rfl) tk (gCons (gv 1) gNil))) (hCons (hSet (i := 4) sc_first_wrong_by.nd rfl (.inl rfl) (gCall1 c_checked_flags T_checked_flags hr (by decide) (by rfl) tk (gCons (gv 0) (gCons (gv 2) gNil)))) (hCons (hFor hp rfl (iEn (by rfl) G.n_enumerate (gCons (gCall1 c_checked_run T_checked_run hr (by decide) (by rfl) tk (gCons (gv 0) (gCons (gv 3) gNil))) gNil)) (ggTup rfl (ggCons (ggName (i := 5) sc_first_wrong_by.nd rfl (.inl rfl)) (ggCons (ggTup rfl (ggCons (ggName (i := 6) sc_first_wrong_by.nd rfl (.inl rfl)) (ggCons (ggName (i := 7) sc_first_wrong_by.nd rfl (.inl rfl)) ggNil))) ggNil))) (hCut (hIf (gTEq hr.units (gv 6) gStr) (hCons (hSet (i := 8) sc_first_wrong_by.nd rfl (.inl rfl) (gCall1 c_wrong_fork T_wrong_fork hr (by decide) (by rfl) tk (gCons (gv 0) (gCons (gv 1) (gCons (gv 4) (gCons (gv 7) gNil)))))) (hOne (hIf (gTNotN (gv 8) gNon) (hOne (hRet (gTup (gCons (gv 5) (gCons (gv 8) gNil))))) hNil))) hNil) (hOne (hSet (i := 4) sc_first_wrong_by.nd rfl (.inl rfl) (gCall1 c_turned_by T_turned_by hr (by decide) (by rfl) tk (gCons (gv 0) (gCons (gv 1) (gCons (gv 4) (gCons (gv 6) (gCons (gv 7) gNil)))))))))) (hOne (hRet gNon)))))
theorem d_flags_by (G : Env P w K mg base a) (T_checked_flags : DefC P w K mg base "checked_flags" ["tree", "flags"] l_checked_flags [] (p_checked_flags K a)) (T_checked_rule : DefC P w K mg base "checked_rule" ["rule"] l_checked_rule [] (p_checked_rule K a)) (T_checked_run : DefC P w K mg base "checked_run" ["tree", "run"] l_checked_run [] (p_checked_run K a)) (T_turned_by : DefC P w K mg base "turned_by" ["tree", "rule", "flags", "kind", "slot"] l_turned_by [] (p_turned_by K a)) {f : Addr} {cdv : Value} {A : Around} {outer : List PySem.Env} {s : Shared} {H : Hp} {E : XK} (hr : Room (l_flags_by - 1) (A.deeper (envOfC "flags_by" (defScope s_flags_by) s.heap.objs.size f cdv))) :
    PSs (cxOf (L2.CX P w) P w K mg base N_flags_by "flags_by" (defScope s_flags_by) f cdv A outer s H E) (defBody s_flags_by) (dS (fun c d _ H => E c d H) (r_flags_by K a)) := by
  have tk : Takes (cxOf (L2.CX P w) P w K mg base N_flags_by "flags_by" (defScope s_flags_by) f cdv A outer s H E) (fun c d _ H => E c d H) := takes_of rfl rfl rfl rfl
  have hp : PassesOwn (model P w) (cxOf (L2.CX P w) P w K mg base N_flags_by "flags_by" (defScope s_flags_by) f cdv A outer s H E).A (cxOf (L2.CX P w) P w K mg base N_flags_by "flags_by" (defScope s_flags_by) f cdv A outer s H E).env (cxOf (L2.CX P w) P w K mg base N_flags_by "flags_by" (defScope s_flags_by) f cdv A outer s H E).xe := passes_of rfl
  exact (hCons (hExpr (gCall1 c_checked_rule T_checked_rule hr (by decide) (by rfl) tk (gCons (gv 1) gNil))) (hCons (hSet (i := 4) sc_flags_by.nd rfl (.inl rfl) (gCall1 c_checked_flags T_checked_flags hr (by decide) (by rfl) tk (gCons (gv 0) (gCons (gv 2) gNil)))) (hCons (hFor hp rfl (iSeq (gCall1 c_checked_run T_checked_run hr (by decide) (by rfl) tk (gCons (gv 0) (gCons (gv 3) gNil)))) (ggTup rfl (ggCons (ggName (i := 5) sc_flags_by.nd rfl (.inl rfl)) (ggCons (ggName (i := 6) sc_flags_by.nd rfl (.inl rfl)) ggNil))) (hOne (hSet (i := 4) sc_flags_by.nd rfl (.inl rfl) (gCall1 c_turned_by T_turned_by hr (by decide) (by rfl) tk (gCons (gv 0) (gCons (gv 1) (gCons (gv 4) (gCons (gv 5) (gCons (gv 6) gNil))))))))) (hOne (hRet (gv 4))))))
theorem d_same_rule (G : Env P w K mg base a) (T_checked_rule : DefC P w K mg base "checked_rule" ["rule"] l_checked_rule [] (p_checked_rule K a)) (T_Tree_len : MetC P w K mg base a.Tree "__len__" ["self"] l_Tree_len (p_Tree_len K a)) {f : Addr} {cdv : Value} {A : Around} {outer : List PySem.Env} {s : Shared} {H : Hp} {E : XK} (hr : Room (l_same_rule - 1) (A.deeper (envOfC "same_rule" (defScope s_same_rule) s.heap.objs.size f cdv))) :
    PSs (cxOf (L2.CX P w) P w K mg base N_same_rule "same_rule" (defScope s_same_rule) f cdv A outer s H E) (defBody s_same_rule) (dS (fun c d _ H => E c d H) (r_same_rule K a)) := by
  have tk : Takes (cxOf (L2.CX P w) P w K mg base N_same_rule "same_rule" (defScope s_same_rule) f cdv A outer s H E) (fun c d _ H => E c d H) := takes_of rfl rfl rfl rfl
  have hp : PassesOwn (model P w) (cxOf (L2.CX P w) P w K mg base N_same_rule "same_rule" (defScope s_same_rule) f cdv A outer s H E).A (cxOf (L2.CX P w) P w K mg base N_same_rule "same_rule" (defScope s_same_rule) f cdv A outer s H E).env (cxOf (L2.CX P w) P w K mg base N_same_rule "same_rule" (defScope s_same_rule) f cdv A outer s H E).xe := passes_of rfl
  exact (hCons (hExpr (gCall1 c_checked_rule T_checked_rule hr (by decide) (by rfl) tk (gCons (gv 1) gNil))) (hCons (hExpr (gCall1 c_checked_rule T_checked_rule hr (by decide) (by rfl) tk (gCons (gv 2) gNil))) (hCons (hIf (PW.pt (gOr (gTEq hr.units (gv 1) (gv 2)) (gOr1 (gTEq hr.units (gLenO c_Tree_len T_Tree_len hr (by decide) (by rfl) G.n_len (gv 0)) gInt)))) (hOne (hRet gBl)) hNil) (hOne (hRet (gAndV (gEq hr.units (gIx (gv 1) gInt (by intro _ _; rfl)) gStr) (gAndV (gEq hr.units (gIx (gv 2) gInt (by intro _ _; rfl)) gStr) (gOneV (gEq hr.units (gIx (gv 1) gInt (by intro _ _; rfl)) (gIx (gv 2) gInt (by intro _ _; rfl)))))))))))
theorem d_ends_fork (G : Env P w K mg base a)  {f : Addr} {cdv : Value} {A : Around} {outer : List PySem.Env} {s : Shared} {H : Hp} {E : XK} (hr : Room (l_ends_fork - 1) (A.deeper (envOfC "ends_fork" (defScope s_ends_fork) s.heap.objs.size f cdv))) :
    PSs (cxOf (L2.CX P w) P w K mg base N_ends_fork "ends_fork" (defScope s_ends_fork) f cdv A outer s H E) (defBody s_ends_fork) (dS (fun c d _ H => E c d H) (r_ends_fork K a)) := by
  have tk : Takes (cxOf (L2.CX P w) P w K mg base N_ends_fork "ends_fork" (defScope s_ends_fork) f cdv A outer s H E) (fun c d _ H => E c d H) := takes_of rfl rfl rfl rfl
  have hp : PassesOwn (model P w) (cxOf (L2.CX P w) P w K mg base N_ends_fork "ends_fork" (defScope s_ends_fork) f cdv A outer s H E).A (cxOf (L2.CX P w) P w K mg base N_ends_fork "ends_fork" (defScope s_ends_fork) f cdv A outer s H E).env (cxOf (L2.CX P w) P w K mg base N_ends_fork "ends_fork" (defScope s_ends_fork) f cdv A outer s H E).xe := passes_of rfl
  exact (hOne (hRet (gEq hr.units (gLc (own := [("node", 1)]) rfl sc_ends_fork.nd (iSeq (gSl (gv 0) (gPart (gNeg gInt)) gNoP)) (blkOk_by (own := [("node", 1)]) (N := N_ends_fork) (sc := defScope s_ends_fork) (by decide +kernel)) (fun _ _ _ _ _ => (ggName (i := 1) sc_ends_fork.nd rfl (.inl rfl))) (fun _ _ _ _ _ => gNoIf) (fun _ _ _ _ _ => (gEq hr.units (gIx (gv 1) gInt (by intro _ _; rfl)) gStr))) (gLst (gCons gBl (gCons gBl (gCons gBl gNil)))))))
theorem d_read_forks (G : Env P w K mg base a) (T_ends_fork : DefC P w K mg base "ends_fork" ["stack"] l_ends_fork [] (p_ends_fork K a)) {f : Addr} {cdv : Value} {A : Around} {outer : List PySem.Env} {s : Shared} {H : Hp} {E : XK} (hr : Room (l_read_forks - 1) (A.deeper (envOfC "read_forks" (defScope s_read_forks) s.heap.objs.size f cdv))) :
    PSs (cxOf (L2.CX P w) P w K mg base N_read_forks "read_forks" (defScope s_read_forks) f cdv A outer s H E) (defBody s_read_forks) (dS (fun c d _ H => E c d H) (r_read_forks K a)) := by
  have tk : Takes (cxOf (L2.CX P w) P w K mg base N_read_forks "read_forks" (defScope s_read_forks) f cdv A outer s H E) (fun c d _ H => E c d H) := takes_of rfl rfl rfl rfl
  have hp : PassesOwn (model P w) (cxOf (L2.CX P w) P w K mg base N_read_forks "read_forks" (defScope s_read_forks) f cdv A outer s H E).A (cxOf (L2.CX P w) P w K mg base N_read_forks "read_forks" (defScope s_read_forks) f cdv A outer s H E).env (cxOf (L2.CX P w) P w K mg base N_read_forks "read_forks" (defScope s_read_forks) f cdv A outer s H E).xe := passes_of rfl
  exact (hCons (hSet (i := 1) sc_read_forks.nd rfl (.inl rfl) (gLst gNil)) (hCons (hSet (i := 2) sc_read_forks.nd rfl (.inl rfl) (gLst gNil)) (hCons (hSet (i := 3) sc_read_forks.nd rfl (.inl rfl) gInt) (hCons (hFor hp rfl (iEnS (by rfl) G.n_enumerate (gCons (gv 0) gNil)) (ggTup rfl (ggCons (ggName (i := 4) sc_read_forks.nd rfl (.inl rfl)) (ggCons (ggName (i := 5) sc_read_forks.nd rfl (.inl rfl)) ggNil))) (hOne (hIf (gTEq hr.units (gv 5) gStr) (hOne (hExpr (gM PySem.F.plainAttrs_list PySem.F.slot_list_append PySem.F.type_list_append mt_append lAppend (gv 1) (gCons (gTup (gCons gStr (gCons gInt (gCons gInt (gCons gInt (gCons (gv 4) gNil)))))) gNil)))) (hOne (hIf (gTEq hr.units (gv 5) gStr) (hCons (hExpr (gM PySem.F.plainAttrs_list PySem.F.slot_list_append PySem.F.type_list_append mt_append lAppend (gv 1) (gCons (gTup (gCons gStr (gCons (gv 3) (gCons (gv 3) (gCons (gv 3) (gCons (gv 4) gNil)))))) gNil))) (hOne (hSet (i := 3) sc_read_forks.nd rfl (.inl rfl) (gAdd (gv 3) gInt)))) (hOne (hIf (PW.pt (gAnd (gTEq hr.units (gv 5) gStr) (gAnd1 (gTru (gCall1 c_ends_fork T_ends_fork hr (by decide) (by rfl) tk (gCons (gv 1) gNil)))))) (hCons (hSet (i := 6) sc_read_forks.nd rfl (.inl rfl) (gM0 PySem.F.plainAttrs_list PySem.F.slot_list_pop PySem.F.type_list_pop mt_pop lPop (gv 1))) (hCons (hSet (i := 7) sc_read_forks.nd rfl (.inl rfl) (gM0 PySem.F.plainAttrs_list PySem.F.slot_list_pop PySem.F.type_list_pop mt_pop lPop (gv 1))) (hCons (hAsg (gTup (gCons (gIx (gv 7) gInt (by intro _ _; rfl)) (gCons (gIx (gv 7) gInt (by intro _ _; rfl)) (gCons (gIx (gv 6) gInt (by intro _ _; rfl)) (gCons (gIx (gM0 PySem.F.plainAttrs_list PySem.F.slot_list_pop PySem.F.type_list_pop mt_pop lPop (gv 1)) gInt (by intro _ _; rfl)) gNil))))) (ggTup rfl (ggCons (ggName (i := 8) sc_read_forks.nd rfl (.inl rfl)) (ggCons (ggName (i := 9) sc_read_forks.nd rfl (.inl rfl)) (ggCons (ggName (i := 10) sc_read_forks.nd rfl (.inl rfl)) (ggCons (ggName (i := 11) sc_read_forks.nd rfl (.inl rfl)) ggNil)))))) (hCons (hExpr (gM PySem.F.plainAttrs_list PySem.F.slot_list_append PySem.F.type_list_append mt_append lAppend (gv 2) (gCons (gTup (gCons (gv 9) (gCons (gSl (gv 7) gNoP (gPart gInt)) (gCons (gSl (gv 6) gNoP (gPart gInt)) (gCons (gTup (gCons (gv 8) (gCons (gv 10) gNil))) (gCons (gTup (gCons (gv 11) (gCons (gAdd (gv 4) gInt) gNil))) gNil)))))) gNil))) (hOne (hExpr (gM PySem.F.plainAttrs_list PySem.F.slot_list_append PySem.F.type_list_append mt_append lAppend (gv 1) (gCons (gTup (gCons gStr (gCons (gv 9) (gCons (gv 8) (gCons (gv 10) (gCons (gv 11) gNil)))))) gNil)))))))) (hOne (hRet gNon))))))))) (hCons (hIf (PW.pt (gOr (gTNe hr.units (gB call_len lLen (by rfl) G.n_len (by decide +kernel) (gCons (gv 1) gNil)) gInt) (gOr1 (gTEq hr.units (gIx (gIx (gv 1) gInt (by intro _ _; rfl)) gInt (by intro _ _; rfl)) gStr)))) (hOne (hRet gNon)) hNil) (hOne (hRet (gv 2))))))))
theorem d_lay_ways (G : Env P w K mg base a)  {f : Addr} {cdv : Value} {A : Around} {outer : List PySem.Env} {s : Shared} {H : Hp} {E : XK} (hr : Room (l_lay_ways - 1) (A.deeper (envOfC "lay_ways" (defScope s_lay_ways) s.heap.objs.size f cdv))) :
    PSs (cxOf (L2.CX P w) P w K mg base N_lay_ways "lay_ways" (defScope s_lay_ways) f cdv A outer s H E) (defBody s_lay_ways) (dS (fun c d _ H => E c d H) (r_lay_ways K a)) := by
  have tk : Takes (cxOf (L2.CX P w) P w K mg base N_lay_ways "lay_ways" (defScope s_lay_ways) f cdv A outer s H E) (fun c d _ H => E c d H) := takes_of rfl rfl rfl rfl
  have hp : PassesOwn (model P w) (cxOf (L2.CX P w) P w K mg base N_lay_ways "lay_ways" (defScope s_lay_ways) f cdv A outer s H E).A (cxOf (L2.CX P w) P w K mg base N_lay_ways "lay_ways" (defScope s_lay_ways) f cdv A outer s H E).env (cxOf (L2.CX P w) P w K mg base N_lay_ways "lay_ways" (defScope s_lay_ways) f cdv A outer s H E).xe := passes_of rfl
  exact (hCons (hSet (i := 3) sc_lay_ways.nd rfl (.inl rfl) (gLst gNil)) (hCons (hSet (i := 4) sc_lay_ways.nd rfl (.inl rfl) (gLst gNil)) (hCons (hSet (i := 5) sc_lay_ways.nd rfl (.inl rfl) (gLst (gCons (gTup (gCons (gv 0) (gCons (gTup gNil) gNil))) gNil))) (hCons (hWhile hp (gTru (gv 5)) (hCons (hAsg (gM0 PySem.F.plainAttrs_list PySem.F.slot_list_pop PySem.F.type_list_pop mt_pop lPop (gv 5)) (ggTup rfl (ggCons (ggTup rfl (ggCons (ggName (i := 6) sc_lay_ways.nd rfl (.inl rfl)) (ggCons (ggName (i := 7) sc_lay_ways.nd rfl (.inl rfl)) ggNil))) (ggCons (ggName (i := 8) sc_lay_ways.nd rfl (.inl rfl)) ggNil)))) (hOne (hIf (gTEq hr.units (gv 6) gStr) (hOne (hExpr (gM PySem.F.plainAttrs_list PySem.F.slot_list_append PySem.F.type_list_append mt_append lAppend (gv 4) (gCons (gv 8) gNil)))) (hCons (hExpr (gM PySem.F.plainAttrs_list PySem.F.slot_list_append PySem.F.type_list_append mt_append lAppend (gv 3) (gCons (gv 7) gNil))) (hCons (hExpr (gM PySem.F.plainAttrs_list PySem.F.slot_list_append PySem.F.type_list_append mt_append lAppend (gv 5) (gCons (gTup (gCons (gIx (gv 2) (gv 7) (by intro _ _; rfl)) (gCons (gAddT (gv 8) (gTup (gCons (gTup (gCons (gv 7) (gCons gStr gNil))) gNil))) gNil))) gNil))) (hOne (hExpr (gM PySem.F.plainAttrs_list PySem.F.slot_list_append PySem.F.type_list_append mt_append lAppend (gv 5) (gCons (gTup (gCons (gIx (gv 1) (gv 7) (by intro _ _; rfl)) (gCons (gAddT (gv 8) (gTup (gCons (gTup (gCons (gv 7) (gCons gStr gNil))) gNil))) gNil))) gNil)))))))))) (hOne (hRet (gTup (gCons (gTuple (by rfl) G.n_tuple (gv 3)) (gCons (gTuple (by rfl) G.n_tuple (gv 4)) gNil)))))))))
theorem d_Tree_init (G : Env P w K mg base a) (T_lay_ways : DefC P w K mg base "lay_ways" ["root", "lefts", "rights"] l_lay_ways [] (p_lay_ways K a)) (T_read_forks : DefC P w K mg base "read_forks" ["text"] l_read_forks [] (p_read_forks K a)) {f : Addr} {cdv : Value} {A : Around} {outer : List PySem.Env} {s : Shared} {H : Hp} {E : XK} (hr : Room (l_Tree_init - 1) (A.deeper (envOfC "Tree.__init__" (defScope s_Tree_init) s.heap.objs.size f cdv))) :
    PSs (cxOf (L2.CX P w) P w K mg base N_Tree_init "Tree.__init__" (defScope s_Tree_init) f cdv A outer s H E) (defBody s_Tree_init) (dS (fun c d _ H => E c d H) (r_Tree_init K a)) := by
  have tk : Takes (cxOf (L2.CX P w) P w K mg base N_Tree_init "Tree.__init__" (defScope s_Tree_init) f cdv A outer s H E) (fun c d _ H => E c d H) := takes_of rfl rfl rfl rfl
  have hp : PassesOwn (model P w) (cxOf (L2.CX P w) P w K mg base N_Tree_init "Tree.__init__" (defScope s_Tree_init) f cdv A outer s H E).A (cxOf (L2.CX P w) P w K mg base N_Tree_init "Tree.__init__" (defScope s_Tree_init) f cdv A outer s H E).env (cxOf (L2.CX P w) P w K mg base N_Tree_init "Tree.__init__" (defScope s_Tree_init) f cdv A outer s H E).xe := passes_of rfl
  exact (hCons (hSet (i := 2) sc_Tree_init.nd rfl (.inl rfl) gNon) (hCut (hIf (PW.pt (gAnd (gTru (gIsi (by rfl) G.n_isinstance (gv 1) (by decide) (by rfl) G.n_str (by decide +kernel))) (gAnd1 (gTLe (gB call_len lLen (by rfl) G.n_len (by decide +kernel) (gCons (gv 1) gNil)) (gSub (gMul gInt (gConO G.o_Tree G.k_Tree_MOST (gv 0))) gInt))))) (hOne (hSet (i := 2) sc_Tree_init.nd rfl (.inl rfl) (gCall1 c_read_forks T_read_forks hr (by decide) (by rfl) tk (gCons (gv 1) gNil)))) hNil) (hCons (hIf (gTIsN (gv 2) gNon) (hOne (hRaise (k := 0) rfl tk G.e_InvalidTree (hr.mono (by decide)) (by rfl) (gv 1))) hNil) (hCons (hSet (i := 3) sc_Tree_init.nd rfl (.inl rfl) (gB cr_sortRow lSortRow (by rfl) G.n_sorted (by decide +kernel) (gCons (gv 2) gNil))) (hCons (hSetO G.o_Tree G.na_Tree_text (gv 0) (gv 1)) (hCons (hSetO G.o_Tree G.na_Tree_lefts (gv 0) (gTuple (by rfl) G.n_tuple (gLc (own := [("row", 4)]) rfl sc_Tree_init.nd (iSeq (gv 3)) (blkOk_by (own := [("row", 4)]) (N := N_Tree_init) (sc := defScope s_Tree_init) (by decide +kernel)) (fun _ _ _ _ _ => (ggName (i := 4) sc_Tree_init.nd rfl (.inl rfl))) (fun _ _ _ _ _ => gNoIf) (fun _ _ _ _ _ => (gIx (gv 4) gInt (by intro _ _; rfl)))))) (hCons (hSetO G.o_Tree G.na_Tree_rights (gv 0) (gTuple (by rfl) G.n_tuple (gLc (own := [("row", 4)]) rfl sc_Tree_init.nd (iSeq (gv 3)) (blkOk_by (own := [("row", 4)]) (N := N_Tree_init) (sc := defScope s_Tree_init) (by decide +kernel)) (fun _ _ _ _ _ => (ggName (i := 4) sc_Tree_init.nd rfl (.inl rfl))) (fun _ _ _ _ _ => gNoIf) (fun _ _ _ _ _ => (gIx (gv 4) gInt (by intro _ _; rfl)))))) (hCons (hSetO G.o_Tree G.na_Tree_spans (gv 0) (gTuple (by rfl) G.n_tuple (gLc (own := [("row", 4)]) rfl sc_Tree_init.nd (iSeq (gv 3)) (blkOk_by (own := [("row", 4)]) (N := N_Tree_init) (sc := defScope s_Tree_init) (by decide +kernel)) (fun _ _ _ _ _ => (ggName (i := 4) sc_Tree_init.nd rfl (.inl rfl))) (fun _ _ _ _ _ => gNoIf) (fun _ _ _ _ _ => (gIx (gv 4) gInt (by intro _ _; rfl)))))) (hCons (hSetO G.o_Tree G.na_Tree_bounds (gv 0) (gTuple (by rfl) G.n_tuple (gLc (own := [("row", 4)]) rfl sc_Tree_init.nd (iSeq (gv 3)) (blkOk_by (own := [("row", 4)]) (N := N_Tree_init) (sc := defScope s_Tree_init) (by decide +kernel)) (fun _ _ _ _ _ => (ggName (i := 4) sc_Tree_init.nd rfl (.inl rfl))) (fun _ _ _ _ _ => gNoIf) (fun _ _ _ _ _ => (gIx (gv 4) gInt (by intro _ _; rfl)))))) (hCons (hSetO G.o_Tree G.na_Tree_postorder (gv 0) (gTuple (by rfl) G.n_tuple (gLc (own := [("row", 4)]) rfl sc_Tree_init.nd (iSeq (gv 2)) (blkOk_by (own := [("row", 4)]) (N := N_Tree_init) (sc := defScope s_Tree_init) (by decide +kernel)) (fun _ _ _ _ _ => (ggName (i := 4) sc_Tree_init.nd rfl (.inl rfl))) (fun _ _ _ _ _ => gNoIf) (fun _ _ _ _ _ => (gIx (gv 4) gInt (by intro _ _; rfl)))))) (hCons (hSetO G.o_Tree G.na_Tree_root (gv 0) (gIfE (gTru (gv 2)) (gTup (gCons gStr (gCons (gIx (gIx (gv 2) (gNeg gInt) (by intro _ _; rfl)) gInt (by intro _ _; rfl)) gNil))) (gTup (gCons gStr (gCons gInt gNil))))) (hOne (hAsg (gCall1 c_lay_ways T_lay_ways hr (by decide) (by rfl) tk (gCons (gFldO G.o_Tree G.na_Tree_root (gv 0)) (gCons (gFldO G.o_Tree G.na_Tree_lefts (gv 0)) (gCons (gFldO G.o_Tree G.na_Tree_rights (gv 0)) gNil)))) (ggTup rfl (ggCons (ggFld G.o_Tree G.na_Tree_preorder (gv 0)) (ggCons (ggFld G.o_Tree G.na_Tree_ways (gv 0)) ggNil))))))))))))))))
theorem d_Tree_len (G : Env P w K mg base a)  {f : Addr} {cdv : Value} {A : Around} {outer : List PySem.Env} {s : Shared} {H : Hp} {E : XK} (hr : Room (l_Tree_len - 1) (A.deeper (envOfC "Tree.__len__" (defScope s_Tree_len) s.heap.objs.size f cdv))) :
    PSs (cxOf (L2.CX P w) P w K mg base N_Tree_len "Tree.__len__" (defScope s_Tree_len) f cdv A outer s H E) (defBody s_Tree_len) (dS (fun c d _ H => E c d H) (r_Tree_len K a)) := by
  have tk : Takes (cxOf (L2.CX P w) P w K mg base N_Tree_len "Tree.__len__" (defScope s_Tree_len) f cdv A outer s H E) (fun c d _ H => E c d H) := takes_of rfl rfl rfl rfl
  have hp : PassesOwn (model P w) (cxOf (L2.CX P w) P w K mg base N_Tree_len "Tree.__len__" (defScope s_Tree_len) f cdv A outer s H E).A (cxOf (L2.CX P w) P w K mg base N_Tree_len "Tree.__len__" (defScope s_Tree_len) f cdv A outer s H E).env (cxOf (L2.CX P w) P w K mg base N_Tree_len "Tree.__len__" (defScope s_Tree_len) f cdv A outer s H E).xe := passes_of rfl
  exact (hOne (hRet (gB call_len lLen (by rfl) G.n_len (by decide +kernel) (gCons (gFldO G.o_Tree G.na_Tree_ways (gv 0)) gNil))))
theorem d_Tree_forks (G : Env P w K mg base a)  {f : Addr} {cdv : Value} {A : Around} {outer : List PySem.Env} {s : Shared} {H : Hp} {E : XK} (hr : Room (l_Tree_forks - 1) (A.deeper (envOfC "Tree.forks" (defScope s_Tree_forks) s.heap.objs.size f cdv))) :
    PSs (cxOf (L2.CX P w) P w K mg base N_Tree_forks "Tree.forks" (defScope s_Tree_forks) f cdv A outer s H E) (defBody s_Tree_forks) (dS (fun c d _ H => E c d H) (r_Tree_forks K a)) := by
  have tk : Takes (cxOf (L2.CX P w) P w K mg base N_Tree_forks "Tree.forks" (defScope s_Tree_forks) f cdv A outer s H E) (fun c d _ H => E c d H) := takes_of rfl rfl rfl rfl
  have hp : PassesOwn (model P w) (cxOf (L2.CX P w) P w K mg base N_Tree_forks "Tree.forks" (defScope s_Tree_forks) f cdv A outer s H E).A (cxOf (L2.CX P w) P w K mg base N_Tree_forks "Tree.forks" (defScope s_Tree_forks) f cdv A outer s H E).env (cxOf (L2.CX P w) P w K mg base N_Tree_forks "Tree.forks" (defScope s_Tree_forks) f cdv A outer s H E).xe := passes_of rfl
  exact (hOne (hRet (gB call_len lLen (by rfl) G.n_len (by decide +kernel) (gCons (gFldO G.o_Tree G.na_Tree_spans (gv 0)) gNil))))
theorem d_l_source (G : Env P w K mg base a)  {f : Addr} {cdv : Value} {A : Around} {outer : List PySem.Env} {s : Shared} {H : Hp} {E : XK} (hr : Room (l_l_source - 1) (A.deeper (envOfC "_law_source" (defScope s_l_source) s.heap.objs.size f cdv))) :
    PSs (cxOf (L2.CX P w) P w K mg base N_l_source "_law_source" (defScope s_l_source) f cdv A outer s H E) (defBody s_l_source) (dS (fun c d _ H => E c d H) (r_l_source K a)) := by
  have tk : Takes (cxOf (L2.CX P w) P w K mg base N_l_source "_law_source" (defScope s_l_source) f cdv A outer s H E) (fun c d _ H => E c d H) := takes_of rfl rfl rfl rfl
  have hp : PassesOwn (model P w) (cxOf (L2.CX P w) P w K mg base N_l_source "_law_source" (defScope s_l_source) f cdv A outer s H E).A (cxOf (L2.CX P w) P w K mg base N_l_source "_law_source" (defScope s_l_source) f cdv A outer s H E).env (cxOf (L2.CX P w) P w K mg base N_l_source "_law_source" (defScope s_l_source) f cdv A outer s H E).xe := passes_of rfl
  exact (hCons (hSet (i := 2) sc_l_source.nd rfl (.inl rfl) (gAdd (gAdd gInt (gMul gInt (gv 1))) (gMod (gB (cr_sum rfl) lSum (by rfl) G.n_sum (by decide +kernel) (gCons (gSl (gv 0) gNoP (gPart gInt)) gNil)) gInt))) (hCut (hIf (gTLt (gv 1) (gB call_len lLen (by rfl) G.n_len (by decide +kernel) (gCons (gv 0) gNil))) (hOne (hSet (i := 2) sc_l_source.nd rfl (.inl rfl) (gIx (gv 0) (gv 1) (by intro _ _; rfl)))) hNil) (hCut (hIf (gTLt (gv 2) gInt) (hOne (hSet (i := 2) sc_l_source.nd rfl (.inl rfl) (gSub gInt (gv 2)))) hNil) (hCons (hSet (i := 3) sc_l_source.nd rfl (.inl rfl) gInt) (hCut (hIf (gTGe (gv 2) (gPow gInt gInt)) (hOne (hSet (i := 3) sc_l_source.nd rfl (.inl rfl) (gv 2))) hNil) (hOne (hRet (gLst (gCons (gv 3) (gCons (gMod (gTy call_int1 lInt (by rfl) G.n_int (by decide +kernel) (gCons (gv 2) gNil)) gInt) (gCons gInt gNil)))))))))))
theorem d_l_take (G : Env P w K mg base a)  {f : Addr} {cdv : Value} {A : Around} {outer : List PySem.Env} {s : Shared} {H : Hp} {E : XK} (hr : Room (l_l_take - 1) (A.deeper (envOfC "_law_take" (defScope s_l_take) s.heap.objs.size f cdv))) :
    PSs (cxOf (L2.CX P w) P w K mg base N_l_take "_law_take" (defScope s_l_take) f cdv A outer s H E) (defBody s_l_take) (dS (fun c d _ H => E c d H) (r_l_take K a)) := by
  have tk : Takes (cxOf (L2.CX P w) P w K mg base N_l_take "_law_take" (defScope s_l_take) f cdv A outer s H E) (fun c d _ H => E c d H) := takes_of rfl rfl rfl rfl
  have hp : PassesOwn (model P w) (cxOf (L2.CX P w) P w K mg base N_l_take "_law_take" (defScope s_l_take) f cdv A outer s H E).A (cxOf (L2.CX P w) P w K mg base N_l_take "_law_take" (defScope s_l_take) f cdv A outer s H E).env (cxOf (L2.CX P w) P w K mg base N_l_take "_law_take" (defScope s_l_take) f cdv A outer s H E).xe := passes_of rfl
  exact (hCons (hIf (gTGt (gIx (gv 0) gInt (by intro _ _; rfl)) gInt) (hCons (hSet (i := 2) sc_l_take.nd rfl (.inl rfl) (gMod (gTy call_int1 lInt (by rfl) G.n_int (by decide +kernel) (gCons (gIx (gv 0) gInt (by intro _ _; rfl)) gNil)) (gv 1))) (hCons (hAsg (gFdv (gIx (gv 0) gInt (by intro _ _; rfl)) (gv 1)) (ggSub (gv 0) gInt)) (hOne (hRet (gv 2))))) hNil) (hCons (hAsg (gAdd (gIx (gv 0) gInt (by intro _ _; rfl)) gInt) (ggSub (gv 0) gInt)) (hCons (hSet (i := 3) sc_l_take.nd rfl (.inl rfl) (gMod (gTy call_int1 lInt (by rfl) G.n_int (by decide +kernel) (gCons (gAdd (gMul (gAdd (gIx (gv 0) gInt (by intro _ _; rfl)) (gMul gInt (gIx (gv 0) gInt (by intro _ _; rfl)))) gInt) gInt) gNil)) gInt)) (hCons (hSet (i := 3) sc_l_take.nd rfl (.inl rfl) (gMod (gTy call_int1 lInt (by rfl) G.n_int (by decide +kernel) (gCons (gAdd (gAdd (gMul (gv 3) (gv 3)) (gMul gInt (gIx (gv 0) gInt (by intro _ _; rfl)))) (gIx (gv 0) gInt (by intro _ _; rfl))) gNil)) gInt)) (hCons (hSet (i := 3) sc_l_take.nd rfl (.inl rfl) (gMod (gTy call_int1 lInt (by rfl) G.n_int (by decide +kernel) (gCons (gAdd (gMul (gv 3) gInt) (gIx (gv 0) gInt (by intro _ _; rfl))) gNil)) gInt)) (hOne (hRet (gMod (gTy call_int1 lInt (by rfl) G.n_int (by decide +kernel) (gCons (gFdv (gv 3) gInt) gNil)) (gv 1)))))))))
theorem d_l_part (G : Env P w K mg base a) (T_l_take : DefC P w K mg base "_law_take" ["_law_source_here", "_law_many"] l_l_take [] (p_l_take K a)) {lv n : Nat} (T_self : DefC P w K mg base "_law_part" ["_law_source_here", "_law_start", "_law_many", "_law_lean"] lv [] (p_l_part K a n)) (hj : l_l_part ≤ lv) {f : Addr} {cdv : Value} {A : Around} {outer : List PySem.Env} {s : Shared} {H : Hp} {E : XK} (hr : Room (lv) (A.deeper (envOfC "_law_part" (defScope s_l_part) s.heap.objs.size f cdv))) :
    PSs (cxOf (L2.CX P w) P w K mg base N_l_part "_law_part" (defScope s_l_part) f cdv A outer s H E) (defBody s_l_part) (dS (fun c d _ H => E c d H) (r_l_part K a n)) := by
  have tk : Takes (cxOf (L2.CX P w) P w K mg base N_l_part "_law_part" (defScope s_l_part) f cdv A outer s H E) (fun c d _ H => E c d H) := takes_of rfl rfl rfl rfl
  have hp : PassesOwn (model P w) (cxOf (L2.CX P w) P w K mg base N_l_part "_law_part" (defScope s_l_part) f cdv A outer s H E).A (cxOf (L2.CX P w) P w K mg base N_l_part "_law_part" (defScope s_l_part) f cdv A outer s H E).env (cxOf (L2.CX P w) P w K mg base N_l_part "_law_part" (defScope s_l_part) f cdv A outer s H E).xe := passes_of rfl
  exact (hCons (hIf (gTEq hr.units (gv 2) gInt) (hOne (hRet (gTup (gCons gStr (gCons gDctT gNil))))) hNil) (hCons (hSet (i := 4) sc_l_part.nd rfl (.inl rfl) (gAdd gInt (gCall1 c_l_take T_l_take hr (Nat.le_trans (by decide) hj) (by rfl) tk (gCons (gv 0) (gCons (gSub (gv 2) gInt) gNil))))) (hCut (hIf (gTEq hr.units (gv 3) gInt) (hOne (hSet (i := 4) sc_l_part.nd rfl (.inl rfl) gInt)) hNil) (hCut (hIf (gTEq hr.units (gv 3) gInt) (hOne (hSet (i := 4) sc_l_part.nd rfl (.inl rfl) (gSub (gv 2) gInt))) hNil) (hCut (hIf (gTEq hr.units (gv 3) gInt) (hOne (hSet (i := 4) sc_l_part.nd rfl (.inl rfl) (gFdv (gv 2) gInt))) hNil) (hCons (hSet (i := 5) sc_l_part.nd rfl (.inl rfl) (gCall1 c_l_part T_self hr (Nat.le_refl _) (by rfl) tk (gCons (gv 0) (gCons (gv 1) (gCons (gv 4) (gCons (gv 3) gNil)))))) (hCons (hSet (i := 6) sc_l_part.nd rfl (.inl rfl) (gCall1 c_l_part T_self hr (Nat.le_refl _) (by rfl) tk (gCons (gv 0) (gCons (gAdd (gv 1) (gv 4)) (gCons (gSub (gv 2) (gv 4)) (gCons (gv 3) gNil)))))) (hCons (hSet (i := 7) sc_l_part.nd rfl (.inl rfl) (gDisT1 (hu_of hr) (gTup (gCons (gv 1) (gCons (gSub (gAdd (gv 1) (gv 2)) gInt) gNil))) (gSub (gAdd (gv 1) (gv 4)) gInt))) (hCons (hExpr (gM PySem.F.plainAttrs_dict PySem.F.slot_dict_update PySem.F.type_dict_update (mt_updT (hu_of hr)) lUpdT (gv 7) (gCons (gIx (gv 5) gInt (by intro _ _; rfl)) gNil))) (hCons (hExpr (gM PySem.F.plainAttrs_dict PySem.F.slot_dict_update PySem.F.type_dict_update (mt_updT (hu_of hr)) lUpdT (gv 7) (gCons (gIx (gv 6) gInt (by intro _ _; rfl)) gNil))) (hOne (hRet (gTup (gCons (gAdd (gAdd (gAdd gStr (gIx (gv 5) gInt (by intro _ _; rfl))) (gIx (gv 6) gInt (by intro _ _; rfl))) gStr) (gCons (gv 7) gNil)))))))))))))))
theorem d_l_tree (G : Env P w K mg base a) (T_l_part : DefC P w K mg base "_law_part" ["_law_source_here", "_law_start", "_law_many", "_law_lean"] (l_l_part + 64) [] (p_l_part K a 64)) (T_l_take : DefC P w K mg base "_law_take" ["_law_source_here", "_law_many"] l_l_take [] (p_l_take K a)) {f : Addr} {cdv : Value} {A : Around} {outer : List PySem.Env} {s : Shared} {H : Hp} {E : XK} (hr : Room (l_l_tree - 1) (A.deeper (envOfC "_law_tree" (defScope s_l_tree) s.heap.objs.size f cdv))) :
    PSs (cxOf (L2.CX P w) P w K mg base N_l_tree "_law_tree" (defScope s_l_tree) f cdv A outer s H E) (defBody s_l_tree) (dS (fun c d _ H => E c d H) (r_l_tree K a)) := by
  have tk : Takes (cxOf (L2.CX P w) P w K mg base N_l_tree "_law_tree" (defScope s_l_tree) f cdv A outer s H E) (fun c d _ H => E c d H) := takes_of rfl rfl rfl rfl
  have hp : PassesOwn (model P w) (cxOf (L2.CX P w) P w K mg base N_l_tree "_law_tree" (defScope s_l_tree) f cdv A outer s H E).A (cxOf (L2.CX P w) P w K mg base N_l_tree "_law_tree" (defScope s_l_tree) f cdv A outer s H E).env (cxOf (L2.CX P w) P w K mg base N_l_tree "_law_tree" (defScope s_l_tree) f cdv A outer s H E).xe := passes_of rfl
  exact (hCons (hSet (i := 2) sc_l_tree.nd rfl (.inl rfl) (gCall1 c_l_take T_l_take hr (by decide) (by rfl) tk (gCons (gv 0) (gCons gInt gNil)))) (hCons (hSet (i := 3) sc_l_tree.nd rfl (.inl rfl) (gAdd gInt (gCall1 c_l_take T_l_take hr (by decide) (by rfl) tk (gCons (gv 0) (gCons (gB (call_min2 rfl) lMin2 (by rfl) G.n_min (by decide +kernel) (gCons (gv 1) (gCons gInt gNil))) gNil))))) (hCut (hIf (gTEq hr.units (gCall1 c_l_take T_l_take hr (by decide) (by rfl) tk (gCons (gv 0) (gCons gInt gNil))) gInt) (hOne (hSet (i := 3) sc_l_tree.nd rfl (.inl rfl) (gAdd gInt (gCall1 c_l_take T_l_take hr (by decide) (by rfl) tk (gCons (gv 0) (gCons (gv 1) gNil)))))) hNil) (hCons (hSet (i := 4) sc_l_tree.nd rfl (.inl rfl) gInt) (hCut (hIf (gTEq hr.units (gv 2) gInt) (hOne (hSet (i := 3) sc_l_tree.nd rfl (.inl rfl) gInt)) hNil) (hCut (hIf (PW.pt (gOr (gTEq hr.units (gv 2) gInt) (gOr1 (gTEq hr.units (gv 2) gInt)))) (hOne (hSet (i := 4) sc_l_tree.nd rfl (.inl rfl) (gv 2))) hNil) (hCut (hIf (gTEq hr.units (gv 2) gInt) (hCons (hSetLc (i := 5) (own := [("_law_size", 7)]) rfl sc_l_tree.nd rfl rfl (sw_true rfl rfl rfl (by decide +kernel)) (iSeq (gLst (gCons gInt (gCons gInt (gCons gInt (gCons gInt (gCons gInt (gCons gInt (gCons gInt gNil))))))))) (blkOk_by (own := [("_law_size", 7)]) (N := N_l_tree) (sc := defScope s_l_tree) (by decide +kernel)) (fun _ _ _ _ _ => (ggName (i := 7) sc_l_tree.nd rfl (.inl rfl))) (fun _ _ _ _ _ => (gOneIf (gTLe (gv 7) (gv 1)))) (fun _ _ _ _ _ => (gv 7))) (hCons (hSet (i := 3) sc_l_tree.nd rfl (.inl rfl) (gIx (gv 5) (gCall1 c_l_take T_l_take hr (by decide) (by rfl) tk (gCons (gv 0) (gCons (gB call_len lLen (by rfl) G.n_len (by decide +kernel) (gCons (gv 5) gNil)) gNil))) (by intro _ _; rfl))) (hOne (hSet (i := 4) sc_l_tree.nd rfl (.inl rfl) gInt)))) hNil) (hCons (hSet (i := 6) sc_l_tree.nd rfl (.inl rfl) (gCall1 c_l_part T_l_part hr (by decide) (by rfl) tk (gCons (gv 0) (gCons gInt (gCons (gv 3) (gCons (gv 4) gNil)))))) (hOne (hRet (gTup (gCons (gIx (gv 6) gInt (by intro _ _; rfl)) (gCons (gIx (gv 6) gInt (by intro _ _; rfl)) (gCons (gv 3) gNil))))))))))))))
theorem d_l_flags (G : Env P w K mg base a) (T_l_take : DefC P w K mg base "_law_take" ["_law_source_here", "_law_many"] l_l_take [] (p_l_take K a)) {f : Addr} {cdv : Value} {A : Around} {outer : List PySem.Env} {s : Shared} {H : Hp} {E : XK} (hr : Room (l_l_flags - 1) (A.deeper (envOfC "_law_flags" (defScope s_l_flags) s.heap.objs.size f cdv))) :
    PSs (cxOf (L2.CX P w) P w K mg base N_l_flags "_law_flags" (defScope s_l_flags) f cdv A outer s H E) (defBody s_l_flags) (dS (fun c d _ H => E c d H) (r_l_flags K a)) := by
  have tk : Takes (cxOf (L2.CX P w) P w K mg base N_l_flags "_law_flags" (defScope s_l_flags) f cdv A outer s H E) (fun c d _ H => E c d H) := takes_of rfl rfl rfl rfl
  have hp : PassesOwn (model P w) (cxOf (L2.CX P w) P w K mg base N_l_flags "_law_flags" (defScope s_l_flags) f cdv A outer s H E).A (cxOf (L2.CX P w) P w K mg base N_l_flags "_law_flags" (defScope s_l_flags) f cdv A outer s H E).env (cxOf (L2.CX P w) P w K mg base N_l_flags "_law_flags" (defScope s_l_flags) f cdv A outer s H E).xe := passes_of rfl
  exact (hOne (hRet (gM PySem.F.plainAttrs_str PySem.F.slot_str_join PySem.F.type_str_join mt_join lJoin gStr (gCons (gLc (own := [("_law_k", 2)]) rfl sc_l_flags.nd (iR1 (by rfl) G.n_range (gCons (gSub (gv 1) gInt) gNil)) (blkOk_by (own := [("_law_k", 2)]) (N := N_l_flags) (sc := defScope s_l_flags) (by decide +kernel)) (fun _ _ _ _ _ => (ggName (i := 2) sc_l_flags.nd rfl (.inl rfl))) (fun _ _ _ _ _ => gNoIf) (fun _ _ _ _ _ => (gIx gStr (gCall1 c_l_take T_l_take hr (by decide) (by rfl) takes0 (gCons (gv 0) (gCons gInt gNil))) (by intro _ _; rfl)))) gNil))))
theorem d_l_victim (G : Env P w K mg base a)  {f : Addr} {cdv : Value} {A : Around} {outer : List PySem.Env} {s : Shared} {H : Hp} {E : XK} (hr : Room (l_l_victim - 1) (A.deeper (envOfC "_law_victim" (defScope s_l_victim) s.heap.objs.size f cdv))) :
    PSs (cxOf (L2.CX P w) P w K mg base N_l_victim "_law_victim" (defScope s_l_victim) f cdv A outer s H E) (defBody s_l_victim) (dS (fun c d _ H => E c d H) (r_l_victim K a)) := by
  have tk : Takes (cxOf (L2.CX P w) P w K mg base N_l_victim "_law_victim" (defScope s_l_victim) f cdv A outer s H E) (fun c d _ H => E c d H) := takes_of rfl rfl rfl rfl
  have hp : PassesOwn (model P w) (cxOf (L2.CX P w) P w K mg base N_l_victim "_law_victim" (defScope s_l_victim) f cdv A outer s H E).A (cxOf (L2.CX P w) P w K mg base N_l_victim "_law_victim" (defScope s_l_victim) f cdv A outer s H E).env (cxOf (L2.CX P w) P w K mg base N_l_victim "_law_victim" (defScope s_l_victim) f cdv A outer s H E).xe := passes_of rfl
  exact (hCons (hPar (i := 4) (j := 5) rfl sc_l_victim.nd rfl rfl (by decide) rfl rfl (gCons gInt (gCons (gSub (gv 1) gInt) gNil))) (hCut (hFor hp rfl (iR1 (by rfl) G.n_range (gCons gInt gNil)) (ggName (i := 6) sc_l_victim.nd rfl (.inl rfl)) (hCons (hIf (gTEq hr.units (gv 4) (gv 5)) (hOne hBreak) hNil) (hCons (hSet (i := 7) sc_l_victim.nd rfl (.inl rfl) (gDGetT (hu_of hr) (gv 0) (gTup (gCons (gv 4) (gCons (gv 5) gNil))))) (hOne (hIf (gTEq hr.units (gEq hr.units (gIx (gv 2) (gv 7) (by intro _ _; rfl)) gStr) (gEq hr.units (gv 3) gStr)) (hOne (hSet (i := 5) sc_l_victim.nd rfl (.inl rfl) (gv 7))) (hOne (hSet (i := 4) sc_l_victim.nd rfl (.inl rfl) (gAdd (gv 7) gInt)))))))) (hOne (hRet (gv 4)))))
theorem d_l_after (G : Env P w K mg base a)  {f : Addr} {cdv : Value} {A : Around} {outer : List PySem.Env} {s : Shared} {H : Hp} {E : XK} (hr : Room (l_l_after - 1) (A.deeper (envOfC "_law_after" (defScope s_l_after) s.heap.objs.size f cdv))) :
    PSs (cxOf (L2.CX P w) P w K mg base N_l_after "_law_after" (defScope s_l_after) f cdv A outer s H E) (defBody s_l_after) (dS (fun c d _ H => E c d H) (r_l_after K a)) := by
  have tk : Takes (cxOf (L2.CX P w) P w K mg base N_l_after "_law_after" (defScope s_l_after) f cdv A outer s H E) (fun c d _ H => E c d H) := takes_of rfl rfl rfl rfl
  have hp : PassesOwn (model P w) (cxOf (L2.CX P w) P w K mg base N_l_after "_law_after" (defScope s_l_after) f cdv A outer s H E).A (cxOf (L2.CX P w) P w K mg base N_l_after "_law_after" (defScope s_l_after) f cdv A outer s H E).env (cxOf (L2.CX P w) P w K mg base N_l_after "_law_after" (defScope s_l_after) f cdv A outer s H E).xe := passes_of rfl
  exact (hCons (hSet (i := 4) sc_l_after.nd rfl (.inl rfl) (gTy (cr_listS rfl) lListS (by rfl) G.n_list (by decide +kernel) (gCons (gv 2) gNil))) (hCons (hPar (i := 5) (j := 6) rfl sc_l_after.nd rfl rfl (by decide) rfl rfl (gCons gInt (gCons (gSub (gv 1) gInt) gNil))) (hCut (hFor hp rfl (iR1 (by rfl) G.n_range (gCons gInt gNil)) (ggName (i := 7) sc_l_after.nd rfl (.inl rfl)) (hCons (hIf (gTEq hr.units (gv 5) (gv 6)) (hOne hBreak) hNil) (hCons (hSet (i := 8) sc_l_after.nd rfl (.inl rfl) (gDGetT (hu_of hr) (gv 0) (gTup (gCons (gv 5) (gCons (gv 6) gNil))))) (hOne (hIf (gTLe (gv 3) (gv 8)) (hCons (hAsg gStr (ggSub (gv 4) (gv 8))) (hOne (hSet (i := 6) sc_l_after.nd rfl (.inl rfl) (gv 8)))) (hCons (hAsg gStr (ggSub (gv 4) (gv 8))) (hOne (hSet (i := 5) sc_l_after.nd rfl (.inl rfl) (gAdd (gv 8) gInt))))))))) (hOne (hRet (gM PySem.F.plainAttrs_str PySem.F.slot_str_join PySem.F.type_str_join mt_join lJoin gStr (gCons (gv 4) gNil)))))))
theorem d_l_rules (G : Env P w K mg base a)  {f : Addr} {cdv : Value} {A : Around} {outer : List PySem.Env} {s : Shared} {H : Hp} {E : XK} (hr : Room (l_l_rules - 1) (A.deeper (envOfC "_law_rules" (defScope s_l_rules) s.heap.objs.size f cdv))) :
    PSs (cxOf (L2.CX P w) P w K mg base N_l_rules "_law_rules" (defScope s_l_rules) f cdv A outer s H E) (defBody s_l_rules) (dS (fun c d _ H => E c d H) (r_l_rules K a)) := by
  have tk : Takes (cxOf (L2.CX P w) P w K mg base N_l_rules "_law_rules" (defScope s_l_rules) f cdv A outer s H E) (fun c d _ H => E c d H) := takes_of rfl rfl rfl rfl
  have hp : PassesOwn (model P w) (cxOf (L2.CX P w) P w K mg base N_l_rules "_law_rules" (defScope s_l_rules) f cdv A outer s H E).A (cxOf (L2.CX P w) P w K mg base N_l_rules "_law_rules" (defScope s_l_rules) f cdv A outer s H E).env (cxOf (L2.CX P w) P w K mg base N_l_rules "_law_rules" (defScope s_l_rules) f cdv A outer s H E).xe := passes_of rfl
  exact (hOne (hRet (gLst (gCons gStr (gCons gStr (gCons gStr (gCons gStr (gCons gStr (gCons gStr (gCons gStr (gCons gStr gNil)))))))))))
theorem d_l_run (G : Env P w K mg base a) (T_l_after : DefC P w K mg base "_law_after" ["_law_tops", "_law_many", "_law_flags_here", "_law_slot"] l_l_after [] (p_l_after K a)) (T_l_take : DefC P w K mg base "_law_take" ["_law_source_here", "_law_many"] l_l_take [] (p_l_take K a)) (T_l_victim : DefC P w K mg base "_law_victim" ["_law_tops", "_law_many", "_law_flags_here", "_law_letter"] l_l_victim [] (p_l_victim K a)) {f : Addr} {cdv : Value} {A : Around} {outer : List PySem.Env} {s : Shared} {H : Hp} {E : XK} (hr : Room (l_l_run - 1) (A.deeper (envOfC "_law_run" (defScope s_l_run) s.heap.objs.size f cdv))) :
    PSs (cxOf (L2.CX P w) P w K mg base N_l_run "_law_run" (defScope s_l_run) f cdv A outer s H E) (defBody s_l_run) (dS (fun c d _ H => E c d H) (r_l_run K a)) := by
  have tk : Takes (cxOf (L2.CX P w) P w K mg base N_l_run "_law_run" (defScope s_l_run) f cdv A outer s H E) (fun c d _ H => E c d H) := takes_of rfl rfl rfl rfl
  have hp : PassesOwn (model P w) (cxOf (L2.CX P w) P w K mg base N_l_run "_law_run" (defScope s_l_run) f cdv A outer s H E).A (cxOf (L2.CX P w) P w K mg base N_l_run "_law_run" (defScope s_l_run) f cdv A outer s H E).env (cxOf (L2.CX P w) P w K mg base N_l_run "_law_run" (defScope s_l_run) f cdv A outer s H E).xe := passes_of rfl
  exact (hCons (hSet (i := 5) sc_l_run.nd rfl (.inl rfl) (gCall1 c_l_take T_l_take hr (by decide) (by rfl) tk (gCons (gv 0) (gCons gInt gNil)))) (hCut (hIf (gTEq hr.units (gCall1 c_l_take T_l_take hr (by decide) (by rfl) tk (gCons (gv 0) (gCons gInt gNil))) gInt) (hOne (hSet (i := 5) sc_l_run.nd rfl (.inl rfl) (gAdd gInt (gCall1 c_l_take T_l_take hr (by decide) (by rfl) tk (gCons (gv 0) (gCons gInt gNil)))))) hNil) (hCons (hSet (i := 6) sc_l_run.nd rfl (.inl rfl) (gCall1 c_l_take T_l_take hr (by decide) (by rfl) tk (gCons (gv 0) (gCons gInt gNil)))) (hCons (hSet (i := 7) sc_l_run.nd rfl (.inl rfl) (gCall1 c_l_take T_l_take hr (by decide) (by rfl) tk (gCons (gv 0) (gCons (gAdd (gv 5) gInt) gNil)))) (hCons (hSet (i := 8) sc_l_run.nd rfl (.inl rfl) (gLst gNil)) (hCons (hFor hp rfl (iR1 (by rfl) G.n_range (gCons (gv 5) gNil)) (ggName (i := 9) sc_l_run.nd rfl (.inl rfl)) (hCons (hSet (i := 10) sc_l_run.nd rfl (.inl rfl) (gIx (gLst (gCons gStr (gCons gStr gNil))) (gCall1 c_l_take T_l_take hr (by decide) (by rfl) tk (gCons (gv 0) (gCons gInt gNil))) (by intro _ _; rfl))) (hCons (hSet (i := 11) sc_l_run.nd rfl (.inl rfl) (gCall1 c_l_take T_l_take hr (by decide) (by rfl) tk (gCons (gv 0) (gCons (gv 2) gNil)))) (hCut (hIf (PW.pt (gAnd (gTEq hr.units (gv 10) gStr) (gAnd1 (PW.pt (gOr (gTEq hr.units (gv 6) gInt) (gOr1 (PW.pt (gAnd (gTEq hr.units (gv 6) gInt) (gAnd1 (gTNe hr.units (gv 9) (gv 7))))))))))) (hOne (hSet (i := 11) sc_l_run.nd rfl (.inl rfl) (gCall1 c_l_victim T_l_victim hr (by decide) (by rfl) tk (gCons (gv 1) (gCons (gv 2) (gCons (gv 3) (gCons (gIx (gv 4) gInt (by intro _ _; rfl)) gNil))))))) hNil) (hCut (hIf (gTEq hr.units (gIx (gv 4) (gTy call_int1 lInt (by rfl) G.n_int (by decide +kernel) (gCons (gEq hr.units (gv 10) gStr) gNil)) (by intro _ _; rfl)) gStr) (hOne (hSet (i := 3) sc_l_run.nd rfl (.inl rfl) (gCall1 c_l_after T_l_after hr (by decide) (by rfl) tk (gCons (gv 1) (gCons (gv 2) (gCons (gv 3) (gCons (gv 11) gNil))))))) hNil) (hOne (hExpr (gM PySem.F.plainAttrs_list PySem.F.slot_list_append PySem.F.type_list_append mt_append lAppend (gv 8) (gCons (gTup (gCons (gv 10) (gCons (gv 11) gNil))) gNil))))))))) (hOne (hRet (gv 8)))))))))
theorem d_l_judged (G : Env P w K mg base a)  {f : Addr} {cdv : Value} {A : Around} {outer : List PySem.Env} {s : Shared} {H : Hp} {E : XK} (hr : Room (l_l_judged - 1) (A.deeper (envOfC "_law_judged" (defScope s_l_judged) s.heap.objs.size f cdv))) :
    PSs (cxOf (L2.CX P w) P w K mg base N_l_judged "_law_judged" (defScope s_l_judged) f cdv A outer s H E) (defBody s_l_judged) (dS (fun c d _ H => E c d H) (r_l_judged K a)) := by
  have tk : Takes (cxOf (L2.CX P w) P w K mg base N_l_judged "_law_judged" (defScope s_l_judged) f cdv A outer s H E) (fun c d _ H => E c d H) := takes_of rfl rfl rfl rfl
  have hp : PassesOwn (model P w) (cxOf (L2.CX P w) P w K mg base N_l_judged "_law_judged" (defScope s_l_judged) f cdv A outer s H E).A (cxOf (L2.CX P w) P w K mg base N_l_judged "_law_judged" (defScope s_l_judged) f cdv A outer s H E).env (cxOf (L2.CX P w) P w K mg base N_l_judged "_law_judged" (defScope s_l_judged) f cdv A outer s H E).xe := passes_of rfl
  exact (hCons (hSet (i := 5) sc_l_judged.nd rfl (.inl rfl) (gTy (cr_listS rfl) lListS (by rfl) G.n_list (by decide +kernel) (gCons (gv 3) gNil))) (hCons (hSet (i := 6) sc_l_judged.nd rfl (.inl rfl) gNon) (hCut (hFor hp rfl (iR1 (by rfl) G.n_range (gCons (gB call_len lLen (by rfl) G.n_len (by decide +kernel) (gCons (gv 4) gNil)) gNil)) (ggName (i := 7) sc_l_judged.nd rfl (.inl rfl)) (hCons (hSet (i := 8) sc_l_judged.nd rfl (.inl rfl) (gIx (gIx (gv 4) (gv 7) (by intro _ _; rfl)) gInt (by intro _ _; rfl))) (hCons (hSet (i := 9) sc_l_judged.nd rfl (.inl rfl) (gIx (gIx (gv 4) (gv 7) (by intro _ _; rfl)) gInt (by intro _ _; rfl))) (hCons (hPar (i := 10) (j := 11) rfl sc_l_judged.nd rfl rfl (by decide) rfl rfl (gCons gInt (gCons (gSub (gv 1) gInt) gNil))) (hOne (hFor hp rfl (iR1 (by rfl) G.n_range (gCons gInt gNil)) (ggName (i := 12) sc_l_judged.nd rfl (.inl rfl)) (hCons (hIf (gTEq hr.units (gv 10) (gv 11)) (hOne hBreak) hNil) (hCons (hSet (i := 13) sc_l_judged.nd rfl (.inl rfl) (gDGetT (hu_of hr) (gv 0) (gTup (gCons (gv 10) (gCons (gv 11) gNil))))) (hCons (hSet (i := 14) sc_l_judged.nd rfl (.inl rfl) gStr) (hCut (hIf (gTLe (gv 9) (gv 13)) (hOne (hSet (i := 14) sc_l_judged.nd rfl (.inl rfl) gStr)) hNil) (hCut (hIf (PW.pt (gAnd (gTIsN (gv 6) gNon) (gAnd (gTEq hr.units (gv 8) gStr) (gAnd1 (gTEq hr.units (gEq hr.units (gIx (gv 5) (gv 13) (by intro _ _; rfl)) (gv 14)) (gEq hr.units (gIx (gv 2) gInt (by intro _ _; rfl)) gStr)))))) (hOne (hSet (i := 6) sc_l_judged.nd rfl (.inl rfl) (gTup (gCons (gv 7) (gCons (gv 13) gNil))))) hNil) (hCut (hIf (gTEq hr.units (gIx (gv 2) (gTy call_int1 lInt (by rfl) G.n_int (by decide +kernel) (gCons (gEq hr.units (gv 8) gStr) gNil)) (by intro _ _; rfl)) gStr) (hOne (hAsg (gv 14) (ggSub (gv 5) (gv 13)))) hNil) (hOne (hIf (gTEq hr.units (gv 14) gStr) (hOne (hSet (i := 11) sc_l_judged.nd rfl (.inl rfl) (gv 13))) (hOne (hSet (i := 10) sc_l_judged.nd rfl (.inl rfl) (gAdd (gv 13) gInt))))))))))))))))) (hOne (hRet (gTup (gCons (gv 6) (gCons (gM PySem.F.plainAttrs_str PySem.F.slot_str_join PySem.F.type_str_join mt_join lJoin gStr (gCons (gv 5) gNil)) gNil))))))))
theorem d_l_is_integer (G : Env P w K mg base a)  {f : Addr} {cdv : Value} {A : Around} {outer : List PySem.Env} {s : Shared} {H : Hp} {E : XK} (hr : Room (l_l_is_integer - 1) (A.deeper (envOfC "_law_is_integer" (defScope s_l_is_integer) s.heap.objs.size f cdv))) :
    PSs (cxOf (L2.CX P w) P w K mg base N_l_is_integer "_law_is_integer" (defScope s_l_is_integer) f cdv A outer s H E) (defBody s_l_is_integer) (dS (fun c d _ H => E c d H) (r_l_is_integer K a)) := by
  have tk : Takes (cxOf (L2.CX P w) P w K mg base N_l_is_integer "_law_is_integer" (defScope s_l_is_integer) f cdv A outer s H E) (fun c d _ H => E c d H) := takes_of rfl rfl rfl rfl
  have hp : PassesOwn (model P w) (cxOf (L2.CX P w) P w K mg base N_l_is_integer "_law_is_integer" (defScope s_l_is_integer) f cdv A outer s H E).A (cxOf (L2.CX P w) P w K mg base N_l_is_integer "_law_is_integer" (defScope s_l_is_integer) f cdv A outer s H E).env (cxOf (L2.CX P w) P w K mg base N_l_is_integer "_law_is_integer" (defScope s_l_is_integer) f cdv A outer s H E).xe := passes_of rfl
  exact (hOne (hRet (gAndV (gIsi (by rfl) G.n_isinstance (gv 0) (by decide) (by rfl) G.n_int (by decide +kernel)) (gOneV (gNotV (gIsi (by rfl) G.n_isinstance (gv 0) (by decide) (by rfl) G.n_bool (by decide +kernel)))))))
theorem d_l_rule_right (G : Env P w K mg base a) (T_l_is_integer : DefC P w K mg base "_law_is_integer" ["_law_told"] l_l_is_integer [] (p_l_is_integer K a)) (T_l_judged : DefC P w K mg base "_law_judged" ["_law_tops", "_law_many", "_law_rule", "_law_flags_here", "_law_run_here"] l_l_judged [] (p_l_judged K a)) (T_first_wrong_by : DefC P w K mg base "first_wrong_by" ["tree", "rule", "flags", "run"] l_first_wrong_by [] (p_first_wrong_by K a)) (T_flags_by : DefC P w K mg base "flags_by" ["tree", "rule", "flags", "run"] l_flags_by [] (p_flags_by K a)) {f : Addr} {cdv : Value} {A : Around} {outer : List PySem.Env} {s : Shared} {H : Hp} {E : XK} (hr : Room (l_l_rule_right - 1) (A.deeper (envOfC "_law_rule_right" (defScope s_l_rule_right) s.heap.objs.size f cdv))) :
    PSs (cxOf (L2.CX P w) P w K mg base N_l_rule_right "_law_rule_right" (defScope s_l_rule_right) f cdv A outer s H E) (defBody s_l_rule_right) (dS (fun c d _ H => E c d H) (r_l_rule_right K a)) := by
  have tk : Takes (cxOf (L2.CX P w) P w K mg base N_l_rule_right "_law_rule_right" (defScope s_l_rule_right) f cdv A outer s H E) (fun c d _ H => E c d H) := takes_of rfl rfl rfl rfl
  have hp : PassesOwn (model P w) (cxOf (L2.CX P w) P w K mg base N_l_rule_right "_law_rule_right" (defScope s_l_rule_right) f cdv A outer s H E).A (cxOf (L2.CX P w) P w K mg base N_l_rule_right "_law_rule_right" (defScope s_l_rule_right) f cdv A outer s H E).env (cxOf (L2.CX P w) P w K mg base N_l_rule_right "_law_rule_right" (defScope s_l_rule_right) f cdv A outer s H E).xe := passes_of rfl
  exact (hCons (hSet (i := 6) sc_l_rule_right.nd rfl (.inl rfl) (gCall1 c_l_judged T_l_judged hr (by decide) (by rfl) tk (gCons (gv 1) (gCons (gv 2) (gCons (gv 3) (gCons (gv 4) (gCons (gv 5) gNil))))))) (hCons (hSet (i := 7) sc_l_rule_right.nd rfl (.inl rfl) (gTy call_list_of lList (by rfl) G.n_list (by decide +kernel) (gCons (gv 5) gNil))) (hCons (hSet (i := 8) sc_l_rule_right.nd rfl (.inl rfl) (gCall1 c_first_wrong_by T_first_wrong_by hr (by decide) (by rfl) tk (gCons (gv 0) (gCons (gv 3) (gCons (gv 4) (gCons (gv 7) gNil)))))) (hCons (hSet (i := 9) sc_l_rule_right.nd rfl (.inl rfl) (gCall1 c_flags_by T_flags_by hr (by decide) (by rfl) tk (gCons (gv 0) (gCons (gv 3) (gCons (gv 4) (gCons (gv 7) gNil)))))) (hCons (hIf (PW.pt (gOr (gTNe hr.units (gv 7) (gv 5)) (gOr (gTNot (gTru (gIsi (by rfl) G.n_isinstance (gv 9) (by decide) (by rfl) G.n_str (by decide +kernel)))) (gOr1 (gTNe hr.units (gv 9) (gIx (gv 6) gInt (by intro _ _; rfl))))))) (hOne (hRet gBl)) hNil) (hCons (hIf (gTIsN (gIx (gv 6) gInt (by intro _ _; rfl)) gNon) (hOne (hRet (gIsN (gv 8) gNon))) hNil) (hCons (hIf (PW.pt (gOr (gTNot (gTru (gIsi (by rfl) G.n_isinstance (gv 8) (by decide) (by rfl) G.n_tuple (by decide +kernel)))) (gOr1 (gTNe hr.units (gB call_len lLen (by rfl) G.n_len (by decide +kernel) (gCons (gv 8) gNil)) gInt)))) (hOne (hRet gBl)) hNil) (hOne (hRet (gAndV (gCall1 c_l_is_integer T_l_is_integer hr (by decide) (by rfl) tk (gCons (gIx (gv 8) gInt (by intro _ _; rfl)) gNil)) (gAndV (gCall1 c_l_is_integer T_l_is_integer hr (by decide) (by rfl) tk (gCons (gIx (gv 8) gInt (by intro _ _; rfl)) gNil)) (gOneV (gEq hr.units (gv 8) (gIx (gv 6) gInt (by intro _ _; rfl)))))))))))))))
theorem d_l_reached (G : Env P w K mg base a) (T_l_after : DefC P w K mg base "_law_after" ["_law_tops", "_law_many", "_law_flags_here", "_law_slot"] l_l_after [] (p_l_after K a)) (T_l_victim : DefC P w K mg base "_law_victim" ["_law_tops", "_law_many", "_law_flags_here", "_law_letter"] l_l_victim [] (p_l_victim K a)) {f : Addr} {cdv : Value} {A : Around} {outer : List PySem.Env} {s : Shared} {H : Hp} {E : XK} (hr : Room (l_l_reached - 1) (A.deeper (envOfC "_law_reached" (defScope s_l_reached) s.heap.objs.size f cdv))) :
    PSs (cxOf (L2.CX P w) P w K mg base N_l_reached "_law_reached" (defScope s_l_reached) f cdv A outer s H E) (defBody s_l_reached) (dS (fun c d _ H => E c d H) (r_l_reached K a)) := by
  have tk : Takes (cxOf (L2.CX P w) P w K mg base N_l_reached "_law_reached" (defScope s_l_reached) f cdv A outer s H E) (fun c d _ H => E c d H) := takes_of rfl rfl rfl rfl
  have hp : PassesOwn (model P w) (cxOf (L2.CX P w) P w K mg base N_l_reached "_law_reached" (defScope s_l_reached) f cdv A outer s H E).A (cxOf (L2.CX P w) P w K mg base N_l_reached "_law_reached" (defScope s_l_reached) f cdv A outer s H E).env (cxOf (L2.CX P w) P w K mg base N_l_reached "_law_reached" (defScope s_l_reached) f cdv A outer s H E).xe := passes_of rfl
  exact (hCons (hSet (i := 5) sc_l_reached.nd rfl (.inl rfl) (gLst (gCons (gTup (gCons (gv 2) (gCons (gv 2) gNil))) gNil))) (hCons (hSet (i := 6) sc_l_reached.nd rfl (.inl rfl) (gDisT1 (hu_of hr) (gTup (gCons (gv 2) (gCons (gv 2) gNil))) gBl)) (hCut (hFor hp rfl (iR1 (by rfl) G.n_range (gCons gInt gNil)) (ggName (i := 7) sc_l_reached.nd rfl (.inl rfl)) (hCons (hIf (gTEq hr.units (gv 7) (gB call_len lLen (by rfl) G.n_len (by decide +kernel) (gCons (gv 5) gNil))) (hOne hBreak) hNil) (hCons (hSet (i := 8) sc_l_reached.nd rfl (.inl rfl) (gIx (gIx (gv 5) (gv 7) (by intro _ _; rfl)) gInt (by intro _ _; rfl))) (hCons (hSet (i := 9) sc_l_reached.nd rfl (.inl rfl) (gIx (gIx (gv 5) (gv 7) (by intro _ _; rfl)) gInt (by intro _ _; rfl))) (hCons (hSet (i := 10) sc_l_reached.nd rfl (.inl rfl) (gCall1 c_l_victim T_l_victim hr (by decide) (by rfl) tk (gCons (gv 0) (gCons (gv 1) (gCons (gv 8) (gCons (gIx (gv 3) gInt (by intro _ _; rfl)) gNil)))))) (hCons (hIf (gTNe hr.units (gv 10) (gCall1 c_l_victim T_l_victim hr (by decide) (by rfl) tk (gCons (gv 0) (gCons (gv 1) (gCons (gv 9) (gCons (gIx (gv 4) gInt (by intro _ _; rfl)) gNil)))))) (hOne (hRet gBl)) hNil) (hCons (hSet (i := 11) sc_l_reached.nd rfl (.inl rfl) (gAdd (gLc (own := [("_law_slot", 13)]) rfl sc_l_reached.nd (iR1 (by rfl) G.n_range (gCons (gv 1) gNil)) (blkOk_by (own := [("_law_slot", 13)]) (N := N_l_reached) (sc := defScope s_l_reached) (by decide +kernel)) (fun _ _ _ _ _ => (ggName (i := 13) sc_l_reached.nd rfl (.inl rfl))) (fun _ _ _ _ _ => gNoIf) (fun _ _ _ _ _ => (gTup (gCons gInt (gCons (gv 13) gNil))))) (gLst (gCons (gTup (gCons gInt (gCons (gv 10) gNil))) gNil)))) (hOne (hFor hp rfl (iSeq (gv 11)) (ggTup rfl (ggCons (ggName (i := 12) sc_l_reached.nd rfl (.inl rfl)) (ggCons (ggName (i := 13) sc_l_reached.nd rfl (.inl rfl)) ggNil))) (hCons (hSet (i := 14) sc_l_reached.nd rfl (.inl rfl) (gLst (gCons (gv 8) (gCons (gv 9) gNil)))) (hCut (hIf (gTEq hr.units (gIx (gv 3) (gv 12) (by intro _ _; rfl)) gStr) (hOne (hAsg (gCall1 c_l_after T_l_after hr (by decide) (by rfl) tk (gCons (gv 0) (gCons (gv 1) (gCons (gv 8) (gCons (gv 13) gNil))))) (ggSub (gv 14) gInt))) hNil) (hCut (hIf (gTEq hr.units (gIx (gv 4) (gv 12) (by intro _ _; rfl)) gStr) (hOne (hAsg (gCall1 c_l_after T_l_after hr (by decide) (by rfl) tk (gCons (gv 0) (gCons (gv 1) (gCons (gv 9) (gCons (gv 13) gNil))))) (ggSub (gv 14) gInt))) hNil) (hOne (hIf (gTDNotInP (hu_of hr) (gTup (gCons (gIx (gv 14) gInt (by intro _ _; rfl)) (gCons (gIx (gv 14) gInt (by intro _ _; rfl)) gNil))) (gv 6)) (hCons (hDPutT (hu_of hr) (gv 6) (gTup (gCons (gIx (gv 14) gInt (by intro _ _; rfl)) (gCons (gIx (gv 14) gInt (by intro _ _; rfl)) gNil))) gBl) (hOne (hExpr (gM PySem.F.plainAttrs_list PySem.F.slot_list_append PySem.F.type_list_append mt_append lAppend (gv 5) (gCons (gTup (gCons (gIx (gv 14) gInt (by intro _ _; rfl)) (gCons (gIx (gv 14) gInt (by intro _ _; rfl)) gNil))) gNil))))) hNil)))))))))))))) (hOne (hRet gBl)))))
theorem d_l_same_right (G : Env P w K mg base a) (T_same_rule : DefC P w K mg base "same_rule" ["tree", "rule", "other"] l_same_rule [] (p_same_rule K a)) {f : Addr} {cdv : Value} {A : Around} {outer : List PySem.Env} {s : Shared} {H : Hp} {E : XK} (hr : Room (l_l_same_right - 1) (A.deeper (envOfC "_law_same_right" (defScope s_l_same_right) s.heap.objs.size f cdv))) :
    PSs (cxOf (L2.CX P w) P w K mg base N_l_same_right "_law_same_right" (defScope s_l_same_right) f cdv A outer s H E) (defBody s_l_same_right) (dS (fun c d _ H => E c d H) (r_l_same_right K a)) := by
  have tk : Takes (cxOf (L2.CX P w) P w K mg base N_l_same_right "_law_same_right" (defScope s_l_same_right) f cdv A outer s H E) (fun c d _ H => E c d H) := takes_of rfl rfl rfl rfl
  have hp : PassesOwn (model P w) (cxOf (L2.CX P w) P w K mg base N_l_same_right "_law_same_right" (defScope s_l_same_right) f cdv A outer s H E).A (cxOf (L2.CX P w) P w K mg base N_l_same_right "_law_same_right" (defScope s_l_same_right) f cdv A outer s H E).env (cxOf (L2.CX P w) P w K mg base N_l_same_right "_law_same_right" (defScope s_l_same_right) f cdv A outer s H E).xe := passes_of rfl
  exact (hCons (hFor hp rfl (iSeq (gv 2)) (ggName (i := 3) sc_l_same_right.nd rfl (.inl rfl)) (hOne (hFor hp rfl (iSeq (gv 2)) (ggName (i := 4) sc_l_same_right.nd rfl (.inl rfl)) (hCons (hSet (i := 5) sc_l_same_right.nd rfl (.inl rfl) (gOrV (gEq hr.units (gv 3) (gv 4)) (gOneV (gEq hr.units (gv 1) gInt)))) (hCut (hIf (PW.pt (gAnd (gTEq hr.units (gIx (gv 3) gInt (by intro _ _; rfl)) gStr) (gAnd (gTEq hr.units (gIx (gv 4) gInt (by intro _ _; rfl)) gStr) (gAnd1 (gTEq hr.units (gIx (gv 3) gInt (by intro _ _; rfl)) (gIx (gv 4) gInt (by intro _ _; rfl))))))) (hOne (hSet (i := 5) sc_l_same_right.nd rfl (.inl rfl) gBl)) hNil) (hCons (hSet (i := 6) sc_l_same_right.nd rfl (.inl rfl) (gCall1 c_same_rule T_same_rule hr (by decide) (by rfl) tk (gCons (gv 0) (gCons (gv 3) (gCons (gv 4) gNil))))) (hOne (hIf (PW.pt (gOr (gTNot (gTru (gIsi (by rfl) G.n_isinstance (gv 6) (by decide) (by rfl) G.n_bool (by decide +kernel)))) (gOr1 (gTNe hr.units (gv 6) (gv 5))))) (hOne (hRet gBl)) hNil)))))))) (hOne (hRet gBl)))
theorem d_l_bad_rule (G : Env P w K mg base a) (T_l_take : DefC P w K mg base "_law_take" ["_law_source_here", "_law_many"] l_l_take [] (p_l_take K a)) {f : Addr} {cdv : Value} {A : Around} {outer : List PySem.Env} {s : Shared} {H : Hp} {E : XK} (hr : Room (l_l_bad_rule - 1) (A.deeper (envOfC "_law_bad_rule" (defScope s_l_bad_rule) s.heap.objs.size f cdv))) :
    PSs (cxOf (L2.CX P w) P w K mg base N_l_bad_rule "_law_bad_rule" (defScope s_l_bad_rule) f cdv A outer s H E) (defBody s_l_bad_rule) (dS (fun c d _ H => E c d H) (r_l_bad_rule K a)) := by
  have tk : Takes (cxOf (L2.CX P w) P w K mg base N_l_bad_rule "_law_bad_rule" (defScope s_l_bad_rule) f cdv A outer s H E) (fun c d _ H => E c d H) := takes_of rfl rfl rfl rfl
  have hp : PassesOwn (model P w) (cxOf (L2.CX P w) P w K mg base N_l_bad_rule "_law_bad_rule" (defScope s_l_bad_rule) f cdv A outer s H E).A (cxOf (L2.CX P w) P w K mg base N_l_bad_rule "_law_bad_rule" (defScope s_l_bad_rule) f cdv A outer s H E).env (cxOf (L2.CX P w) P w K mg base N_l_bad_rule "_law_bad_rule" (defScope s_l_bad_rule) f cdv A outer s H E).xe := passes_of rfl
  exact (hCons (hSet (i := 2) sc_l_bad_rule.nd rfl (.inl rfl) (gCall1 c_l_take T_l_take hr (by decide) (by rfl) tk (gCons (gv 0) (gCons gInt gNil)))) (hCons (hSet (i := 3) sc_l_bad_rule.nd rfl (.inl rfl) (gAdd (gAdd (gSl (gv 1) gNoP (gPart (gv 2))) (gIx gStr (gv 2) (by intro _ _; rfl))) (gSl (gv 1) (gPart (gAdd (gv 2) gInt)) gNoP))) (hCons (hSet (i := 4) sc_l_bad_rule.nd rfl (.inl rfl) (gLst (gCons (gv 3) (gCons (gAdd (gv 1) gStr) (gCons (gSl (gv 1) gNoP (gPart gInt)) (gCons (gSl (gv 1) (gPart gInt) gNoP) (gCons (gM0 PySem.F.plainAttrs_str PySem.F.slot_str_upper PySem.F.type_str_upper mt_upper lUpper (gv 1)) (gCons (gAdd (gv 1) gStr) (gCons (gAdd gStr (gv 1)) (gCons (gAdd (gv 1) gStr) gNil)))))))))) (hCons (hSet (i := 4) sc_l_bad_rule.nd rfl (.inl rfl) (gAdd (gv 4) (gLst (gCons gStr (gCons gNon (gCons gInt (gCons (gTuple (by rfl) G.n_tuple (gTy (cr_listS rfl) lListS (by rfl) G.n_list (by decide +kernel) (gCons (gv 1) gNil))) (gCons (gTy (cr_listS rfl) lListS (by rfl) G.n_list (by decide +kernel) (gCons (gv 1) gNil)) gNil)))))))) (hOne (hRet (gIx (gv 4) (gCall1 c_l_take T_l_take hr (by decide) (by rfl) tk (gCons (gv 0) (gCons (gB call_len lLen (by rfl) G.n_len (by decide +kernel) (gCons (gv 4) gNil)) gNil))) (by intro _ _; rfl))))))))
theorem d_l_bad_flags (G : Env P w K mg base a) (T_l_take : DefC P w K mg base "_law_take" ["_law_source_here", "_law_many"] l_l_take [] (p_l_take K a)) {f : Addr} {cdv : Value} {A : Around} {outer : List PySem.Env} {s : Shared} {H : Hp} {E : XK} (hr : Room (l_l_bad_flags - 1) (A.deeper (envOfC "_law_bad_flags" (defScope s_l_bad_flags) s.heap.objs.size f cdv))) :
    PSs (cxOf (L2.CX P w) P w K mg base N_l_bad_flags "_law_bad_flags" (defScope s_l_bad_flags) f cdv A outer s H E) (defBody s_l_bad_flags) (dS (fun c d _ H => E c d H) (r_l_bad_flags K a)) := by
  have tk : Takes (cxOf (L2.CX P w) P w K mg base N_l_bad_flags "_law_bad_flags" (defScope s_l_bad_flags) f cdv A outer s H E) (fun c d _ H => E c d H) := takes_of rfl rfl rfl rfl
  have hp : PassesOwn (model P w) (cxOf (L2.CX P w) P w K mg base N_l_bad_flags "_law_bad_flags" (defScope s_l_bad_flags) f cdv A outer s H E).A (cxOf (L2.CX P w) P w K mg base N_l_bad_flags "_law_bad_flags" (defScope s_l_bad_flags) f cdv A outer s H E).env (cxOf (L2.CX P w) P w K mg base N_l_bad_flags "_law_bad_flags" (defScope s_l_bad_flags) f cdv A outer s H E).xe := passes_of rfl
  exact (hCons (hSet (i := 2) sc_l_bad_flags.nd rfl (.inl rfl) (gCall1 c_l_take T_l_take hr (by decide) (by rfl) tk (gCons (gv 0) (gCons (gAdd (gB call_len lLen (by rfl) G.n_len (by decide +kernel) (gCons (gv 1) gNil)) gInt) gNil)))) (hCons (hSet (i := 3) sc_l_bad_flags.nd rfl (.inl rfl) (gIx gStr (gCall1 c_l_take T_l_take hr (by decide) (by rfl) tk (gCons (gv 0) (gCons gInt gNil))) (by intro _ _; rfl))) (hCons (hSet (i := 4) sc_l_bad_flags.nd rfl (.inl rfl) (gLst (gCons (gAdd (gAdd (gSl (gv 1) gNoP (gPart (gv 2))) (gv 3)) (gSl (gv 1) (gPart (gAdd (gv 2) gInt)) gNoP)) (gCons (gAdd (gv 1) gStr) (gCons (gAdd (gv 1) gStr) (gCons (gAdd (gv 1) gStr) gNil)))))) (hCons (hSet (i := 4) sc_l_bad_flags.nd rfl (.inl rfl) (gAdd (gv 4) (gLst (gCons gNon (gCons gInt (gCons (gTy (cr_listS rfl) lListS (by rfl) G.n_list (by decide +kernel) (gCons (gv 1) gNil)) gNil)))))) (hCut (hIf (gTNe hr.units (gv 1) gStr) (hOne (hSet (i := 4) sc_l_bad_flags.nd rfl (.inl rfl) (gAdd (gv 4) (gLst (gCons (gSl (gv 1) (gPart gInt) gNoP) (gCons (gSl (gv 1) gNoP (gPart (gNeg gInt))) gNil)))))) hNil) (hOne (hRet (gIx (gv 4) (gCall1 c_l_take T_l_take hr (by decide) (by rfl) tk (gCons (gv 0) (gCons (gB call_len lLen (by rfl) G.n_len (by decide +kernel) (gCons (gv 4) gNil)) gNil))) (by intro _ _; rfl)))))))))
theorem d_l_bad_run (G : Env P w K mg base a) (T_l_take : DefC P w K mg base "_law_take" ["_law_source_here", "_law_many"] l_l_take [] (p_l_take K a)) {f : Addr} {cdv : Value} {A : Around} {outer : List PySem.Env} {s : Shared} {H : Hp} {E : XK} (hr : Room (l_l_bad_run - 1) (A.deeper (envOfC "_law_bad_run" (defScope s_l_bad_run) s.heap.objs.size f cdv))) :
    PSs (cxOf (L2.CX P w) P w K mg base N_l_bad_run "_law_bad_run" (defScope s_l_bad_run) f cdv A outer s H E) (defBody s_l_bad_run) (dS (fun c d _ H => E c d H) (r_l_bad_run K a)) := by
  have tk : Takes (cxOf (L2.CX P w) P w K mg base N_l_bad_run "_law_bad_run" (defScope s_l_bad_run) f cdv A outer s H E) (fun c d _ H => E c d H) := takes_of rfl rfl rfl rfl
  have hp : PassesOwn (model P w) (cxOf (L2.CX P w) P w K mg base N_l_bad_run "_law_bad_run" (defScope s_l_bad_run) f cdv A outer s H E).A (cxOf (L2.CX P w) P w K mg base N_l_bad_run "_law_bad_run" (defScope s_l_bad_run) f cdv A outer s H E).env (cxOf (L2.CX P w) P w K mg base N_l_bad_run "_law_bad_run" (defScope s_l_bad_run) f cdv A outer s H E).xe := passes_of rfl
  exact (hCons (hIf (gTEq hr.units (gCall1 c_l_take T_l_take hr (by decide) (by rfl) tk (gCons (gv 0) (gCons gInt gNil))) gInt) (hOne (hRet (gTup (gCons (gIx (gLst (gCons gNon (gCons gInt (gCons gStr (gCons (gTuple (by rfl) G.n_tuple (gv 1)) gNil))))) (gCall1 c_l_take T_l_take hr (by decide) (by rfl) tk (gCons (gv 0) (gCons gInt gNil))) (by intro _ _; rfl)) (gCons (gNeg gInt) gNil))))) hNil) (hCons (hSet (i := 3) sc_l_bad_run.nd rfl (.inl rfl) (gCall1 c_l_take T_l_take hr (by decide) (by rfl) tk (gCons (gv 0) (gCons (gAdd (gB call_len lLen (by rfl) G.n_len (by decide +kernel) (gCons (gv 1) gNil)) gInt) gNil)))) (hCons (hSet (i := 4) sc_l_bad_run.nd rfl (.inl rfl) (gCall1 c_l_take T_l_take hr (by decide) (by rfl) tk (gCons (gv 0) (gCons (gv 2) gNil)))) (hCons (hSet (i := 5) sc_l_bad_run.nd rfl (.inl rfl) (gLst (gCons (gTup (gCons gStr (gCons (gv 2) gNil))) (gCons (gTup (gCons gStr (gCons (gv 2) gNil))) (gCons (gTup (gCons gStr (gCons (gNeg gInt) gNil))) (gCons (gTup (gCons gStr (gCons (gv 4) gNil))) (gCons (gTup (gCons gStr (gCons (gv 4) gNil))) (gCons (gLst (gCons gStr (gCons (gv 4) gNil))) gNil)))))))) (hCons (hSet (i := 5) sc_l_bad_run.nd rfl (.inl rfl) (gAdd (gv 5) (gLst (gCons (gTup (gCons gStr gNil)) (gCons (gTup (gCons gStr (gCons (gv 4) (gCons (gv 4) gNil)))) (gCons (gTup (gCons gStr (gCons gNon gNil))) (gCons (gTup (gCons gStr (gCons (gTy call_str_int lStrI (by rfl) G.n_str (by decide +kernel) (gCons (gv 4) gNil)) gNil))) (gCons (gTup (gCons (gv 4) (gCons gStr gNil))) (gCons gNon gNil))))))))) (hCons (hSet (i := 5) sc_l_bad_run.nd rfl (.inl rfl) (gAdd (gv 5) (gLst (gCons gStr (gCons (gTup (gCons gStr (gCons gBl gNil))) (gCons (gTup (gCons gStr (gCons gBl gNil))) (gCons (gTup gNil) gNil))))))) (hCons (hSet (i := 6) sc_l_bad_run.nd rfl (.inl rfl) (gAdd (gAdd (gSl (gv 1) gNoP (gPart (gv 3))) (gLst (gCons (gIx (gv 5) (gCall1 c_l_take T_l_take hr (by decide) (by rfl) tk (gCons (gv 0) (gCons (gB call_len lLen (by rfl) G.n_len (by decide +kernel) (gCons (gv 5) gNil)) gNil))) (by intro _ _; rfl)) gNil))) (gSl (gv 1) (gPart (gv 3)) gNoP))) (hCut (hIf (gTEq hr.units (gCall1 c_l_take T_l_take hr (by decide) (by rfl) tk (gCons (gv 0) (gCons gInt gNil))) gInt) (hOne (hExpr (gM PySem.F.plainAttrs_list PySem.F.slot_list_append PySem.F.type_list_append mt_append lAppend (gv 6) (gCons (gTup (gCons gStr (gCons (gv 2) gNil))) gNil)))) hNil) (hOne (hRet (gTup (gCons (gv 6) (gCons (gv 3) gNil)))))))))))))
theorem d_l_refused (G : Env P w K mg base a) (T_first_wrong_by : DefC P w K mg base "first_wrong_by" ["tree", "rule", "flags", "run"] l_first_wrong_by [] (p_first_wrong_by K a)) (T_flags_by : DefC P w K mg base "flags_by" ["tree", "rule", "flags", "run"] l_flags_by [] (p_flags_by K a)) {f : Addr} {cdv : Value} {A : Around} {outer : List PySem.Env} {s : Shared} {H : Hp} {E : XK} (hr : Room (l_l_refused - 1) (A.deeper (envOfC "_law_refused" (defScope s_l_refused) s.heap.objs.size f cdv))) :
    PSs (cxOf (L2.CX P w) P w K mg base N_l_refused "_law_refused" (defScope s_l_refused) f cdv A outer s H E) (defBody s_l_refused) (dS (fun c d _ H => E c d H) (r_l_refused K a)) := by
  have tk : Takes (cxOf (L2.CX P w) P w K mg base N_l_refused "_law_refused" (defScope s_l_refused) f cdv A outer s H E) (fun c d _ H => E c d H) := takes_of rfl rfl rfl rfl
  have hp : PassesOwn (model P w) (cxOf (L2.CX P w) P w K mg base N_l_refused "_law_refused" (defScope s_l_refused) f cdv A outer s H E).A (cxOf (L2.CX P w) P w K mg base N_l_refused "_law_refused" (defScope s_l_refused) f cdv A outer s H E).env (cxOf (L2.CX P w) P w K mg base N_l_refused "_law_refused" (defScope s_l_refused) f cdv A outer s H E).xe := passes_of rfl
  exact (hCut (hTryG rfl rfl sc_l_refused.nd tk (fun W1 pn xe tk1 hp1 => (hOne (hIf (gTEq hr.units (gv 0) gInt) (hOne (hExpr (gCall1 c_first_wrong_by T_first_wrong_by hr (by decide) (by rfl) tk1 (gCons (gv 1) (gCons (gv 2) (gCons (gv 3) (gCons (gv 4) gNil))))))) (hOne (hExpr (gCall1 c_flags_by T_flags_by hr (by decide) (by rfl) tk1 (gCons (gv 1) (gCons (gv 2) (gCons (gv 3) (gCons (gv 4) gNil)))))))))) (.as ⟨by rfl, by decide, .inl G.g_InvalidRule⟩ rfl rfl (fun ea oe cls ed pn hz hf => (hCons (hSet (i := 6) sc_l_refused.nd rfl (.inl rfl) (gAndV (gIsY hz hf (by rfl) G.n_isinstance (gCons (gv 5) (gCons (gClV (by rfl) G.g_CacheError) gNil))) (gOneV (gIsY hz hf (by rfl) G.n_isinstance (gCons (gv 5) (gCons (gTyV (by rfl) G.n_ValueError (by decide +kernel)) gNil)))))) (hOne (hRet (gLst (gCons gStr (gCons (gXf G.e_InvalidRule.xf G.e_InvalidRule.no hz hf (gv 5)) (gCons (gAndV (gv 6) (gOneV (gNotV (gIsYT hz hf (by rfl) G.n_isinstance (gCons (gv 5) (gCons (gTup (gCons (gClV (by rfl) G.g_Refused) (gCons (gClV (by rfl) G.g_InvalidFlags) (gCons (gClV (by rfl) G.g_InvalidLine) gNil)))) gNil)))))) gNil)))))))) (.as ⟨by rfl, by decide, .inl G.g_InvalidFlags⟩ rfl rfl (fun ea oe cls ed pn hz hf => (hCons (hSet (i := 6) sc_l_refused.nd rfl (.inl rfl) (gAndV (gIsY hz hf (by rfl) G.n_isinstance (gCons (gv 5) (gCons (gClV (by rfl) G.g_CacheError) gNil))) (gOneV (gIsY hz hf (by rfl) G.n_isinstance (gCons (gv 5) (gCons (gTyV (by rfl) G.n_ValueError (by decide +kernel)) gNil)))))) (hOne (hRet (gLst (gCons gStr (gCons (gXf G.e_InvalidFlags.xf G.e_InvalidFlags.no hz hf (gv 5)) (gCons (gAndV (gv 6) (gOneV (gNotV (gIsYT hz hf (by rfl) G.n_isinstance (gCons (gv 5) (gCons (gTup (gCons (gClV (by rfl) G.g_Refused) (gCons (gClV (by rfl) G.g_InvalidLine) gNil))) gNil)))))) gNil)))))))) (.as ⟨by rfl, by decide, .inl G.g_InvalidLine⟩ rfl rfl (fun ea oe cls ed pn hz hf => (hCons (hSet (i := 6) sc_l_refused.nd rfl (.inl rfl) (gAndV (gIsY hz hf (by rfl) G.n_isinstance (gCons (gv 5) (gCons (gClV (by rfl) G.g_CacheError) gNil))) (gOneV (gIsY hz hf (by rfl) G.n_isinstance (gCons (gv 5) (gCons (gTyV (by rfl) G.n_ValueError (by decide +kernel)) gNil)))))) (hOne (hRet (gLst (gCons gStr (gCons (gXf G.e_InvalidLine.xf G.e_InvalidLine.no hz hf (gv 5)) (gCons (gAndV (gv 6) (gOneV (gNotV (gIsY hz hf (by rfl) G.n_isinstance (gCons (gv 5) (gCons (gClV (by rfl) G.g_Refused) gNil)))))) gNil)))))))) .nil)))) (hOne (hRet (gLst (gCons gStr (gCons gNon (gCons gBl gNil)))))))
theorem d_l_doors_right (G : Env P w K mg base a) (T_l_bad_flags : DefC P w K mg base "_law_bad_flags" ["_law_source_here", "_law_flags_here"] l_l_bad_flags [] (p_l_bad_flags K a)) (T_l_bad_rule : DefC P w K mg base "_law_bad_rule" ["_law_source_here", "_law_rule"] l_l_bad_rule [] (p_l_bad_rule K a)) (T_l_bad_run : DefC P w K mg base "_law_bad_run" ["_law_source_here", "_law_run_here", "_law_many"] l_l_bad_run [] (p_l_bad_run K a)) (T_l_refused : DefC P w K mg base "_law_refused" ["_law_door", "_law_tree_here", "_law_rule", "_law_flags_here", "_law_run_here"] l_l_refused [] (p_l_refused K a)) (T_l_take : DefC P w K mg base "_law_take" ["_law_source_here", "_law_many"] l_l_take [] (p_l_take K a)) {f : Addr} {cdv : Value} {A : Around} {outer : List PySem.Env} {s : Shared} {H : Hp} {E : XK} (hr : Room (l_l_doors_right - 1) (A.deeper (envOfC "_law_doors_right" (defScope s_l_doors_right) s.heap.objs.size f cdv))) :
    PSs (cxOf (L2.CX P w) P w K mg base N_l_doors_right "_law_doors_right" (defScope s_l_doors_right) f cdv A outer s H E) (defBody s_l_doors_right) (dS (fun c d _ H => E c d H) (r_l_doors_right K a)) := by
  have tk : Takes (cxOf (L2.CX P w) P w K mg base N_l_doors_right "_law_doors_right" (defScope s_l_doors_right) f cdv A outer s H E) (fun c d _ H => E c d H) := takes_of rfl rfl rfl rfl
  have hp : PassesOwn (model P w) (cxOf (L2.CX P w) P w K mg base N_l_doors_right "_law_doors_right" (defScope s_l_doors_right) f cdv A outer s H E).A (cxOf (L2.CX P w) P w K mg base N_l_doors_right "_law_doors_right" (defScope s_l_doors_right) f cdv A outer s H E).env (cxOf (L2.CX P w) P w K mg base N_l_doors_right "_law_doors_right" (defScope s_l_doors_right) f cdv A outer s H E).xe := passes_of rfl
  exact (hCons (hSet (i := 6) sc_l_doors_right.nd rfl (.inl rfl) (gLst (gCons (gv 3) (gCons (gv 4) (gCons (gv 5) gNil))))) (hCons (hSet (i := 7) sc_l_doors_right.nd rfl (.inl rfl) (gLst (gCons gStr (gCons gNon (gCons gBl gNil))))) (hCons (hSet (i := 8) sc_l_doors_right.nd rfl (.inl rfl) (gCall1 c_l_take T_l_take hr (by decide) (by rfl) tk (gCons (gv 0) (gCons gInt gNil)))) (hCons (hSet (i := 9) sc_l_doors_right.nd rfl (.inl rfl) (gCall1 c_l_bad_run T_l_bad_run hr (by decide) (by rfl) tk (gCons (gv 0) (gCons (gv 5) (gCons (gv 2) gNil))))) (hCut (hIf (gTEq hr.units (gFdv (gv 8) gInt) gInt) (hCons (hAsg (gIx (gv 9) gInt (by intro _ _; rfl)) (ggSub (gv 6) gInt)) (hOne (hSet (i := 7) sc_l_doors_right.nd rfl (.inl rfl) (gLst (gCons gStr (gCons (gIx (gv 9) gInt (by intro _ _; rfl)) (gCons gBl gNil))))))) hNil) (hCons (hSet (i := 10) sc_l_doors_right.nd rfl (.inl rfl) (gCall1 c_l_bad_flags T_l_bad_flags hr (by decide) (by rfl) tk (gCons (gv 0) (gCons (gv 4) gNil)))) (hCut (hIf (gTEq hr.units (gMod (gTy call_int1 lInt (by rfl) G.n_int (by decide +kernel) (gCons (gFdv (gv 8) gInt) gNil)) gInt) gInt) (hCons (hAsg (gv 10) (ggSub (gv 6) gInt)) (hOne (hSet (i := 7) sc_l_doors_right.nd rfl (.inl rfl) (gLst (gCons gStr (gCons (gv 10) (gCons gBl gNil))))))) hNil) (hCons (hSet (i := 11) sc_l_doors_right.nd rfl (.inl rfl) (gCall1 c_l_bad_rule T_l_bad_rule hr (by decide) (by rfl) tk (gCons (gv 0) (gCons (gv 3) gNil)))) (hCut (hIf (gTEq hr.units (gMod (gTy call_int1 lInt (by rfl) G.n_int (by decide +kernel) (gCons (gv 8) gNil)) gInt) gInt) (hCons (hAsg (gv 11) (ggSub (gv 6) gInt)) (hOne (hSet (i := 7) sc_l_doors_right.nd rfl (.inl rfl) (gLst (gCons gStr (gCons (gv 11) (gCons gBl gNil))))))) hNil) (hCons (hFor hp rfl (iR1 (by rfl) G.n_range (gCons gInt gNil)) (ggName (i := 12) sc_l_doors_right.nd rfl (.inl rfl)) (hCons (hSet (i := 13) sc_l_doors_right.nd rfl (.inl rfl) (gCall1 c_l_refused T_l_refused hr (by decide) (by rfl) tk (gCons (gv 12) (gCons (gv 1) (gCons (gIx (gv 6) gInt (by intro _ _; rfl)) (gCons (gIx (gv 6) gInt (by intro _ _; rfl)) (gCons (gIx (gv 6) gInt (by intro _ _; rfl)) gNil))))))) (hOne (hIf (PW.pt (gOr (gTNe hr.units (gv 13) (gv 7)) (gOr1 (gTru (gIsi (by rfl) G.n_isinstance (gIx (gv 13) gInt (by intro _ _; rfl)) (by decide) (by rfl) G.n_bool (by decide +kernel)))))) (hOne (hRet gBl)) hNil)))) (hOne (hRet gBl))))))))))))
theorem d_l_both_refused (G : Env P w K mg base a) (T_same_rule : DefC P w K mg base "same_rule" ["tree", "rule", "other"] l_same_rule [] (p_same_rule K a)) {f : Addr} {cdv : Value} {A : Around} {outer : List PySem.Env} {s : Shared} {H : Hp} {E : XK} (hr : Room (l_l_both_refused - 1) (A.deeper (envOfC "_law_both_refused" (defScope s_l_both_refused) s.heap.objs.size f cdv))) :
    PSs (cxOf (L2.CX P w) P w K mg base N_l_both_refused "_law_both_refused" (defScope s_l_both_refused) f cdv A outer s H E) (defBody s_l_both_refused) (dS (fun c d _ H => E c d H) (r_l_both_refused K a)) := by
  have tk : Takes (cxOf (L2.CX P w) P w K mg base N_l_both_refused "_law_both_refused" (defScope s_l_both_refused) f cdv A outer s H E) (fun c d _ H => E c d H) := takes_of rfl rfl rfl rfl
  have hp : PassesOwn (model P w) (cxOf (L2.CX P w) P w K mg base N_l_both_refused "_law_both_refused" (defScope s_l_both_refused) f cdv A outer s H E).A (cxOf (L2.CX P w) P w K mg base N_l_both_refused "_law_both_refused" (defScope s_l_both_refused) f cdv A outer s H E).env (cxOf (L2.CX P w) P w K mg base N_l_both_refused "_law_both_refused" (defScope s_l_both_refused) f cdv A outer s H E).xe := passes_of rfl
  exact (hCut (hTryAs (i := 3) rfl rfl sc_l_both_refused.nd rfl rfl ⟨by rfl, by decide, .inl G.g_InvalidRule⟩ tk (fun W1 pn xe tk1 hp1 => (hOne (hExpr (gCall1 c_same_rule T_same_rule hr (by decide) (by rfl) tk1 (gCons (gv 0) (gCons (gv 1) (gCons (gv 2) gNil))))))) (fun ea oe cls ed pn hz hf => (hOne (hRet (gLst (gCons (gXf G.e_InvalidRule.xf G.e_InvalidRule.no hz hf (gv 3)) (gCons (gAndV (gIsY hz hf (by rfl) G.n_isinstance (gCons (gv 3) (gCons (gClV (by rfl) G.g_CacheError) gNil))) (gOneV (gNotV (gIsY hz hf (by rfl) G.n_isinstance (gCons (gv 3) (gCons (gClV (by rfl) G.g_Refused) gNil)))))) gNil))))))) (hOne (hRet (gLst gNil))))
theorem d_l_pairs_right (G : Env P w K mg base a) (T_l_bad_rule : DefC P w K mg base "_law_bad_rule" ["_law_source_here", "_law_rule"] l_l_bad_rule [] (p_l_bad_rule K a)) (T_l_both_refused : DefC P w K mg base "_law_both_refused" ["_law_tree_here", "_law_rule", "_law_other"] l_l_both_refused [] (p_l_both_refused K a)) {f : Addr} {cdv : Value} {A : Around} {outer : List PySem.Env} {s : Shared} {H : Hp} {E : XK} (hr : Room (l_l_pairs_right - 1) (A.deeper (envOfC "_law_pairs_right" (defScope s_l_pairs_right) s.heap.objs.size f cdv))) :
    PSs (cxOf (L2.CX P w) P w K mg base N_l_pairs_right "_law_pairs_right" (defScope s_l_pairs_right) f cdv A outer s H E) (defBody s_l_pairs_right) (dS (fun c d _ H => E c d H) (r_l_pairs_right K a)) := by
  have tk : Takes (cxOf (L2.CX P w) P w K mg base N_l_pairs_right "_law_pairs_right" (defScope s_l_pairs_right) f cdv A outer s H E) (fun c d _ H => E c d H) := takes_of rfl rfl rfl rfl
  have hp : PassesOwn (model P w) (cxOf (L2.CX P w) P w K mg base N_l_pairs_right "_law_pairs_right" (defScope s_l_pairs_right) f cdv A outer s H E).A (cxOf (L2.CX P w) P w K mg base N_l_pairs_right "_law_pairs_right" (defScope s_l_pairs_right) f cdv A outer s H E).env (cxOf (L2.CX P w) P w K mg base N_l_pairs_right "_law_pairs_right" (defScope s_l_pairs_right) f cdv A outer s H E).xe := passes_of rfl
  exact (hCons (hSet (i := 4) sc_l_pairs_right.nd rfl (.inl rfl) (gCall1 c_l_bad_rule T_l_bad_rule hr (by decide) (by rfl) tk (gCons (gv 0) (gCons (gv 2) gNil)))) (hCons (hSet (i := 5) sc_l_pairs_right.nd rfl (.inl rfl) (gCall1 c_l_bad_rule T_l_bad_rule hr (by decide) (by rfl) tk (gCons (gv 0) (gCons (gv 3) gNil)))) (hCons (hIf (gTNe hr.units (gCall1 c_l_both_refused T_l_both_refused hr (by decide) (by rfl) tk (gCons (gv 1) (gCons (gv 4) (gCons (gv 3) gNil)))) (gLst (gCons (gv 4) (gCons gBl gNil)))) (hOne (hRet gBl)) hNil) (hCons (hIf (gTNe hr.units (gCall1 c_l_both_refused T_l_both_refused hr (by decide) (by rfl) tk (gCons (gv 1) (gCons (gv 2) (gCons (gv 5) gNil)))) (gLst (gCons (gv 5) (gCons gBl gNil)))) (hOne (hRet gBl)) hNil) (hOne (hRet (gAndV (gEq hr.units (gCall1 c_l_both_refused T_l_both_refused hr (by decide) (by rfl) tk (gCons (gv 1) (gCons (gv 4) (gCons (gv 5) gNil)))) (gLst (gCons (gv 4) (gCons gBl gNil)))) (gOneV (gEq hr.units (gCall1 c_l_both_refused T_l_both_refused hr (by decide) (by rfl) tk (gCons (gv 1) (gCons (gv 2) (gCons (gv 3) gNil)))) (gLst gNil))))))))))
theorem d_law (G : Env P w K mg base a) (T_l_doors_right : DefC P w K mg base "_law_doors_right" ["_law_source_here", "_law_tree_here", "_law_many", "_law_rule", "_law_flags_here", "_law_run_here"] l_l_doors_right [] (p_l_doors_right K a)) (T_l_flags : DefC P w K mg base "_law_flags" ["_law_source_here", "_law_many"] l_l_flags [] (p_l_flags K a)) (T_l_pairs_right : DefC P w K mg base "_law_pairs_right" ["_law_source_here", "_law_tree_here", "_law_rule", "_law_other"] l_l_pairs_right [] (p_l_pairs_right K a)) (T_l_reached : DefC P w K mg base "_law_reached" ["_law_tops", "_law_many", "_law_flags_here", "_law_rule", "_law_other"] l_l_reached [] (p_l_reached K a)) (T_l_rule_right : DefC P w K mg base "_law_rule_right" ["_law_tree_here", "_law_tops", "_law_many", "_law_rule", "_law_flags_here", "_law_run_here"] l_l_rule_right [] (p_l_rule_right K a)) (T_l_rules : DefC P w K mg base "_law_rules" [] l_l_rules [] (p_l_rules K a)) (T_l_run : DefC P w K mg base "_law_run" ["_law_source_here", "_law_tops", "_law_many", "_law_flags_here", "_law_rule"] l_l_run [] (p_l_run K a)) (T_l_same_right : DefC P w K mg base "_law_same_right" ["_law_tree_here", "_law_many", "_law_rules_here"] l_l_same_right [] (p_l_same_right K a)) (T_l_source : DefC P w K mg base "_law_source" ["_law_script", "_law_place"] l_l_source [] (p_l_source K a)) (T_l_take : DefC P w K mg base "_law_take" ["_law_source_here", "_law_many"] l_l_take [] (p_l_take K a)) (T_l_tree : DefC P w K mg base "_law_tree" ["_law_source_here", "_law_most"] l_l_tree [] (p_l_tree K a)) (T_same_rule : DefC P w K mg base "same_rule" ["tree", "rule", "other"] l_same_rule [] (p_same_rule K a)) (T_Tree_init : MakC P w K mg base "Tree" a.Tree ["self", "text"] l_Tree_init (p_Tree_init K a)) {f : Addr} {cdv : Value} {A : Around} {outer : List PySem.Env} {s : Shared} {H : Hp} {E : XK} (hr : Room (l_law - 1) (A.deeper (envOfC "law" (defScope s_law) s.heap.objs.size f cdv))) :
    PSs (cxOf (L2.CX P w) P w K mg base N_law "law" (defScope s_law) f cdv A outer s H E) (defBody s_law) (dS (fun c d _ H => E c d H) (r_law K a)) := by
  have tk : Takes (cxOf (L2.CX P w) P w K mg base N_law "law" (defScope s_law) f cdv A outer s H E) (fun c d _ H => E c d H) := takes_of rfl rfl rfl rfl
  have hp : PassesOwn (model P w) (cxOf (L2.CX P w) P w K mg base N_law "law" (defScope s_law) f cdv A outer s H E).A (cxOf (L2.CX P w) P w K mg base N_law "law" (defScope s_law) f cdv A outer s H E).env (cxOf (L2.CX P w) P w K mg base N_law "law" (defScope s_law) f cdv A outer s H E).xe := passes_of rfl
  exact (hCons (hSet (i := 1) sc_law.nd rfl (.inl rfl) (gCall1 c_l_tree T_l_tree hr (by decide) (by rfl) tk (gCons (gCall1 c_l_source T_l_source hr (by decide) (by rfl) tk (gCons (gv 0) (gCons gInt gNil))) (gCons gInt gNil)))) (hCons (hSet (i := 2) sc_law.nd rfl (.inl rfl) (gIx (gv 1) gInt (by intro _ _; rfl))) (hCons (hSet (i := 3) sc_law.nd rfl (.inl rfl) (gIx (gv 1) gInt (by intro _ _; rfl))) (hCons (hSet (i := 4) sc_law.nd rfl (.inl rfl) (gMakO c_Tree_init T_Tree_init hr (by decide) (by rfl) (gCons (gIx (gv 1) gInt (by intro _ _; rfl)) gNil))) (hCons (hSet (i := 5) sc_law.nd rfl (.inl rfl) (gCall1 c_l_flags T_l_flags hr (by decide) (by rfl) tk (gCons (gCall1 c_l_source T_l_source hr (by decide) (by rfl) tk (gCons (gv 0) (gCons gInt gNil))) (gCons (gv 3) gNil)))) (hCons (hSet (i := 6) sc_law.nd rfl (.inl rfl) (gCall0 c_l_rules T_l_rules hr (by decide) (by rfl))) (hCons (hIf (PW.pt (gOr (gTNot (gTru (gIsi (by rfl) G.n_isinstance (gClV (by rfl) G.t_RULES) (by decide) (by rfl) G.n_tuple (by decide +kernel)))) (gOr1 (gTNe hr.units (gTy call_list_of lList (by rfl) G.n_list (by decide +kernel) (gCons (gClV (by rfl) G.t_RULES) gNil)) (gv 6))))) (hOne (hRet gBl)) hNil) (hCons (hSet (i := 7) sc_law.nd rfl (.inl rfl) (gCall1 c_l_source T_l_source hr (by decide) (by rfl) tk (gCons (gv 0) (gCons gInt gNil)))) (hCons (hSet (i := 8) sc_law.nd rfl (.inl rfl) (gCall1 c_l_run T_l_run hr (by decide) (by rfl) tk (gCons (gv 7) (gCons (gv 2) (gCons (gv 3) (gCons (gv 5) (gCons (gIx (gv 6) (gCall1 c_l_take T_l_take hr (by decide) (by rfl) tk (gCons (gv 7) (gCons gInt gNil))) (by intro _ _; rfl)) gNil))))))) (hCons (hFor hp rfl (iSeq (gv 6)) (ggName (i := 9) sc_law.nd rfl (.inl rfl)) (hOne (hIf (gTNot (gTru (gCall1 c_l_rule_right T_l_rule_right hr (by decide) (by rfl) tk (gCons (gv 4) (gCons (gv 2) (gCons (gv 3) (gCons (gv 9) (gCons (gv 5) (gCons (gv 8) gNil))))))))) (hOne (hRet gBl)) hNil))) (hCons (hIf (gTNot (gTru (gCall1 c_l_same_right T_l_same_right hr (by decide) (by rfl) tk (gCons (gv 4) (gCons (gv 3) (gCons (gv 6) gNil)))))) (hOne (hRet gBl)) hNil) (hCons (hSet (i := 10) sc_law.nd rfl (.inl rfl) (gCall1 c_l_source T_l_source hr (by decide) (by rfl) tk (gCons (gv 0) (gCons gInt gNil)))) (hCons (hSet (i := 9) sc_law.nd rfl (.inl rfl) (gIx (gv 6) (gCall1 c_l_take T_l_take hr (by decide) (by rfl) tk (gCons (gv 10) (gCons gInt gNil))) (by intro _ _; rfl))) (hCons (hSet (i := 11) sc_law.nd rfl (.inl rfl) (gIx (gv 6) (gCall1 c_l_take T_l_take hr (by decide) (by rfl) tk (gCons (gv 10) (gCons gInt gNil))) (by intro _ _; rfl))) (hCons (hIf (PW.pt (gAnd (gTLe (gv 3) gInt) (gAnd1 (gTNe hr.units (gCall1 c_same_rule T_same_rule hr (by decide) (by rfl) tk (gCons (gv 4) (gCons (gv 9) (gCons (gv 11) gNil)))) (gCall1 c_l_reached T_l_reached hr (by decide) (by rfl) tk (gCons (gv 2) (gCons (gv 3) (gCons (gv 5) (gCons (gv 9) (gCons (gv 11) gNil)))))))))) (hOne (hRet gBl)) hNil) (hCons (hIf (gTNot (gTru (gCall1 c_l_doors_right T_l_doors_right hr (by decide) (by rfl) tk (gCons (gv 10) (gCons (gv 4) (gCons (gv 3) (gCons (gv 9) (gCons (gv 5) (gCons (gv 8) gNil))))))))) (hOne (hRet gBl)) hNil) (hOne (hRet (gCall1 c_l_pairs_right T_l_pairs_right hr (by decide) (by rfl) tk (gCons (gv 10) (gCons (gv 4) (gCons (gv 9) (gCons (gv 11) gNil)))))))))))))))))))))))
end
local macro_rules | `(tactic| walk_at "w") => `(tactic| conv => whnf)
local macro_rules | `(tactic| walk_at "b") => `(tactic| ((conv => whnf); split <;> (rename_i hb; simp only [decide_eq_true_eq, decide_eq_false_iff_not, Bool.not_eq_true', Bool.not_eq_false', Int.not_lt, Int.not_le, bne_iff_ne, ne_eq, Bool.not_eq_true, V.int.injEq, beq_iff_eq, reduceCtorEq] at hb)))
local macro_rules | `(tactic| walk_at "p") => `(tactic| (show (0 : Int) < _; decide))
local macro_rules | `(tactic| walk_at "z") => `(tactic| (show _ ≤ sizeLine; simp only [List.length_cons, List.length_nil]; decide))
section
variable {K : PySem.W.Frag} {a : Ads}
open TR
theorem vc_is_integer {vs : List V} {H : Hp} (g : V × TY) (h : (ct_is_integer K).pre g vs H) : ∃ S, Own S H ∧ r_is_integer K a (endsC (ct_is_integer K) g H) (start N_is_integer vs) S := by
  obtain ⟨x, t⟩ := g
  obtain ⟨rfl, ht⟩ := h
  refine ⟨⟨H, []⟩, Own.base H, ?_⟩
  have fin : ∀ H', Own ⟨H, []⟩ H' → Ext H H' := fun H' o => ext0 o
  cases x with
  | non => exact fun H' o => ⟨rfl, fin H' o⟩
  | bl b => exact fun H' o => ⟨rfl, fin H' o⟩
  | int b => exact fun H' o => ⟨rfl, fin H' o⟩
  | str b => exact fun H' o => ⟨rfl, fin H' o⟩
  | ref p =>
    have ht' : isiTy K (.ref p) ⟨H, []⟩ t := ht
    refine ⟨t, ht', ?_⟩
    rcases ht' with ⟨rfl, _⟩ | ⟨rfl, _⟩ | ⟨rfl, _⟩
    · exact fun H' o => ⟨rfl, fin H' o⟩
    · exact fun H' o => ⟨rfl, fin H' o⟩
    · exact fun H' o => ⟨rfl, fin H' o⟩
  | byt b => exact ht.elim
  | flt b => exact ht.elim
  | ty b => exact ht.elim
/-- the call of a def that changes nothing -/
theorem use_isI {W : sWX} {σ : L2.St} {S : SH} {Q : V → SH → Prop} {vs : List V} (x : V) (t : TY) (e : vs = [x]) (ht : ∀ H, Own S H → Ty0 K H x t) (h : Q (.bl (isInt x)) S) : rC (ct_is_integer K) W vs σ S Q :=
  ⟨(x, t), fun H o => ⟨e, ht H o⟩, fun H v H' o q => ⟨S, o.ex q.2, by rw [q.1]; exact h⟩, fun _ _ _ _ _ q => q.elim⟩
theorem vc_is_place {vs : List V} {H : Hp} (g : Nat × V × TY) (h : (ct_is_place K).pre g vs H) : ∃ S, Own S H ∧ r_is_place K a (endsC (ct_is_place K) g H) (start N_is_place vs) S := by
  obtain ⟨n, x, t⟩ := g
  obtain ⟨rfl, ht⟩ := h
  have ht : Ty0 K H x t := ht
  refine ⟨⟨H, []⟩, Own.base H, ?_⟩
  refine use_isI x t rfl (fun H' o => ht.ex (ext0 o)) ?_
  cases x with
  | int i =>
    show sChain oLe oLt (sC (.int 0)) (sVar 1) (sVar 0) _ _ _ _
    have e : plcB n (.int i) = (decide (0 ≤ i) && decide (i < n)) := rfl
    by_cases h0 : 0 ≤ i
    · have : decide ((0 : Int) ≤ i) = true := decide_eq_true h0
      show match V.bl (decide ((0 : Int) ≤ i)) with | .bl true => _ | .bl false => _ | _ => False
      rw [this]
      exact fun H' o => ⟨by show V.bl (decide (i < (n : Int))) = .bl (plcB n (.int i)); rw [e, this, Bool.true_and], ext0 o⟩
    · have : decide ((0 : Int) ≤ i) = false := decide_eq_false h0
      show match V.bl (decide ((0 : Int) ≤ i)) with | .bl true => _ | .bl false => _ | _ => False
      rw [this]
      exact fun H' o => ⟨by show V.bl false = .bl (plcB n (.int i)); rw [e, this, Bool.false_and], ext0 o⟩
  | _ => exact fun H' o => ⟨rfl, ext0 o⟩
theorem use_place {W : sWX} {σ : L2.St} {S : SH} {Q : V → SH → Prop} {vs : List V} (n : Nat) (x : V) (t : TY) (e : vs = [.int (n : Nat), x]) (ht : ∀ H, Own S H → Ty0 K H x t) (h : Q (.bl (plcB n x)) S) : rC (ct_is_place K) W vs σ S Q :=
  ⟨(n, x, t), fun H o => ⟨e, ht H o⟩, fun H v H' o q => ⟨S, o.ex q.2, by rw [q.1]; exact h⟩, fun _ _ _ _ _ q => q.elim⟩
theorem occ_sign : ∀ c ∈ [76, 82, 63, 108, 114, 46, 120, 32, 10], (!(Builtin.Str.occurrences ("LR" : Str) ⟨#[c]⟩ 0 2 1).isEmpty) = (c == 76 || c == 82 || (false && c == 63)) := by decide +kernel
theorem occ_sign3 : ∀ c ∈ [76, 82, 63, 108, 114, 46, 120, 32, 10], (!(Builtin.Str.occurrences ("LR?" : Str) ⟨#[c]⟩ 0 3 1).isEmpty) = (c == 76 || c == 82 || (true && c == 63)) := by decide +kernel
theorem vc_is_made_of {vs : List V} {H : Hp} (g : V × TY × Bool) (h : (ct_is_made_of K).pre g vs H) : ∃ S, Own S H ∧ r_is_made_of K a (endsC (ct_is_made_of K) g H) (start N_is_made_of vs) S := by
  obtain ⟨x, t, q⟩ := g
  obtain ⟨rfl, ht, hs⟩ := h
  have ht : Ty0 K H x t := ht
  refine ⟨⟨H, []⟩, Own.base H, ?_⟩
  cases x with
  | str u =>
    refine fun D => ?_
    have hs : sgnOk u := hs
    refine ⟨fun i S => S = ⟨H, [(D, .lst (((u.cps.toList.take i).map fun c => c == 76 || c == 82 || (q && c == 63)).map V.bl))]⟩, rfl, fun _ _ _ _ => trivial, ?_, ?_⟩
    · rintro i S hi rfl c hc
      have hc : u.cps.toList[i]? = some c := by
        rw [Array.getElem?_toList]
        exact hc
      refine ⟨rfl, ?_⟩
      refine ⟨0, _, rfl, ?_, ⟨_, SLe.refl _, ?_⟩⟩
      · rw [List.length_map, List.length_map, List.length_take]
        exact small_of (show min i _ ≤ 100 by have := hs.1; omega) (by decide)
      · show _ = SH.mk H [(D, .lst (((u.cps.toList.take (i + 1)).map fun c => c == 76 || c == 82 || (q && c == 63)).map V.bl))]
        rw [map_more hc, List.map_append]
        cases q with
        | false =>
          show SH.mk H [(D, .lst (_ ++ [V.bl (!(Builtin.Str.occurrences ("LR" : Str) ⟨#[c]⟩ 0 2 1).isEmpty)]))] = _
          rw [occ_sign c (hs.2 c (List.mem_of_getElem? hc))]
          rfl
        | true =>
          show SH.mk H [(D, .lst (_ ++ [V.bl (!(Builtin.Str.occurrences ("LR?" : Str) ⟨#[c]⟩ 0 3 1).isEmpty)]))] = _
          rw [occ_sign3 c (hs.2 c (List.mem_of_getElem? hc))]
          rfl
    · rintro S rfl
      refine ⟨_, .inl ⟨0, rfl⟩, ?_⟩
      intro H' o'
      refine ⟨?_, fun c o e => o'.fr c o e⟩
      show V.bl (List.all ((u.cps.toList.take u.cps.size).map fun c => c == 76 || c == 82 || (q && c == 63)) id) = .bl (madeL q u)
      rw [List.take_of_length_le (by rw [Array.length_toList]; exact Nat.le_refl _), List.all_map]
      rfl
  | ref p =>
    have ht' : isiTy K (.ref p) ⟨H, []⟩ t := ht
    refine ⟨t, ht', ?_⟩
    rcases ht' with ⟨rfl, _⟩ | ⟨rfl, _⟩ | ⟨rfl, _⟩
    · exact fun H' o => ⟨rfl, ext0 o⟩
    · exact fun H' o => ⟨rfl, ext0 o⟩
    · exact fun H' o => ⟨rfl, ext0 o⟩
  | byt b => exact ht.elim
  | flt b => exact ht.elim
  | ty b => exact ht.elim
  | _ => exact fun H' o => ⟨rfl, ext0 o⟩
theorem use_made {W : sWX} {σ : L2.St} {S : SH} {Q : V → SH → Prop} {vs : List V} (x : V) (t : TY) (q : Bool) (e : vs = [x, .str (if q then "LR?" else "LR")]) (ht : ∀ H, Own S H → Ty0 K H x t) (hs : strOk x) (h : Q (.bl (madeB q x)) S) : rC (ct_is_made_of K) W vs σ S Q :=
  ⟨(x, t, q), fun H o => ⟨e, ht H o, hs⟩, fun H v H' o r => ⟨S, o.ex r.2, by rw [r.1]; exact h⟩, fun _ _ _ _ _ r => r.elim⟩
/-! the tree -/
theorem TreeAt.ext {H H' : Hp} {v : V} {b : TR} (h : TreeAt K a H v b) (e : Ext H H') : TreeAt K a H' v b := by
  obtain ⟨⟨p, dx, fs, w, sp, h1, h2, h3, h4, h5, h6, h7⟩, h9⟩ := h
  exact ⟨⟨p, dx, fs, w, sp, h1, e _ _ h2, h3, h4, h5.ext e, h6, h7.ext e⟩, h9⟩
theorem TreeAt.low {F H : Hp} {v : V} {b : TR} (h : TreeAt K a H v b) (k : KeepT F H) : TreeAt K a F v b := by
  obtain ⟨⟨p, dx, fs, w, sp, h1, h2, h3, h4, h5, h6, h7⟩, h9⟩ := h
  exact ⟨⟨p, dx, fs, w, sp, h1, k _ _ h2 (fun _ e => nomatch e), h3, h4, h5.low k, h6, h7.low k⟩, h9⟩
theorem vc_Tree_len {vs : List V} {H : Hp} (g : V × TR) (h : (ct_tree_n K a nS).pre g vs H) : ∃ S, Own S H ∧ r_Tree_len K a (endsC (ct_tree_n K a nS) g H) (start N_Tree_len vs) S := by
  obtain ⟨v, b⟩ := g
  obtain ⟨rfl, h⟩ := h
  obtain ⟨⟨p, dx, fs, w, sp, rfl, h2, h3, h4, h5, h6, h7⟩, h9⟩ := h
  refine ⟨⟨H, []⟩, Own.base H, ?_⟩
  obtain ⟨q, xs, rfl, hq, hx⟩ := h5.tupI
  refine ⟨dx, fs, _, .inr h2, h4, ⟨xs, .inr (hq.s (List.Subset.refl _)), fun H' o => ⟨?_, ext0 o⟩⟩⟩
  rw [hx.len, List.length_map, wayB_len]
theorem vc_Tree_forks {vs : List V} {H : Hp} (g : V × TR) (h : (ct_tree_n K a fun b => nS b - 1).pre g vs H) : ∃ S, Own S H ∧ r_Tree_forks K a (endsC (ct_tree_n K a fun b => nS b - 1) g H) (start N_Tree_forks vs) S := by
  obtain ⟨v, b⟩ := g
  obtain ⟨rfl, h⟩ := h
  obtain ⟨⟨p, dx, fs, w, sp, rfl, h2, h3, h4, h5, h6, h7⟩, h9⟩ := h
  refine ⟨⟨H, []⟩, Own.base H, ?_⟩
  obtain ⟨q, xs, rfl, hq, hx⟩ := h7.tupI
  refine ⟨dx, fs, _, .inr h2, h6, ⟨xs, .inr (hq.s (List.Subset.refl _)), fun H' o => ⟨?_, ext0 o⟩⟩⟩
  rw [hx.len, List.length_map, List.length_range]
theorem use_len {S : SH} {σ : L2.St} {Q : V → SH → Prop} {v : V} {b : TR} (hv : ∀ H, Own S H → TreeAt K a H v b) (hS : TreeAt K a S.F v b) (k : Q (.int (nS b : Nat)) S) {i : Nat} {W : sWX} (hi : σ[i]? = some (some v)) : sLenO a.Tree (q_Tree_len K a) (sVar i) W σ S Q := by
  refine var_go hi ?_
  obtain ⟨⟨p, dx, fs, w, sp, e, h2, _⟩, h9⟩ := hS
  rw [e]
  refine ⟨dx, fs, .inr h2, (v, b), fun H o => ⟨by rw [e], hv H o⟩, fun H v' H' o q => ⟨S, o.ex q.2, ⟨nS b, q.1, by omega⟩, ?_⟩, fun _ _ _ _ _ q => q.elim⟩
  rw [q.1]
  exact k
theorem use_forks {S : SH} {σ : L2.St} {Q : V → SH → Prop} {v : V} {b : TR} (hv : ∀ H, Own S H → TreeAt K a H v b) (hS : TreeAt K a S.F v b) (k : Q (.int (nS b - 1 : Nat)) S) {i : Nat} {W : sWX} (hi : σ[i]? = some (some v)) : sProO a.Tree (q_Tree_forks K a) (sVar i) W σ S Q := by
  refine var_go hi ?_
  obtain ⟨⟨p, dx, fs, w, sp, e, h2, _⟩, h9⟩ := hS
  rw [e]
  refine ⟨dx, fs, .inr h2, (v, b), fun H o => ⟨by rw [e], hv H o⟩, fun H v' H' o q => ⟨S, o.ex q.2, trivial, ?_⟩, fun _ _ _ _ _ q => q.elim⟩
  rw [q.1]
  exact k
theorem vc_checked_flags {vs : List V} {H : Hp} (g : V × TR × V × TY) (h : (ct_checked K a false).pre g vs H) : ∃ S, Own S H ∧ r_checked_flags K a (endsC (ct_checked K a false) g H) (start N_checked_flags vs) S := by
  obtain ⟨tv, b, x, t⟩ := g
  obtain ⟨rfl, hT, ht, hs⟩ := h
  have hT : TreeAt K a H tv b := hT
  have ht : Ty0 K H x t := ht
  have hs : strOk x := hs
  have p0 := nS_pos b
  refine ⟨⟨H, []⟩, Own.base H, ?_⟩
  have bad : flOk false b x = false → ∀ d H', Own (SH.new ⟨H, []⟩ d (.xd [("flags", x)])) H' → (ct_checked K a false).exn (tv, b, x, t) H (.ref a.InvalidFlags) (some d) H' := fun e d H' o =>
    ⟨e, rfl, d, rfl, (o.gs (d, .xd [("flags", x)]) List.mem_cons_self).2, fun a u e => o.fr a u e, (o.gs (d, .xd [("flags", x)]) List.mem_cons_self).1⟩
  refine use_made x t false rfl (fun H' o => ht.ex (ext0 o)) hs ?_
  cases hm : madeB false x with
  | false =>
    refine bad ?_
    cases x with
    | str u =>
      have hm : madeL false u = false := hm
      show (madeL false u && _) = false
      rw [hm]
      rfl
    | _ => rfl
  | true =>
    cases x with
    | str u =>
      have hm : madeL false u = true := hm
      refine ⟨?_, ?_⟩
      · show u.cps.size ≤ sizeLine
        have : u.cps.toList.length ≤ 100 := hs.1
        rw [Array.length_toList] at this
        exact Nat.le_trans this (by decide)
      · refine use_forks (i := 0) (v := tv) (b := b) (fun H' o => hT.ext (ext0 o)) hT ?_ (by rfl)
        have hf : flOk false b (.str u) = decide (u.cps.size = nS b - 1) := by
          show (madeL false u && decide (u.cps.toList.length + 1 = nS b)) = _
          rw [hm, Bool.true_and, Array.length_toList]
          exact decide_eq_decide.mpr (by omega)
        walk_at "b"
        · rename_i hb
          exact bad (by rw [hf]; exact decide_eq_false fun z => hb (by rw [← z]; rfl))
        · rename_i hb
          exact fun H' o => ⟨by rw [hf]; exact decide_eq_true (Int.ofNat.inj hb), rfl, ext0 o⟩
    | _ => cases hm
theorem use_flags {W : sWX} {σ : L2.St} {S : SH} {Q : V → SH → Prop} {vs : List V} (p : Bool) (tv : V) (b : TR) (x : V) (t : TY) (e : vs = [tv, x]) (hT : ∀ H, Own S H → TreeAt K a H tv b) (ht : ∀ H, Own S H → Ty0 K H x t) (hs : strOk x)
    (h1 : flOk p b x = true → Q x S) (h2 : flOk p b x = false → ∀ d, W (.ref a.InvalidFlags) (some d) σ (S.new d (.xd [("flags", x)]))) : rC (ct_checked K a p) W vs σ S Q :=
  ⟨(tv, b, x, t), fun H o => ⟨e, hT H o, ht H o, hs⟩, fun H v H' o q => ⟨S, o.ex q.2.2, by rw [q.2.1]; exact h1 q.1⟩, fun H c d H' o q => by
    obtain ⟨q0, rfl, dd, rfl, q1, q2, q3⟩ := q
    exact ⟨_, o.new q1 q2 q3, h2 q0 dd⟩⟩
/-! ### texts -/
theorem pS_tl (l : List Nat) : TL.tl (pS l) = l := rfl
theorem pS_len (l : List Nat) : (pS l).length = l.length := by rw [TL.len_tl, pS_tl]
theorem pS_line {l : List Nat} (h : l.length ≤ 300) : (pS l).length ≤ sizeLine := by
  rw [pS_len]
  exact Nat.le_trans h (by decide)
theorem pS_inj {l l' : List Nat} (h : pS l = pS l') : l = l' := congrArg TL.tl h
theorem pS_app (l l' : List Nat) : pS l ++ pS l' = pS (l ++ l') := TL.ext_tl (by rw [TL.tl_append, pS_tl, pS_tl, pS_tl])
theorem pS_at {st : List Nat} {f c : Nat} (h : st[f]? = some c) : atI (pS st).cps.toList (f : Int) = some c := atI_at h
theorem pat_in {st : List Nat} (p : patOk st) : ∀ c ∈ st, c ∈ [76, 82, 63, 108, 114, 46, 120, 32, 10] := fun c hc => by
  have all : ∀ c ∈ [76, 82], c ∈ [76, 82, 63, 108, 114, 46, 120, 32, 10] := by decide
  exact all c (p c hc)
theorem pS_sgn {l : List Nat} (h : l.length ≤ 100) (p : patOk l) : sgnOk (pS l) := ⟨h, pat_in p⟩
theorem pS_made {l : List Nat} (p : patOk l) : madeL false (pS l) = true := by
  unfold madeL
  refine List.all_eq_true.mpr fun c hc => ?_
  have all : ∀ c ∈ [76, 82], (c == 76 || c == 82 || (false && c == 63)) = true := by decide
  exact all c (p c hc)
theorem flOk_pat {b : TR} {st : List Nat} (h : st.length + 1 = nS b) (p : patOk st) : flOk false b (.str (pS st)) = true := by
  show (madeL false (pS st) && decide (st.length + 1 = nS b)) = true
  rw [pS_made p, decide_eq_true h]
  rfl
theorem cut_to (l : List Nat) (i : Nat) : cutS (pS l) none (some (i : Int)) = pS (l.take i) := by
  refine TL.ext_tl ?_
  show ((TL.tl (pS l)).drop (HT.sIx (pS l).length 0 none)).take (HT.sIx (pS l).length (pS l).length (some (i : Int)) - HT.sIx (pS l).length 0 none) = _
  rw [HT.sIx_none, HT.sIx_nat, Nat.sub_zero, List.drop_zero, pS_tl, pS_tl, pS_len]
  by_cases h : i ≤ l.length
  · rw [Nat.min_eq_left h]
  · rw [List.take_of_length_le (by omega), List.take_of_length_le (by omega)]
theorem cut_from (l : List Nat) (i : Nat) : cutS (pS l) (some (i : Int)) none = pS (l.drop i) := by
  refine TL.ext_tl ?_
  show ((TL.tl (pS l)).drop (HT.sIx (pS l).length 0 (some (i : Int)))).take (HT.sIx (pS l).length (pS l).length none - HT.sIx (pS l).length 0 (some (i : Int))) = _
  rw [HT.sIx_none, HT.sIx_nat, pS_tl, pS_tl, pS_len]
  rw [List.take_of_length_le (by rw [List.length_drop]; exact Nat.le_refl _)]
  by_cases h : i ≤ l.length
  · rw [Nat.min_eq_left h]
  · rw [List.drop_of_length_le (by omega), List.drop_of_length_le (by omega)]
theorem add_s {x y : List Nat} {S : SH} {Q : V → SH → Prop} (h : x.length + y.length ≤ 400) (k : Q (.str (pS (x ++ y))) S) : oAdd (.str (pS x)) (.str (pS y)) S Q := by
  refine ⟨?_, ?_⟩
  · rw [pS_len, pS_len]
    exact Nat.le_trans h (by decide)
  · rw [pS_app]
    exact k
theorem sg_pS (l : List Nat) : sgV (pS l) = cV l := rfl
theorem cV_len (l : List Nat) : (cV l).length = l.length := List.length_map _
theorem cV_at {l : List Nat} {f c : Nat} (h : l[f]? = some c) : (cV l)[f]? = some (.str (pS [c])) := by
  unfold cV
  rw [List.getElem?_map, h]
  rfl
theorem cV_set (l : List Nat) (f c : Nat) : (cV l).set f (.str (pS [c])) = cV (l.set f c) := by
  unfold cV
  rw [List.map_set]
theorem join_pS (l : List Nat) : Txt.join "" (l.map fun c => pS [c]) = pS l := by
  refine TL.ext_tl ((congrArg TL.tl (TL.join_eq _ _)).trans ((TL.tl_join _ _).trans ?_))
  rw [pS_tl]
  show TL.joinL [] ((l.map fun c => pS [c]).map TL.tl) = _
  rw [List.map_map]
  show TL.joinL [] (l.map fun c => [c]) = _
  induction l with
  | nil => rfl
  | cons b fl ih =>
    cases fl with
    | nil => rfl
    | cons c fl =>
      show [b] ++ ([] ++ TL.joinL [] ((c :: fl).map fun c => [c])) = _
      rw [ih]
      rfl
theorem sum_pS : ∀ l : List Nat, ((l.map fun c => pS [c]).map (·.length)).sum = l.length
  | [] => rfl
  | b :: fl => by
    show 1 + ((fl.map fun c => pS [c]).map (·.length)).sum = fl.length + 1
    rw [sum_pS fl, Nat.add_comm]
/-- one sign against another -/
theorem sg_eq (c d : Nat) : decide (V.str (pS [c]) = V.str (pS [d])) = decide (c = d) := decide_eq_decide.mpr ⟨fun h => List.head_eq_of_cons_eq (pS_inj (V.str.inj h)), fun h => by rw [h]⟩
theorem ch_L : V.str "L" = V.str (pS [76]) := by rfl
theorem ch_R : V.str "R" = V.str (pS [82]) := by rfl
theorem ch_Q : V.str "?" = V.str (pS [63]) := by rfl
theorem cut_drop {xs : List V} {m : Nat} (h : m ≤ xs.length) : cutV xs (some (m : Int)) none = xs.drop m := by
  unfold cutV
  rw [HT.sIx_none, HT.sIx_nat, Nat.min_eq_left h]
  exact List.take_of_length_le (by rw [List.length_drop]; omega)
theorem cut_take {xs : List V} {m : Nat} (h : m ≤ xs.length) : cutV xs none (some (m : Int)) = xs.take m := by
  unfold cutV
  rw [HT.sIx_none, HT.sIx_nat, Nat.min_eq_left h, Nat.sub_zero, List.drop_zero]
theorem flat_nV : ∀ ns : List Nat, (nV ns).all flatV = true
  | [] => rfl
  | _ :: ns => flat_nV ns
theorem nV_snoc (ns : List Nat) (n : Nat) : nV (ns ++ [n]) = nV ns ++ [.int (n : Nat)] := nV_append ns [n]
theorem pr_open {F : Hp} {G : List (Addr × HO)} {v : V} {q : Nat × Nat} (h : MD K F G v (prD q)) : ∃ p, v = .ref p ∧ mT K F G p [.int (q.1 : Nat), .int (q.2 : Nat)] := by
  obtain ⟨p, xs, rfl, hp, hx⟩ := h.tupI
  cases hx with
  | cons h1 hx =>
    cases hx with
    | cons h2 hx =>
      cases hx
      rw [h1.intI, h2.intI] at hp
      exact ⟨p, rfl, hp⟩
theorem st_open {F : Hp} {G : List (Addr × HO)} {v : V} {s : Nat × Bool} (h : MD K F G v (stD s)) : ∃ p, v = .ref p ∧ mT K F G p [.int (s.1 : Nat), .str (sdS s.2)] := by
  obtain ⟨p, xs, rfl, hp, hx⟩ := h.tupI
  cases hx with
  | cons h1 hx =>
    cases hx with
    | cons h2 hx =>
      cases hx
      rw [h1.intI, h2.strI] at hp
      exact ⟨p, rfl, hp⟩
theorem ln_open {F : Hp} {G : List (Addr × HO)} {v : V} {l : Ln} (h : MD K F G v (lnD l)) : ∃ p, v = .ref p ∧ mT K F G p [.str (kS l.1), .int (l.2 : Nat)] := by
  obtain ⟨p, xs, rfl, hp, hx⟩ := h.tupI
  cases hx with
  | cons h1 hx =>
    cases hx with
    | cons h2 hx =>
      cases hx
      rw [h1.strI, h2.intI] at hp
      exact ⟨p, rfl, hp⟩
end
section
variable {K : PySem.W.Frag} {a : Ads}
open TR
/-- what the top says of the text's classes and names -/
structure Kit (K : PySem.W.Frag) (a : Ads) : Prop where
  kinds : ∀ H, SqT K H a.KINDS [.str "hit", .str "load"]
  rules : ∀ H, SqT K H a.RULES (rlsS.map V.str)
  ef : ExcC K a.InvalidFlags
  el : ExcC K a.InvalidLine
  er : ExcC K a.InvalidRule
  cf : PySem.W.kitOne K (.ref a.InvalidFlags) (.ref a.CacheError) = some true
  cl : PySem.W.kitOne K (.ref a.InvalidLine) (.ref a.CacheError) = some true
  cr : PySem.W.kitOne K (.ref a.InvalidRule) (.ref a.CacheError) = some true
  vf : PySem.W.kitOne K (.ref a.InvalidFlags) (.type "ValueError") = some true
  vl : PySem.W.kitOne K (.ref a.InvalidLine) (.type "ValueError") = some true
  vr : PySem.W.kitOne K (.ref a.InvalidRule) (.type "ValueError") = some true
  xr : PySem.W.kitAny K (.ref a.InvalidRule) [.ref a.Refused, .ref a.InvalidFlags, .ref a.InvalidLine] = some false
  xf : PySem.W.kitAny K (.ref a.InvalidFlags) [.ref a.Refused, .ref a.InvalidLine] = some false
  rl : PySem.W.kitOne K (.ref a.InvalidLine) (.ref a.Refused) = some false
  rr : PySem.W.kitOne K (.ref a.InvalidRule) (.ref a.Refused) = some false
  hrr : PySem.W.exmOne K (.ref a.InvalidRule) (.ref a.InvalidRule) = some true
  hfr : PySem.W.exmOne K (.ref a.InvalidFlags) (.ref a.InvalidRule) = some false
  hlr : PySem.W.exmOne K (.ref a.InvalidLine) (.ref a.InvalidRule) = some false
  hff : PySem.W.exmOne K (.ref a.InvalidFlags) (.ref a.InvalidFlags) = some true
  hlf : PySem.W.exmOne K (.ref a.InvalidLine) (.ref a.InvalidFlags) = some false
  hll : PySem.W.exmOne K (.ref a.InvalidLine) (.ref a.InvalidLine) = some true
theorem LineV.ext {H H' : Hp} {n : Nat} {v : V} {ok : Bool} (h : LineV K H n v ok) (e : Ext H H') : LineV K H' n v ok := by
  rcases h with ⟨h1, t, h2, h3⟩ | ⟨p, xs, h1, h2, h3⟩
  · exact .inl ⟨h1, t, h2, h3.ex e⟩
  · refine .inr ⟨p, xs, h1, SqT.up e h2, ?_⟩
    rcases h3 with h3 | ⟨x, y, t, h3, h4, h5, h6⟩
    · exact .inl h3
    · exact .inr ⟨x, y, t, h3, h4, h5.ex e, h6⟩
theorem RunB.ext {H H' : Hp} {n : Nat} {v : V} {i : Int} (h : RunB K H n v i) (e : Ext H H') : RunB K H' n v i := by
  rcases h with ⟨h1, t, h2, h3⟩ | ⟨p, xs, j, x, h1, h2, h3, h4, h5, h6⟩
  · exact .inl ⟨h1, t, h2, h3.ex e⟩
  · exact .inr ⟨p, xs, j, x, h1, SqL.up e h2, h3, h4, h5.ext e, fun k y hk hy => (h6 k y hk hy).ext e⟩
theorem RunG.ext {H H' : Hp} {b : TR} {v : V} {run : List Ln} (h : RunG K H b v run) (e : Ext H H') : RunG K H' b v run := by
  obtain ⟨⟨p, xs, h1, h2, h3⟩, h4⟩ := h
  exact ⟨⟨p, xs, h1, SqL.up e h2, h3.ext e⟩, h4⟩
theorem linesOk.ext {H H' : Hp} {n : Nat} {v : V} {q : List V ⊕ Int} (h : linesOk K H n v q) (e : Ext H H') : linesOk K H' n v q := by
  cases q with
  | inl xs =>
    obtain ⟨⟨p, h1, h2⟩, h3⟩ := h
    exact ⟨⟨p, h1, SqL.up e h2⟩, fun x hx => (h3 x hx).ext e⟩
  | inr i => exact RunB.ext (show RunB K H n v i from h) e
theorem plc_nat {n i : Nat} (h : i < n) : plcB n (.int (i : Nat)) = true := by
  show (decide ((0 : Int) ≤ (i : Nat)) && decide (((i : Nat) : Int) < (n : Nat))) = true
  rw [decide_eq_true (by omega), decide_eq_true (by omega)]
  rfl
theorem kS_in (k : Bool) : inV (.str (kS k)) [.str "hit", .str "load"] = true := by cases k <;> decide +kernel
theorem ln_line {H : Hp} {n : Nat} {v : V} {l : Ln} (h : MD K H [] v (lnD l)) (hl : l.2 < n) : LineV K H n v true := by
  obtain ⟨p, rfl, hp⟩ := ln_open h
  refine .inr ⟨p, _, rfl, hp.elim (fun z => nomatch z) id, .inr ⟨_, _, .int, rfl, rfl, rfl, ?_⟩⟩
  rw [kS_in, plc_nat hl]
  rfl
theorem mds_mem {F : Hp} {G : List (Addr × HO)} : ∀ {vs : List V} {ds : List PyData}, MDs K F G vs ds → ∀ v ∈ vs, ∃ d ∈ ds, MD K F G v d
  | [], _, _, v, hv => nomatch hv
  | u :: vs, _, h, v, hv => by
    cases h with
    | cons h1 h2 =>
      rcases List.mem_cons.mp hv with rfl | hv
      · exact ⟨_, .head _, h1⟩
      · obtain ⟨d, hd, hm⟩ := mds_mem h2 v hv
        exact ⟨d, .tail _ hd, hm⟩
theorem run_lines {H : Hp} {b : TR} {v : V} {run : List Ln} (h : RunG K H b v run) : ∃ p xs, v = .ref p ∧ SqL K H p xs ∧ MDs K H [] xs (run.map lnD) ∧ linesOk K H (nS b) v (.inl xs) := by
  obtain ⟨⟨p, xs, h1, h2, h3⟩, h4⟩ := h
  refine ⟨p, xs, h1, h2, h3, ⟨p, h1, h2⟩, fun x hx => ?_⟩
  obtain ⟨d, hd, hm⟩ := mds_mem h3 x hx
  obtain ⟨l, hl, rfl⟩ := List.mem_map.mp hd
  exact ln_line hm (h4 l hl)
theorem vc_is_line (T : Kit K a) {vs : List V} {H : Hp} (g : Nat × V × Bool) (h : (ct_is_line K).pre g vs H) : ∃ S, Own S H ∧ r_is_line K a (endsC (ct_is_line K) g H) (start N_is_line vs) S := by
  obtain ⟨n, v, ok⟩ := g
  obtain ⟨e0, h⟩ := h
  have e0 : vs = [.int (n : Nat), v] := e0
  subst e0
  have h : LineV K H n v ok := h
  refine ⟨⟨H, []⟩, Own.base H, ?_⟩
  rcases h with ⟨rfl, t, ht, hty⟩ | ⟨p, xs, rfl, hp, hc⟩
  · cases v with
    | ref p =>
      have hty' : isiTy K (.ref p) ⟨H, []⟩ t := hty
      refine ⟨t, hty', ?_⟩
      rcases hty' with ⟨rfl, _⟩ | ⟨rfl, _⟩ | ⟨rfl, _⟩
      · exact fun H' o => ⟨rfl, ext0 o⟩
      · exact absurd rfl ht
      · exact fun H' o => ⟨rfl, ext0 o⟩
    | byt b => exact hty.elim
    | flt b => exact hty.elim
    | ty b => exact hty.elim
    | _ => exact fun H' o => ⟨rfl, ext0 o⟩
  · refine ⟨.tuple, .inr (.inl ⟨rfl, xs, .inr hp⟩), ?_⟩
    refine ⟨xs, .inr (.inr hp), ?_⟩
    refine c_go (ne_i (c := decide (xs.length ≠ 2)) ?_ ?_)
    · rw [decide_not, Bool.not_not]
      exact decide_eq_decide.mpr (by omega)
    rcases hc with ⟨h1, rfl⟩ | ⟨x, y, t, rfl, hf, hy, rfl⟩
    · rw [decide_eq_true h1]
      exact fun H' o => ⟨rfl, ext0 o⟩
    · refine ⟨_, _, .inr (.inr hp), rfl, ?_⟩
      refine ⟨_, .inr (.inr (T.kinds H)), hf, rfl, ?_⟩
      cases hin : inV x [.str "hit", .str "load"] with
      | false => exact fun H' o => ⟨rfl, ext0 o⟩
      | true =>
        refine ⟨_, _, .inr (.inr hp), rfl, ?_⟩
        refine use_place n y t (by rfl) (fun H' o => hy.ex (ext0 o)) ?_
        exact fun H' o => ⟨rfl, ext0 o⟩
theorem use_line {W : sWX} {σ : L2.St} {S : SH} {Q : V → SH → Prop} {vs : List V} (n : Nat) (v : V) (ok : Bool) (e : vs = [.int (n : Nat), v]) (h : ∀ H, Own S H → LineV K H n v ok) (k : Q (.bl ok) S) : rC (ct_is_line K) W vs σ S Q :=
  ⟨(n, v, ok), fun H o => ⟨e, h H o⟩, fun H v H' o q => ⟨S, o.ex q.2, by rw [q.1]; exact k⟩, fun _ _ _ _ _ q => q.elim⟩
theorem vc_checked_lines {vs : List V} {H : Hp} (g : Nat × V × (List V ⊕ Int)) (h : (ct_lines K a).pre g vs H) : ∃ S, Own S H ∧ r_checked_lines K a (endsC (ct_lines K a) g H) (start N_checked_lines vs) S := by
  obtain ⟨n, v, q⟩ := g
  obtain ⟨e0, h⟩ := h
  have e0 : vs = [.int (n : Nat), v] := e0
  subst e0
  have h : linesOk K H n v q := h
  refine ⟨⟨H, []⟩, Own.base H, ?_⟩
  cases q with
  | inl xs =>
    obtain ⟨⟨p, rfl, hp⟩, hx⟩ := h
    refine ⟨.list, .inl ⟨rfl, xs, .inr hp⟩, ?_⟩
    refine ⟨xs, .inr hp, ?_⟩
    refine ⟨fun i σ S => ∃ (E : List (Addr × HO)) (x2 x3 : Option V), σ = [some (.int (n : Nat)), some (.ref p), x2, x3] ∧ S = ⟨H, E⟩, ⟨[], none, none, rfl, rfl⟩, ?_, ?_, ?_⟩
    · rintro i σ S _ ⟨E, x2, x3, rfl, rfl⟩
      exact .inr hp
    · rintro i σ S hi ⟨E, x2, x3, rfl, rfl⟩ v hv r
      refine ⟨_, .inl ⟨0, rfl⟩, rfl, ?_⟩
      refine use_line n v true (by rfl) (fun H' o => (hx v (List.mem_of_getElem? hv)).ext (own_F o)) ?_
      exact ⟨_, SLe.refl _, _, _, _, rfl, rfl⟩
    · rintro σ S ⟨E, x2, x3, rfl, rfl⟩
      refine ⟨xs, .inl (.inr hp), fun q H' o' => ?_⟩
      have m := o'.gs (q, .lst xs) (.head _)
      exact ⟨⟨xs, rfl, q, rfl, m.2, m.1⟩, fun c u e => o'.fr c u e⟩
  | inr i =>
    have h : RunB K H n v i := h
    have bad : ∀ (i : Int) (E : List (Addr × HO)) d H', Own (SH.new ⟨H, E⟩ d (.xd [("index", .int i)])) H' → (ct_lines K a).exn (n, v, .inr i) H (.ref a.InvalidLine) (some d) H' := fun i E d H' o => by
      have m := o.gs (d, .xd [("index", .int i)]) (.head _)
      exact ⟨i, rfl, rfl, d, rfl, m.2, fun c u e => o.fr c u e, m.1⟩
    rcases h with ⟨rfl, t, ht, hty⟩ | ⟨p, xs, j, x, rfl, hp, rfl, hj, hx, hb⟩
    · cases v with
      | ref p =>
        have hty' : isiTy K (.ref p) ⟨H, []⟩ t := hty
        refine ⟨t, hty', ?_⟩
        rcases hty' with ⟨rfl, _⟩ | ⟨rfl, _⟩ | ⟨rfl, _⟩
        · exact absurd rfl ht
        · exact bad (-1) []
        · exact bad (-1) []
      | byt b => exact hty.elim
      | flt b => exact hty.elim
      | ty b => exact hty.elim
      | _ => exact bad (-1) []
    · refine ⟨.list, .inl ⟨rfl, xs, .inr hp⟩, ?_⟩
      refine ⟨xs, .inr hp, ?_⟩
      refine ⟨fun i σ S => i ≤ j ∧ ∃ (E : List (Addr × HO)) (x2 x3 : Option V), σ = [some (.int (n : Nat)), some (.ref p), x2, x3] ∧ S = ⟨H, E⟩, ⟨Nat.zero_le _, [], none, none, rfl, rfl⟩, ?_, ?_, ?_⟩
      · rintro i σ S _ ⟨_, E, x2, x3, rfl, rfl⟩
        exact .inr hp
      · rintro i σ S hi ⟨hij, E, x2, x3, rfl, rfl⟩ v hv r
        refine ⟨_, .inl ⟨0, rfl⟩, rfl, ?_⟩
        rcases Nat.lt_or_ge i j with hlt | hge
        · refine use_line n v true (by rfl) (fun H' o => (hb i v hlt hv).ext (own_F o)) ?_
          exact ⟨_, SLe.refl _, hlt, _, _, _, rfl, rfl⟩
        · have eij : i = j := by omega
          subst eij
          rw [hj] at hv
          cases hv
          refine use_line n x false (by rfl) (fun H' o => hx.ext (own_F o)) ?_
          exact bad (i : Nat) _
      · rintro σ S ⟨hij, _⟩
        have h1 := (List.getElem?_eq_some_iff.mp hj).1
        have hij : xs.length ≤ j := hij
        omega
theorem vc_checked_run {vs : List V} {H : Hp} (g : V × TR × V × (List V ⊕ Int)) (h : (ct_crun K a).pre g vs H) : ∃ S, Own S H ∧ r_checked_run K a (endsC (ct_crun K a) g H) (start N_checked_run vs) S := by
  obtain ⟨tv, b, v, q⟩ := g
  obtain ⟨e0, hT, h⟩ := h
  have e0 : vs = [tv, v] := e0
  subst e0
  have hT : TreeAt K a H tv b := hT
  have h : linesOk K H (nS b) v q := h
  refine ⟨⟨H, []⟩, Own.base H, ?_⟩
  unfold r_checked_run sCallD
  refine ret_go (cons_go ?_)
  refine use_len (i := 0) (v := tv) (b := b) (fun H' o => hT.ext (ext0 o)) hT ?_ (by rfl)
  refine ⟨(nS b, v, q), fun H1 o => ⟨rfl, h.ext (own_F o)⟩, fun H1 u H' o r => ?_, fun H1 c d H' o r => ?_⟩
  · obtain ⟨⟨xs, rfl, p, rfl, q1, q2⟩, q3⟩ := r
    refine ⟨_, o.new q1 q3 q2, fun H2 o2 => ?_⟩
    have m := o2.gs (p, .lst xs) (.head _)
    exact ⟨⟨xs, rfl, p, rfl, m.2, m.1⟩, fun c u e => o2.fr c u e⟩
  · obtain ⟨i, rfl, rfl, dd, rfl, q1, q2, q3⟩ := r
    refine ⟨_, o.new q1 q2 q3, fun H2 o2 => ?_⟩
    have m := o2.gs (dd, .xd [("index", .int i)]) (.head _)
    exact ⟨i, rfl, rfl, dd, rfl, m.2, fun c u e => o2.fr c u e, m.1⟩
theorem use_crun {W : sWX} {σ : L2.St} {F : Hp} {G : List (Addr × HO)} {Q : V → SH → Prop} {vs : List V} (tv : V) (b : TR) (v : V) (q : List V ⊕ Int) (e : vs = [tv, v]) (hT : TreeAt K a F tv b) (h : linesOk K F (nS b) v q)
    (k : ∀ xs p, q = .inl xs → Q (.ref p) ⟨F, (p, .lst xs) :: G⟩) (x : ∀ i d, q = .inr i → W (.ref a.InvalidLine) (some d) σ ⟨F, (d, .xd [("index", .int i)]) :: G⟩) : rC (ct_crun K a) W vs σ ⟨F, G⟩ Q := by
  refine ⟨(tv, b, v, q), fun H1 o => ⟨e, hT.ext (own_F o), h.ext (own_F o)⟩, fun H1 u H' o r => ?_, fun H1 c d H' o r => ?_⟩
  · obtain ⟨⟨xs, r0, p, rfl, q1, q2⟩, q3⟩ := r
    exact ⟨_, o.new q1 q3 q2, k xs p r0⟩
  · obtain ⟨i, r0, rfl, dd, rfl, q1, q2, q3⟩ := r
    exact ⟨_, o.new q1 q2 q3, x i dd r0⟩
end
section
variable {K : PySem.W.Frag} {a : Ads}
open TR
/-! ### the last three of the stack -/
theorem open_at : ∀ k ∈ List.range 3, decide (V.str (kdS k) = V.str "open") = (k == 0) := by decide +kernel
theorem three_eq (bs : List Bool) (h : bs.length ≤ 3) : PyData.eqv (.list (bs.map PyData.bool)) (.list [.bool true, .bool false, .bool false]) = (bs == [true, false, false]) ∧ SeqAt.shaped (.list (bs.map PyData.bool)) = true := by
  match bs, h with
  | [], _ => decide +kernel
  | [a], _ => cases a <;> decide +kernel
  | [a, b], _ => cases a <;> cases b <;> decide +kernel
  | [a, b, c], _ => cases a <;> cases b <;> cases c <;> decide +kernel
theorem dp_bools (H : Hp) : ∀ bs : List Bool, DpAll K H (bs.map V.bl) (bs.map PyData.bool)
  | [] => .nil
  | b :: bs => .cons (.bl b) (dp_bools H bs)
theorem cut_three (xs : List V) : cutV xs (some (-3)) none = xs.drop (xs.length - 3) := by
  unfold cutV
  rw [HT.sIx_none]
  have e : HT.sIx xs.length 0 (some (-3)) = xs.length - 3 := by
    show (if (-3 : Int) < 0 then ((-3 : Int) + (xs.length : Int)).toNat else min (-3 : Int).toNat xs.length) = _
    rw [if_pos (by decide)]
    omega
  rw [e]
  exact List.take_of_length_le (by rw [List.length_drop]; omega)
theorem vc_ends_fork {vs : List V} {H : Hp} (g : V × List PN) (h : (ct_ends_fork K).pre g vs H) : ∃ S, Own S H ∧ r_ends_fork K a (endsC (ct_ends_fork K) g H) (start N_ends_fork vs) S := by
  obtain ⟨u, st⟩ := g
  obtain ⟨rfl, ⟨p, xs, e1, hp, hx⟩, hl, hk⟩ := h
  have e1 : u = .ref p := e1
  subst e1
  have hx : MDs K H [] xs (st.map pnD) := hx
  have hk : ∀ n ∈ st, n.1 ≤ 2 := hk
  have lx : xs.length = st.length := by rw [hx.len, List.length_map]
  refine ⟨⟨H, []⟩, Own.base H, ?_⟩
  refine .inl ⟨xs, .inr hp, fun r => ?_⟩
  rw [cut_three]
  have hy := hx.drop (xs.length - 3)
  rw [← List.map_drop, lx] at hy
  generalize hY : xs.drop (xs.length - 3) = ys
  rw [lx] at hY
  rw [hY] at hy
  generalize hZ : st.drop (st.length - 3) = zs at hy
  have lz : zs.length ≤ 3 := by
    rw [← hZ, List.length_drop]
    omega
  have ly : ys.length = zs.length := by rw [hy.len, List.length_map]
  refine .inl ⟨ys, .inl ⟨0, rfl⟩, fun D => ?_⟩
  refine ⟨fun i S => S = ⟨H, [(D, .lst (((zs.take i).map fun n => n.1 == 0).map V.bl)), (r, .lst ys)]⟩, rfl, ?_, ?_, ?_⟩
  · rintro i S _ rfl
    exact .inl ⟨1, rfl⟩
  · rintro i S hi rfl v hv
    obtain ⟨d, hd, hv2⟩ := hy.at hv
    have hi : i < ys.length := hi
    rw [ly] at hi
    obtain ⟨n, hn⟩ : ∃ n, zs[i]? = some n := ⟨_, List.getElem?_eq_getElem hi⟩
    rw [List.getElem?_map, hn] at hd
    cases hd
    obtain ⟨q, ws, rfl, hq, hw⟩ := hv2.tupI
    cases hw with
    | cons h1 hw =>
      rw [h1.strI] at hq
      refine ⟨rfl, ?_⟩
      refine ⟨_, _, .inr (hq.s fun _ z => nomatch z), atI_at (i := 0) rfl, ?_⟩
      refine ⟨0, _, rfl, ?_, ⟨_, SLe.refl _, ?_⟩⟩
      · rw [List.length_map, List.length_map, List.length_take]
        exact small_of (show min i zs.length ≤ 100 by omega) (by decide)
      · show _ = SH.mk H [(D, .lst (((zs.take (i + 1)).map fun n => n.1 == 0).map V.bl)), (r, .lst ys)]
        rw [map_more hn, List.map_append]
        show SH.mk H [(D, .lst (_ ++ [V.bl (decide (V.str (kdS n.1) = V.str "open"))])), _] = _
        have hm : n ∈ st := by
          rw [← hZ] at hn
          exact List.mem_of_mem_drop (List.mem_of_getElem? hn)
        rw [open_at n.1 (List.mem_range.mpr (Nat.lt_succ_of_le (hk n hm)))]
        rfl
  · rintro S rfl
    have en : (itL K r ys).n = zs.length := ly
    rw [en, List.take_length]
    refine ⟨show 3 ≤ sizeLine by decide, fun D2 => ?_⟩
    obtain ⟨h1, h2⟩ := three_eq (zs.map fun n => n.1 == 0) (by rw [List.length_map]; exact lz)
    refine ⟨_, _, fun H' o => .lst (o.l (.inl ⟨1, rfl⟩)) (dp_bools _ _), fun H' o => .lst (o.l (.inl ⟨0, rfl⟩)) (dp_bools _ [true, false, false]), h2, by decide +kernel, ?_⟩
    show (endsC (ct_ends_fork K) (V.ref p, st) H).rt (V.bl (PyData.eqv (.list ((zs.map fun n => n.1 == 0).map PyData.bool)) (.list [.bool true, .bool false, .bool false]))) _
    rw [h1]
    intro H' o'
    refine ⟨?_, fun c u e => o'.fr c u e⟩
    show _ = V.bl (endsF st)
    unfold endsF
    rw [hZ]
end
section
variable {K : PySem.W.Frag} {a : Ads}
open TR
theorem run_step {t : List Nat} {i c : Nat} {s0 s fin : PS} (hc : t[i]? = some c) (h : runP (t.take i) 0 s0 = some s) (hf : runP t 0 s0 = some fin) : ∃ s3, stepP s i c = some s3 ∧ runP (t.take (i + 1)) 0 s0 = some s3 := by
  obtain ⟨hi, hc2⟩ := List.getElem?_eq_some_iff.mp hc
  have hl : (t.take i).length = i := by
    rw [List.length_take]
    omega
  have e : t.take i ++ c :: t.drop (i + 1) = t := by rw [← hc2, List.getElem_cons_drop, List.take_append_drop]
  have hf2 : runP (t.take i ++ c :: t.drop (i + 1)) 0 s0 = some fin := by rw [e]; exact hf
  rw [runP_app, h, hl, Nat.zero_add] at hf2
  have hf3 : (stepP s i c).bind (fun s2 => runP (t.drop (i + 1)) (i + 1) s2) = some fin := hf2
  cases hs : stepP s i c with
  | none =>
    rw [hs] at hf3
    cases hf3
  | some s3 =>
    refine ⟨s3, rfl, ?_⟩
    rw [take_more hc, runP_app, h, hl, Nat.zero_add]
    show (stepP s i c).bind (fun s2 => some s2) = _
    rw [hs]
    rfl
theorem joinP_is {st : List PN} {rows : List TR.Row} {n p : Nat} {s3 : PS} (h : joinP st rows n p = some s3) : ∃ rest o l r, st = rest ++ [o, l, r] ∧ s3 = (rest ++ [(2, l.2.2.2.1, l.2.2.1, r.2.2.2.1, o.2.2.2.2)], rows ++ [(l.2.2.2.1, (l.1, l.2.1), (r.1, r.2.1), (l.2.2.1, r.2.2.2.1), (o.2.2.2.2, p + 1))], n) := by
  unfold joinP at h
  split at h
  · rename_i r l o rest er
    refine ⟨rest.reverse, o, l, r, ?_, (Option.some.inj h).symm⟩
    have := congrArg List.reverse er
    rw [List.reverse_reverse] at this
    rw [this, List.reverse_cons, List.reverse_cons, List.reverse_cons, List.append_assoc, List.append_assoc]
    rfl
  · cases h
theorem mds_split {F : Hp} {G : List (Addr × HO)} : ∀ {ds es : List PyData} {vs : List V}, MDs K F G vs (ds ++ es) → ∃ v1 v2, vs = v1 ++ v2 ∧ MDs K F G v1 ds ∧ MDs K F G v2 es
  | [], es, vs, h => ⟨[], vs, rfl, .nil, h⟩
  | d :: ds, es, vs, h => by
    cases h with
    | cons h1 h2 =>
      obtain ⟨v1, v2, e, a1, a2⟩ := mds_split (ds := ds) h2
      exact ⟨_ :: v1, v2, by rw [e]; rfl, .cons h1 a1, a2⟩
theorem at2_2 {E : List (Addr × HO)} {x y : Addr × HO} : (E ++ [x, y])[E.length + 1]? = some y := by
  rw [List.getElem?_append_right (by omega), show E.length + 1 - E.length = 1 by omega]
  rfl
theorem set2_2 {E : List (Addr × HO)} {x y z : Addr × HO} : (E ++ [x, y]).set (E.length + 1) z = E ++ [x, z] := by
  rw [List.set_append_right _ _ (by omega), show E.length + 1 - E.length = 1 by omega]
  rfl
theorem pushS {H : Hp} {E : List (Addr × HO)} {x : Addr × HO} {ps : Addr} {sv : List V} {y : V} {Q : V → SH → Prop} (hl : sv.length < sizeLine) (h : Q .non ⟨H, E ++ [x, (ps, .lst (sv ++ [y]))]⟩) : mAppend (.ref ps) [y] ⟨H, E ++ [x, (ps, .lst sv)]⟩ Q := by
  refine ⟨E.length + 1, sv, at2_2, hl, ?_⟩
  show Q .non ⟨H, (E ++ [x, (ps, .lst sv)]).set (E.length + 1) (ps, .lst (sv ++ [y]))⟩
  rw [set2_2]
  exact h
theorem popS {H : Hp} {E : List (Addr × HO)} {x : Addr × HO} {ps : Addr} {sv : List V} {y : V} {Q : V → SH → Prop} (h : Q y ⟨H, E ++ [x, (ps, .lst sv)]⟩) : mPop (.ref ps) [] ⟨H, E ++ [x, (ps, .lst (sv ++ [y]))]⟩ Q := by
  refine ⟨E.length + 1, sv ++ [y], y, at2_2, ?_, ?_⟩
  · rw [List.length_append, List.length_singleton, Nat.add_sub_cancel, List.getElem?_append_right (Nat.le_refl _), Nat.sub_self]
    rfl
  · show Q y ⟨H, (E ++ [x, (ps, .lst (sv ++ [y]))]).set (E.length + 1) (ps, .lst (sv ++ [y]).dropLast)⟩
    rw [set2_2, List.dropLast_concat]
    exact h
theorem tyS {H : Hp} {E : List (Addr × HO)} {x : Addr × HO} {ps : Addr} {sv : List V} : sTy K "list" (.ref ps) ⟨H, E ++ [x, (ps, .lst sv)]⟩ := .inl ⟨rfl, sv, .inl ⟨_, at2_2⟩⟩
theorem tyR {H : Hp} {E G : List (Addr × HO)} {pr : Addr} {rv : List V} : sTy K "list" (.ref pr) ⟨H, E ++ (pr, .lst rv) :: G⟩ := .inl ⟨rfl, rv, .inl ⟨_, at_mid⟩⟩
theorem pn_open {F : Hp} {G : List (Addr × HO)} {v : V} {n : PN} (h : MD K F G v (pnD n)) : ∃ p, v = .ref p ∧ mT K F G p [.str (kdS n.1), .int (n.2.1 : Nat), .int (n.2.2.1 : Nat), .int (n.2.2.2.1 : Nat), .int (n.2.2.2.2 : Nat)] := by
  obtain ⟨p, xs, rfl, hp, hx⟩ := h.tupI
  cases hx with
  | cons h1 hx =>
    cases hx with
    | cons h2 hx =>
      cases hx with
      | cons h3 hx =>
        cases hx with
        | cons h4 hx =>
          cases hx with
          | cons h5 hx =>
            cases hx
            rw [h1.strI, h2.intI, h3.intI, h4.intI, h5.intI] at hp
            exact ⟨p, rfl, hp⟩
theorem pn_make {F : Hp} {G : List (Addr × HO)} {p : Addr} (n : PN) (h : mT K F G p [.str (kdS n.1), .int (n.2.1 : Nat), .int (n.2.2.1 : Nat), .int (n.2.2.2.1 : Nat), .int (n.2.2.2.2 : Nat)]) : MD K F G (.ref p) (pnD n) :=
  .tup h (.cons (.str _) (.cons (.int _) (.cons (.int _) (.cons (.int _) (.cons (.int _) .nil)))))
theorem nd_make {F : Hp} {G : List (Addr × HO)} {p : Addr} (n : Nat × Nat) (h : mT K F G p [.str (kdS n.1), .int (n.2 : Nat)]) : MD K F G (.ref p) (ndD n) := .tup h (.cons (.str _) (.cons (.int _) .nil))
theorem rowR.sub {H : Hp} {G G' : List (Addr × HO)} {v : V} {r : TR.Row} (h : rowR K G H v r) (s : G ⊆ G') : rowR K G' H v r := by
  obtain ⟨t, r1, r2, r3, r4, e, h1, h2, h3, h4⟩ := h
  refine ⟨t, r1, r2, r3, r4, e, ?_, h2.sub s, h3.sub s, h4.sub s⟩
  rcases h1 with ⟨i, hi⟩ | h1
  · exact .inl (List.mem_iff_getElem?.mp (s (List.mem_of_getElem? hi)))
  · exact .inr h1
theorem rowR.own {H H' : Hp} {G : List (Addr × HO)} {v : V} {r : TR.Row} (h : rowR K G H v r) (o : Own ⟨H, G⟩ H') : rowR K [] H' v r := by
  obtain ⟨t, r1, r2, r3, r4, e, h1, h2, h3, h4⟩ := h
  exact ⟨t, r1, r2, r3, r4, e, .inr (o.at h1), h2.own o, h3.own o, h4.own o⟩
theorem pr_make {F : Hp} {G : List (Addr × HO)} {p : Addr} (n : Nat × Nat) (h : mT K F G p [.int (n.1 : Nat), .int (n.2 : Nat)]) : MD K F G (.ref p) (prD n) := .tup h (.cons (.int _) (.cons (.int _) .nil))
theorem use_ends {W : sWX} {σ : L2.St} {S : SH} {Q : V → SH → Prop} {vs : List V} (v : V) (st : List PN) (e : vs = [v]) (hv : ∀ H, Own S H → ∃ p xs, v = .ref p ∧ SqL K H p xs ∧ MDs K H [] xs (st.map pnD)) (hl : st.length ≤ 1000) (hk : ∀ n ∈ st, n.1 ≤ 2) (h : Q (.bl (endsF st)) S) : rC (ct_ends_fork K) W vs σ S Q :=
  ⟨(v, st), fun H o => ⟨e, hv H o, hl, hk⟩, fun H v H' o q => ⟨S, o.ex q.2, by rw [q.1]; exact h⟩, fun _ _ _ _ _ q => q.elim⟩
theorem ch_eq {c d : Nat} (h : V.str ⟨#[c]⟩ = V.str ⟨#[d]⟩) : c = d := by
  have := congrArg Str.cps (V.str.inj h)
  exact List.head_eq_of_cons_eq (congrArg Array.toList this)
theorem ch_open : V.str "(" = V.str ⟨#[40]⟩ := by rfl
theorem ch_dot : V.str "." = V.str ⟨#[46]⟩ := by rfl
theorem ch_close : V.str ")" = V.str ⟨#[41]⟩ := by rfl
theorem not_whole {x0 x1 x2 x3 x4 : V} : ¬ (HT.sIx ([x0, x1, x2, x3, x4] : List V).length 0 none = 0 ∧ HT.sIx ([x0, x1, x2, x3, x4] : List V).length ([x0, x1, x2, x3, x4] : List V).length (some 2) = ([x0, x1, x2, x3, x4] : List V).length) := by
  show ¬ (0 = 0 ∧ min 2 5 = 5)
  decide
theorem vc_read_forks {vs : List V} {H : Hp} (b : TR) (h : (ct_read_forks K).pre b vs H) : ∃ S, Own S H ∧ r_read_forks K a (endsC (ct_read_forks K) b H) (start N_read_forks vs) S := by
  obtain ⟨rfl, hb64⟩ := h
  have tl := txt_len b
  have hf : runP (txt b) 0 ([], [], 0) = some ([pnB b 0 0], rowsB b 0 0, nS b) := by
    rw [parse_ok, Nat.zero_add]
    rfl
  refine ⟨⟨H, []⟩, Own.base H, ?_⟩
  refine ⟨Nat.zero_le _, fun ps => ?_⟩
  refine ⟨Nat.zero_le _, fun pr => ?_⟩
  refine ⟨fun i σ S => ∃ (st : List PN) (rows : List TR.Row) (n : Nat) (E : List (Addr × HO)) (sv rv : List V) (x4 x5 x6 x7 x8 x9 x10 x11 : Option V), i ≤ (txt b).length ∧ runP ((txt b).take i) 0 ([], [], 0) = some (st, rows, n) ∧ st.length ≤ i ∧ rows.length ≤ i ∧ (∀ k ∈ st, k.1 ≤ 2) ∧ MDs K H E sv (st.map pnD) ∧ allV (rowR K E H) rv rows ∧
    σ = [some (.str (tS b)), some (.ref ps), some (.ref pr), some (.int (n : Nat)), x4, x5, x6, x7, x8, x9, x10, x11] ∧ S = ⟨H, E ++ [(pr, .lst rv), (ps, .lst sv)]⟩, ?_, fun _ _ _ _ _ => trivial, ?_, ?_⟩
  · exact ⟨[], [], 0, [], [], [], none, none, none, none, none, none, none, none, Nat.zero_le _, rfl, Nat.le_refl _, Nat.le_refl _, (fun _ z => nomatch z), .nil, trivial, rfl, rfl⟩
  · rintro i σ S hi ⟨st, rows, n, E, sv, rv, x4, x5, x6, x7, x8, x9, x10, x11, _, hrun, hsl, hrl, hk, hsv, hrv, rfl, rfl⟩ c hc pp
    have hc : (txt b)[i]? = some c := by
      have : (tS b).cps.toList[i]? = some c := by
        rw [Array.getElem?_toList]
        exact hc
      exact this
    have hi : i < (txt b).length := (List.getElem?_eq_some_iff.mp hc).1
    obtain ⟨s3, hs3, hrun3⟩ := run_step hc hrun hf
    have lsv : sv.length = st.length := by rw [hsv.len, List.length_map]
    have lrv : rv.length = rows.length := allV_len hrv
    refine ⟨_, .inl ⟨0, rfl⟩, rfl, ?_⟩
    unfold stepP at hs3
    walk_at "b"
    · rename_i hb
      have e40 : c = 40 := ch_eq (hb.trans ch_open)
      rw [if_pos e40] at hs3
      cases hs3
      refine ⟨tyS (E := (pp, .tup [.int (i : Nat), .str ⟨#[c]⟩]) :: E), ?_⟩
      refine ⟨show 5 ≤ sizeLine by decide, fun p => ?_⟩
      refine nil_go ?_
      refine pushS (E := (p, .tup [.str "open", .int 0, .int 0, .int 0, .int (i : Nat)]) :: (pp, .tup [.int (i : Nat), .str ⟨#[c]⟩]) :: E) (small_of (show sv.length ≤ 200 by omega) (by decide)) ?_
      refine ⟨_, SLe.refl _, _, _, n, _, _, rv, _, _, _, _, _, _, _, _, hi, hrun3, ?_, by show rows.length ≤ _; omega, ?_, ?_, ?_, rfl, rfl⟩
      · show (st ++ [_]).length ≤ _
        rw [List.length_append, List.length_singleton]
        omega
      · intro k hkm
        rcases List.mem_append.mp hkm with hkm | hkm
        · exact hk k hkm
        · rw [List.mem_singleton.mp hkm]
          exact Nat.zero_le _
      · show MDs K H _ _ ((st ++ [_]).map pnD)
        rw [List.map_append]
        exact (hsv.sub fun z hz => .tail _ (.tail _ hz)).snoc (pn_make (0, 0, 0, 0, i) (.inl (.head _)))
      · exact allV_ex (fun _ _ y => y.sub fun z hz => .tail _ (.tail _ hz)) hrv
    · rename_i hb
      have e40 : ¬ c = 40 := fun e => hb (by rw [e]; rfl)
      rw [if_neg e40] at hs3
      walk_at "b"
      · rename_i hb2
        have e46 : c = 46 := ch_eq (hb2.trans ch_dot)
        rw [if_pos e46] at hs3
        cases hs3
        refine ⟨tyS (E := (pp, .tup [.int (i : Nat), .str ⟨#[c]⟩]) :: E), ?_⟩
        refine ⟨show 5 ≤ sizeLine by decide, fun p => ?_⟩
        refine nil_go ?_
        refine pushS (E := (p, .tup [.str "slot", .int (n : Nat), .int (n : Nat), .int (n : Nat), .int (i : Nat)]) :: (pp, .tup [.int (i : Nat), .str ⟨#[c]⟩]) :: E) (small_of (show sv.length ≤ 200 by omega) (by decide)) ?_
        refine ⟨_, SLe.refl _, _, _, n + 1, _, _, rv, _, _, _, _, _, _, _, _, hi, hrun3, ?_, by show rows.length ≤ _; omega, ?_, ?_, ?_, rfl, rfl⟩
        · show (st ++ [_]).length ≤ _
          rw [List.length_append, List.length_singleton]
          omega
        · intro k hkm
          rcases List.mem_append.mp hkm with hkm | hkm
          · exact hk k hkm
          · rw [List.mem_singleton.mp hkm]
            show 1 ≤ 2
            decide
        · show MDs K H _ _ ((st ++ [_]).map pnD)
          rw [List.map_append]
          exact (hsv.sub fun z hz => .tail _ (.tail _ hz)).snoc (pn_make (1, n, n, n, i) (.inl (.head _)))
        · exact allV_ex (fun _ _ y => y.sub fun z hz => .tail _ (.tail _ hz)) hrv
      · rename_i hb2
        have e46 : ¬ c = 46 := fun e => hb2 (by rw [e]; rfl)
        rw [if_neg e46] at hs3
        by_cases hcl : c = 41 ∧ endsF st = true
        · rw [if_pos hcl] at hs3
          obtain ⟨e41, hen⟩ := hcl
          obtain ⟨rest, o, l, r, est, es3⟩ := joinP_is hs3
          have est : st = rest ++ [o, l, r] := est
          have es3 : s3 = (rest ++ [(2, l.2.2.2.1, l.2.2.1, r.2.2.2.1, o.2.2.2.2)], rows ++ [(l.2.2.2.1, (l.1, l.2.1), (r.1, r.2.1), (l.2.2.1, r.2.2.2.1), (o.2.2.2.2, i + 1))], n) := es3
          walk_at "b"
          · refine use_ends (.ref ps) st (by rfl) ?_ (by omega) hk ?_
            · refine fun H' o' => ⟨ps, sv, rfl, o'.l (.inl ⟨_, at2_2 (E := (pp, .tup [.int (i : Nat), .str ⟨#[c]⟩]) :: E)⟩), ?_⟩
              exact (hsv.sub fun z hz => .tail _ (List.mem_append_left _ hz)).own o'
            · rw [hen]
              have hsv2 := hsv
              rw [est, List.map_append] at hsv2
              obtain ⟨s0, s3v, esv, m0, m3⟩ := mds_split hsv2
              subst esv
              cases m3 with
              | cons mo m3 =>
                cases m3 with
                | cons ml m3 =>
                  cases m3 with
                  | cons mr m3 =>
                    cases m3
                    rename_i vo vl vr
                    obtain ⟨ao, rfl, ho⟩ := pn_open mo
                    obtain ⟨al, rfl, hl⟩ := pn_open ml
                    obtain ⟨ar, rfl, hr⟩ := pn_open mr
                    have ls0 : s0.length + 3 ≤ i := by
                      have : (s0 ++ [V.ref ao, .ref al, .ref ar]).length = s0.length + 3 := by rw [List.length_append]; rfl
                      omega
                    have es1 : s0 ++ [V.ref ao, .ref al, .ref ar] = ((s0 ++ [V.ref ao]) ++ [.ref al]) ++ [.ref ar] := by
                      rw [List.append_assoc, List.append_assoc]
                      rfl
                    rw [es1]
                    refine ⟨tyS (E := (pp, .tup [.int (i : Nat), .str ⟨#[c]⟩]) :: E), ?_⟩
                    refine nil_go ?_
                    refine popS (E := (pp, .tup [.int (i : Nat), .str ⟨#[c]⟩]) :: E) ?_
                    refine ⟨tyS (E := (pp, .tup [.int (i : Nat), .str ⟨#[c]⟩]) :: E), ?_⟩
                    refine nil_go ?_
                    refine popS (E := (pp, .tup [.int (i : Nat), .str ⟨#[c]⟩]) :: E) ?_
                    refine ⟨_, _, .inr (hl.s fun z hz => .tail _ (List.mem_append_left _ hz)), atI_at (i := 2) rfl, ?_⟩
                    refine ⟨_, _, .inr (hl.s fun z hz => .tail _ (List.mem_append_left _ hz)), atI_at (i := 3) rfl, ?_⟩
                    refine ⟨_, _, .inr (hr.s fun z hz => .tail _ (List.mem_append_left _ hz)), atI_at (i := 3) rfl, ?_⟩
                    refine ⟨tyS (E := (pp, .tup [.int (i : Nat), .str ⟨#[c]⟩]) :: E), ?_⟩
                    refine nil_go ?_
                    refine popS (E := (pp, .tup [.int (i : Nat), .str ⟨#[c]⟩]) :: E) ?_
                    refine ⟨_, _, .inr (ho.s fun z hz => .tail _ (List.mem_append_left _ hz)), atI_at (i := 4) rfl, ?_⟩
                    refine ⟨show 4 ≤ sizeLine by decide, fun pt => ?_⟩
                    refine ⟨_, .inl ⟨0, rfl⟩, rfl, ?_⟩
                    refine ⟨tyR (E := (pt, .tup [.int (l.2.2.1 : Nat), .int (l.2.2.2.1 : Nat), .int (r.2.2.2.1 : Nat), .int (o.2.2.2.2 : Nat)]) :: (pp, .tup [.int (i : Nat), .str ⟨#[c]⟩]) :: E), ?_⟩
                    refine .inr ⟨_, hl.s fun z hz => .tail _ (.tail _ (List.mem_append_left _ hz)), not_whole, fun q1 => ?_⟩
                    refine .inr ⟨_, hr.s fun z hz => .tail _ (.tail _ (.tail _ (List.mem_append_left _ hz))), not_whole, fun q2 => ?_⟩
                    refine ⟨show 2 ≤ sizeLine by decide, fun q3 => ?_⟩
                    refine ⟨show 2 ≤ sizeLine by decide, fun q4 => ?_⟩
                    refine ⟨show 5 ≤ sizeLine by decide, fun q5 => ?_⟩
                    refine nil_go ?_
                    generalize hE : ([(q5, HO.tup [.int (l.2.2.2.1 : Nat), .ref q1, .ref q2, .ref q3, .ref q4]), (q4, .tup [.int (o.2.2.2.2 : Nat), .int (i + 1)]), (q3, .tup [.int (l.2.2.1 : Nat), .int (r.2.2.2.1 : Nat)]), (q2, .tup [.str (kdS r.1), .int (r.2.1 : Nat)]), (q1, .tup [.str (kdS l.1), .int (l.2.1 : Nat)]), (pt, .tup [.int (l.2.2.1 : Nat), .int (l.2.2.2.1 : Nat), .int (r.2.2.2.1 : Nat), .int (o.2.2.2.2 : Nat)]), (pp, .tup [.int (i : Nat), .str ⟨#[c]⟩])] ++ E : List (Addr × HO)) = E2
                    have sE : E ⊆ E2 := fun z hz => by
                      rw [← hE]
                      exact List.mem_append_right _ hz
                    have m5 : (q5, HO.tup [.int (l.2.2.2.1 : Nat), .ref q1, .ref q2, .ref q3, .ref q4]) ∈ E2 := by
                      rw [← hE]
                      exact .head _
                    have m2 : (q2, HO.tup [.str (kdS r.1), .int (r.2.1 : Nat)]) ∈ E2 := by
                      rw [← hE]
                      exact .tail _ (.tail _ (.tail _ (.head _)))
                    have m3 : (q3, HO.tup [.int (l.2.2.1 : Nat), .int (r.2.2.2.1 : Nat)]) ∈ E2 := by
                      rw [← hE]
                      exact .tail _ (.tail _ (.head _))
                    have m1 : (q1, HO.tup [.str (kdS l.1), .int (l.2.1 : Nat)]) ∈ E2 := by
                      rw [← hE]
                      exact .tail _ (.tail _ (.tail _ (.tail _ (.head _))))
                    show mAppend (.ref pr) [.ref q5] ⟨H, ([(q5, HO.tup [.int (l.2.2.2.1 : Nat), .ref q1, .ref q2, .ref q3, .ref q4]), (q4, .tup [.int (o.2.2.2.2 : Nat), .int (i + 1)]), (q3, .tup [.int (l.2.2.1 : Nat), .int (r.2.2.2.1 : Nat)]), (q2, .tup [.str (kdS r.1), .int (r.2.1 : Nat)]), (q1, .tup [.str (kdS l.1), .int (l.2.1 : Nat)]), (pt, .tup [.int (l.2.2.1 : Nat), .int (l.2.2.2.1 : Nat), .int (r.2.2.2.1 : Nat), .int (o.2.2.2.2 : Nat)]), (pp, .tup [.int (i : Nat), .str ⟨#[c]⟩])] ++ E) ++ [(pr, .lst rv), (ps, .lst s0)]⟩ _
                    rw [hE]
                    refine app_go (small_of (show rv.length ≤ 200 by omega) (by decide)) ?_
                    refine ⟨tyS, ?_⟩
                    refine ⟨show 5 ≤ sizeLine by decide, fun q6 => ?_⟩
                    refine nil_go ?_
                    refine pushS (E := (q6, .tup [.str "fork", .int (l.2.2.2.1 : Nat), .int (l.2.2.1 : Nat), .int (r.2.2.2.1 : Nat), .int (o.2.2.2.2 : Nat)]) :: E2) (small_of (show s0.length ≤ 200 by omega) (by decide)) ?_
                    refine ⟨_, SLe.refl _, _, _, n, _, _, _, _, _, _, _, _, _, _, _, hi, hrun3.trans (congrArg some es3), ?_, ?_, ?_, ?_, ?_, rfl, rfl⟩
                    · rw [List.length_append, List.length_singleton]
                      have : st.length = rest.length + 3 := by rw [est, List.length_append]; rfl
                      omega
                    · rw [List.length_append, List.length_singleton]
                      omega
                    · intro k hkm
                      rcases List.mem_append.mp hkm with hkm | hkm
                      · exact hk k (by rw [est]; exact List.mem_append_left _ hkm)
                      · rw [List.mem_singleton.mp hkm]
                        exact Nat.le_refl _
                    · rw [List.map_append]
                      exact (m0.sub fun z hz => .tail _ (sE hz)).snoc (pn_make (2, l.2.2.2.1, l.2.2.1, r.2.2.2.1, o.2.2.2.2) (.inl (.head _)))
                    · refine allV_snoc ⟨q5, .ref q1, .ref q2, .ref q3, .ref q4, rfl, ?_, nd_make (l.1, l.2.1) (.inl (.tail _ m1)), nd_make (r.1, r.2.1) (.inl (.tail _ m2)), pr_make (l.2.2.1, r.2.2.2.1) (.inl (.tail _ m3))⟩ (allV_ex (fun _ _ y => y.sub fun z hz => .tail _ (sE hz)) hrv)
                      exact .inl (List.mem_iff_getElem?.mp (List.mem_cons_of_mem _ m5))
          · rename_i hb3
            exact absurd (show V.str ⟨#[c]⟩ = V.str ")" by rw [e41]; rfl) hb3
        · rw [if_neg hcl] at hs3
          cases hs3
  · rintro σ S ⟨st, rows, n, E, sv, rv, x4, x5, x6, x7, x8, x9, x10, x11, _, hrun, hsl, hrl, hk, hsv, hrv, rfl, rfl⟩
    have en : (itES (tS b)).n = (txt b).length := rfl
    rw [en, List.take_length, hf] at hrun
    cases hrun
    obtain ⟨sv0, rfl⟩ : ∃ v0, sv = [v0] := by
      have : sv.length = 1 := hsv.len
      exact List.length_eq_one_iff.mp this
    cases hsv with
    | cons h0 _ =>
      obtain ⟨p0, rfl, hp0⟩ := pn_open h0
      refine ⟨_, .inl (.inl ⟨_, at2_2⟩), ?_⟩
      refine ⟨_, _, .inl (.inl ⟨_, at2_2⟩), atI_at (i := 0) rfl, ?_⟩
      refine ⟨_, _, .inr (hp0.s fun z hz => List.mem_append_left _ hz), atI_at (i := 0) rfl, ?_⟩
      have ek : decide (V.str (kdS (pnB b 0 0).1) = V.str "open") = false := by
        rw [open_at (pnB b 0 0).1 (List.mem_range.mpr (by
          cases b with
          | leaf => decide
          | node l r =>
            show 2 < 3
            decide))]
        exact pn_kind b 0 0
      conv => whnf
      rw [ek]
      intro H' o'
      have m := o'.gs (pr, .lst rv) (List.mem_append_right _ (.head _))
      exact ⟨⟨pr, rv, rfl, m.2, m.1, allV_ex (fun v r y => (y.sub fun z hz => List.mem_append_left _ hz).own o') hrv⟩, fun c u e => o'.fr c u e⟩
end
section
variable {K : PySem.W.Frag} {a : Ads}
open TR
def jobD (j : Job) : PyData := .tuple [ndD (ndB j.1 j.2.1), wyD j.2.2]
theorem nd_open {F : Hp} {G : List (Addr × HO)} {v : V} {n : Nat × Nat} (h : MD K F G v (ndD n)) : ∃ p, v = .ref p ∧ mT K F G p [.str (kdS n.1), .int (n.2 : Nat)] := by
  obtain ⟨p, xs, rfl, hp, hx⟩ := h.tupI
  cases hx with
  | cons h1 hx =>
    cases hx with
    | cons h2 hx =>
      cases hx
      rw [h1.strI, h2.intI] at hp
      exact ⟨p, rfl, hp⟩
theorem con_go {v : V} {W : sWX} {σ : L2.St} {S : SH} {Q : V → SH → Prop} (h : Q v S) : sC v W σ S Q := h
theorem push_job {W : sWX} {σ : L2.St} {F : Hp} {N E1 B : List (Addr × HO)} {st : Addr} {sv : List V} {Q : SH → Prop} {i f : Nat} {x : Str} {q : Addr} {vw : V} {w : Way} {c : Bool} {nd : Nat × Nat} {LL : List (Nat × Nat)} (hi : σ[i]? = some (some (.ref q))) (h5 : σ[5]? = some (some (.ref st))) (h7 : σ[7]? = some (some (.int (f : Nat)))) (h8 : σ[8]? = some (some vw))
    (hx : x = sdS c) (hL : MD K F N (.ref q) (.tuple (LL.map ndD))) (hf : LL[f]? = some nd) (hw : MD K F N vw (wyD w)) (hl : w.length ≤ 100) (hs : N ⊆ E1 ++ (st, .lst sv) :: B) (hsv : sv.length ≤ 200)
    (k : ∀ v E', MD K F (E' ++ N) v (.tuple [ndD nd, wyD (w ++ [(f, c)])]) → Q ⟨F, (E' ++ E1) ++ (st, .lst (sv ++ [v])) :: B⟩) :
    sMt K "list" mAppend (sVar 5) (sCons (sTup (sCons (sOp (oIx K) (sVar i) (sVar 7)) (sCons (sOp (oAddT K) (sVar 8) (sTup (sCons (sTup (sCons (sVar 7) (sCons (sC (.str x)) sNil))) sNil))) sNil))) sNil) W σ ⟨F, E1 ++ (st, .lst sv) :: B⟩ fun _ S => Q S := by
  subst hx
  obtain ⟨q2, xs, e2, hq, hxs⟩ := hL.tupI
  cases e2
  obtain ⟨u, hu, mu⟩ := hxs.get (i := f) (d := ndD nd) (by rw [List.getElem?_map, hf]; rfl)
  obtain ⟨pw, ws, rfl, hpw, hws⟩ := MD.tupI (show MD K F N vw (.tuple _) from hw)
  have lws : ws.length = w.length := by rw [hws.len, List.length_map]
  refine mt_go (var_go h5 ⟨tyR, ?_⟩)
  refine cons_go (tup_go (cons_go (op_go (var_go hi (var_go h7 ?_)))))
  refine ⟨_, u, .inr (hq.s hs), atI_at hu, ?_⟩
  refine cons_go (op_go (var_go h8 ?_))
  refine tup_go (cons_go (tup_go (cons_go (var_go h7 (cons_go (con_go (nil_go ?_)))))))
  refine ⟨show 2 ≤ sizeLine by decide, fun t2 => ?_⟩
  refine nil_go ⟨show 1 ≤ sizeLine by decide, fun t3 => ?_⟩
  have fin : ∀ (uw : V) (E' : List (Addr × HO)), MD K F (E' ++ N) uw (wyD (w ++ [(f, c)])) → ∀ p5, Q ⟨F, ((p5, .tup [u, uw]) :: E' ++ E1) ++ (st, .lst (sv ++ [.ref p5])) :: B⟩ := fun uw E' hm p5 => by
    refine k (.ref p5) ((p5, .tup [u, uw]) :: E') ?_
    refine .tup (.inl (.head _)) (.cons (mu.sub fun z hz => .tail _ (List.mem_append_right _ hz)) (.cons (hm.sub fun z hz => .tail _ hz) .nil))
  have m2 : ∀ R : List (Addr × HO), MD K F ((t3, .tup [.ref t2]) :: (t2, .tup [.int (f : Nat), .str (sdS c)]) :: R) (.ref t2) (stD (f, c)) := fun R => .tup (.inl (.tail _ (.head _))) (.cons (.int _) (.cons (.str _) .nil))
  refine ⟨ws, [.ref t2], (hpw.s fun z hz => .tail _ (.tail _ (hs hz))), .inl ⟨0, rfl⟩, ?_, fun e => ?_, (fun _ e => nomatch e), fun ne _ r => ?_⟩
  · rw [lws]
    exact Nat.le_trans (show w.length + 1 ≤ 200 by omega) (by decide)
  · refine nil_go ⟨show 2 ≤ sizeLine by decide, fun p5 => ?_⟩
    refine nil_go (app_go (E := (p5, .tup [u, .ref t3]) :: (t3, .tup [.ref t2]) :: (t2, .tup [.int (f : Nat), .str (sdS c)]) :: E1) (small_of hsv (by decide)) ?_)
    have : w = [] := by
      subst e
      exact List.length_eq_zero_iff.mp lws.symm
    subst this
    exact fin (.ref t3) [(t3, .tup [.ref t2]), (t2, .tup [.int (f : Nat), .str (sdS c)])] (.tup (.inl (.head _)) (.cons (m2 N) .nil)) p5
  · refine nil_go ⟨show 2 ≤ sizeLine by decide, fun p5 => ?_⟩
    refine nil_go (app_go (E := (p5, .tup [u, .ref r]) :: (r, .tup (ws ++ [.ref t2])) :: (t3, .tup [.ref t2]) :: (t2, .tup [.int (f : Nat), .str (sdS c)]) :: E1) (small_of hsv (by decide)) ?_)
    refine fin (.ref r) [(r, .tup (ws ++ [.ref t2])), (t3, .tup [.ref t2]), (t2, .tup [.int (f : Nat), .str (sdS c)])] (.tup (.inl (.head _)) ?_) p5
    rw [List.map_append]
    exact (hws.sub fun z hz => .tail _ (.tail _ (.tail _ hz))).snoc ((m2 N).sub fun z hz => .tail _ hz)
theorem app_at {F : Hp} {E A B : List (Addr × HO)} {D : Addr} {acc : List V} {y : V} {Q : V → SH → Prop} (ha : acc.length < sizeLine) (h : Q .non ⟨F, E ++ (A ++ (D, .lst (acc ++ [y])) :: B)⟩) : mAppend (.ref D) [y] ⟨F, E ++ (A ++ (D, .lst acc) :: B)⟩ Q := by
  rw [← List.append_assoc] at h ⊢
  exact app_go ha h
theorem pop_at {F : Hp} {E B : List (Addr × HO)} {D : Addr} {acc : List V} {y : V} {Q : V → SH → Prop} (h : Q y ⟨F, E ++ (D, .lst acc) :: B⟩) : mPop (.ref D) [] ⟨F, E ++ (D, .lst (acc ++ [y])) :: B⟩ Q := by
  refine ⟨E.length, acc ++ [y], y, at_mid, ?_, ?_⟩
  · rw [List.length_append, List.length_singleton, Nat.add_sub_cancel, List.getElem?_append_right (Nat.le_refl _), Nat.sub_self]
    rfl
  · show Q y ⟨F, (E ++ (D, .lst (acc ++ [y])) :: B).set E.length (D, .lst (acc ++ [y]).dropLast)⟩
    rw [set_mid, List.dropLast_concat]
    exact h
theorem slot_at : ∀ k ∈ List.range 3, decide (V.str (kdS k) = V.str "slot") = (k == 1) := by decide +kernel
theorem jobS_app (js : List Job) (j : Job) : jobS (js ++ [j]) = jobS js + (2 * nS j.1 - 1) := by
  unfold jobS
  rw [List.map_append, List.sum_append]
  rfl
theorem jobS_len : ∀ js : List Job, js.length ≤ jobS js
  | [] => Nat.le_refl 0
  | j :: js => by
    have := jobS_len js
    have := nS_pos j.1
    show js.length + 1 ≤ (2 * nS j.1 - 1) + jobS js
    omega
theorem flat_snoc (js : List Job) (j : Job) : (js ++ [j]).reverse.flatMap jobW = jobW j ++ js.reverse.flatMap jobW := by
  rw [List.reverse_append]
  rfl
theorem sub_st {E A : List (Addr × HO)} {x : Addr × HO} {R : List (Addr × HO)} : E ++ A ⊆ E ++ x :: (A ++ R) := fun z hz => (List.mem_append.mp hz).elim (fun h => List.mem_append_left _ h) fun h => List.mem_append_right _ (.tail _ (List.mem_append_left _ h))
theorem vc_lay_ways {vs : List V} {H : Hp} (g : TR × V × V × V × List (Nat × Nat) × List (Nat × Nat)) (h : (ct_lay_ways K).pre g vs H) : ∃ S, Own S H ∧ r_lay_ways K a (endsC (ct_lay_ways K) g H) (start N_lay_ways vs) S := by
  obtain ⟨b, rv, lv, iv, L, R⟩ := g
  obtain ⟨rfl, hb, hr, hL, hR, hfit⟩ := h
  have hb : nS b ≤ 64 := hb
  have hr : MD K H [] rv (ndD (ndB b 0)) := hr
  have hL : MD K H [] lv (.tuple (L.map ndD)) := hL
  have hR : MD K H [] iv (.tuple (R.map ndD)) := hR
  have hfit : Fits b 0 L R := hfit
  have hp := nS_pos b
  obtain ⟨ql, _, rfl, _, _⟩ := hL.tupI
  obtain ⟨qr, _, rfl, _, _⟩ := hR.tupI
  refine ⟨⟨H, []⟩, Own.base H, ?_⟩
  refine ⟨Nat.zero_le _, fun p3 => ?_⟩
  refine ⟨Nat.zero_le _, fun p4 => ?_⟩
  refine ⟨Nat.zero_le _, fun t0 => ?_⟩
  refine ⟨show 2 ≤ sizeLine by decide, fun t1 => ?_⟩
  refine ⟨show 1 ≤ sizeLine by decide, fun st => ?_⟩
  refine ⟨fun m σ S => ∃ (js : List Job) (outs : List Way) (E : List (Addr × HO)) (sv pv wv : List V) (x6 x7 x8 : Option V), m = jobS js ∧ outs ++ js.reverse.flatMap jobW = wayB b 0 ∧ pv.length + outs.length + m ≤ 127 ∧ (∀ j ∈ js, Fits j.1 j.2.1 L R ∧ j.2.2.length + nS j.1 ≤ 65) ∧
    MDs K H (E ++ [(t1, .tup [rv, .ref t0]), (t0, .tup [])]) sv (js.map jobD) ∧ MDs K H (E ++ [(t1, .tup [rv, .ref t0]), (t0, .tup [])]) wv (outs.map wyD) ∧
    σ = [some rv, some (.ref ql), some (.ref qr), some (.ref p3), some (.ref p4), some (.ref st), x6, x7, x8] ∧ S = ⟨H, E ++ (st, .lst sv) :: ([(t1, .tup [rv, .ref t0]), (t0, .tup [])] ++ [(p4, .lst wv), (p3, .lst pv)])⟩, ?_, ?_⟩
  · refine ⟨_, [(b, 0, [])], [], [], _, _, _, none, none, none, rfl, ?_, ?_, ?_, ?_, .nil, rfl, rfl⟩
    · show ((wayB b 0).map ([] ++ ·)) ++ [] = wayB b 0
      rw [List.append_nil]
      exact List.map_id _
    · show 0 + 0 + (2 * nS b - 1 + 0) ≤ 127
      omega
    · intro j hj
      rw [List.mem_singleton.mp hj]
      exact ⟨hfit, by show 0 + nS b ≤ 65; omega⟩
    · exact .cons (.tup (.inl (.head _)) (.cons hr.up (.cons (.tup (.inl (.tail _ (.head _))) .nil) .nil))) .nil
  · rintro m σ S ⟨js, outs, E, sv, pv, wv, x6, x7, x8, hm, hout, hlen, hj, hsv, hwv, rfl, rfl⟩
    have lsv : sv.length = js.length := by rw [hsv.len, List.length_map]
    have ljs := jobS_len js
    refine .inl ⟨sv, .inl ⟨E.length, at_mid⟩, ?_⟩
    rcases List.eq_nil_or_concat js with ejs | ⟨js0, j, ejs⟩
    · subst ejs
      have : sv = [] := List.length_eq_zero_iff.mp lsv
      subst this
      have hout : outs ++ [] = wayB b 0 := hout
      rw [List.append_nil] at hout
      subst hout
      refine .inl ⟨pv, .inl ⟨E.length + 4, ?_⟩, fun u => ?_⟩
      · rw [List.getElem?_append_right (by omega), show E.length + 4 - E.length = 4 by omega]
        rfl
      refine .inl ⟨wv, .inl ⟨E.length + 4, ?_⟩, fun w => ?_⟩
      · show ((u, HO.tup pv) :: (E ++ _))[E.length + 3 + 1]? = _
        rw [List.getElem?_cons_succ, List.getElem?_append_right (by omega), show E.length + 3 - E.length = 3 by omega]
        rfl
      refine ⟨show 2 ≤ sizeLine by decide, fun p => ?_⟩
      intro H' o'
      refine ⟨⟨p, .ref u, .ref w, rfl, o'.u (.inl ⟨0, rfl⟩), ?_⟩, fun c u e => o'.fr c u e⟩
      have := MD.tup (K := K) (F := H) (G := (p, .tup [.ref u, .ref w]) :: (w, .tup wv) :: (u, .tup pv) :: (E ++ (st, .lst []) :: ([(t1, .tup [rv, .ref t0]), (t0, .tup [])] ++ [(p4, .lst wv), (p3, .lst pv)]))) (p := w) (.inl (.tail _ (.head _))) (hwv.sub fun z hz => .tail _ (.tail _ (.tail _ (sub_st hz))))
      exact this.own o'
    · rw [List.concat_eq_append] at ejs
      subst ejs
      rw [List.map_append] at hsv
      obtain ⟨sv0, s1, rfl, h0, h1⟩ := mds_split hsv
      cases h1 with
      | cons h1 hn =>
        cases hn
        rename_i v
        obtain ⟨pj, xs, rfl, hpj, hxs⟩ := MD.tupI (show MD K H _ v (.tuple _) from h1)
        cases hxs with
        | cons hnd hxs =>
          cases hxs with
          | cons hw hxs =>
            cases hxs
            rename_i vn vw
            obtain ⟨pn, rfl, hpn⟩ := nd_open hnd
            rw [flat_snoc] at hout
            rw [jobS_app] at hm
            have ne : (!(sv0 ++ [V.ref pj]).isEmpty) = true := by
              cases sv0 <;> rfl
            rw [ne]
            refine ⟨.inl ⟨rfl, _, .inl ⟨E.length, at_mid⟩⟩, ?_⟩
            refine nil_go ?_
            refine pop_at ?_
            refine ⟨_, hpj.s sub_st, rfl, ?_⟩
            refine ⟨_, hpn.s sub_st, rfl, ?_⟩
            obtain ⟨hfj, hlj⟩ := hj j (List.mem_append_right _ (.head _))
            have hj0 : ∀ j ∈ js0, Fits j.1 j.2.1 L R ∧ j.2.2.length + nS j.1 ≤ 65 := fun j hm => hj j (List.mem_append_left _ hm)
            have lsv0 : sv0.length = js0.length := by rw [h0.len, List.length_map]
            have ljs0 := jobS_len js0
            obtain ⟨t, o, w⟩ := j
            have kd : (ndB t o).1 < 3 := by
              cases t with
              | leaf =>
                show 1 < 3
                decide
              | node l r =>
                show 2 < 3
                decide
            have ks := slot_at (ndB t o).1 (List.mem_range.mpr kd)
            have lo : outs.length ≤ 127 := by omega
            cases t with
            | leaf =>
              refine ⟨.inl ⟨rfl, wv, .inl ⟨E.length + 3, ?_⟩⟩, ?_⟩
              · rw [List.getElem?_append_right (by omega), show E.length + 3 - E.length = 3 by omega]
                rfl
              refine cons_go (var_go (by rfl) (nil_go ?_))
              refine app_at (E := E) (A := [(st, .lst sv0), (t1, .tup [rv, .ref t0]), (t0, .tup [])]) (small_of (show wv.length ≤ 127 by rw [hwv.len, List.length_map]; exact lo) (by decide)) ?_
              refine ⟨_, SLe.refl _, jobS js0, by rw [hm]; show jobS js0 < jobS js0 + (2 * 1 - 1); omega, js0, outs ++ [w], E, sv0, pv, wv ++ [vw], _, _, _, rfl, ?_, ?_, hj0, h0, ?_, rfl, rfl⟩
              · rw [jobW_leaf] at hout
                rw [List.append_assoc]
                exact hout
              · rw [List.length_append, List.length_singleton]
                have : m = jobS js0 + (2 * 1 - 1) := hm
                omega
              · rw [List.map_append]
                exact hwv.snoc hw
            | node l r =>
              obtain ⟨f1, f2, f3, f4⟩ := hfj
              have pl := nS_pos l
              have pr := nS_pos r
              have hlj : w.length + (nS l + nS r) ≤ 65 := hlj
              have hm : m = jobS js0 + (2 * (nS l + nS r) - 1) := hm
              refine ⟨.inl ⟨rfl, pv, .inl ⟨E.length + 4, ?_⟩⟩, ?_⟩
              · rw [List.getElem?_append_right (by omega), show E.length + 4 - E.length = 4 by omega]
                rfl
              refine cons_go (var_go (by rfl) (nil_go ?_))
              refine app_at (E := E) (A := [(st, .lst sv0), (t1, .tup [rv, .ref t0]), (t0, .tup []), (p4, .lst wv)]) (small_of (show pv.length ≤ 127 by omega) (by decide)) ?_
              have hl100 : w.length ≤ 100 := by omega
              dsimp only
              refine seq_go ?_
              refine drop_go ?_
              show sMt K "list" mAppend (sVar 5) _ _ _ ⟨H, E ++ (st, .lst sv0) :: [(t1, .tup [rv, .ref t0]), (t0, .tup []), (p4, .lst wv), (p3, .lst (pv ++ [.int ((o + nS l - 1 : Nat) : Int)]))]⟩ _
              refine push_job (i := 2) (f := o + nS l - 1) (q := qr) (vw := vw) (w := w) (c := false) (nd := ndB r (o + nS l)) (LL := R) (N := E ++ [(t1, .tup [rv, .ref t0]), (t0, .tup [])]) (E1 := E) (st := st) (sv := sv0) (B := [(t1, .tup [rv, .ref t0]), (t0, .tup []), (p4, .lst wv), (p3, .lst (pv ++ [.int ((o + nS l - 1 : Nat) : Int)]))])
                ?_ ?_ ?_ ?_ ?_ hR.up f2 hw hl100 sub_st (by omega) ?_
              · rfl
              · rfl
              · rfl
              · rfl
              · rfl
              intro v1 E1 h1
              dsimp only
              refine drop_go ?_
              show sMt K "list" mAppend (sVar 5) _ _ _ ⟨H, (E1 ++ E) ++ (st, .lst (sv0 ++ [v1])) :: [(t1, .tup [rv, .ref t0]), (t0, .tup []), (p4, .lst wv), (p3, .lst (pv ++ [.int ((o + nS l - 1 : Nat) : Int)]))]⟩ _
              refine push_job (i := 1) (f := o + nS l - 1) (q := ql) (vw := vw) (w := w) (c := true) (nd := ndB l o) (LL := L) (N := E1 ++ (E ++ [(t1, .tup [rv, .ref t0]), (t0, .tup [])])) (E1 := E1 ++ E) (st := st) (sv := sv0 ++ [v1]) (B := [(t1, .tup [rv, .ref t0]), (t0, .tup []), (p4, .lst wv), (p3, .lst (pv ++ [.int ((o + nS l - 1 : Nat) : Int)]))])
                ?_ ?_ ?_ ?_ ?_ hL.up f1 (hw.sub sub_right) hl100 ?_ (by rw [List.length_append, List.length_singleton]; omega) ?_
              · rfl
              · rfl
              · rfl
              · rfl
              · rfl
              · rw [← List.append_assoc]
                exact sub_st
              intro v2 E2 h2
              have up0 : E ++ [(t1, HO.tup [rv, .ref t0]), (t0, .tup [])] ⊆ (E2 ++ (E1 ++ E)) ++ [(t1, HO.tup [rv, .ref t0]), (t0, .tup [])] := fun z hz => by
                rw [List.append_assoc, List.append_assoc]
                exact List.mem_append_right _ (List.mem_append_right _ hz)
              have up1 : E1 ++ (E ++ [(t1, HO.tup [rv, .ref t0]), (t0, .tup [])]) ⊆ (E2 ++ (E1 ++ E)) ++ [(t1, HO.tup [rv, .ref t0]), (t0, .tup [])] := fun z hz => by
                rw [List.append_assoc, List.append_assoc]
                exact List.mem_append_right _ hz
              have up2 : E2 ++ (E1 ++ (E ++ [(t1, HO.tup [rv, .ref t0]), (t0, .tup [])])) ⊆ (E2 ++ (E1 ++ E)) ++ [(t1, HO.tup [rv, .ref t0]), (t0, .tup [])] := fun z hz => by
                rw [List.append_assoc, List.append_assoc]
                exact hz
              have e1 := jobS_app (js0 ++ [(r, o + nS l, w ++ [(o + nS l - 1, false)])]) (l, o, w ++ [(o + nS l - 1, true)])
              have e0 := jobS_app js0 (r, o + nS l, w ++ [(o + nS l - 1, false)])
              have e1 : jobS (js0 ++ [(r, o + nS l, w ++ [(o + nS l - 1, false)])] ++ [(l, o, w ++ [(o + nS l - 1, true)])]) = jobS (js0 ++ [(r, o + nS l, w ++ [(o + nS l - 1, false)])]) + (2 * nS l - 1) := e1
              have e0 : jobS (js0 ++ [(r, o + nS l, w ++ [(o + nS l - 1, false)])]) = jobS js0 + (2 * nS r - 1) := e0
              refine ⟨_, SLe.refl _, jobS (js0 ++ [(r, o + nS l, w ++ [(o + nS l - 1, false)])] ++ [(l, o, w ++ [(o + nS l - 1, true)])]), by omega, js0 ++ [(r, o + nS l, w ++ [(o + nS l - 1, false)])] ++ [(l, o, w ++ [(o + nS l - 1, true)])], outs, E2 ++ (E1 ++ E), sv0 ++ [v1] ++ [v2], pv ++ [.int ((o + nS l - 1 : Nat) : Int)], wv, _, _, _, rfl, ?_, ?_, ?_, ?_, hwv.sub up0, rfl, rfl⟩
              · rw [flat_snoc, flat_snoc, ← List.append_assoc (jobW (l, _, _)), ← jobW_node]
                exact hout
              · rw [List.length_append, List.length_singleton]
                omega
              · intro j hjm
                rcases List.mem_append.mp hjm with hjm | hjm
                · rcases List.mem_append.mp hjm with hjm | hjm
                  · exact hj0 j hjm
                  · rw [List.mem_singleton.mp hjm]
                    refine ⟨f4, ?_⟩
                    show (w ++ [_]).length + nS r ≤ 65
                    rw [List.length_append, List.length_singleton]
                    omega
                · rw [List.mem_singleton.mp hjm]
                  refine ⟨f3, ?_⟩
                  show (w ++ [_]).length + nS l ≤ 65
                  rw [List.length_append, List.length_singleton]
                  omega
              · rw [List.map_append, List.map_append]
                exact ((h0.sub up0).snoc (h1.sub up1)).snoc (h2.sub up2)
end
section
variable {K : PySem.W.Frag} {a : Ads}
open TR
theorem without_tI {H : Hp} {q c C d : Addr} {fs : List (Str × V)} {xs : List V} (hc : H c = some (.ins C d fs)) (h : SqT K H q xs) : SqT K (without H c) q xs := by
  rcases h with (h | ⟨o, h⟩) | h
  · have ne : q ≠ c := fun e => by rw [e, hc] at h; cases h
    exact .inl (.inl (by rw [without_ne ne]; exact h))
  · have ne : q ≠ c := fun e => by rw [e, hc] at h; cases h
    exact .inl (.inr ⟨o, by rw [without_ne ne]; exact h⟩)
  · exact .inr h
theorem md_without {H : Hp} {c C d : Addr} {fs : List (Str × V)} {v : V} {x : PyData} (hc : H c = some (.ins C d fs)) (h : MD K H [] v x) : MD K (without H c) [] v x := h.mono fun _ _ z => .inr (without_tI hc (Or.elim z (fun y => absurd y List.not_mem_nil) id))
theorem allV_perm {α : Type} {R : V → α → Prop} {ys xs : List V} (h : ys.Perm xs) : ∀ {rs : List α}, allV R xs rs → ∃ qs, allV R ys qs ∧ qs.Perm rs := by
  induction h with
  | nil => exact fun {rs} z => ⟨rs, z, .refl _⟩
  | cons x _ ih =>
    intro rs z
    cases rs with
    | nil => exact z.elim
    | cons r rs =>
      obtain ⟨qs, h1, h2⟩ := ih z.2
      exact ⟨r :: qs, ⟨z.1, h1⟩, h2.cons r⟩
  | swap x y l =>
    intro rs z
    cases rs with
    | nil => exact z.elim
    | cons r rs =>
      cases rs with
      | nil => exact z.2.elim
      | cons s rs => exact ⟨s :: r :: rs, ⟨z.2.1, z.1, z.2.2⟩, .swap _ _ _⟩
  | trans _ _ ih1 ih2 =>
    intro rs z
    obtain ⟨qs, h1, h2⟩ := ih2 z
    obtain ⟨ps, h3, h4⟩ := ih1 h1
    exact ⟨ps, h3, h4.trans h2⟩
theorem allV_mem {α : Type} {R : V → α → Prop} : ∀ {vs : List V} {xs : List α}, allV R vs xs → ∀ v ∈ vs, ∃ x ∈ xs, R v x
  | v :: vs, x :: xs, h, u, hu => by
    cases hu with
    | head => exact ⟨x, .head _, h.1⟩
    | tail _ hu =>
      obtain ⟨y, hy, r⟩ := allV_mem h.2 u hu
      exact ⟨y, .tail _ hy, r⟩
  | [], _, _, u, hu => nomatch hu
  | v :: vs, [], h, _, _ => h.elim
theorem allV_back {α : Type} {R : V → α → Prop} : ∀ {vs : List V} {xs : List α}, allV R vs xs → ∀ x ∈ xs, ∃ v ∈ vs, R v x
  | v :: vs, x :: xs, h, u, hu => by
    cases hu with
    | head => exact ⟨v, .head _, h.1⟩
    | tail _ hu =>
      obtain ⟨y, hy, r⟩ := allV_back h.2 u hu
      exact ⟨y, .tail _ hy, r⟩
  | _, [], _, u, hu => nomatch hu
  | [], _ :: _, h, _, _ => h.elim
theorem allV_pair {α : Type} {R : V → α → Prop} {k : V → Int} {f : α → Nat} (hk : ∀ v x, R v x → k v = (f x : Nat)) : ∀ {vs : List V} {xs : List α}, allV R vs xs → (vs.Pairwise fun x y => k x ≤ k y) → xs.Pairwise fun x y => f x ≤ f y
  | [], [], _, _ => .nil
  | v :: vs, x :: xs, h, p => by
    cases p with
    | cons p1 p2 =>
      refine .cons (fun y hy => ?_) (allV_pair hk h.2 p2)
      have := allV_back h.2 y hy
      obtain ⟨u, hu, ru⟩ := this
      have := p1 u hu
      rw [hk v x h.1, hk u y ru] at this
      omega
  | [], _ :: _, h, _ => h.elim
  | _ :: _, [], h, _ => h.elim
theorem allV_MDs {α : Type} {F : Hp} {G : List (Addr × HO)} {f : α → PyData} : ∀ {vs : List V} {xs : List α}, allV (fun v x => MD K F G v (f x)) vs xs → MDs K F G vs (xs.map f)
  | [], [], _ => .nil
  | _ :: _, _ :: _, h => .cons h.1 (allV_MDs h.2)
  | [], _ :: _, h => h.elim
  | _ :: _, [], h => h.elim
theorem walk_colT {α : Type} {Rv R' : V → α → Prop} {W : sWX} {F : Hp} {G : List (Addr × HO)} {Q : V → SH → Prop} {i j : Nat} {c : Int} {q : Addr} {vs : List V} {qs : List α} {x0 x1 x2 x3 x4 : Option V} (hi : [x0, x1, x2, x3, x4][i]? = some (some (.ref q))) (hc : c = (j : Nat))
    (hL : ∀ E, sL K ⟨F, E ++ G⟩ q vs) (hal : allV Rv vs qs) (hR : ∀ v r, Rv v r → ∃ t xs u, v = .ref t ∧ SqT K F t xs ∧ xs[j]? = some u ∧ R' u r) (hl : qs.length ≤ 100)
    (k : ∀ ws D t, allV R' ws qs → Q (.ref t) ⟨F, (t, .tup ws) :: (D, .lst ws) :: G⟩) :
    sTuple K (sLc (siSeq K (sVar i)) (sgName 4) sYes (sOp (oIx K) (sVar 4) (sC (.int c))) [4]) W [x0, x1, x2, x3, x4] ⟨F, G⟩ Q := by
  subst hc
  have lv : vs.length = qs.length := allV_len hal
  unfold sTuple sLc
  dsimp only
  refine seqI_go (var_go hi ?_)
  refine .inl ⟨vs, hL [], fun D => ?_⟩
  refine ⟨fun n S => ∃ ws, allV R' ws (qs.take n) ∧ S = ⟨F, (D, .lst ws) :: G⟩, ⟨[], trivial, rfl⟩, ?_, ?_, ?_⟩
  · rintro n S _ ⟨ws, _, rfl⟩
    exact hL [_]
  · rintro n S hn ⟨ws, hws, rfl⟩ v hv
    obtain ⟨r, hr, hvr⟩ := allV_at hal hv
    obtain ⟨t, xs, u, rfl, ht, hu, hru⟩ := hR v r hvr
    refine ⟨rfl, ?_⟩
    refine ⟨xs, u, .inr (.inr ht), atI_at hu, ?_⟩
    refine ⟨0, ws, rfl, ?_, ⟨_, SLe.refl _, ws ++ [u], ?_, rfl⟩⟩
    · rw [allV_len hws, List.length_take]
      exact small_of (show min n qs.length ≤ 100 by omega) (by decide)
    · rw [take_more hr]
      exact allV_snoc hru hws
  · rintro S ⟨ws, hws, rfl⟩
    have en : (itL K q vs).n = qs.length := lv
    rw [en, List.take_length] at hws
    exact .inl ⟨ws, .inl ⟨0, rfl⟩, fun t => k ws D t hws⟩
theorem set_col {α : Type} {Rv R' : V → α → Prop} {D : sEnds} {F : Hp} {E : List (Addr × HO)} {C dx p0 : Addr} {f : Str} {fs : List (Str × V)} {i j : Nat} {c : Int} {q : Addr} {vs : List V} {qs : List α} {x1 x2 x3 x4 : Option V} (hi : [some (.ref p0), x1, x2, x3, x4][i]? = some (some (.ref q))) (hc : c = (j : Nat))
    (hL : ∀ A, sL K ⟨F, A ++ E ++ [(p0, .ins C dx fs)]⟩ q vs) (hal : allV Rv vs qs) (hR : ∀ v r, Rv v r → ∃ t xs u, v = .ref t ∧ SqT K F t xs ∧ xs[j]? = some u ∧ R' u r) (hl : qs.length ≤ 100) (hf : fs.length < 1000)
    (k : ∀ ws D2 t, allV R' ws qs → D.nx [some (.ref p0), x1, x2, x3, x4] ⟨F, ((t, .tup ws) :: (D2, .lst ws) :: E) ++ [(p0, .ins C dx (putF f (.ref t) fs))]⟩) :
    sSetO C f (sVar 0) (sTuple K (sLc (siSeq K (sVar i)) (sgName 4) sYes (sOp (oIx K) (sVar 4) (sC (.int c))) [4])) D [some (.ref p0), x1, x2, x3, x4] ⟨F, E ++ [(p0, .ins C dx fs)]⟩ := by
  unfold sSetO
  refine walk_colT (Rv := Rv) (R' := R') hi hc (fun A => ?_) hal hR hl fun ws D2 t hws => ?_
  · rw [← List.append_assoc]
    exact hL A
  · refine ⟨((t, HO.tup ws) :: (D2, HO.lst ws) :: E).length, dx, fs, at_mid (E := (t, HO.tup ws) :: (D2, HO.lst ws) :: E), hf, ?_⟩
    show D.nx _ ⟨F, (((t, HO.tup ws) :: (D2, HO.lst ws) :: E) ++ [(p0, HO.ins C dx fs)]).set ((t, HO.tup ws) :: (D2, HO.lst ws) :: E).length (p0, HO.ins C dx (putF f (.ref t) fs))⟩
    rw [set_mid]
    exact k ws D2 t hws
theorem lk_eq {f : Str} {v : V} {fs : List (Str × V)} : (putF f v fs).lookup f = some v := by rw [lookup_putF, if_pos rfl]
theorem lk_ne {f g : Str} {v : V} {fs : List (Str × V)} {r : Option V} (h : fs.lookup g = r) (n : g ≠ f := by decide) : (putF f v fs).lookup g = r := by rw [lookup_putF, if_neg n, h]
theorem len_put {f : Str} {v : V} {fs : List (Str × V)} {n : Nat} (h : fs.length ≤ n) : (putF f v fs).length ≤ n + 1 := Nat.le_trans (length_putF f v fs) (Nat.succ_le_succ h)
theorem atI_last {α : Type} {xs : List α} {x : α} (h : xs[xs.length - 1]? = some x) : atI xs (-1) = some x := by
  have hl : xs.length - 1 < xs.length := (List.getElem?_eq_some_iff.mp h).1
  have : ixN xs.length (-1) = some (xs.length - 1) := by
    unfold ixN
    rw [if_neg (by omega), if_pos (by omega)]
    congr 1
    omega
  unfold atI
  rw [this]
  exact h
/-- the key of a row -/
def kfR (F : Hp) : V → Int
  | .ref t => match F t with
    | some (.tup (.int i :: _)) => i
    | _ => 0
  | _ => 0
theorem row_open {F : Hp} {v : V} {r : TR.Row} (h : rowR K [] F v r) : ∃ t r1 r2 r3 r4, v = .ref t ∧ F t = some (.tup [.int (r.1 : Nat), r1, r2, r3, r4]) ∧ MD K F [] r1 (ndD r.2.1) ∧ MD K F [] r2 (ndD r.2.2.1) ∧ MD K F [] r3 (prD r.2.2.2.1) := by
  obtain ⟨t, r1, r2, r3, r4, e, h1, h2, h3, h4⟩ := h
  refine ⟨t, r1, r2, r3, r4, e, h1.elim (fun ⟨i, hi⟩ => by cases hi) id, h2, h3, h4⟩
theorem row_key {F : Hp} {v : V} {r : TR.Row} (h : rowR K [] F v r) : kfR F v = (r.1 : Nat) := by
  obtain ⟨t, r1, r2, r3, r4, rfl, h1, _⟩ := row_open h
  show (match F t with | some (.tup (.int i :: _)) => i | _ => 0) = _
  rw [h1]
theorem row_without {H : Hp} {c C d : Addr} {fs : List (Str × V)} (hc : H c = some (.ins C d fs)) {v : V} {r : TR.Row} (h : rowR K [] H v r) : rowR K [] (without H c) v r := by
  obtain ⟨t, r1, r2, r3, r4, rfl, h1, h2, h3, h4⟩ := row_open h
  have ne : t ≠ c := fun e => by rw [e, hc] at h1; cases h1
  exact ⟨t, r1, r2, r3, r4, rfl, .inr (by show without H c t = _; rw [without_ne ne]; exact h1), md_without hc h2, md_without hc h3, md_without hc h4⟩
theorem txt_small {b : TR} (h : nS b ≤ 64) : (tS b).length ≤ 190 := by
  have := txt_len b
  show (txt b).toArray.size ≤ 190
  rw [List.size_toArray]
  omega
theorem spans_sorted {b : TR} {qs : List TR.Row} (h : qs.Perm (rowsB b 0 0)) (hat : ∀ row ∈ rowsB b 0 0, qs[row.1]? = some row) : qs.map (·.2.2.2.1) = (List.range (nS b - 1)).map (spnF b 0) := by
  have lr := rowsB_len b 0 0
  have lq := h.length_eq
  refine List.ext_getElem? fun i => ?_
  rw [List.getElem?_map, List.getElem?_map]
  by_cases hi : i < nS b - 1
  · have : i ∈ (rowsB b 0 0).map Prod.fst := (rows_keys b 0 0).mem_iff.mpr (List.mem_range'_1.mpr ⟨Nat.zero_le _, by omega⟩)
    obtain ⟨row, hr, e⟩ := List.mem_map.mp this
    have e : row.1 = i := e
    have := hat row hr
    rw [e] at this
    rw [this, List.getElem?_range hi]
    show some row.2.2.2.1 = some (spnF b 0 i)
    rw [rows_spans b 0 0 row hr, e]
  · rw [List.getElem?_eq_none (by omega), List.getElem?_eq_none (by rw [List.length_range]; omega)]
    rfl
theorem vc_Tree_init {vs : List V} {H : Hp} (g : Addr × Addr × TR) (h : (ct_Tree_init K a).pre g vs H) : ∃ S, Own S H ∧ r_Tree_init K a (endsC (ct_Tree_init K a) g H) (start N_Tree_init vs) S := by
  obtain ⟨p0, dx, b⟩ := g
  obtain ⟨rfl, h0, hb⟩ := h
  have h0 : H p0 = some (.ins a.Tree dx []) := h0
  have hb : nS b ≤ 64 := hb
  have hp := nS_pos b
  refine ⟨_, Own.only h0, ?_⟩
  refine ⟨fun σ S => ∃ (F : Hp) (p : Addr) (xs : List V), Ext (without H p0) F ∧ SqL K F p xs ∧ allV (rowR K [] F) xs (rowsB b 0 0) ∧ σ = [some (.ref p0), some (.str (tS b)), some (.ref p), none, none] ∧ S = ⟨F, [(p0, .ins a.Tree dx [])]⟩, ?_, ?_⟩
  · refine ⟨Nat.le_trans (txt_small hb) (by decide), ?_⟩
    refine ⟨dx, [], .inl ⟨0, rfl⟩, rfl, ?_⟩
    refine ⟨.inl (by unfold sm64; decide), ?_⟩
    walk_at "b"
    rotate_left
    · rename_i hb2
      have := txt_small hb
      exact absurd (show ((tS b).length : Int) ≤ 3 * 64 - 2 by omega) (by omega)
    refine ⟨b, fun H1 o => ⟨rfl, hb⟩, fun H1 v H' o q => ?_, fun _ _ _ _ _ q => q.elim⟩
    obtain ⟨⟨p, xs, rfl, q1, q2, q3⟩, q4⟩ := q
    have hp1 : H1 p0 = some (.ins a.Tree dx []) := (o.gs (p0, .ins a.Tree dx []) (.head _)).1
    have hp2 := q4 _ _ hp1
    have ne : p ≠ p0 := fun e => by rw [e, hp2] at q2; cases q2
    refine ⟨_, Own.only hp2, ⟨_, SLe.refl _, without H' p0, p, xs, fun c u e => ?_, .inl (.inl (by rw [without_ne ne]; exact q2)), allV_ex (fun v r z => row_without hp2 z) q3, rfl, rfl⟩⟩
    have nc : c ≠ p0 := fun z => by
      rw [z, without_same] at e
      cases e
    rw [without_ne nc]
    exact q4 _ _ (o.fr c u e)
  rintro σ S ⟨F, p, xs, ex, hpx, hrow, rfl, rfl⟩
  have lrb := rowsB_len b 0 0
  have lxs : xs.length = (rowsB b 0 0).length := allV_len hrow
  refine ⟨xs, kfR F, .inr hpx, fun x hx => ?_, fun x hx y hy e => ?_, fun ys q hys hpw => ?_⟩
  · obtain ⟨r, _, hr⟩ := allV_mem hrow x hx
    rw [row_key hr]
    obtain ⟨t, r1, r2, r3, r4, rfl, h1, _⟩ := row_open hr
    exact ⟨t, _, rfl, .inr h1⟩
  · obtain ⟨i, hi⟩ := List.mem_iff_getElem?.mp hx
    obtain ⟨j, hj⟩ := List.mem_iff_getElem?.mp hy
    obtain ⟨r, hr1, hr2⟩ := allV_at hrow hi
    obtain ⟨s, hs1, hs2⟩ := allV_at hrow hj
    rw [row_key hr2, row_key hs2] at e
    have e : r.1 = s.1 := by omega
    have hn : ((rowsB b 0 0).map Prod.fst).Nodup := (rows_keys b 0 0).nodup_iff.mpr (by rw [← List.range_eq_range']; exact List.nodup_range)
    have := nodup_at hn (i := i) (j := j) (x := r.1) (by rw [List.getElem?_map, hr1]; rfl) (by rw [List.getElem?_map, hs1, e]; rfl)
    subst this
    rw [hi] at hj
    exact Option.some.inj hj
  obtain ⟨qs, hq1, hq2⟩ := allV_perm hys hrow
  have hq3 : qs.Pairwise fun x y => x.1 ≤ y.1 := allV_pair (fun v r z => row_key z) hq1 hpw
  have hat := rows_sorted hq2 hq3
  have lqs : qs.length ≤ 100 := by
    rw [hq2.length_eq]
    omega
  refine ⟨1, dx, [], rfl, Nat.zero_lt_succ _, ?_⟩
  have colR : ∀ (G : List (Addr × HO)) (j : Nat) (hj : j < 5), ∀ v r, rowR K [] F v r → ∃ t xs u, v = .ref t ∧ SqT K F t xs ∧ xs[j]? = some u ∧ (j = 1 → MD K F [] u (ndD r.2.1)) ∧ (j = 2 → MD K F [] u (ndD r.2.2.1)) ∧ (j = 3 → MD K F [] u (prD r.2.2.2.1)) := fun G j hj v r hr => by
    obtain ⟨t, r1, r2, r3, r4, rfl, h1, h2, h3, h4⟩ := row_open hr
    have : j = 0 ∨ j = 1 ∨ j = 2 ∨ j = 3 ∨ j = 4 := by omega
    rcases this with rfl | rfl | rfl | rfl | rfl
    · exact ⟨t, _, _, rfl, .inl (.inl h1), rfl, (fun e => absurd e (by decide)), (fun e => absurd e (by decide)), (fun e => absurd e (by decide))⟩
    · exact ⟨t, _, _, rfl, .inl (.inl h1), rfl, (fun _ => h2), (fun e => absurd e (by decide)), (fun e => absurd e (by decide))⟩
    · exact ⟨t, _, _, rfl, .inl (.inl h1), rfl, (fun e => absurd e (by decide)), (fun _ => h3), (fun e => absurd e (by decide))⟩
    · exact ⟨t, _, _, rfl, .inl (.inl h1), rfl, (fun e => absurd e (by decide)), (fun e => absurd e (by decide)), fun _ => h4⟩
    · exact ⟨t, _, _, rfl, .inl (.inl h1), rfl, (fun e => absurd e (by decide)), (fun e => absurd e (by decide)), (fun e => absurd e (by decide))⟩
  have colA : ∀ (j : Nat) (hj : j < 5), ∀ v r, rowR K [] F v r → ∃ t xs u, v = .ref t ∧ SqT K F t xs ∧ xs[j]? = some u ∧ True := fun j hj v r hr => by
    obtain ⟨t, xs, u, h1, h2, h3, _⟩ := colR [] j hj v r hr
    exact ⟨t, xs, u, h1, h2, h3, trivial⟩
  dsimp only
  refine seq_go ?_
  refine set_col (K := K) (Rv := rowR K [] F) (R' := fun u r => MD K F [] u (ndD r.2.1)) (i := 3) (j := 1) (c := 1) (q := q) (vs := ys) (qs := qs) (E := [(q, .lst ys)]) (p0 := p0) ?_ rfl (fun A => .inl ⟨A.length, ?_⟩) hq1 (fun v r hr => ?_) lqs (Nat.lt_of_le_of_lt (len_put (Nat.le_refl 0)) (by decide)) fun w1 D1 t1 hw1 => ?_
  · rfl
  · rw [List.append_assoc]
    exact at_mid
  · obtain ⟨t, ts, u, h1, h2, h3, h4, h5, h6⟩ := colR [] 1 (by decide) v r hr
    exact ⟨t, ts, u, h1, h2, h3, h4 rfl⟩
  dsimp only
  refine seq_go ?_
  refine set_col (K := K) (Rv := rowR K [] F) (R' := fun u r => MD K F [] u (ndD r.2.2.1)) (i := 3) (j := 2) (c := 2) (q := q) (vs := ys) (qs := qs) (E := [(t1, .tup w1), (D1, .lst w1), (q, .lst ys)]) (p0 := p0) ?_ rfl (fun A => .inl ⟨A.length + 2, ?_⟩) hq1 (fun v r hr => ?_) lqs (Nat.lt_of_le_of_lt (len_put (len_put (Nat.le_refl 0))) (by decide)) fun w2 D2 t2 hw2 => ?_
  · rfl
  · rw [List.append_assoc, List.getElem?_append_right (by omega), show A.length + 2 - A.length = 2 by omega]
    rfl
  · obtain ⟨t, ts, u, h1, h2, h3, h4, h5, h6⟩ := colR [] 2 (by decide) v r hr
    exact ⟨t, ts, u, h1, h2, h3, h5 rfl⟩
  dsimp only
  refine seq_go ?_
  refine set_col (K := K) (Rv := rowR K [] F) (R' := fun u r => MD K F [] u (prD r.2.2.2.1)) (i := 3) (j := 3) (c := 3) (q := q) (vs := ys) (qs := qs) (E := [(t2, .tup w2), (D2, .lst w2), (t1, .tup w1), (D1, .lst w1), (q, .lst ys)]) (p0 := p0) ?_ rfl (fun A => .inl ⟨A.length + 4, ?_⟩) hq1 (fun v r hr => ?_) lqs (Nat.lt_of_le_of_lt (len_put (len_put (len_put (Nat.le_refl 0)))) (by decide)) fun w3 D3 t3 hw3 => ?_
  · rfl
  · rw [List.append_assoc, List.getElem?_append_right (by omega), show A.length + 4 - A.length = 4 by omega]
    rfl
  · obtain ⟨t, ts, u, h1, h2, h3, h4, h5, h6⟩ := colR [] 3 (by decide) v r hr
    exact ⟨t, ts, u, h1, h2, h3, h6 rfl⟩
  dsimp only
  refine seq_go ?_
  refine set_col (K := K) (Rv := rowR K [] F) (R' := fun _ _ => True) (i := 3) (j := 4) (c := 4) (q := q) (vs := ys) (qs := qs) (E := [(t3, .tup w3), (D3, .lst w3), (t2, .tup w2), (D2, .lst w2), (t1, .tup w1), (D1, .lst w1), (q, .lst ys)]) (p0 := p0) ?_ rfl (fun A => .inl ⟨A.length + 6, ?_⟩) hq1 (colA 4 (by decide)) lqs (Nat.lt_of_le_of_lt (len_put (len_put (len_put (len_put (Nat.le_refl 0))))) (by decide)) fun w4 D4 t4 hw4 => ?_
  · rfl
  · rw [List.append_assoc, List.getElem?_append_right (by omega), show A.length + 6 - A.length = 6 by omega]
    rfl
  dsimp only
  refine seq_go ?_
  refine set_col (K := K) (Rv := rowR K [] F) (R' := fun _ _ => True) (i := 2) (j := 0) (c := 0) (q := p) (vs := xs) (qs := rowsB b 0 0) (E := [(t4, .tup w4), (D4, .lst w4), (t3, .tup w3), (D3, .lst w3), (t2, .tup w2), (D2, .lst w2), (t1, .tup w1), (D1, .lst w1), (q, .lst ys)]) (p0 := p0) ?_ rfl (fun A => .inr hpx) hrow (colA 0 (by decide)) (by omega) (Nat.lt_of_le_of_lt (len_put (len_put (len_put (len_put (len_put (Nat.le_refl 0)))))) (by decide)) fun w5 D5 t5 hw5 => ?_
  · rfl
  dsimp only
  refine seq_go ?_
  generalize hfs : putF "postorder" (V.ref t5) (putF "bounds" (.ref t4) (putF "spans" (.ref t3) (putF "rights" (.ref t2) (putF "lefts" (.ref t1) (putF "text" (.str (tS b)) []))))) = fs6
  have l6 : fs6.length ≤ 6 := by
    rw [← hfs]
    exact len_put (len_put (len_put (len_put (len_put (len_put (Nat.le_refl 0))))))
  have ft : fs6.lookup ("text" : Str) = some (.str (tS b)) := by
    rw [← hfs]
    exact lk_ne (lk_ne (lk_ne (lk_ne (lk_ne lk_eq))))
  have fsp : fs6.lookup ("spans" : Str) = some (.ref t3) := by
    rw [← hfs]
    exact lk_ne (lk_ne lk_eq)
  have fle : fs6.lookup ("lefts" : Str) = some (.ref t1) := by
    rw [← hfs]
    exact lk_ne (lk_ne (lk_ne (lk_ne lk_eq)))
  have fri : fs6.lookup ("rights" : Str) = some (.ref t2) := by
    rw [← hfs]
    exact lk_ne (lk_ne (lk_ne lk_eq))
  clear hfs
  show (sSetO a.Tree ("root" : Str) (sVar 0) _) _ [some (.ref p0), some (.str (tS b)), some (.ref p), some (.ref q), none] ⟨F, [(t5, .tup w5), (D5, .lst w5), (t4, .tup w4), (D4, .lst w4), (t3, .tup w3), (D3, .lst w3), (t2, .tup w2), (D2, .lst w2), (t1, .tup w1), (D1, .lst w1), (q, .lst ys), (p0, .ins a.Tree dx fs6)]⟩
  generalize hE : ([(t5, .tup w5), (D5, .lst w5), (t4, .tup w4), (D4, .lst w4), (t3, .tup w3), (D3, .lst w3), (t2, .tup w2), (D2, .lst w2), (t1, .tup w1), (D1, .lst w1), (q, .lst ys)] : List (Addr × HO)) = E6
  have m1 : (t1, HO.tup w1) ∈ E6 := by
    rw [← hE]
    exact .tail _ (.tail _ (.tail _ (.tail _ (.tail _ (.tail _ (.tail _ (.tail _ (.head _))))))))
  have m2 : (t2, HO.tup w2) ∈ E6 := by
    rw [← hE]
    exact .tail _ (.tail _ (.tail _ (.tail _ (.tail _ (.tail _ (.head _))))))
  have m3 : (t3, HO.tup w3) ∈ E6 := by
    rw [← hE]
    exact .tail _ (.tail _ (.tail _ (.tail _ (.head _))))
  show (sSetO a.Tree ("root" : Str) (sVar 0) _) _ [some (.ref p0), some (.str (tS b)), some (.ref p), some (.ref q), none] ⟨F, [(t5, .tup w5), (D5, .lst w5), (t4, .tup w4), (D4, .lst w4), (t3, .tup w3), (D3, .lst w3), (t2, .tup w2), (D2, .lst w2), (t1, .tup w1), (D1, .lst w1), (q, .lst ys)] ++ [(p0, .ins a.Tree dx fs6)]⟩
  rw [hE]
  have rest : ∀ r0 : Addr, (sAsg (sCallD (q_lay_ways K a) [] (sCons (sFldO a.Tree ("root" : Str) (sVar 0)) (sCons (sFldO a.Tree ("lefts" : Str) (sVar 0)) (sCons (sFldO a.Tree ("rights" : Str) (sVar 0)) sNil)))) (sgTup K 2 (sgCons (sgFld a.Tree ("preorder" : Str) (sVar 0)) (sgCons (sgFld a.Tree ("ways" : Str) (sVar 0)) sgNil))))
      (endsC (ct_Tree_init K a) (p0, dx, b) H) [some (.ref p0), some (.str (tS b)), some (.ref p), some (.ref q), none] ⟨F, ((r0, .tup [.str (kdS (ndB b 0).1), .int ((ndB b 0).2 : Nat)]) :: E6) ++ [(p0, .ins a.Tree dx (putF "root" (.ref r0) fs6))]⟩ := fun r0 => by
    have sE : ∀ {X : List (Addr × HO)}, ((r0, HO.tup [.str (kdS (ndB b 0).1), .int ((ndB b 0).2 : Nat)]) :: E6) ⊆ ((r0, HO.tup [.str (kdS (ndB b 0).1), .int ((ndB b 0).2 : Nat)]) :: E6) ++ X := fun {X} => List.subset_append_left _ _
    refine ⟨dx, _, _, .inl ⟨_, at_mid⟩, lk_eq, ?_⟩
    refine ⟨dx, _, _, .inl ⟨_, at_mid⟩, lk_ne fle, ?_⟩
    refine ⟨dx, _, _, .inl ⟨_, at_mid⟩, lk_ne fri, ?_⟩
    refine ⟨(b, .ref r0, .ref t1, .ref t2, qs.map (·.2.1), qs.map (·.2.2.1)), fun H1 o => ⟨rfl, hb, ?_, ?_, ?_, ?_⟩, fun H1 v H' o qq => ?_, fun _ _ _ _ _ q => q.elim⟩
    · have : MD K F ((r0, .tup [.str (kdS (ndB b 0).1), .int ((ndB b 0).2 : Nat)]) :: E6) (.ref r0) (ndD (ndB b 0)) := nd_make (ndB b 0) (.inl (.head _))
      exact (this.sub sE).own o
    · have : MD K F ((r0, .tup [.str (kdS (ndB b 0).1), .int ((ndB b 0).2 : Nat)]) :: E6) (.ref t1) (.tuple ((qs.map (·.2.1)).map ndD)) := by
        refine .tup (.inl (.tail _ m1)) ?_
        rw [List.map_map]
        exact (allV_MDs (f := fun r : TR.Row => ndD r.2.1) hw1).up
      exact (this.sub sE).own o
    · have : MD K F ((r0, .tup [.str (kdS (ndB b 0).1), .int ((ndB b 0).2 : Nat)]) :: E6) (.ref t2) (.tuple ((qs.map (·.2.2.1)).map ndD)) := by
        refine .tup (.inl (.tail _ m2)) ?_
        rw [List.map_map]
        exact (allV_MDs (f := fun r : TR.Row => ndD r.2.2.1) hw2).up
      exact (this.sub sE).own o
    · refine fits_of b 0 0 _ _ fun row hr => ?_
      rw [List.getElem?_map, List.getElem?_map, hat row hr]
      exact ⟨rfl, rfl⟩
    obtain ⟨⟨p7, u, w, rfl, q1, q2⟩, q3⟩ := qq
    have hp1 : H1 p0 = some (.ins a.Tree dx (putF "root" (.ref r0) fs6)) := (o.gs (p0, .ins a.Tree dx (putF "root" (.ref r0) fs6)) (List.mem_append_right _ (.head _))).1
    have hp2 := q3 _ _ hp1
    have h3 : MD K H1 [] (.ref t3) (spsD b) := by
      have e : (qs.map (·.2.2.2.1)) = (List.range (nS b - 1)).map (spnF b 0) := spans_sorted hq2 hat
      have : MD K F ((r0, .tup [.str (kdS (ndB b 0).1), .int ((ndB b 0).2 : Nat)]) :: E6) (.ref t3) (.tuple ((qs.map (·.2.2.2.1)).map prD)) := by
        refine .tup (.inl (.tail _ m3)) ?_
        rw [List.map_map]
        exact (allV_MDs (f := fun r : TR.Row => prD r.2.2.2.1) hw3).up
      rw [e, List.map_map] at this
      exact (this.sub sE).own o
    refine ⟨_, Own.only hp2, ?_⟩
    refine ⟨[u, w], .inr (without_tI hp2 q1), rfl, ?_⟩
    refine ⟨0, dx, _, rfl, Nat.lt_of_le_of_lt (len_put l6) (by decide), ?_⟩
    refine ⟨0, dx, _, rfl, Nat.lt_of_le_of_lt (len_put (len_put l6)) (by decide), ?_⟩
    intro H2 o2
    refine ⟨rfl, ⟨⟨p0, dx, _, w, .ref t3, rfl, (o2.gs _ (.head _)).1, lk_ne (lk_ne (lk_ne ft)), lk_eq, (md_without hp2 q2).ext (own_F o2), lk_ne (lk_ne (lk_ne fsp)), (md_without hp2 (h3.ext q3)).ext (own_F o2)⟩, hb⟩, fun c u nc e => ?_⟩
    · refine own_F o2 _ _ ?_
      show without H' p0 c = _
      rw [without_ne nc]
      exact q3 _ _ (own_F o _ _ (ex _ _ (by rw [without_ne nc]; exact e)))
  refine .inl ⟨xs, .inr hpx, ?_⟩
  cases b with
  | leaf =>
    have : xs = [] := List.length_eq_zero_iff.mp lxs
    subst this
    refine ⟨show 2 ≤ sizeLine by decide, fun r0 => ?_⟩
    refine ⟨((r0, HO.tup [.str (kdS (ndB leaf 0).1), .int ((ndB leaf 0).2 : Nat)]) :: E6).length, dx, fs6, at_mid (E := (r0, HO.tup [.str (kdS (ndB leaf 0).1), .int ((ndB leaf 0).2 : Nat)]) :: E6), by omega, ?_⟩
    have := rest r0
    rw [← set_mid (E := (r0, HO.tup [.str (kdS (ndB leaf 0).1), .int ((ndB leaf 0).2 : Nat)]) :: E6) (x := (p0, .ins a.Tree dx fs6))] at this
    exact this
  | node l r =>
    obtain ⟨x, hx, hr⟩ : ∃ x, xs[xs.length - 1]? = some x ∧ rowR K [] F x (0 + nS l - 1, ndB l 0, ndB r (0 + nS l), (0, 0 + nS l + nS r - 1), (0, 0 + (txt (node l r)).length)) := by
      have hl : 0 < xs.length := by
        rw [lxs]
        show 0 < (rowsB l 0 1 ++ (rowsB r (0 + nS l) (0 + 1 + (txt l).length) ++ [_])).length
        rw [List.length_append, List.length_append, List.length_singleton]
        omega
      obtain ⟨y, hy1, hy2⟩ := allV_at hrow (List.getElem?_eq_getElem (show xs.length - 1 < xs.length by omega))
      refine ⟨_, List.getElem?_eq_getElem (by omega), ?_⟩
      have ey : y = (0 + nS l - 1, ndB l 0, ndB r (0 + nS l), (0, 0 + nS l + nS r - 1), (0, 0 + (txt (node l r)).length)) := by
        have e2 : (rowsB (node l r) 0 0)[xs.length - 1]? = some (0 + nS l - 1, ndB l 0, ndB r (0 + nS l), (0, 0 + nS l + nS r - 1), (0, 0 + (txt (node l r)).length)) := by
          rw [lxs]
          show (rowsB l 0 (0 + 1) ++ (rowsB r (0 + nS l) (0 + 1 + (txt l).length) ++ [_]))[(rowsB l 0 (0 + 1) ++ (rowsB r (0 + nS l) (0 + 1 + (txt l).length) ++ [_])).length - 1]? = _
          rw [← List.append_assoc, List.length_append, List.length_singleton, Nat.add_sub_cancel, List.getElem?_append_right (Nat.le_refl _), Nat.sub_self]
          rfl
        rw [e2] at hy1
        exact (Option.some.inj hy1).symm
      rw [← ey]
      exact hy2
    have ne : (!xs.isEmpty) = true := by
      cases xs with
      | nil => cases hx
      | cons => rfl
    rw [ne]
    refine ⟨xs, x, .inl (.inr hpx), atI_last hx, ?_⟩
    obtain ⟨t, r1, r2, r3, r4, rfl, h1, _⟩ := row_open hr
    refine ⟨_, _, .inr (.inr (.inl (.inl h1))), atI_at (i := 0) rfl, ?_⟩
    refine ⟨show 2 ≤ sizeLine by decide, fun r0 => ?_⟩
    refine ⟨((r0, HO.tup [.str (kdS (ndB (node l r) 0).1), .int ((ndB (node l r) 0).2 : Nat)]) :: E6).length, dx, fs6, at_mid (E := (r0, HO.tup [.str (kdS (ndB (node l r) 0).1), .int ((ndB (node l r) 0).2 : Nat)]) :: E6), by omega, ?_⟩
    have := rest r0
    rw [← set_mid (E := (r0, HO.tup [.str (kdS (ndB (node l r) 0).1), .int ((ndB (node l r) 0).2 : Nat)]) :: E6) (x := (p0, .ins a.Tree dx fs6))] at this
    exact this
end
section
variable {K : PySem.W.Frag} {a : Ads}
open TR
/-! ### rules as texts -/
def tkN (t : Bool) : Nat := if t then 116 else 107
def asN (t : Bool) : Nat := if t then 97 else 115
theorem rl_len (r : Rl) : (rlS r).length ≤ sizeLine := pS_line (show 3 ≤ 300 by decide)
theorem ix_r0 {r : Rl} {S : SH} {Q : V → SH → Prop} (h : Q (.str (pS [tkN r.1])) S) : oIx K (.str (rlS r)) (.int 0) S Q := ⟨rl_len r, tkN r.1, rfl, h⟩
theorem ix_r1 {r : Rl} {S : SH} {Q : V → SH → Prop} (h : Q (.str (pS [tkN r.2.1])) S) : oIx K (.str (rlS r)) (.int 1) S Q := ⟨rl_len r, tkN r.2.1, rfl, h⟩
theorem ix_r2 {r : Rl} {S : SH} {Q : V → SH → Prop} (h : Q (.str (pS [asN r.2.2])) S) : oIx K (.str (rlS r)) (.int 2) S Q := ⟨rl_len r, asN r.2.2, rfl, h⟩
theorem ix_rk {r : Rl} {k : Bool} {S : SH} {Q : V → SH → Prop} (h : Q (.str (pS [tkN (turnR r k)])) S) : oIx K (.str (rlS r)) (.int (if k then 1 else 0)) S Q := by
  cases k with
  | true => exact ix_r1 h
  | false => exact ix_r0 h
theorem dec_t (b : Bool) : decide (V.str (pS [tkN b]) = V.str "t") = b := by cases b <;> decide +kernel
theorem dec_a (b : Bool) : decide (V.str (pS [asN b]) = V.str "a") = b := by cases b <;> decide +kernel
theorem dec_s (b : Bool) : decide (V.str (pS [asN b]) = V.str "s") = !b := by cases b <;> decide +kernel
theorem dec_h (k : Bool) : decide (V.str (kS k) = V.str "hit") = !k := by cases k <;> decide +kernel
theorem kS_dec (k : Bool) : decide (V.str (kS k) = V.str "load") = k := by cases k <;> decide +kernel
theorem dec_b (x y : Bool) : decide (V.bl x = V.bl y) = (x == y) := by cases x <;> cases y <;> decide +kernel
theorem dec_tt (x y : Bool) : decide (V.str (pS [tkN x]) = V.str (pS [tkN y])) = (x == y) := by cases x <;> cases y <;> decide +kernel
theorem eq_b {x y c : Bool} {S : SH} {Q : V → SH → Prop} (e : decide (V.bl x = V.bl y) = c) (h : Q (.bl c) S) : oEq K (.bl x) (.bl y) S Q := by
  show Q (.bl (decide (V.bl x = V.bl y))) S
  rw [e]
  exact h
theorem rul_nodup : ∀ r ∈ rls, ∀ o ∈ rls, rlS r = rlS o → r = o := by decide +kernel
theorem rlS_inj {r o : Rl} (h : rlS r = rlS o) : r = o := rul_nodup r (rls_all r) o (rls_all o) h
theorem rl_dec (r o : Rl) : decide (V.str (rlS r) = V.str (rlS o)) = decide (r = o) := decide_eq_decide.mpr ⟨fun h => rlS_inj (V.str.inj h), fun h => by rw [h]⟩
theorem rul_mem (r : Rl) : rlS r ∈ rlsS := List.mem_map_of_mem (rls_all r)
theorem rulB_ok (r : Rl) : rulB (.str (rlS r)) = true := decide_eq_true (rul_mem r)
theorem in_strs (u : Str) : ∀ l : List Str, inV (.str u) (l.map V.str) = decide (u ∈ l)
  | [] => rfl
  | x :: l => by
    show ((x == u) || inV (.str u) (l.map V.str)) = _
    rw [in_strs u l]
    by_cases e : x = u
    · subst e
      rw [beq_self_eq_true, Bool.true_or, decide_eq_true (.head _)]
    · rw [beq_eq_false_iff_ne.mpr e, Bool.false_or]
      exact decide_eq_decide.mpr ⟨fun h => .tail _ h, fun h => (List.mem_cons.mp h).elim (fun z => absurd z.symm e) id⟩
theorem flat_strs : ∀ l : List Str, (l.map V.str).all flatV = true
  | [] => rfl
  | _ :: l => flat_strs l
theorem ex1 {H : Hp} {C d : Addr} {f : Str} {v : V} {E : List (Addr × HO)} {H' : Hp} (o : Own ⟨H, (d, .xd [(f, v)]) :: E⟩ H') : Exn1 H (.ref C) (some d) H' C f v :=
  ⟨rfl, d, rfl, (o.gs (d, .xd [(f, v)]) (.head _)).2, fun c u e => o.fr c u e, (o.gs (d, .xd [(f, v)]) (.head _)).1⟩
theorem vc_checked_rule (T : Kit K a) {vs : List V} {H : Hp} (g : V × TY) (h : (ct_checked_rule K a).pre g vs H) : ∃ S, Own S H ∧ r_checked_rule K a (endsC (ct_checked_rule K a) g H) (start N_checked_rule vs) S := by
  obtain ⟨x, t⟩ := g
  obtain ⟨e0, ht⟩ := h
  have e0 : vs = [x] := e0
  subst e0
  have ht : Ty0 K H x t := ht
  refine ⟨⟨H, []⟩, Own.base H, ?_⟩
  have bad : rulB x = false → ∀ d H', Own (SH.new ⟨H, []⟩ d (.xd [("rule", x)])) H' → (ct_checked_rule K a).exn (x, t) H (.ref a.InvalidRule) (some d) H' := fun e d H' o => ⟨e, ex1 o⟩
  cases x with
  | str u =>
    refine ⟨rlsS.map V.str, .inr (.inr (T.rules H)), rfl, flat_strs _, ?_⟩
    rw [in_strs]
    cases hu : decide (u ∈ rlsS) with
    | true => exact fun H' o => ⟨hu, rfl, ext0 o⟩
    | false => exact bad hu
  | ref p =>
    have ht' : isiTy K (.ref p) ⟨H, []⟩ t := ht
    refine ⟨t, ht', ?_⟩
    rcases ht' with ⟨rfl, _⟩ | ⟨rfl, _⟩ | ⟨rfl, _⟩
    · exact bad rfl
    · exact bad rfl
    · exact bad rfl
  | byt b => exact ht.elim
  | flt b => exact ht.elim
  | ty b => exact ht.elim
  | _ => exact bad rfl
theorem use_rule {W : sWX} {σ : L2.St} {S : SH} {Q : V → SH → Prop} {vs : List V} (x : V) (t : TY) (e : vs = [x]) (ht : ∀ H, Own S H → Ty0 K H x t)
    (h1 : rulB x = true → Q x S) (h2 : rulB x = false → ∀ d, W (.ref a.InvalidRule) (some d) σ (S.new d (.xd [("rule", x)]))) : rC (ct_checked_rule K a) W vs σ S Q :=
  ⟨(x, t), fun H o => ⟨e, ht H o⟩, fun H v H' o q => ⟨S, o.ex q.2.2, by rw [q.2.1]; exact h1 q.1⟩, fun H c d H' o q => by
    obtain ⟨q0, rfl, dd, rfl, q1, q2, q3⟩ := q
    exact ⟨_, o.new q1 q2 q3, h2 q0 dd⟩⟩
theorem use_rul {W : sWX} {σ : L2.St} {S : SH} {Q : V → SH → Prop} {vs : List V} (r : Rl) (e : vs = [.str (rlS r)]) (k : Q (.str (rlS r)) S) : rC (ct_checked_rule K a) W vs σ S Q :=
  use_rule (.str (rlS r)) .str e (fun _ _ => rfl) (fun _ => k) fun z => by rw [rulB_ok] at z; cases z
theorem sg2_go {i j : Nat} {W : sWX} {u v : V} {σ : L2.St} {S : SH} {Q : L2.St → SH → Prop} (h : Q ((σ.set i (some u)).set j (some v)) S) : sgCons (sgName i) (sgCons (sgName j) sgNil) W [u, v] σ S Q := h
/-- the steps of a way, in the tree -/
theorem way_in {H : Hp} {tv : V} {b : TR} (hT : TreeAt K a H tv b) {s : Nat} (hs : s < nS b) : ∃ (p dx : Addr) (fs : List (Str × V)) (pws : Addr) (ws : List V) (pw : Addr) (xs : List V), tv = .ref p ∧ H p = some (.ins a.Tree dx fs) ∧ fs.lookup ("ways" : Str) = some (.ref pws) ∧ SqT K H pws ws ∧ ws[s]? = some (.ref pw) ∧ SqT K H pw xs ∧ MDs K H [] xs ((wy b s).map stD) := by
  obtain ⟨⟨p, dx, fs, wv, sp, e2, h2, h3, h4, h5, h6, h7⟩, h9⟩ := hT
  obtain ⟨pws, ws, rfl, hpws, hws⟩ := MD.tupI (show MD K H [] wv (.tuple _) from h5)
  obtain ⟨u, hu, mu⟩ := hws.get (i := s) (d := wyD (wy b s)) (by rw [List.getElem?_map, wy_at hs]; rfl)
  obtain ⟨pw, xs, rfl, hpw, hxs⟩ := MD.tupI (show MD K H [] u (.tuple _) from mu)
  exact ⟨p, dx, fs, pws, ws, pw, xs, e2, h2, h4, hpws.elim (fun z => nomatch z) id, hu, hpw.elim (fun z => nomatch z) id, hxs⟩
theorem cV_ss (l : List Nat) : cV l = (l.map fun c => pS [c]).map V.str := by
  unfold cV
  rw [List.map_map]
  rfl
theorem vc_turned {vs : List V} {H : Hp} (g : V × TR × List Nat × Nat) (h : (ct_turned K a).pre g vs H) : ∃ S, Own S H ∧ r_turned K a (endsC (ct_turned K a) g H) (start N_turned vs) S := by
  obtain ⟨tv, b, st, s⟩ := g
  obtain ⟨e0, hT0, hst0, hs0⟩ := h
  have e0 : vs = [tv, .str (pS st), .int (s : Nat)] := e0
  subst e0
  have hT : TreeAt K a H tv b := hT0
  have hst : st.length + 1 = nS b := hst0
  have hs : s < nS b := hs0
  clear hT0 hst0 hs0
  have hsm : nS b ≤ 64 := hT.sm
  obtain ⟨p, dx, fs, pws, ws, pw, xs, rfl, hp, hf, hpws, hws, hpw, hxs⟩ := way_in hT hs
  have lx : xs.length = (wy b s).length := by rw [hxs.len, List.length_map]
  refine ⟨⟨H, []⟩, Own.base H, ?_⟩
  refine ⟨?_, fun p3 => ?_⟩
  · show st.length ≤ sizeLine
    exact Nat.le_trans (show st.length ≤ 100 by omega) (by decide)
  rw [sg_pS]
  refine ⟨dx, fs, _, .inr hp, hf, ?_⟩
  refine ⟨ws, _, .inr (.inr hpws), atI_at hws, ?_⟩
  refine .inr ⟨xs, .inr hpw, ?_⟩
  refine ⟨fun k σ S => ∃ (x4 x5 : Option V), σ = [some (.ref p), some (.str (pS st)), some (.int (s : Nat)), some (.ref p3), x4, x5] ∧ S = ⟨H, [(p3, .lst (cV (hitL st ((wy b s).take k))))]⟩, ⟨none, none, rfl, rfl⟩, ?_, ?_, ?_⟩
  · rintro k σ S _ ⟨x4, x5, rfl, rfl⟩
    exact .inr hpw
  · rintro k σ S hk ⟨x4, x5, rfl, rfl⟩ v hv
    have hk : k < xs.length := hk
    obtain ⟨d, hd, mv⟩ := hxs.at hv
    obtain ⟨t, ht⟩ : ∃ t, (wy b s)[k]? = some t := ⟨_, List.getElem?_eq_getElem (by omega)⟩
    rw [List.getElem?_map, ht] at hd
    cases hd
    obtain ⟨pt, rfl, hpt⟩ := st_open mv
    have hf := wy_small hs t (List.mem_of_getElem? ht)
    have hmk : hitL st ((wy b s).take (k + 1)) = (hitL st ((wy b s).take k)).set t.1 (cdB t.2) := by
      rw [take_more ht]
      unfold hitL
      rw [List.foldl_append]
      rfl
    refine ⟨_, hpt.s (fun _ z => nomatch z), rfl, ?_⟩
    refine ⟨0, cV (hitL st ((wy b s).take k)), t.1, rfl, ixN_nat (by rw [cV_len, hitL_len]; omega), ?_⟩
    refine ⟨_, SLe.refl _, _, _, rfl, ?_⟩
    rw [hmk, ← cV_set]
    rfl
  · rintro σ S ⟨x4, x5, rfl, rfl⟩
    have en : (itU K pw xs).n = (wy b s).length := lx
    rw [en, List.take_length]
    have hle : (hitL st (wy b s)).length = st.length := hitL_len _ _
    refine ⟨rfl, (hitL st (wy b s)).map fun c => pS [c], .inl (.inl ⟨0, by rw [cV_ss]; rfl⟩), ?_, ?_⟩
    · rw [sum_pS]
      show _ + _ * 0 ≤ 16777216
      omega
    · rw [join_pS]
      exact fun H' o' => ⟨rfl, fun c u e => o'.fr c u e⟩
theorem use_turned {W : sWX} {σ : L2.St} {F : Hp} {G : List (Addr × HO)} {Q : V → SH → Prop} {vs : List V} (tv : V) (b : TR) (st : List Nat) (s : Nat) (e : vs = [tv, .str (pS st), .int (s : Nat)]) (hT : TreeAt K a F tv b) (hst : st.length + 1 = nS b) (hs : s < nS b)
    (k : Q (.str (pS (hitL st (wy b s)))) ⟨F, G⟩) : rC (ct_turned K a) W vs σ ⟨F, G⟩ Q :=
  ⟨(tv, b, st, s), fun H o => ⟨e, hT.ext (own_F o), hst, hs⟩, fun H v H' o q => ⟨_, o.ex q.2, by rw [q.1]; exact k⟩, fun _ _ _ _ _ q => q.elim⟩
theorem vc_turned_by {vs : List V} {H : Hp} (g : V × TR × Rl × List Nat × Bool × Nat) (h : (ct_turned_by K a).pre g vs H) : ∃ S, Own S H ∧ r_turned_by K a (endsC (ct_turned_by K a) g H) (start N_turned_by vs) S := by
  obtain ⟨tv, b, r, st, kd, s⟩ := g
  obtain ⟨e0, hT0, hst0, hs0⟩ := h
  have e0 : vs = [tv, .str (rlS r), .str (pS st), .str (kS kd), .int (s : Nat)] := e0
  subst e0
  have hT : TreeAt K a H tv b := hT0
  have hst : st.length + 1 = nS b := hst0
  have hs : s < nS b := hs0
  clear hT0 hst0 hs0
  refine ⟨⟨H, []⟩, Own.base H, ?_⟩
  refine seq_go (set_go (ifE_go (tst_go (op_go (var_go (v := .str (kS kd)) (by rfl) (c_go (eq_s (dec_h kd) ?_)))))))
  have tail : ∀ t : Bool, turnR r kd = t → (sSeq (sIfS (sTst (sOp (oEq K) (sVar 5) (sC (.str ("t" : Str))))) (sRet (sCallD (q_turned K a) [] (sCons (sVar 0) (sCons (sVar 2) (sCons (sVar 4) (sNil)))))) (sNext)) (sRet (sVar 2))) (endsC (ct_turned_by K a) (tv, b, r, st, kd, s) H) [some tv, some (.str (rlS r)), some (.str (pS st)), some (.str (kS kd)), some (.int (s : Nat)), some (.str (pS [tkN t]))] ⟨H, []⟩ := fun t ht => by
    refine seq_go (ifT_go (tst_go (op_go (var_go (v := .str (pS [tkN t])) (by rfl) (c_go (eq_s (dec_t t) ?_))))))
    cases t with
    | true =>
      refine ret_go (calld_go (cons_go (var_go (v := tv) (by rfl) (cons_go (var_go (v := .str (pS st)) (by rfl) (cons_go (var_go (v := .int (s : Nat)) (by rfl) (nil_go ?_))))))))
      refine use_turned tv b st s (by rfl) hT hst hs fun H' o => ⟨?_, ext0 o⟩
      show _ = V.str (pS (trnW (turnR r kd) st (wy b s)))
      rw [ht]
      rfl
    | false =>
      refine nx_go ?_
      dsimp only
      refine ret_go (var_go (v := .str (pS st)) (by rfl) fun H' o => ⟨?_, ext0 o⟩)
      show _ = V.str (pS (trnW (turnR r kd) st (wy b s)))
      rw [ht]
      rfl
  cases kd with
  | true => exact op_go (var_go (v := .str (rlS r)) (by rfl) (c_go (ix_r1 (tail r.2.1 rfl))))
  | false => exact op_go (var_go (v := .str (rlS r)) (by rfl) (c_go (ix_r0 (tail r.1 rfl))))
theorem use_tby {W : sWX} {σ : L2.St} {F : Hp} {G : List (Addr × HO)} {Q : V → SH → Prop} {vs : List V} (tv : V) (b : TR) (r : Rl) (st : List Nat) (kd : Bool) (s : Nat) (e : vs = [tv, .str (rlS r), .str (pS st), .str (kS kd), .int (s : Nat)]) (hT : TreeAt K a F tv b) (hst : st.length + 1 = nS b) (hs : s < nS b)
    (k : Q (.str (pS (trnL b r kd st s))) ⟨F, G⟩) : rC (ct_turned_by K a) W vs σ ⟨F, G⟩ Q :=
  ⟨(tv, b, r, st, kd, s), fun H o => ⟨e, hT.ext (own_F o), hst, hs⟩, fun H v H' o q => ⟨_, o.ex q.2, by rw [q.1]; exact k⟩, fun _ _ _ _ _ q => q.elim⟩
theorem vc_goes_against {vs : List V} {H : Hp} (r : Rl) (h : ct_goes_against.pre r vs H) : ∃ S, Own S H ∧ r_goes_against K a (endsC ct_goes_against r H) (start N_goes_against vs) S := by
  have h : vs = [.str (rlS r)] := h.1
  subst h
  exact ⟨⟨H, []⟩, Own.base H, ret_go (op_go (op_go (var_go (v := .str (rlS r)) (by rfl) (c_go (ix_r2 (c_go (eq_s (dec_a r.2.2) fun H' o => ⟨rfl, ext0 o⟩)))))))⟩
theorem use_goes {W : sWX} {σ : L2.St} {S : SH} {Q : V → SH → Prop} {vs : List V} (r : Rl) (e : vs = [.str (rlS r)]) (k : Q (.bl r.2.2) S) : rC ct_goes_against W vs σ S Q :=
  ⟨r, fun H o => ⟨e, trivial⟩, fun H v H' o q => ⟨S, o.ex q.2, by rw [q.1]; exact k⟩, fun _ _ _ _ _ q => q.elim⟩
theorem sd_pS (c : Bool) : sdS c = pS [cdB c] := rfl
theorem find_take {α : Type} {p : α → Bool} {l : List α} {k : Nat} {x : α} (h : l[k]? = some x) (n : (l.take k).find? p = none) (hx : p x = true) : l.find? p = some x := by
  have e : l = l.take k ++ l.drop k := (List.take_append_drop k l).symm
  have hk := (List.getElem?_eq_some_iff.mp h).1
  rw [e, List.find?_append, n]
  have e2 : l.drop k = x :: l.drop (k + 1) := by
    rw [List.drop_eq_getElem_cons hk]
    congr 1
    exact (List.getElem?_eq_some_iff.mp h).2
  rw [e2]
  show (List.find? p (x :: _)) = _
  rw [List.find?_cons, hx]
theorem find_snoc {α : Type} {p : α → Bool} {l : List α} {k : Nat} {x : α} (h : l[k]? = some x) (n : (l.take k).find? p = none) (hx : p x = false) : (l.take (k + 1)).find? p = none := by
  rw [take_more h, List.find?_append, n]
  show List.find? p [x] = none
  rw [List.find?_cons, hx]
  rfl
theorem vc_wrong_fork {vs : List V} {H : Hp} (g : V × TR × Rl × List Nat × Nat) (h : (ct_wrong_fork K a).pre g vs H) : ∃ S, Own S H ∧ r_wrong_fork K a (endsC (ct_wrong_fork K a) g H) (start N_wrong_fork vs) S := by
  obtain ⟨tv, b, r, st, s⟩ := g
  obtain ⟨e0, hT0, hst0, hs0⟩ := h
  have e0 : vs = [tv, .str (rlS r), .str (pS st), .int (s : Nat)] := e0
  subst e0
  have hT : TreeAt K a H tv b := hT0
  have hst : st.length + 1 = nS b := hst0
  have hs : s < nS b := hs0
  clear hT0 hst0 hs0
  have hsm : nS b ≤ 64 := hT.sm
  obtain ⟨p, dx, fs, pws, ws, pw, xs, rfl, hp, hf, hpws, hws, hpw, hxs⟩ := way_in hT hs
  have lx : xs.length = (wy b s).length := by rw [hxs.len, List.length_map]
  have fin : ∀ (v : V) (E : List (Addr × HO)), v = hgV (wrfL r st (wy b s)) → ∀ H', Own ⟨H, E⟩ H' → (ct_wrong_fork K a).post (.ref p, b, r, st, s) H v H' := fun v E e H' o => ⟨e, fun c u z => o.fr c u z⟩
  refine ⟨⟨H, []⟩, Own.base H, ?_⟩
  refine ⟨dx, fs, _, .inr hp, hf, ?_⟩
  refine ⟨ws, _, .inr (.inr hpws), atI_at hws, ?_⟩
  refine .inr ⟨xs, .inr hpw, ?_⟩
  refine ⟨fun k σ S => ∃ (x4 x5 x6 : Option V), σ = [some (.ref p), some (.str (rlS r)), some (.str (pS st)), some (.int (s : Nat)), x4, x5, x6] ∧ S = ⟨H, []⟩ ∧ ((wy b s).take k).find? (wrgR r.2.2 st) = none, ⟨none, none, none, rfl, rfl, rfl⟩, ?_, ?_, ?_⟩
  · rintro k σ S _ ⟨x4, x5, x6, rfl, rfl, _⟩
    exact .inr hpw
  · rintro k σ S hk ⟨x4, x5, x6, rfl, rfl, hn⟩ v hv
    have hk : k < xs.length := hk
    obtain ⟨d, hd, mv⟩ := hxs.at hv
    obtain ⟨t, ht⟩ : ∃ t, (wy b s)[k]? = some t := ⟨_, List.getElem?_eq_getElem (by omega)⟩
    rw [List.getElem?_map, ht] at hd
    cases hd
    obtain ⟨pt, rfl, hpt⟩ := st_open mv
    have hf := wy_small hs t (List.mem_of_getElem? ht)
    refine ⟨_, hpt.s (fun _ z => nomatch z), rfl, ?_⟩
    obtain ⟨c, hc⟩ : ∃ c, st[t.1]? = some c := ⟨_, List.getElem?_eq_getElem (by omega)⟩
    have hh : hitP st t = decide (c = cdB t.2) := by
      unfold hitP
      rw [hc]
      exact decide_eq_decide.mpr ⟨Option.some.inj, congrArg some⟩
    refine sg2_go ?_
    refine seq_go (set_go (op_go (op_go (var_go (v := .str (pS st)) (by rfl) (var_go (v := .int (t.1 : Nat)) (by rfl) ?_)))))
    refine ⟨pS_line (by omega), c, pS_at hc, ?_⟩
    refine var_go (v := .str (sdS t.2)) (by rfl) (eq_s (c := hitP st t) (by rw [hh]; exact sg_eq c (cdB t.2)) ?_)
    dsimp only
    refine ifT_go (tst_go (op_go (var_go (v := .bl (hitP st t)) (by rfl) (calld_go (cons_go (var_go (v := .str (rlS r)) (by rfl) (nil_go ?_)))))))
    refine use_goes r (by rfl) (eq_b (dec_b _ _) ?_)
    cases hw : (hitP st t == r.2.2) with
    | true =>
      refine ret_go (var_go (v := .int (t.1 : Nat)) (by rfl) (fin _ [] ?_))
      unfold wrfL
      rw [find_take ht hn hw]
      rfl
    | false => exact nx_go ⟨_, SLe.refl _, _, _, _, rfl, rfl, find_snoc ht hn hw⟩
  · rintro σ S ⟨x4, x5, x6, rfl, rfl, hn⟩
    have en : (itU K pw xs).n = (wy b s).length := lx
    rw [en, List.take_length] at hn
    dsimp only
    refine ret_go (c_go (fin .non [] ?_))
    unfold wrfL
    rw [hn]
    rfl
theorem use_wf {W : sWX} {σ : L2.St} {F : Hp} {G : List (Addr × HO)} {Q : V → SH → Prop} {vs : List V} (tv : V) (b : TR) (r : Rl) (st : List Nat) (s : Nat) (e : vs = [tv, .str (rlS r), .str (pS st), .int (s : Nat)]) (hT : TreeAt K a F tv b) (hst : st.length + 1 = nS b) (hs : s < nS b)
    (k : Q (hgV (wrfL r st (wy b s))) ⟨F, G⟩) : rC (ct_wrong_fork K a) W vs σ ⟨F, G⟩ Q :=
  ⟨(tv, b, r, st, s), fun H o => ⟨e, hT.ext (own_F o), hst, hs⟩, fun H v H' o q => ⟨_, o.ex q.2, by rw [q.1]; exact k⟩, fun _ _ _ _ _ q => q.elim⟩
end
section
variable {K : PySem.W.Frag} {a : Ads}
open TR
theorem flg_pat {st : List Nat} (h : flgOk st) : patOk st := fun c hc => by
  rcases h c hc with rfl | rfl
  · exact .head _
  · exact .tail _ (.head _)
theorem sL_mem {F : Hp} {G : List (Addr × HO)} {t : Addr} {xs : List V} (h : (t, HO.lst xs) ∈ G) : sL K ⟨F, G⟩ t xs := .inl (List.mem_iff_getElem?.mp h)
theorem sU_mem {F : Hp} {G : List (Addr × HO)} {t : Addr} {xs : List V} (h : (t, HO.tup xs) ∈ G) : sU K ⟨F, G⟩ t xs := .inl (List.mem_iff_getElem?.mp h)
theorem at_mem {F : Hp} {G : List (Addr × HO)} {t : Addr} {o : HO} (h : (t, o) ∈ G) : At ⟨F, G⟩ t o := .inl (List.mem_iff_getElem?.mp h)
/-- the checks in front -/
theorem qb_front {res : TR → Rl → List Nat → List Ln → V → Hp → Prop} {H : Hp} (g : QbG) (hT : TreeAt K a H g.tv g.b) (hq : qbOk K H g.b g.rv g.sv g.lv g.q) {t : sS} {σ : L2.St} {i : Nat} (e1 : σ[1]? = some (some g.rv)) (e0 : (σ.set 4 (some g.sv)) = σ.set 4 (some g.sv)) (e2 : σ[2]? = some (some g.sv)) (e3 : σ[0]? = some (some g.tv))
    (k1 : ∀ r st run, g.q = .ok r st run → t (endsC (ct_qb K a res) g H) (σ.set 4 (some g.sv)) ⟨H, []⟩) (k2 : ∀ r st i, g.q = .line r st i → t (endsC (ct_qb K a res) g H) (σ.set 4 (some g.sv)) ⟨H, []⟩) :
    sSeq (sDrop (sCallD (q_checked_rule K a) [] (sCons (sVar 1) (sNil)))) (sSeq (sSet (sCallD (q_checked_flags K a) [] (sCons (sVar 0) (sCons (sVar 2) (sNil)))) 4) t) (endsC (ct_qb K a res) g H) σ ⟨H, []⟩ := by
  obtain ⟨tv, b, rv, sv, lv, q⟩ := g
  have hT : TreeAt K a H tv b := hT
  have hq : qbOk K H b rv sv lv q := hq
  have hsm := hT.sm
  refine seq_go (drop_go (calld_go (cons_go (var_go e1 (nil_go ?_)))))
  have flg : ∀ r st, rv = .str (rlS r) → sv = .str (pS st) → st.length + 1 = nS b → flgOk st → t (endsC (ct_qb K a res) ⟨tv, b, rv, sv, lv, q⟩ H) (σ.set 4 (some sv)) ⟨H, []⟩ → q_checked_rule K a (endsC (ct_qb K a res) ⟨tv, b, rv, sv, lv, q⟩ H).ex ([rv] ++ []) σ ⟨H, []⟩ fun _ S1 => sSeq (sSet (sCallD (q_checked_flags K a) [] (sCons (sVar 0) (sCons (sVar 2) (sNil)))) 4) t (endsC (ct_qb K a res) ⟨tv, b, rv, sv, lv, q⟩ H) σ S1 := fun r st h1 h2 h3 h4 kk => by
    subst h1
    refine use_rul r (by rfl) ?_
    refine seq_go (set_go (calld_go (cons_go (var_go e3 (cons_go (var_go e2 (nil_go ?_)))))))
    subst h2
    refine use_flags false tv b (.str (pS st)) .str (by rfl) (fun H' o => hT.ext (own_F o)) (fun H' o => rfl) (pS_sgn (by omega) (flg_pat h4)) (fun _ => kk) fun h => ?_
    rw [flOk_pat h3 (flg_pat h4)] at h
    cases h
  cases q with
  | ok r st run =>
    obtain ⟨h1, h2, h3, h4, h5, h6⟩ := hq
    exact flg r st h1 h2 h3 h4 (k1 r st run rfl)
  | line r st i =>
    obtain ⟨h1, h2, h3, h4, h5⟩ := hq
    exact flg r st h1 h2 h3 h4 (k2 r st i rfl)
  | rule t d =>
    obtain ⟨h1, h2, h3⟩ := hq
    refine use_rule rv t (by rfl) (fun H' o => h1.ex (own_F o)) (fun z => ?_) fun _ d => ?_
    · rw [h2] at z
      cases z
    · exact fun H' o => ex1 o
  | flags r t d =>
    obtain ⟨h1, h2, h3, h4, h5⟩ := hq
    have h1 : rv = .str (rlS r) := h1
    subst h1
    refine use_rul r (by rfl) ?_
    refine seq_go (set_go (calld_go (cons_go (var_go e3 (cons_go (var_go e2 (nil_go ?_)))))))
    refine use_flags false tv b sv t (by rfl) (fun H' o => hT.ext (own_F o)) (fun H' o => h2.ex (own_F o)) h3 (fun h => ?_) fun _ d => ?_
    · rw [h4] at h
      cases h
    · exact fun H' o => ex1 o
theorem notN_hg {x : Option Nat} {S : SH} {Q : V → SH → Prop} (h : Q (.bl x.isSome) S) : oNotN (hgV x) .non S Q := by
  cases x with
  | none => exact h
  | some f =>
    show Q (.bl (!decide (V.int _ = V.non))) S
    rw [decide_eq_false (fun z => nomatch z)]
    exact h
theorem fwR_drop {b : TR} {r : Rl} {st : List Nat} {run : List Ln} {i : Nat} {l : Ln} (h : run[i]? = some l) : fwR b r (run.drop i) i st = match (if l.1 then wrfL r st (wy b l.2) else none) with
    | some f => some (i, f)
    | none => fwR b r (run.drop (i + 1)) (i + 1) (trnL b r l.1 st l.2) := by
  have hk := (List.getElem?_eq_some_iff.mp h).1
  rw [List.drop_eq_getElem_cons hk, (List.getElem?_eq_some_iff.mp h).2]
  rfl
theorem vc_first_wrong_by {vs : List V} {H : Hp} (g : QbG) (h : (ct_qb K a (resFw K)).pre g vs H) : ∃ S, Own S H ∧ r_first_wrong_by K a (endsC (ct_qb K a (resFw K)) g H) (start N_first_wrong_by vs) S := by
  obtain ⟨tv, b, rv, sv, lv, q⟩ := g
  obtain ⟨e0, hT0, hq0⟩ := h
  have e0 : vs = [tv, rv, sv, lv] := e0
  subst e0
  have hT : TreeAt K a H tv b := hT0
  have hq : qbOk K H b rv sv lv q := hq0
  clear hT0 hq0
  have hsm := hT.sm
  refine ⟨⟨H, []⟩, Own.base H, ?_⟩
  refine qb_front (i := 0) ⟨tv, b, rv, sv, lv, q⟩ hT hq (by rfl) rfl (by rfl) (by rfl) (fun r st run eq => ?_) fun r st i eq => ?_
  · have eq : q = .ok r st run := eq
    subst eq
    obtain ⟨h1, h2, h3, h4, h5, h6⟩ := hq
    have h1 : rv = .str (rlS r) := h1
    have h2 : sv = .str (pS st) := h2
    subst h1 h2
    have hslot := h5.2
    obtain ⟨p, xs, e5, hp, hxs, hlo⟩ := run_lines h5
    have e5 : lv = .ref p := e5
    subst e5
    have lxs : xs.length = run.length := by rw [hxs.len, List.length_map]
    refine use_crun tv b (.ref p) (.inl xs) (by rfl) hT hlo (fun ys p2 z => ?_) fun _ _ z => nomatch z
    cases z
    refine ⟨xs, .inl ⟨0, rfl⟩, ?_⟩
    refine ⟨fun i σ S => ∃ (E : List (Addr × HO)) (x5 x6 x7 x8 : Option V), σ = [some tv, some (.str (rlS r)), some (.str (pS st)), some (.ref p), some (.str (pS (fbL b r st (run.take i)))), x5, x6, x7, x8] ∧ S = ⟨H, E⟩ ∧ (p2, HO.lst xs) ∈ E ∧ fwR b r (run.drop i) i (fbL b r st (run.take i)) = fwR b r run 0 st, ⟨_, none, none, none, none, rfl, rfl, .head _, rfl⟩, ?_, ?_, ?_⟩
    · rintro i σ S _ ⟨E, x5, x6, x7, x8, rfl, rfl, m, _⟩
      exact sL_mem m
    · rintro i σ S hi ⟨E, x5, x6, x7, x8, rfl, rfl, m, hw⟩ v hv pr
      have hi : i < xs.length := hi
      obtain ⟨d, hd, mv⟩ := hxs.at hv
      obtain ⟨l, hl⟩ : ∃ l, run[i]? = some l := ⟨_, List.getElem?_eq_getElem (by omega)⟩
      rw [List.getElem?_map, hl] at hd
      cases hd
      obtain ⟨pl, rfl, hpl⟩ := ln_open mv
      have hs := hslot l (List.mem_of_getElem? hl)
      have lc : (fbL b r st (run.take i)).length + 1 = nS b := by rw [fbL_len]; exact h3
      have hmore : fbL b r st (run.take (i + 1)) = trnL b r l.1 (fbL b r st (run.take i)) l.2 := by rw [take_more hl, fbL_snoc]
      rw [fwR_drop hl] at hw
      generalize fbL b r st (run.take i) = cur at hw lc hmore
      refine ⟨_, .inl ⟨0, rfl⟩, rfl, ?_⟩
      refine ⟨_, (hpl.s (fun _ z => nomatch z)), rfl, ?_⟩
      refine cut_go (fun σ S => ∃ (E : List (Addr × HO)) (x8 : Option V), σ = [some tv, some (.str (rlS r)), some (.str (pS st)), some (.ref p), some (.str (pS cur)), some (.int (i : Nat)), some (.str (kS l.1)), some (.int (l.2 : Nat)), x8] ∧ S = ⟨H, E⟩ ∧ (p2, HO.lst xs) ∈ E ∧ (if l.1 then wrfL r cur (wy b l.2) else none) = none) ?_ ?_
      · refine ifT_go (tst_go (op_go (var_go (v := .str (kS l.1)) (by rfl) (c_go (eq_s (kS_dec l.1) ?_)))))
        cases hk : l.1 with
        | false => exact nx_go ⟨_, SLe.refl _, _, _, rfl, rfl, .tail _ m, rfl⟩
        | true =>
          refine seq_go (set_go (calld_go (cons_go (var_go (v := tv) (by rfl) (cons_go (var_go (v := .str (rlS r)) (by rfl) (cons_go (var_go (v := .str (pS cur)) (by rfl) (cons_go (var_go (v := .int (l.2 : Nat)) (by rfl) (nil_go ?_)))))))))))
          refine use_wf tv b r cur l.2 (by rfl) hT lc hs ?_
          dsimp only
          refine ifT_go (tst_go (op_go (var_go (v := hgV (wrfL r cur (wy b l.2))) (by rfl) (c_go (notN_hg ?_)))))
          cases hf : wrfL r cur (wy b l.2) with
          | none =>
            refine nx_go ⟨_, SLe.refl _, _, some .non, ?_, rfl, .tail _ m, rfl⟩
            rfl
          | some f =>
            rw [hk, if_pos rfl, hf] at hw
            refine ret_go (tup_go (cons_go (var_go (v := .int (i : Nat)) (by rfl) (cons_go (var_go (v := .int (f : Nat)) (by rfl) (nil_go ⟨show 2 ≤ sizeLine by decide, fun pt => ?_⟩))))))
            intro H' o'
            refine ⟨⟨r, st, run, rfl, ?_⟩, fun c u e => o'.fr c u e⟩
            show MD K H' [] (.ref pt) (fwD (fwR b r run 0 st))
            rw [← hw]
            exact .tup (.inr (o'.u (.inl ⟨0, rfl⟩))) (.cons (.int _) (.cons (.int _) .nil))
      · rintro σ S ⟨E, x8, rfl, rfl, m, hn⟩
        rw [hn] at hw
        refine set_go (calld_go (cons_go (var_go (v := tv) (by rfl) (cons_go (var_go (v := .str (rlS r)) (by rfl) (cons_go (var_go (v := .str (pS cur)) (by rfl) (cons_go (var_go (v := .str (kS l.1)) (by rfl) (cons_go (var_go (v := .int (l.2 : Nat)) (by rfl) (nil_go ?_))))))))))))
        refine use_tby tv b r cur l.1 l.2 (by rfl) hT lc hs ?_
        refine ⟨_, SLe.refl _, E, some (.int (i : Nat)), some (.str (kS l.1)), some (.int (l.2 : Nat)), x8, ?_, rfl, m, ?_⟩
        · rw [hmore]
          rfl
        · rw [hmore]
          exact hw
    · rintro σ S ⟨E, x5, x6, x7, x8, rfl, rfl, m, hw⟩
      have en : (itE K p2 xs).n = run.length := lxs
      rw [en, List.drop_length] at hw
      intro H' o'
      refine ⟨⟨r, st, run, rfl, ?_⟩, fun c u e => o'.fr c u e⟩
      show MD K H' [] .non (fwD (fwR b r run 0 st))
      rw [← hw]
      exact .non
  · have eq : q = .line r st i := eq
    subst eq
    obtain ⟨h1, h2, h3, h4, h5⟩ := hq
    exact use_crun tv b lv (.inr i) (by rfl) hT h5 (fun _ _ z => nomatch z) fun j d z => by
      cases z
      exact fun H' o => ex1 o
theorem vc_flags_by {vs : List V} {H : Hp} (g : QbG) (h : (ct_qb K a resFb).pre g vs H) : ∃ S, Own S H ∧ r_flags_by K a (endsC (ct_qb K a resFb) g H) (start N_flags_by vs) S := by
  obtain ⟨tv, b, rv, sv, lv, q⟩ := g
  obtain ⟨e0, hT0, hq0⟩ := h
  have e0 : vs = [tv, rv, sv, lv] := e0
  subst e0
  have hT : TreeAt K a H tv b := hT0
  have hq : qbOk K H b rv sv lv q := hq0
  clear hT0 hq0
  have hsm := hT.sm
  refine ⟨⟨H, []⟩, Own.base H, ?_⟩
  refine qb_front (i := 0) ⟨tv, b, rv, sv, lv, q⟩ hT hq (by rfl) rfl (by rfl) (by rfl) (fun r st run eq => ?_) fun r st i eq => ?_
  · have eq : q = .ok r st run := eq
    subst eq
    obtain ⟨h1, h2, h3, h4, h5, h6⟩ := hq
    have h1 : rv = .str (rlS r) := h1
    have h2 : sv = .str (pS st) := h2
    subst h1 h2
    have hslot := h5.2
    obtain ⟨p, xs, e5, hp, hxs, hlo⟩ := run_lines h5
    have e5 : lv = .ref p := e5
    subst e5
    have lxs : xs.length = run.length := by rw [hxs.len, List.length_map]
    refine use_crun tv b (.ref p) (.inl xs) (by rfl) hT hlo (fun ys p2 z => ?_) fun _ _ z => nomatch z
    cases z
    refine .inl ⟨xs, .inl ⟨0, rfl⟩, ?_⟩
    refine ⟨fun i σ S => ∃ (x5 x6 : Option V), σ = [some tv, some (.str (rlS r)), some (.str (pS st)), some (.ref p), some (.str (pS (fbL b r st (run.take i)))), x5, x6] ∧ S = ⟨H, [(p2, .lst xs)]⟩, ⟨none, none, rfl, rfl⟩, ?_, ?_, ?_⟩
    · rintro i σ S _ ⟨x5, x6, rfl, rfl⟩
      exact .inl ⟨0, rfl⟩
    · rintro i σ S hi ⟨x5, x6, rfl, rfl⟩ v hv
      have hi : i < xs.length := hi
      obtain ⟨d, hd, mv⟩ := hxs.at hv
      obtain ⟨l, hl⟩ : ∃ l, run[i]? = some l := ⟨_, List.getElem?_eq_getElem (by omega)⟩
      rw [List.getElem?_map, hl] at hd
      cases hd
      obtain ⟨pl, rfl, hpl⟩ := ln_open mv
      have hs := hslot l (List.mem_of_getElem? hl)
      have lc : (fbL b r st (run.take i)).length + 1 = nS b := by rw [fbL_len]; exact h3
      have hmore : fbL b r st (run.take (i + 1)) = trnL b r l.1 (fbL b r st (run.take i)) l.2 := by rw [take_more hl, fbL_snoc]
      generalize fbL b r st (run.take i) = cur at lc hmore
      refine ⟨_, (hpl.s (fun _ z => nomatch z)), rfl, ?_⟩
      refine sg2_go ?_
      refine set_go (calld_go (cons_go (var_go (v := tv) (by rfl) (cons_go (var_go (v := .str (rlS r)) (by rfl) (cons_go (var_go (v := .str (pS cur)) (by rfl) (cons_go (var_go (v := .str (kS l.1)) (by rfl) (cons_go (var_go (v := .int (l.2 : Nat)) (by rfl) (nil_go ?_))))))))))))
      refine use_tby tv b r cur l.1 l.2 (by rfl) hT lc hs ?_
      refine ⟨_, SLe.refl _, some (.str (kS l.1)), some (.int (l.2 : Nat)), ?_, rfl⟩
      rw [hmore]
      rfl
    · rintro σ S ⟨x5, x6, rfl, rfl⟩
      have en : (itL K p2 xs).n = run.length := lxs
      rw [en, List.take_length]
      exact fun H' o' => ⟨⟨r, st, run, rfl, rfl⟩, fun c u e => o'.fr c u e⟩
  · have eq : q = .line r st i := eq
    subst eq
    obtain ⟨h1, h2, h3, h4, h5⟩ := hq
    exact use_crun tv b lv (.inr i) (by rfl) hT h5 (fun _ _ z => nomatch z) fun j d z => by
      cases z
      exact fun H' o => ex1 o
theorem vc_same_rule {vs : List V} {H : Hp} (g : QcG) (h : (ct_same_rule K a).pre g vs H) : ∃ S, Own S H ∧ r_same_rule K a (endsC (ct_same_rule K a) g H) (start N_same_rule vs) S := by
  obtain ⟨tv, b, rv, ov, q⟩ := g
  obtain ⟨e0, hT0, hq0⟩ := h
  have e0 : vs = [tv, rv, ov] := e0
  subst e0
  have hT : TreeAt K a H tv b := hT0
  have hq : qcOk K H rv ov q := hq0
  clear hT0 hq0
  refine ⟨⟨H, []⟩, Own.base H, ?_⟩
  refine seq_go (drop_go (calld_go (cons_go (var_go (v := rv) (by rfl) (nil_go ?_)))))
  cases q with
  | one t d =>
    obtain ⟨h1, h2, h3⟩ := hq
    refine use_rule rv t (by rfl) (fun H' o => h1.ex (own_F o)) (fun z => ?_) fun _ d => ?_
    · rw [h2] at z
      cases z
    · exact fun H' o => ex1 o
  | two r t d =>
    obtain ⟨rfl, h1, h2, h3⟩ := hq
    refine use_rul r (by rfl) ?_
    dsimp only
    refine seq_go (drop_go (calld_go (cons_go (var_go (v := ov) (by rfl) (nil_go ?_)))))
    refine use_rule ov t (by rfl) (fun H' o => h1.ex (own_F o)) (fun z => ?_) fun _ d => ?_
    · rw [h2] at z
      cases z
    · exact fun H' o => ex1 o
  | ok r o =>
    obtain ⟨rfl, rfl⟩ := hq
    refine use_rul r (by rfl) ?_
    dsimp only
    refine seq_go (drop_go (calld_go (cons_go (var_go (v := .str (rlS o)) (by rfl) (nil_go ?_)))))
    refine use_rul o (by rfl) ?_
    have fin : ∀ v, v = smB b r o → ∀ H', Own ⟨H, []⟩ H' → (ct_same_rule K a).post ⟨tv, b, .str (rlS r), .str (rlS o), .ok r o⟩ H (.bl v) H' := fun v e H' oo => ⟨⟨r, o, rfl, by rw [e]⟩, ext0 oo⟩
    dsimp only
    refine seq_go (ifT_go (or_go (tst_go (op_go (var_go (v := .str (rlS r)) (by rfl) (var_go (v := .str (rlS o)) (by rfl) (eq_s (rl_dec r o) ?_)))))))
    unfold smB at fin
    cases h1 : decide (r = o) with
    | true =>
      rw [h1] at fin
      exact ret_go (c_go (fin true rfl))
    | false =>
      rw [h1] at fin
      dsimp only
      refine tst_go (op_go ?_)
      refine use_len (v := tv) (b := b) (fun H' o => hT.ext (own_F o)) hT ?_ (by rfl)
      refine c_go (eq_i (c := decide (nS b = 1)) (decide_eq_decide.mpr (by omega)) ?_)
      cases h2 : decide (nS b = 1) with
      | true =>
        rw [h2] at fin
        exact ret_go (c_go (fin true rfl))
      | false =>
        rw [h2] at fin
        dsimp only
        refine nx_go ?_
        dsimp only
        refine ret_go (andV_go (op_go (op_go (var_go (v := .str (rlS r)) (by rfl) (c_go (ix_r2 (c_go (eq_s (dec_s r.2.2) ?_))))))))
        cases h3 : r.2.2 with
        | true =>
          rw [h3] at fin
          exact fin false rfl
        | false =>
          rw [h3] at fin
          refine andV_go (op_go (op_go (var_go (v := .str (rlS o)) (by rfl) (c_go (ix_r2 (c_go (eq_s (dec_s o.2.2) ?_)))))))
          cases h4 : o.2.2 with
          | true =>
            rw [h4] at fin
            exact fin false rfl
          | false =>
            rw [h4] at fin
            refine op_go (op_go (var_go (v := .str (rlS r)) (by rfl) (c_go (ix_r0 (op_go (var_go (v := .str (rlS o)) (by rfl) (c_go (ix_r0 (eq_s (dec_tt r.1 o.1) ?_)))))))))
            exact fin _ (by cases (r.1 == o.1) <;> rfl)
theorem use_same {W : sWX} {σ : L2.St} {F : Hp} {G : List (Addr × HO)} {Q : V → SH → Prop} {vs : List V} (tv : V) (b : TR) (r o : Rl) (e : vs = [tv, .str (rlS r), .str (rlS o)]) (hT : TreeAt K a F tv b)
    (k : Q (.bl (smB b r o)) ⟨F, G⟩) : rC (ct_same_rule K a) W vs σ ⟨F, G⟩ Q :=
  ⟨⟨tv, b, .str (rlS r), .str (rlS o), .ok r o⟩, fun H oo => ⟨e, hT.ext (own_F oo), rfl, rfl⟩, fun H v H' oo q => ⟨_, oo.ex q.2, by
    obtain ⟨⟨r2, o2, e2, e3⟩, _⟩ := q
    cases e2
    rw [e3]
    exact k⟩, fun _ _ _ _ _ q => q.elim⟩
end
section
variable {K : PySem.W.Frag} {a : Ads}
open TR
theorem bx_of {F : Hp} {E : List (Addr × HO)} {b : Addr} {y : Sx} : sL K ⟨F, E ++ SK.bg b y⟩ b [.int y.1, .int y.2.1, .int y.2.2] := sL_mem (List.mem_append_right _ (.head _))
theorem fwd_i {x : Int} {S : SH} {Q : V → SH → Prop} {y : Int} (h : 0 < y ∧ y < 1073741824) (k : Q (.int (x / y)) S) : oFdv (.int x) (.int y) S Q := ⟨h, k⟩
theorem mod_i {x : Int} {S : SH} {Q : V → SH → Prop} {y : Int} (h : 0 < y) (k : Q (.int (x % y)) S) : oMod (.int x) (.int y) S Q := ⟨h, k⟩
theorem mul_i {x : Int} {S : SH} {Q : V → SH → Prop} {y : Int} (h : sm64 x ∨ sm64 y) (k : Q (.int (x * y)) S) : oMul (.int x) (.int y) S Q := ⟨h, k⟩
theorem int_i {x : Int} {S : SH} {Q : V → SH → Prop} (k : Q (.int x) S) : nInt [.int x] S Q := k
theorem vc_l_source {vs : List V} {H : Hp} (g : Addr × List Int × Nat) (h : (ct_l_source K).pre g vs H) : ∃ S, Own S H ∧ r_l_source K a (endsC (ct_l_source K) g H) (start N_l_source vs) S := by
  obtain ⟨p, ns, pl⟩ := g
  obtain ⟨e0, hs⟩ := h
  have e0 : vs = [.ref p, .int (pl : Nat)] := e0
  subst e0
  have hs : SqL K H p (ns.map V.int) := hs
  refine ⟨⟨H, []⟩, Own.base H, ?_⟩
  refine seq_go (set_go (op_go (op_go (c_go (op_go (c_go (var_go (v := .int (pl : Nat)) (by rfl) (mul_i (.inl (by unfold sm64; omega)) ?_))))))))
  try dsimp only
  refine add_g ?_
  refine op_go (call1_go (cons_go ?_))
  refine .inl ⟨ns.map V.int, .inr hs, fun q => nil_go ?_⟩
  refine ⟨ns.take 1, .inl ⟨0, ?_⟩, ?_⟩
  · show some (q, HO.lst (cutV (ns.map V.int) none (some 1))) = _
    have : cutV (ns.map V.int) none (some 1) = (ns.take 1).map V.int := by
      unfold cutV
      rw [HT.sIx_none, show (some (1 : Int)) = some ((1 : Nat) : Int) from rfl, HT.sIx_nat, Nat.sub_zero, List.drop_zero, List.map_take]
      cases ns with
      | nil => rfl
      | cons n ns =>
        rw [Nat.min_eq_left (by rw [List.map_cons, List.length_cons]; omega)]
    rw [this]
  try dsimp only
  refine c_go (mod_i (by decide) (add_g ?_))
  try dsimp only
  generalize (104617 : Int) + 7919 * (pl : Int) + (ns.take 1).sum % 1000003 = c0
  generalize [(q, HO.lst (cutV (ns.map V.int) none (some 1)))] = E
  refine cut_go (fun σ S => ∃ (c : Int) (E : List (Addr × HO)), σ = [some (.ref p), some (.int (pl : Nat)), some (.int c), none] ∧ S = ⟨H, E⟩) ?_ ?_
  · refine ifT_go (tst_go (op_go (var_go (v := .int (pl : Nat)) (by rfl) (call1_go (cons_go (var_go (v := .ref p) (by rfl) (nil_go ⟨_, .inl (.inr hs), lt_i (c := decide (pl < ns.length)) (decide_eq_decide.mpr (by rw [List.length_map]; omega)) ?_⟩)))))))
    cases hc : decide (pl < ns.length) with
    | true =>
      have hc := of_decide_eq_true hc
      refine set_go (op_go (var_go (v := .ref p) (by rfl) (var_go (v := .int (pl : Nat)) (by rfl) ⟨_, .int (ns[pl]'hc), .inl (.inr hs), atI_at (by rw [List.getElem?_map, List.getElem?_eq_getElem hc]; rfl), ?_⟩)))
      exact ⟨_, SLe.refl _, _, _, rfl, rfl⟩
    | false => exact nx_go ⟨_, SLe.refl _, _, _, rfl, rfl⟩
  rintro σ S ⟨c, E, rfl, rfl⟩
  refine cut_go (fun σ S => ∃ (c : Int) (E : List (Addr × HO)), σ = [some (.ref p), some (.int (pl : Nat)), some (.int c), none] ∧ S = ⟨H, E⟩) ?_ ?_
  · refine ifT_go (tst_go (op_go (var_go (v := .int c) (by rfl) (c_go (lt_i (c := decide (c < 0)) rfl ?_)))))
    cases hc : decide (c < 0) with
    | true => exact set_go (op_go (c_go (var_go (v := .int c) (by rfl) (sub_g ⟨_, SLe.refl _, _, _, rfl, rfl⟩))))
    | false => exact nx_go ⟨_, SLe.refl _, _, _, rfl, rfl⟩
  rintro σ S ⟨c, E, rfl, rfl⟩
  refine seq_go (set_go (c_go ?_))
  try dsimp only
  refine cut_go (fun σ S => ∃ (d : Int) (E : List (Addr × HO)), σ = [some (.ref p), some (.int (pl : Nat)), some (.int c), some (.int d)] ∧ S = ⟨H, E⟩) ?_ ?_
  · refine ifT_go (tst_go (op_go (var_go (v := .int c) (by rfl) (op_go (c_go (c_go ⟨by unfold CPow; decide, ge_i (c := decide ((10 : Int) ^ (18 : Int).toNat ≤ c)) rfl ?_⟩))))))
    cases hc : decide ((10 : Int) ^ (18 : Int).toNat ≤ c) with
    | true => exact set_go (var_go (v := .int c) (by rfl) ⟨_, SLe.refl _, _, _, rfl, rfl⟩)
    | false => exact nx_go ⟨_, SLe.refl _, _, _, rfl, rfl⟩
  rintro σ S ⟨d, E, rfl, rfl⟩
  refine ret_go (lst_go (cons_go (var_go (v := .int d) (by rfl) (cons_go (op_go (call1_go (cons_go (var_go (v := .int c) (by rfl) (nil_go (int_i (c_go (mod_i (by decide) ?_))))))))))))
  refine cons_go (c_go (nil_go ⟨show 3 ≤ sizeLine by decide, fun b H' o' => ?_⟩))
  have m := o'.gs (b, .lst [.int d, .int (c % 2147483647), .int 0]) (.head _)
  refine ⟨b, (d, c % 2147483647, 0), rfl, m.2, ⟨fun q hq => ?_, (show [b].Nodup by simp)⟩, fun c u e => o'.fr c u e⟩
  rw [List.mem_singleton.mp hq]
  exact m.1
theorem use_source {W : sWX} {σ : L2.St} {F : Hp} {G : List (Addr × HO)} {Q : V → SH → Prop} {vs : List V} (p : Addr) (ns : List Int) (pl : Nat) (e : vs = [.ref p, .int (pl : Nat)]) (hp : SqL K F p (ns.map V.int))
    (k : ∀ b y, Q (.ref b) ⟨F, G ++ SK.bg b y⟩) : rC (ct_l_source K) W vs σ ⟨F, G⟩ Q := by
  refine ⟨(p, ns, pl), fun H o => ⟨e, SqL.up (own_F o) hp⟩, fun H v H' o q => ?_, fun _ _ _ _ _ q => q.elim⟩
  obtain ⟨b, y, rfl, h1, h2, h3⟩ := q
  refine ⟨⟨F, G ++ SK.bg b y⟩, ?_, k b y⟩
  have o2 : Own ⟨F, (b, .lst [.int y.1, .int y.2.1, .int y.2.2]) :: G⟩ H' := o.new h1 h3 (h2.at_ _ (.head _))
  exact sle_perm (List.perm_append_comm (l₁ := [(b, HO.lst [.int y.1, .int y.2.1, .int y.2.2])])) _ o2
theorem vc_l_take {vs : List V} {H : Hp} (g : Addr × Sx × Nat) (h : ct_l_take.pre g vs H) : ∃ S, Own S H ∧ r_l_take K a (endsC ct_l_take g H) (start N_l_take vs) S := by
  refine body_lbox g h fun b x n F eg eF hinv hok e => ?_
  subst eg
  have e : vs = [.ref b, .int (n : Nat)] := e
  subst e
  obtain ⟨gr, sd, ct⟩ := x
  obtain ⟨hn, hn2⟩ := (show 0 < n ∧ n < 1000000 from hok)
  have fin : ∀ (y : Sx) (i : Int), ∀ H', Own ⟨F, [] ++ SK.bg b y⟩ H' → ct_l_take.post (b, (gr, sd, ct), n) H (.int (i % (n : Int))) H' := fun y i H' o' => by
    subst eF
    refine end_lbox (B := SK) (E := []) o' trivial fun H2 o2 => ?_
    obtain ⟨r, e1, e2⟩ := modNat (x := i) (m := (n : Int)) (by omega)
    exact ⟨r, by rw [e1], by omega⟩
  show r_l_take K a _ _ ⟨F, [(b, .lst [.int gr, .int sd, .int ct])]⟩
  have ix : ∀ (g s c : Int) (i : Nat) (v : V) (Q : V → SH → Prop), ([V.int g, .int s, .int c] : List V)[i]? = some v → Q v ⟨F, [(b, .lst [.int g, .int s, .int c])]⟩ → oIx K (.ref b) (.int (i : Nat)) ⟨F, [(b, .lst [.int g, .int s, .int c])]⟩ Q := fun g s c i v Q hv hq => ⟨_, v, .inl (.inl ⟨0, rfl⟩), atI_at hv, hq⟩
  refine seq_go (ifT_go (tst_go (op_go (op_go (var_go (v := .ref b) (by rfl) (c_go (ix gr sd ct 0 _ _ rfl (c_go (gt_i (c := decide (0 < gr)) rfl ?_)))))))))
  cases hg : decide (0 < gr) with
  | true =>
    try dsimp only
    refine seq_go (set_go (op_go (call1_go (cons_go (op_go (var_go (v := .ref b) (by rfl) (c_go (ix gr sd ct 0 _ _ rfl (nil_go (int_i (var_go (v := .int (n : Nat)) (by rfl) (mod_i (by omega) ?_))))))))))))
    try dsimp only
    refine seq_go (asg_go (op_go (op_go (var_go (v := .ref b) (by rfl) (c_go (ix gr sd ct 0 _ _ rfl (var_go (v := .int (n : Nat)) (by rfl) (fwd_i (by omega) ?_))))))))
    refine ⟨0, _, 0, rfl, rfl, ?_⟩
    try dsimp only
    exact ret_go (var_go (v := .int (gr % (n : Int))) (by rfl) (fin (gr / (n : Int), sd, ct) gr))
  | false =>
    refine nx_go ?_
    try dsimp only
    refine seq_go (asg_go (op_go (op_go (var_go (v := .ref b) (by rfl) (c_go (ix gr sd ct 2 _ _ rfl (c_go (add_g ?_))))))))
    refine ⟨0, _, 2, rfl, rfl, ?_⟩
    try dsimp only
    show sSeq _ _ _ _ ⟨F, [(b, .lst [.int gr, .int sd, .int (ct + 1)])]⟩
    generalize ct + 1 = c1
    refine seq_go (set_go (op_go (call1_go (cons_go (op_go (op_go (op_go (op_go (var_go (v := .ref b) (by rfl) (c_go (ix gr sd c1 1 _ _ rfl ?_)))))))))))
    try dsimp only
    refine op_go (c_go (op_go (var_go (v := .ref b) (by rfl) (c_go (ix gr sd c1 2 _ _ rfl (mul_i (.inl (by unfold sm64; decide)) (add_g ?_)))))))
    try dsimp only
    refine c_go (mul_i (.inr (by unfold sm64; decide)) ?_)
    try dsimp only
    refine c_go (add_g (nil_go (int_i (c_go (mod_i (by decide) ?_)))))
    try dsimp only
    obtain ⟨m1, e1, l1⟩ := modNat (x := (sd + 40503 * c1) * 48271 + 12820163) (m := 2147483647) (by decide)
    rw [e1]
    refine seq_go (set_go (op_go (call1_go (cons_go (op_go (op_go (op_go (var_go (v := .int (m1 : Nat)) (by rfl) (var_go (v := .int (m1 : Nat)) (by rfl) (mul_i (.inl (by unfold sm64; omega)) ?_))))))))))
    try dsimp only
    refine op_go (c_go (op_go (var_go (v := .ref b) (by rfl) (c_go (ix gr sd c1 2 _ _ rfl (mul_i (.inl (by unfold sm64; decide)) (add_g ?_)))))))
    try dsimp only
    refine op_go (var_go (v := .ref b) (by rfl) (c_go (ix gr sd c1 1 _ _ rfl (add_g (nil_go (int_i (c_go (mod_i (by decide) ?_))))))))
    try dsimp only
    obtain ⟨m2, e2, l2⟩ := modNat (x := (m1 : Int) * m1 + 69621 * c1 + sd) (m := 2147483629) (by decide)
    rw [e2]
    refine seq_go (set_go (op_go (call1_go (cons_go (op_go (op_go (var_go (v := .int (m2 : Nat)) (by rfl) (c_go (mul_i (.inl (by unfold sm64; omega)) ?_)))))))))
    try dsimp only
    refine op_go (var_go (v := .ref b) (by rfl) (c_go (ix gr sd c1 2 _ _ rfl (add_g (nil_go (int_i (c_go (mod_i (by decide) ?_))))))))
    try dsimp only
    generalize ((m2 : Int) * 16807 + c1) % 2147483647 = m3
    refine ret_go (op_go (call1_go (cons_go (op_go (var_go (v := .int m3) (by rfl) (c_go (fwd_i (by decide) (nil_go (int_i (var_go (v := .int (n : Nat)) (by rfl) (mod_i (by omega) ?_)))))))))))
    exact fin (gr, sd, c1) (m3 / 13)
theorem use_take {W : sWX} {vs : List V} {σ : L2.St} {F : Hp} {E : List (Addr × HO)} {b : Addr} {x : Sx} {Q : V → SH → Prop} (n : Nat) (e : vs = [.ref b, .int (n : Nat)]) (hs : 0 < n ∧ n < 1000000)
    (k : ∀ (y : Sx) (r : Nat), r < n → Q (.int (r : Nat)) ⟨F, E ++ SK.bg b y⟩) : rC ct_l_take W vs σ ⟨F, E ++ SK.bg b x⟩ Q := by
  refine use_lbox (B := SK) n e trivial (fun _ _ => hs) fun y H1 v H2 hy o1 o2 ex hres => ?_
  obtain ⟨r, rfl, hr⟩ := hres
  exact ⟨F, E, o2, k y r hr⟩
end
section
variable {K : PySem.W.Frag} {a : Ads}
open TR
theorem own_g {F : Hp} {E : List (Addr × HO)} {H : Hp} (o : Own ⟨F, E⟩ H) {p : Addr} {u : HO} (h : (p, u) ∈ E) : H p = some u := (o.gs (p, u) h).1
/-- the end of a def that draws, over a heap that grew -/
theorem end_sk {α : Type} {args : α → List V} {res : α → Hp → V → Hp → Prop} {ok : α → Hp → Prop} {H H' F2 : Hp} {b : Addr} {x y : Sx} {g : α} {E : List (Addr × HO)} {v : V} (e : Ext (woL H (SK.bg b x)) F2) (o : Own ⟨F2, E ++ SK.bg b y⟩ H') (hr : ∀ H2, Own ⟨F2, E⟩ H2 → res g (woL H (SK.bg b x)) v H2) : (ct_lbox SK args res ok).post (b, x, g) H v H' := by
  obtain ⟨h1, h2⟩ := lbox_of o
  exact ⟨y, h1, trivial, fun c u q => h2.fr c u (e c u q), hr _ h2⟩
theorem use_part {n : Nat} {W : sWX} {vs : List V} {σ : L2.St} {F : Hp} {E : List (Addr × HO)} {b : Addr} {x : Sx} {Q : V → SH → Prop} (lo many lean : Nat) (e : vs = [.ref b, .int (lo : Nat), .int (many : Nat), .int (lean : Nat)]) (hc : 1 ≤ many ∧ many ≤ n ∧ many ≤ 64 ∧ lo + many ≤ 64)
    (k : ∀ (y : Sx) (F2 : Hp) (bt : TR) (p d : Addr) (kvs : List (List Key × V)), Ext F F2 → nS bt = many → F2 p = some (.tup [.str (tS bt), .ref d]) → F2 d = some (.dT kvs) → TopD bt lo kvs → Q (.ref p) ⟨F2, [] ++ SK.bg b y⟩) : rC (ct_l_part K n) W vs σ ⟨F, E ++ SK.bg b x⟩ Q := by
  refine use_lbox (B := SK) (lo, many, lean) e trivial (fun _ _ => hc) fun y H1 v H2 hy o1 o2 ex hres => ?_
  obtain ⟨bt, p, d, kvs, h1, rfl, h2, h3, h4⟩ := hres
  exact ⟨H2, [], Own.base H2, k y H2 bt p d kvs (own_F o2) h1 h2 h3 h4⟩
theorem txt_l (b : TR) (h : nS b ≤ 64) : (txt b).length ≤ 190 := by
  have := txt_len b
  omega
def r_part2 (K : PySem.W.Frag) : sS := sSeq (sSet (sDisT1 (sTup (sCons (sVar 1) (sCons (sOp oSub (sOp oAdd (sVar 1) (sVar 2)) (sC (.int 1))) (sNil)))) (sOp oSub (sOp oAdd (sVar 1) (sVar 4)) (sC (.int 1)))) 7) (sSeq (sDrop (sMt K "dict" mUpdT (sVar 7) (sCons (sOp (oIx K) (sVar 5) (sC (.int 1))) (sNil)))) (sSeq (sDrop (sMt K "dict" mUpdT (sVar 7) (sCons (sOp (oIx K) (sVar 6) (sC (.int 1))) (sNil)))) (sRet (sTup (sCons (sOp oAdd (sOp oAdd (sOp oAdd (sC (.str ("(" : Str))) (sOp (oIx K) (sVar 5) (sC (.int 0)))) (sOp (oIx K) (sVar 6) (sC (.int 0)))) (sC (.str (")" : Str)))) (sCons (sVar 7) (sNil)))))))
theorem part2 {n : Nat} {H F3 : Hp} {b p1 p2 d1 d2 : Addr} {x y : Sx} {lo many lean : Nat} {l r : TR} {k1 k2 : List (List Key × V)} (e : Ext (woL H (SK.bg b x)) F3) (h1 : nS l + nS r = many) (hm : many ≤ 64) (t1 : F3 p1 = some (.tup [.str (tS l), .ref d1])) (t2 : F3 p2 = some (.tup [.str (tS r), .ref d2])) (q1 : F3 d1 = some (.dT k1)) (q2 : F3 d2 = some (.dT k2)) (D1 : TopD l lo k1) (D2 : TopD r (lo + nS l) k2) :
    r_part2 K (endsC (ct_l_part K n) (b, x, lo, many, lean) H) [some (.ref b), some (.int (lo : Nat)), some (.int (many : Nat)), some (.int (lean : Nat)), some (.int (nS l : Nat)), some (.ref p1), some (.ref p2), none] ⟨F3, [] ++ SK.bg b y⟩ := by
  have n1 := nS_pos l
  have n2 := nS_pos r
  have u1 := txt_l l (by omega)
  have u2 := txt_l r (by omega)
  refine seq_go (set_go fun pd => ?_)
  refine tup_go (cons_go (var_go (v := .int (lo : Nat)) (by rfl) (cons_go (op_go (op_go (var_go (v := .int (lo : Nat)) (by rfl) (var_go (v := .int (many : Nat)) (by rfl) (add_g (c_go (sub_g (nil_go ⟨show 2 ≤ sizeLine by decide, fun pk => ?_⟩)))))))))))
  try dsimp only
  refine op_go (op_go (var_go (v := .int (lo : Nat)) (by rfl) (var_go (v := .int (nS l : Nat)) (by rfl) (add_g (c_go (sub_g ?_))))))
  refine ⟨1, keyP (lo, lo + nS l + nS r - 1), rfl, .inl ⟨0, ?_⟩, ?_⟩
  · show some (pk, HO.tup [.int (lo : Nat), .int ((lo : Int) + (many : Nat) - 1)]) = some (pk, HO.tup [.int (lo : Nat), .int ((lo + nS l + nS r - 1 : Nat) : Int)])
    rw [show (lo : Int) + (many : Nat) - 1 = ((lo + nS l + nS r - 1 : Nat) : Int) by omega]
  rw [show (lo : Int) + (nS l : Nat) - 1 = ((lo + nS l - 1 : Nat) : Int) by omega]
  generalize HO.tup [.int (lo : Nat), .int ((lo : Int) + (many : Nat) - 1)] = o1
  try dsimp only
  show sSeq _ _ _ _ ⟨F3, (pk, o1) :: (pd, .dT [(keyP (lo, lo + nS l + nS r - 1), .int (lo + nS l - 1 : Nat))]) :: SK.bg b y⟩
  refine seq_go (drop_go (mt_go (var_go (v := .ref pd) (by rfl) ⟨.inr (.inl ⟨rfl, .inr ⟨_, .inl ⟨1, rfl⟩⟩⟩), cons_go (op_go (var_go (v := .ref p1) (by rfl) (c_go ⟨_, .ref d1, .inr (.inr (.inl (.inl t1))), atI_at (i := 1) rfl, nil_go ?_⟩)))⟩)))
  refine ⟨1, _, k1, rfl, q1, (fun z => nomatch z), ?_, ?_⟩
  · have := D1.len
    exact Nat.le_trans (show 1 + k1.length ≤ 100 by omega) (by decide)
  try dsimp only
  show sSeq _ _ _ _ ⟨F3, (pk, o1) :: (pd, .dT (mergeT [(keyP (lo, lo + nS l + nS r - 1), .int (lo + nS l - 1 : Nat))] k1)) :: SK.bg b y⟩
  have v1 := fun j => valV_merge j k1 [(keyP (lo, lo + nS l + nS r - 1), .int (lo + nS l - 1 : Nat))] D1.nd
  have d1' := mergeT_nd k1 [(keyP (lo, lo + nS l + nS r - 1), V.int (lo + nS l - 1 : Nat))] (by simp)
  have l1 := length_mergeT k1 [(keyP (lo, lo + nS l + nS r - 1), V.int (lo + nS l - 1 : Nat))]
  have ne1 : mergeT [(keyP (lo, lo + nS l + nS r - 1), V.int (lo + nS l - 1 : Nat))] k1 ≠ [] := fun z => by
    have h0 := v1 (keyP (lo, lo + nS l + nS r - 1))
    rw [z] at h0
    have h0 : none = (valV k1 (keyP (lo, lo + nS l + nS r - 1))).or (valV [(keyP (lo, lo + nS l + nS r - 1), V.int (lo + nS l - 1 : Nat))] (keyP (lo, lo + nS l + nS r - 1))) := h0
    rw [valV_pos rfl] at h0
    cases hh : valV k1 (keyP (lo, lo + nS l + nS r - 1)) <;> rw [hh] at h0 <;> cases h0
  generalize mergeT [(keyP (lo, lo + nS l + nS r - 1), V.int (lo + nS l - 1 : Nat))] k1 = m1 at v1 d1' l1 ne1
  refine seq_go (drop_go (mt_go (var_go (v := .ref pd) (by rfl) ⟨.inr (.inl ⟨rfl, .inr ⟨_, .inl ⟨1, rfl⟩⟩⟩), cons_go (op_go (var_go (v := .ref p2) (by rfl) (c_go ⟨_, .ref d2, .inr (.inr (.inl (.inl t2))), atI_at (i := 1) rfl, nil_go ?_⟩)))⟩)))
  have l1 : m1.length ≤ 1 + k1.length := l1
  have w1 := D1.len
  have w2 := D2.len
  refine ⟨1, _, k2, rfl, q2, ne1, ?_, ?_⟩
  · exact Nat.le_trans (show m1.length + k2.length ≤ 200 by omega) (by decide)
  try dsimp only
  show sRet _ _ _ ⟨F3, (pk, o1) :: (pd, .dT (mergeT m1 k2)) :: SK.bg b y⟩
  have v2 := fun j => valV_merge j k2 m1 D2.nd
  have d2' := mergeT_nd k2 m1 d1'
  have l2 := length_mergeT k2 m1
  generalize mergeT m1 k2 = m2 at v2 d2' l2
  refine ret_go (tup_go (cons_go (op_go (op_go (op_go (c_go (op_go (var_go (v := .ref p1) (by rfl) (c_go ⟨_, .str (tS l), .inr (.inr (.inl (.inl t1))), atI_at (i := 0) rfl, ?_⟩)))))))))
  refine add_s (x := [40]) (y := txt l) (by rw [List.length_singleton]; omega) ?_
  refine op_go (var_go (v := .ref p2) (by rfl) (c_go ⟨_, .str (tS r), .inr (.inr (.inl (.inl t2))), atI_at (i := 0) rfl, ?_⟩))
  refine add_s (x := [40] ++ txt l) (y := txt r) (by rw [List.length_append, List.length_singleton]; omega) ?_
  refine c_go (add_s (x := [40] ++ txt l ++ txt r) (y := [41]) (by rw [List.length_append, List.length_append, List.length_singleton, List.length_singleton]; omega) ?_)
  rw [show [40] ++ txt l ++ txt r ++ [41] = txt (node l r) by show _ = 40 :: (txt l ++ (txt r ++ [41])); simp]
  refine cons_go (var_go (v := .ref pd) (by rfl) (nil_go ⟨show 2 ≤ sizeLine by decide, fun pt => ?_⟩))
  intro H' o'
  refine end_sk (E := [(pt, .tup [.str (tS (node l r)), .ref pd]), (pk, o1), (pd, .dT m2)]) (y := y) e o' fun H2 o2 => ?_
  refine ⟨node l r, pt, pd, m2, h1, rfl, own_g o2 (.head _), own_g o2 (.tail _ (.tail _ (.head _))), fun k => ?_, d2', ?_⟩
  · rw [v2, v1, D1.val, D2.val]
    show _ = (topK r (lo + nS l) k).or ((topK l lo k).or (if k = keyP (lo, lo + nS l + nS r - 1) then some (.int (lo + nS l - 1 : Nat)) else none))
    congr 2
    by_cases ek : keyP (lo, lo + nS l + nS r - 1) = k
    · rw [valV_pos ek, if_pos ek.symm]
    · rw [valV_neg ek, if_neg (fun z => ek z.symm)]
      rfl
  · show m2.length + 1 ≤ nS l + nS r
    omega
theorem vc_l_part {n : Nat} {vs : List V} {H : Hp} (g : Addr × Sx × Nat × Nat × Nat) (h : (ct_l_part K (n + 1)).pre g vs H) : ∃ S, Own S H ∧ r_l_part K a n (endsC (ct_l_part K (n + 1)) g H) (start N_l_part vs) S := by
  refine body_lbox g h fun b x gg F eg eF hinv hok e => ?_
  obtain ⟨lo, many, lean⟩ := gg
  subst eg
  have e : vs = [.ref b, .int (lo : Nat), .int (many : Nat), .int (lean : Nat)] := e
  subst e
  obtain ⟨c1, c2, c3, c4⟩ := (show 1 ≤ many ∧ many ≤ n + 1 ∧ many ≤ 64 ∧ lo + many ≤ 64 from hok)
  refine seq_go (ifT_go (tst_go (op_go (var_go (v := .int (many : Nat)) (by rfl) (c_go (eq_i (c := decide (many = 1)) (decide_eq_decide.mpr (by omega)) ?_))))))
  cases hm : decide (many = 1) with
  | true =>
    have hm := of_decide_eq_true hm
    subst hm
    refine ret_go (tup_go (cons_go (c_go (cons_go fun pd => nil_go ⟨show 2 ≤ sizeLine by decide, fun pt => ?_⟩))))
    intro H' o'
    refine end_sk (E := [(pt, .tup [.str ".", .ref pd]), (pd, .dT [])]) (y := x) (by rw [← eF]; exact Ext.refl _) (eF ▸ o') fun H2 o2 => ?_
    exact ⟨leaf, pt, pd, [], rfl, rfl, own_g o2 (.head _), own_g o2 (.tail _ (.head _)), ⟨fun k => rfl, List.nodup_nil, Nat.le_refl _⟩⟩
  | false =>
    have hm := of_decide_eq_false hm
    refine nx_go ?_
    try dsimp only
    refine seq_go (set_go (op_go (c_go (calld_go (cons_go (var_go (v := .ref b) (by rfl) (cons_go (op_go (var_go (v := .int (many : Nat)) (by rfl) (c_go (sub_g (nil_go ?_))))))))))))
    refine use_take (E := []) (many - 1) (by rw [show ((many : Nat) : Int) - 1 = ((many - 1 : Nat) : Int) by omega]; rfl) (by omega) fun y s hs => ?_
    refine add_g ?_
    rw [show (1 : Int) + (s : Nat) = ((s + 1 : Nat) : Int) by omega]
    have hs : s + 1 ≤ many - 1 := by omega
    have hs0 : 1 ≤ s + 1 := by omega
    generalize s + 1 = s at hs hs0
    try dsimp only
    have stp : ∀ (t u : sS) (c v : Int) (s : Nat) (y : Sx) (D : sEnds) (e : sE), 1 ≤ s → s ≤ many - 1 → (∀ z : Nat, (z : Int) = v → 1 ≤ z ∧ z ≤ many - 1) → 1 ≤ v → (∀ (W : sWX) (S : SH) (Q : V → SH → Prop), Q (.int v) S → e W [some (.ref b), some (.int (lo : Nat)), some (.int (many : Nat)), some (.int (lean : Nat)), some (.int (s : Nat)), none, none, none] S Q) → (∀ s : Nat, 1 ≤ s → s ≤ many - 1 → u D [some (.ref b), some (.int (lo : Nat)), some (.int (many : Nat)), some (.int (lean : Nat)), some (.int (s : Nat)), none, none, none] ⟨F, [] ++ SK.bg b y⟩) →
        sCut (sIfS (sTst (sOp (oEq K) (sVar 3) (sC (.int c)))) (sSet e 4) (sNext)) u D [some (.ref b), some (.int (lo : Nat)), some (.int (many : Nat)), some (.int (lean : Nat)), some (.int (s : Nat)), none, none, none] ⟨F, [] ++ SK.bg b y⟩ := fun t u c v s y D e hs1 hs2 hv hv1 he hu => by
      refine cut_go (fun σ S => ∃ s : Nat, 1 ≤ s ∧ s ≤ many - 1 ∧ σ = [some (.ref b), some (.int (lo : Nat)), some (.int (many : Nat)), some (.int (lean : Nat)), some (.int (s : Nat)), none, none, none] ∧ S = ⟨F, [] ++ SK.bg b y⟩) ?_ ?_
      · refine ifT_go (tst_go (op_go (var_go (v := .int (lean : Nat)) (by rfl) (c_go (eq_i (c := decide ((lean : Int) = c)) rfl ?_)))))
        cases decide ((lean : Int) = c) with
        | true =>
          obtain ⟨z, hz⟩ : ∃ z : Nat, v = (z : Int) := ⟨v.toNat, by omega⟩
          subst hz
          refine set_go (he _ _ _ ⟨_, SLe.refl _, z, (hv z rfl).1, (hv z rfl).2, rfl, rfl⟩)
        | false => exact nx_go ⟨_, SLe.refl _, s, hs1, hs2, rfl, rfl⟩
      · rintro σ S ⟨s, h1, h2, rfl, rfl⟩
        exact hu s h1 h2
    refine stp sNext _ 1 1 s y _ _ hs0 hs (fun z hz => by omega) (by omega) (fun W S Q q => c_go q) fun s hs0 hs => ?_
    refine stp sNext _ 2 ((many : Nat) - 1) s y _ _ hs0 hs (fun z hz => by omega) (by omega) (fun W S Q q => op_go (var_go (v := .int (many : Nat)) (by rfl) (c_go (sub_g q)))) fun s hs0 hs => ?_
    refine stp sNext _ 3 ((many : Nat) / 2) s y _ _ hs0 hs (fun z hz => by omega) (by omega) (fun W S Q q => op_go (var_go (v := .int (many : Nat)) (by rfl) (c_go (fwd_i (by decide) q)))) fun s hs0 hs => ?_
    refine seq_go (set_go (calld_go (cons_go (var_go (v := .ref b) (by rfl) (cons_go (var_go (v := .int (lo : Nat)) (by rfl) (cons_go (var_go (v := .int (s : Nat)) (by rfl) (cons_go (var_go (v := .int (lean : Nat)) (by rfl) (nil_go ?_)))))))))))
    refine use_part (E := []) lo s lean (by rfl) (by omega) fun y F2 l p1 d1 k1 e1 b1 b2 b3 b4 => ?_
    try dsimp only
    refine seq_go (set_go (calld_go (cons_go (var_go (v := .ref b) (by rfl) (cons_go (op_go (var_go (v := .int (lo : Nat)) (by rfl) (var_go (v := .int (s : Nat)) (by rfl) (add_g ?_)))))))))
    refine cons_go (op_go (var_go (v := .int (many : Nat)) (by rfl) (var_go (v := .int (s : Nat)) (by rfl) (sub_g (cons_go (var_go (v := .int (lean : Nat)) (by rfl) (nil_go ?_)))))))
    refine use_part (E := []) (lo + s) (many - s) lean ?_ (by omega) fun y F3 r p2 d2 k2 e2 b5 b6 b7 b8 => ?_
    · rw [show (lo : Int) + (s : Nat) = ((lo + s : Nat) : Int) by omega, show (many : Int) - (s : Nat) = ((many - s : Nat) : Int) by omega]
      rfl
    try dsimp only
    subst b1
    exact part2 (n := n + 1) (lean := lean) (y := y) (Ext.trans (by rw [← eF]; exact e1) e2) (by omega) c3 (e2 _ _ b2) b6 (e2 _ _ b3) b7 b4 b8
theorem lr_two (c : Nat) : atI (pS [76, 82]).cps.toList (c : Int) = ([76, 82] : List Nat)[c]? ∨ 2 ≤ c := by
  by_cases h : c < 2
  · exact .inl (by rcases (show c = 0 ∨ c = 1 by omega) with rfl | rfl <;> rfl)
  · exact .inr (by omega)
theorem vc_l_flags {vs : List V} {H : Hp} (g : Addr × Sx × Nat) (h : (ct_l_flags K).pre g vs H) : ∃ S, Own S H ∧ r_l_flags K a (endsC (ct_l_flags K) g H) (start N_l_flags vs) S := by
  refine body_lbox g h fun b x n F eg eF hinv hok e => ?_
  subst eg
  have e : vs = [.ref b, .int (n : Nat)] := e
  subst e
  obtain ⟨hn1, hn2⟩ := (show 1 ≤ n ∧ n ≤ 64 from hok)
  have en : (((n : Nat) : Int) - 1).toNat = n - 1 := by omega
  refine ⟨rfl, ?_⟩
  refine ⟨by show rngOk (((n : Nat) : Int) - 1); unfold rngOk; omega, fun D => ?_⟩
  refine ⟨fun i S => ∃ (y : Sx) (acc : List Nat), acc.length = i ∧ flgOk acc ∧ S = ⟨F, (D, .lst ((acc.map fun c => pS [c]).map V.str)) :: ([] ++ SK.bg b y)⟩, ⟨x, [], rfl, (fun _ z => nomatch z), rfl⟩, fun _ _ _ _ => trivial, ?_, ?_⟩
  · rintro i S hi ⟨y, acc, hl, hp, rfl⟩
    have hi : i < (((n : Nat) : Int) - 1).toNat := hi
    rw [en] at hi
    refine yldR_go (nm_go ⟨rfl, ?_⟩)
    refine yesg_go ?_
    try dsimp only
    refine op_go (c_go (calld_go (cons_go (var_go (v := .ref b) (by rfl) (cons_go (c_go (nil_go ?_)))))))
    refine use_take (E := (D, .lst ((acc.map fun c => pS [c]).map V.str)) :: []) 2 (by rfl) (by decide) fun y r hr => ?_
    obtain ⟨c, hc⟩ : ∃ c, ([76, 82] : List Nat)[r]? = some c := ⟨_, List.getElem?_eq_getElem (by exact hr)⟩
    refine ⟨pS_line (l := [76, 82]) (by decide), c, pS_at (st := [76, 82]) hc, ?_⟩
    refine ⟨0, _, rfl, ?_, ⟨_, SLe.refl _, y, acc ++ [c], by rw [List.length_append, hl]; rfl, fun d hd => ?_, ?_⟩⟩
    · rw [List.length_map, List.length_map, hl]
      exact small_of (show i ≤ 64 by omega) (by decide)
    · rcases List.mem_append.mp hd with hd | hd
      · exact hp d hd
      · rw [List.mem_singleton.mp hd]
        have := List.mem_of_getElem? hc
        simpa using this
    · rw [List.map_append, List.map_append]
      rfl
  · rintro S ⟨y, acc, hl, hp, rfl⟩
    have hl : acc.length = (((n : Nat) : Int) - 1).toNat := hl
    rw [en] at hl
    refine ⟨acc.map fun c => pS [c], .inl (.inl ⟨0, rfl⟩), ?_, ?_⟩
    · rw [sum_pS]
      show _ + _ * 0 ≤ 16777216
      omega
    · rw [join_pS]
      intro H' o'
      subst eF
      exact end_sk (E := [(D, .lst ((acc.map fun c => pS [c]).map V.str))]) (y := y) (Ext.refl _) o' fun H2 o2 => ⟨acc, rfl, by omega, hp⟩
end
section
variable {K : PySem.W.Frag} {a : Ads}
open TR
theorem leaf_of {t : TR} (h : nS t ≤ 1) : t = leaf := by
  cases t with
  | leaf => rfl
  | node l r =>
    have h1 := nS_pos l
    have h2 := nS_pos r
    have : nS l + nS r ≤ 1 := h
    omega
theorem topsR.ext {H H' : Hp} {v : V} {b : TR} (h : topsR H v b) (e : Ext H H') : topsR H' v b := by
  obtain ⟨d, kvs, h1, h2, h3⟩ := h
  exact ⟨d, kvs, h1, e _ _ h2, h3⟩
/-- the fork at the top of a part, out of the dict -/
theorem top_go {F : Hp} {E : List (Addr × HO)} {W : sWX} {σ : L2.St} {Q : V → SH → Prop} {d : Addr} {kvs : List (List Key × V)} {b l r : TR} {o i j : Nat} {w : Way} (hd : F d = some (.dT kvs)) (hv : ∀ k, valV kvs k = topK b 0 k) (h : Dn b 0 (node l r) o w) (e0 : σ[0]? = some (some (.ref d))) (e1 : σ[i]? = some (some (.int (o : Nat)))) (e2 : σ[j]? = some (some (.int (o + nS (node l r) - 1 : Nat))))
    (k : ∀ pk u, Q (.int (o + nS l - 1 : Nat)) ⟨F, (pk, u) :: E⟩) : sDGetT (sVar 0) (sTup (sCons (sVar i) (sCons (sVar j) (sNil)))) W σ ⟨F, E⟩ Q := by
  refine var_go e0 (tup_go (cons_go (var_go e1 (cons_go (var_go e2 (nil_go ⟨show 2 ≤ sizeLine by decide, fun pk => ?_⟩))))))
  exact ⟨kvs, keyP (o, o + nS (node l r) - 1), _, .inr hd, .inl ⟨0, rfl⟩, by rw [hv]; exact topK_at h, k pk _⟩
theorem ltt_dec (g : Bool) : decide (V.str (lttS g) = V.str "s") = !g := by cases g <;> decide +kernel
theorem top_in {b l r : TR} {o : Nat} {w : Way} (h : Dn b 0 (node l r) o w) : o + nS l - 1 + 1 < nS b := (dn_top h).1
theorem vc_l_victim {vs : List V} {H : Hp} (g : V × TR × List Nat × Bool) (h : ct_l_victim.pre g vs H) : ∃ S, Own S H ∧ r_l_victim K a (endsC ct_l_victim g H) (start N_l_victim vs) S := by
  obtain ⟨tv, b, st, ag⟩ := g
  obtain ⟨e0, ⟨d, kvs, e1, hd0, hv0⟩, hl0, hsm0⟩ := h
  have e0 : vs = [tv, .int (nS b : Nat), .str (pS st), .str (lttS ag)] := e0
  subst e0
  have e1 : tv = .ref d := e1
  subst e1
  have hd : H d = some (.dT kvs) := hd0
  have hv : ∀ k, valV kvs k = topK b 0 k := hv0
  have hl : st.length + 1 = nS b := hl0
  have hsm : nS b ≤ 64 := hsm0
  clear hd0 hv0 hl0 hsm0
  have hpos := nS_pos b
  refine ⟨⟨H, []⟩, Own.base H, ?_⟩
  refine seq_go (cons_go (c_go (cons_go (op_go (var_go (v := .int (nS b : Nat)) (by rfl) (c_go (sub_g (nil_go ?_))))))))
  rw [show ((nS b : Nat) : Int) - 1 = ((0 + nS b - 1 : Nat) : Int) by omega]
  refine cut_go (fun σ S => ∃ (x5 x6 x7 : Option V) (E : List (Addr × HO)), σ = [some (.ref d), some (.int (nS b : Nat)), some (.str (pS st)), some (.str (lttS ag)), some (.int (vicN b 0 st ag : Nat)), x5, x6, x7] ∧ S = ⟨H, E⟩) ?_ ?_
  · refine ⟨by unfold rngOk; decide, ?_⟩
    refine ⟨fun k σ S => ∃ (t : TR) (o : Nat) (w : Way) (E : List (Addr × HO)) (x6 x7 : Option V), Dn b 0 t o w ∧ vicN t o st ag = vicN b 0 st ag ∧ k + nS t ≤ nS b ∧ σ = [some (.ref d), some (.int (nS b : Nat)), some (.str (pS st)), some (.str (lttS ag)), some (.int (o : Nat)), some (.int (o + nS t - 1 : Nat)), x6, x7] ∧ S = ⟨H, E⟩,
      ⟨b, 0, [], [], none, none, .here b 0, rfl, by omega, rfl, rfl⟩, fun _ _ _ _ _ => trivial, ?_, ?_⟩
    · rintro k σ S hk ⟨t, o, w, E, x6, x7, hdn, hvi, hkt, rfl, rfl⟩
      refine yldR_go (nm_go ?_)
      try dsimp only
      refine seq_go (ifT_go (tst_go (op_go (var_go (v := .int (o : Nat)) (by rfl) (var_go (v := .int (o + nS t - 1 : Nat)) (by rfl) (eq_i (c := decide (nS t = 1)) (decide_eq_decide.mpr (by have := nS_pos t; omega)) ?_))))))
      cases ht : decide (nS t = 1) with
      | true =>
        have et := leaf_of (t := t) (by have := of_decide_eq_true ht; omega)
        subst et
        refine ⟨_, SLe.refl _, some (.int (o + nS leaf - 1 : Nat)), some (.int (0 + (k : Nat))), x7, E, ?_, rfl⟩
        rw [← hvi]
        rfl
      | false =>
        have ht := of_decide_eq_false ht
        cases t with
        | leaf => exact absurd rfl ht
        | node l r =>
          have p1 := nS_pos l
          have p2 := nS_pos r
          have eN : nS (node l r) = nS l + nS r := rfl
          have hf := top_in hdn
          obtain ⟨c, hc⟩ : ∃ c, st[o + nS l - 1]? = some c := ⟨_, List.getElem?_eq_getElem (by omega)⟩
          refine nx_go ?_
          try dsimp only
          refine seq_go (set_go (top_go hd hv hdn (by rfl) (by rfl) (by rfl) fun pk u => ?_))
          try dsimp only
          refine ifT_go (tst_go (op_go (op_go (op_go (var_go (v := .str (pS st)) (by rfl) (var_go (v := .int (o + nS l - 1 : Nat)) (by rfl) ⟨pS_line (by omega), c, pS_at hc, c_go (eq_s (c := decide (c = 76)) (sg_eq c 76) ?_)⟩))))))
          try dsimp only
          refine op_go (var_go (v := .str (lttS ag)) (by rfl) (c_go (eq_s (ltt_dec ag) (eq_b (dec_b _ _) ?_))))
          have hvi : (if decide (st[o + nS l - 1]? = some 76) == !ag then vicN l o st ag else vicN r (o + nS l) st ag) = vicN b 0 st ag := hvi
          have hcc : decide (st[o + nS l - 1]? = some 76) = decide (c = 76) := by rw [hc]; exact decide_eq_decide.mpr ⟨Option.some.inj, congrArg some⟩
          rw [hcc] at hvi
          cases hq : (decide (c = 76) == !ag) with
          | true =>
            rw [hq, if_pos rfl] at hvi
            refine set_go (var_go (v := .int (o + nS l - 1 : Nat)) (by rfl) ?_)
            exact ⟨_, SLe.refl _, l, o, _, _, _, _, .left hdn, hvi, by omega, rfl, rfl⟩
          | false =>
            rw [hq, if_neg Bool.false_ne_true] at hvi
            refine set_go (op_go (var_go (v := .int (o + nS l - 1 : Nat)) (by rfl) (c_go (add_g ?_))))
            refine ⟨_, SLe.refl _, r, o + nS l, _, _, some (.int (0 + (k : Nat))), some (.int (o + nS l - 1 : Nat)), .right hdn, hvi, by omega, ?_, rfl⟩
            rw [show ((o + nS l - 1 : Nat) : Int) + 1 = ((o + nS l : Nat) : Int) by omega, show o + nS l + nS r - 1 = o + nS (node l r) - 1 by omega]
            rfl
    · rintro σ S ⟨t, o, w, E, x6, x7, hdn, hvi, hkt, rfl, rfl⟩
      have := nS_pos t
      have hkt : 64 + nS t ≤ nS b := hkt
      omega
  · rintro σ S ⟨x5, x6, x7, E, rfl, rfl⟩
    refine ret_go (var_go (v := .int (vicN b 0 st ag : Nat)) (by rfl) fun H' o' => ⟨rfl, fun c u e => o'.fr c u e⟩)
theorem use_vic {W : sWX} {σ : L2.St} {F : Hp} {G : List (Addr × HO)} {Q : V → SH → Prop} {vs : List V} (tv : V) (b : TR) (st : List Nat) (ag : Bool) (e : vs = [tv, .int (nS b : Nat), .str (pS st), .str (lttS ag)]) (hT : topsR F tv b) (hl : st.length + 1 = nS b) (hs : nS b ≤ 64)
    (k : vicN b 0 st ag < nS b → Q (.int (vicN b 0 st ag : Nat)) ⟨F, G⟩) : rC ct_l_victim W vs σ ⟨F, G⟩ Q :=
  ⟨(tv, b, st, ag), fun H o => ⟨e, hT.ext (own_F o), hl, hs⟩, fun H v H' o q => ⟨_, o.ex q.2, by rw [q.1]; exact k (by have := (vic_in b 0 st ag).2; omega)⟩, fun _ _ _ _ _ q => q.elim⟩
/-- a part, seen from the way of a slot -/
theorem way_cut {b t : TR} {o s : Nat} {w : Way} (h : Dn b 0 t o w) (hs : s < nS b) (h1 : o ≤ s) (h2 : s < o + nS t) : ∃ u, wy b s = w ++ u ∧ (wayB t o)[s - o]? = some u := dn_way h s (wy b s) (Nat.zero_le _) (wy_at hs) h1 h2
theorem way_leaf {b : TR} {o s : Nat} {w : Way} (h : Dn b 0 leaf o w) (hs : s < nS b) (h1 : o ≤ s) (h2 : s < o + nS leaf) : wy b s = w := by
  obtain ⟨u, e1, e2⟩ := way_cut h hs h1 h2
  have : nS leaf = 1 := rfl
  rw [show s - o = 0 by omega] at e2
  have e2 : ([[]] : List Way)[0]? = some u := e2
  cases e2
  rw [e1, List.append_nil]
theorem way_fresh {b l r : TR} {o s : Nat} {w : Way} (h : Dn b 0 (node l r) o w) (hs : s < nS b) (h1 : o ≤ s) (h2 : s < o + nS (node l r)) : ∃ v, wy b s = w ++ (o + nS l - 1, decide (s < o + nS l)) :: v := by
  obtain ⟨u, e1, e2⟩ := way_cut h hs h1 h2
  rcases way_nodeS h1 e2 with ⟨q, v, _, rfl⟩ | ⟨q, v, _, rfl⟩
  · exact ⟨v, by rw [e1, decide_eq_true q]⟩
  · exact ⟨v, by rw [e1, decide_eq_false (by omega)]⟩
theorem hit_snoc (st : List Nat) (w : Way) (x : Nat × Bool) : hitL st (w ++ [x]) = (hitL st w).set x.1 (cdB x.2) := by
  unfold hitL
  rw [List.foldl_append]
  rfl
theorem vc_l_after {vs : List V} {H : Hp} (g : V × TR × List Nat × Nat) (h : ct_l_after.pre g vs H) : ∃ S, Own S H ∧ r_l_after K a (endsC ct_l_after g H) (start N_l_after vs) S := by
  obtain ⟨tv, b, st, s⟩ := g
  obtain ⟨e0, ⟨d, kvs, e1, hd0, hv0⟩, hl0, hsm0, hs0⟩ := h
  have e0 : vs = [tv, .int (nS b : Nat), .str (pS st), .int (s : Nat)] := e0
  subst e0
  have e1 : tv = .ref d := e1
  subst e1
  have hd : H d = some (.dT kvs) := hd0
  have hv : ∀ k, valV kvs k = topK b 0 k := hv0
  have hl : st.length + 1 = nS b := hl0
  have hsm : nS b ≤ 64 := hsm0
  have hs : s < nS b := hs0
  clear hd0 hv0 hl0 hsm0 hs0
  have hpos := nS_pos b
  refine ⟨⟨H, []⟩, Own.base H, ?_⟩
  refine seq_go (set_go (call1_go (cons_go (var_go (v := .str (pS st)) (by rfl) (nil_go ⟨?_, fun p4 => ?_⟩)))))
  · show st.length ≤ sizeLine
    exact Nat.le_trans (show st.length ≤ 100 by omega) (by decide)
  rw [sg_pS]
  try dsimp only
  refine seq_go (cons_go (c_go (cons_go (op_go (var_go (v := .int (nS b : Nat)) (by rfl) (c_go (sub_g (nil_go ?_))))))))
  rw [show ((nS b : Nat) : Int) - 1 = ((0 + nS b - 1 : Nat) : Int) by omega]
  refine cut_go (fun σ S => ∃ (x5 x6 x7 x8 : Option V) (E : List (Addr × HO)), σ = [some (.ref d), some (.int (nS b : Nat)), some (.str (pS st)), some (.int (s : Nat)), some (.ref p4), x5, x6, x7, x8] ∧ S = ⟨H, E ++ (p4, .lst (cV (hitL st (wy b s)))) :: []⟩) ?_ ?_
  · refine ⟨by unfold rngOk; decide, ?_⟩
    refine ⟨fun k σ S => ∃ (t : TR) (o : Nat) (w : Way) (E : List (Addr × HO)) (x7 x8 : Option V), Dn b 0 t o w ∧ o ≤ s ∧ s < o + nS t ∧ k + nS t ≤ nS b ∧ σ = [some (.ref d), some (.int (nS b : Nat)), some (.str (pS st)), some (.int (s : Nat)), some (.ref p4), some (.int (o : Nat)), some (.int (o + nS t - 1 : Nat)), x7, x8] ∧ S = ⟨H, E ++ (p4, .lst (cV (hitL st w))) :: []⟩,
      ⟨b, 0, [], [], none, none, .here b 0, Nat.zero_le _, by omega, by omega, rfl, rfl⟩, fun _ _ _ _ _ => trivial, ?_, ?_⟩
    · rintro k σ S hk ⟨t, o, w, E, x7, x8, hdn, h1, h2, hkt, rfl, rfl⟩
      refine yldR_go (nm_go ?_)
      try dsimp only
      refine seq_go (ifT_go (tst_go (op_go (var_go (v := .int (o : Nat)) (by rfl) (var_go (v := .int (o + nS t - 1 : Nat)) (by rfl) (eq_i (c := decide (nS t = 1)) (decide_eq_decide.mpr (by have := nS_pos t; omega)) ?_))))))
      cases ht : decide (nS t = 1) with
      | true =>
        have et := leaf_of (t := t) (by have := of_decide_eq_true ht; omega)
        subst et
        rw [← way_leaf hdn hs h1 h2]
        exact ⟨_, SLe.refl _, _, _, _, _, E, rfl, rfl⟩
      | false =>
        have ht := of_decide_eq_false ht
        cases t with
        | leaf => exact absurd rfl ht
        | node l r =>
          have p1 := nS_pos l
          have p2 := nS_pos r
          have eN : nS (node l r) = nS l + nS r := rfl
          have hf := top_in hdn
          refine nx_go ?_
          try dsimp only
          refine seq_go (set_go (top_go hd hv hdn (by rfl) (by rfl) (by rfl) fun pk u => ?_))
          try dsimp only
          refine ifT_go (tst_go (op_go (var_go (v := .int (s : Nat)) (by rfl) (var_go (v := .int (o + nS l - 1 : Nat)) (by rfl) (le_i (c := decide (s < o + nS l)) (decide_eq_decide.mpr (by omega)) ?_)))))
          have lh : (cV (hitL st w)).length = st.length := by rw [cV_len, hitL_len]
          cases hq : decide (s < o + nS l) with
          | true =>
            have hq := of_decide_eq_true hq
            refine seq_go (asg_go (c_go (var_go (v := .ref p4) (by rfl) (var_go (v := .int (o + nS l - 1 : Nat)) (by rfl) (sub_go (E := (pk, u) :: E) (by rw [lh]; omega) ?_)))))
            try dsimp only
            refine set_go (var_go (v := .int (o + nS l - 1 : Nat)) (by rfl) ?_)
            refine ⟨_, SLe.refl _, l, o, _, (pk, u) :: E, _, _, .left hdn, h1, by omega, by omega, rfl, ?_⟩
            rw [hit_snoc, ← cV_set]
            rfl
          | false =>
            have hq := of_decide_eq_false hq
            refine seq_go (asg_go (c_go (var_go (v := .ref p4) (by rfl) (var_go (v := .int (o + nS l - 1 : Nat)) (by rfl) (sub_go (E := (pk, u) :: E) (by rw [lh]; omega) ?_)))))
            try dsimp only
            refine set_go (op_go (var_go (v := .int (o + nS l - 1 : Nat)) (by rfl) (c_go (add_g ?_))))
            refine ⟨_, SLe.refl _, r, o + nS l, _, (pk, u) :: E, some (.int (0 + (k : Nat))), some (.int (o + nS l - 1 : Nat)), .right hdn, by omega, by omega, by omega, ?_, ?_⟩
            · rw [show ((o + nS l - 1 : Nat) : Int) + 1 = ((o + nS l : Nat) : Int) by omega, show o + nS l + nS r - 1 = o + nS (node l r) - 1 by omega]
              rfl
            · rw [hit_snoc, ← cV_set]
              rfl
    · rintro σ S ⟨t, o, w, E, x7, x8, hdn, h1, h2, hkt, rfl, rfl⟩
      have := nS_pos t
      have hkt : 64 + nS t ≤ nS b := hkt
      omega
  · rintro σ S ⟨x5, x6, x7, x8, E, rfl, rfl⟩
    have hle : (hitL st (wy b s)).length = st.length := hitL_len _ _
    refine ret_go (mt_go (c_go ⟨rfl, cons_go (var_go (v := .ref p4) (by rfl) (nil_go ⟨(hitL st (wy b s)).map fun c => pS [c], .inl (.inl ⟨E.length, by rw [cV_ss]; exact at_mid⟩), ?_, ?_⟩))⟩))
    · rw [sum_pS]
      show _ + _ * 0 ≤ 16777216
      omega
    · rw [join_pS]
      exact fun H' o' => ⟨rfl, fun c u e => o'.fr c u e⟩
theorem use_aft {W : sWX} {σ : L2.St} {F : Hp} {G : List (Addr × HO)} {Q : V → SH → Prop} {vs : List V} (tv : V) (b : TR) (st : List Nat) (s : Nat) (e : vs = [tv, .int (nS b : Nat), .str (pS st), .int (s : Nat)]) (hT : topsR F tv b) (hl : st.length + 1 = nS b) (hsm : nS b ≤ 64) (hs : s < nS b)
    (k : Q (.str (pS (hitL st (wy b s)))) ⟨F, G⟩) : rC ct_l_after W vs σ ⟨F, G⟩ Q :=
  ⟨(tv, b, st, s), fun H o => ⟨e, hT.ext (own_F o), hl, hsm, hs⟩, fun H v H' o q => ⟨_, o.ex q.2, by rw [q.1]; exact k⟩, fun _ _ _ _ _ q => q.elim⟩
theorem vc_l_rules {vs : List V} {H : Hp} (g : Unit) (h : ct_l_rules.pre g vs H) : ∃ S, Own S H ∧ r_l_rules K a (endsC ct_l_rules g H) (start N_l_rules vs) S := by
  have e : vs = [] := h.1
  subst e
  refine ⟨⟨H, []⟩, Own.base H, ?_⟩
  refine ⟨show 8 ≤ sizeLine by decide, fun p H' o' => ?_⟩
  have m := o'.gs (p, .lst _) (.head _)
  exact ⟨⟨p, rfl, m.2, m.1⟩, fun c u e => o'.fr c u e⟩
end
section
variable {K : PySem.W.Frag} {a : Ads}
open TR
theorem ln_lay (l : Ln) : PyData.canLay0 (lnD l) = true ∧ PyData.depth (lnD l) ≤ 5 := by
  obtain ⟨k, s⟩ := l
  refine ⟨?_, ?_⟩
  · show (PyData.canLay0 (.str (kS k)) && (PyData.canLay0 (.int _) && true)) = true
    rw [show PyData.canLay0 (.str (kS k)) = true by cases k <;> decide +kernel]
    rfl
  · show max 0 (max 0 0) + 1 ≤ 5
    decide
theorem shaped_all {ds : List PyData} (h : ∀ d ∈ ds, PyData.canLay0 d = true ∧ PyData.depth d ≤ 5) : PyData.canLay0 (.list ds) = true ∧ SeqAt.shaped (.list ds) = true := by
  have key : ∀ ds : List PyData, (∀ d ∈ ds, PyData.canLay0 d = true ∧ PyData.depth d ≤ 5) → PyData.canLayAll0 ds = true ∧ PyData.depthAll ds ≤ 5 := fun ds => by
    induction ds with
    | nil => exact fun _ => ⟨rfl, Nat.zero_le _⟩
    | cons d ds ih =>
      intro h
      obtain ⟨h1, h2⟩ := h d (.head _)
      obtain ⟨h3, h4⟩ := ih fun x hx => h x (.tail _ hx)
      refine ⟨?_, Nat.max_le.mpr ⟨h2, h4⟩⟩
      show (PyData.canLay0 d && PyData.canLayAll0 ds) = true
      rw [h1, h3]
      rfl
  obtain ⟨h1, h2⟩ := key ds h
  refine ⟨h1, ?_⟩
  unfold SeqAt.shaped
  have e : PyData.canLay0 (.list ds) = PyData.canLayAll0 ds := rfl
  have e2 : PyData.depth (.list ds) = PyData.depthAll ds + 1 := rfl
  rw [e, h1, e2, Bool.true_and]
  exact decide_eq_true (by omega)
/-- two things of the same data: equal -/
theorem ne_same {x y : V} {d : PyData} {S : SH} {Q : V → SH → Prop} (hs : scal x y = false) (hx : sD K S x d) (hy : sD K S y d) (hd : SeqAt.shaped d = true) (h : Q (.bl false) S) : oNe K x y S Q := by
  unfold oNe
  rw [hs, if_neg Bool.false_ne_true]
  refine ⟨d, d, hx, hy, hd, hd, ?_⟩
  rw [SeqAt.eqv_refl _ (SeqAt.canLay_of_shaped hd)]
  exact h
theorem eq_same {x y : V} {d : PyData} {S : SH} {Q : V → SH → Prop} (hs : scal x y = false) (hx : sD K S x d) (hy : sD K S y d) (hd : SeqAt.shaped d = true) (h : Q (.bl true) S) : oEq K x y S Q := by
  unfold oEq
  rw [hs, if_neg Bool.false_ne_true]
  refine ⟨d, d, hx, hy, hd, hd, ?_⟩
  rw [SeqAt.eqv_refl _ (SeqAt.canLay_of_shaped hd)]
  exact h
theorem fw_isN {F : Hp} {G : List (Addr × HO)} {x : V} {w : Option (Nat × Nat)} (h : MD K F G x (fwD w)) : decide (x = .non) = w.isNone := by
  cases w with
  | none =>
    rw [h.nonI]
    rfl
  | some q =>
    obtain ⟨p, xs, rfl, _⟩ := MD.tupI (show MD K F G x (.tuple _) from h)
    rfl
theorem isN_fw {F : Hp} {G G' : List (Addr × HO)} {x : V} {w : Option (Nat × Nat)} {Q : V → SH → Prop} (h : MD K F G x (fwD w)) (k : Q (.bl w.isNone) ⟨F, G'⟩) : oIsN x .non ⟨F, G'⟩ Q := by
  show Q (.bl (decide (x = .non))) _
  rw [fw_isN h]
  exact k
theorem nIntB {k : Bool} {S : SH} {Q : V → SH → Prop} (h : Q (.int (if k then 1 else 0)) S) : nInt [.bl k] S Q := h
def r_jud3 (K : PySem.W.Frag) : sS := sCut (sIfS (sTst (sOp (oEq K) (sOp (oIx K) (sVar 2) (sCall1 nInt (sCons (sOp (oEq K) (sVar 8) (sC (.str ("load" : Str)))) (sNil)))) (sC (.str ("t" : Str))))) (sAsg (sVar 14) (sgSub (sVar 5) (sVar 13))) (sNext)) (sIfS (sTst (sOp (oEq K) (sVar 14) (sC (.str ("L" : Str))))) (sSet (sVar 13) 11) (sSet (sOp oAdd (sVar 13) (sC (.int 1))) 10))
def r_jud2 (K : PySem.W.Frag) : sS := sCut (sIfS (sAnd (sTst (sOp oIsN (sVar 6) (sC .non))) (sAnd (sTst (sOp (oEq K) (sVar 8) (sC (.str ("load" : Str))))) (sTst (sOp (oEq K) (sOp (oEq K) (sOp (oIx K) (sVar 5) (sVar 13)) (sVar 14)) (sOp (oEq K) (sOp (oIx K) (sVar 2) (sC (.int 2))) (sC (.str ("a" : Str)))))))) (sSet (sTup (sCons (sVar 7) (sCons (sVar 13) (sNil)))) 6) (sNext)) (r_jud3 K)
theorem sd_L (c : Bool) : decide (V.str (sdS c) = V.str "L") = c := by cases c <;> decide +kernel
section
variable {H : Hp} {d pr p5 : Addr} {b : TR} {r : Rl} {st : List Nat} {kd : Bool} {i s f lo hi : Nat} {k : Int}
abbrev jst (d pr p5 : Addr) (b : TR) (r : Rl) (st : List Nat) (kd : Bool) (i s f : Nat) (lo hi : Int) (k : Int) (x6 : V) (c : Bool) : L2.St :=
  [some (.ref d), some (.int (nS b : Nat)), some (.str (rlS r)), some (.str (pS st)), some (.ref pr), some (.ref p5), some x6, some (.int (i : Nat)), some (.str (kS kd)), some (.int (s : Nat)), some (.int lo), some (.int hi), some (.int k), some (.int (f : Nat)), some (.str (sdS c))]
theorem jud3 {D : sEnds} {E : List (Addr × HO)} {sh : List Nat} {c : Bool} {x6 : V} {lo hi : Int} (hf : f < sh.length)
    (kk : D.nx (if c then jst d pr p5 b r st kd i s f lo (f : Nat) k x6 c else jst d pr p5 b r st kd i s f ((f : Nat) + 1) hi k x6 c) ⟨H, E ++ (p5, .lst (cV (if turnR r kd then sh.set f (cdB c) else sh))) :: []⟩) :
    r_jud3 K D (jst d pr p5 b r st kd i s f lo hi k x6 c) ⟨H, E ++ (p5, .lst (cV sh)) :: []⟩ := by
  refine cut_go (fun σ S => σ = jst d pr p5 b r st kd i s f lo hi k x6 c ∧ S = ⟨H, E ++ (p5, .lst (cV (if turnR r kd then sh.set f (cdB c) else sh))) :: []⟩) ?_ ?_
  · refine ifT_go (tst_go (op_go (op_go (var_go (v := .str (rlS r)) (by rfl) (call1_go (cons_go (op_go (var_go (v := .str (kS kd)) (by rfl) (c_go (eq_s (kS_dec kd) (nil_go (nIntB (ix_rk ?_))))))))))))) 
    refine c_go (eq_s (dec_t _) ?_)
    cases turnR r kd with
    | true =>
      refine asg_go (var_go (v := .str (sdS c)) (by rfl) (var_go (v := .ref p5) (by rfl) (var_go (v := .int (f : Nat)) (by rfl) (sub_go (by rw [cV_len]; exact hf) ?_))))
      refine ⟨_, SLe.refl _, rfl, ?_⟩
      rw [if_pos rfl, ← cV_set]
      rfl
    | false => exact nx_go ⟨_, SLe.refl _, rfl, rfl⟩
  · rintro σ S ⟨rfl, rfl⟩
    refine ifT_go (tst_go (op_go (var_go (v := .str (sdS c)) (by rfl) (c_go (eq_s (sd_L c) ?_)))))
    cases c with
    | true => exact set_go (var_go (v := .int (f : Nat)) (by rfl) kk)
    | false => exact set_go (op_go (var_go (v := .int (f : Nat)) (by rfl) (c_go (add_g kk))))
theorem jud2 {D : sEnds} {E : List (Addr × HO)} {cur sh : List Nat} {c : Bool} {x6 : V} {lo hi : Int} {w : Option (Nat × Nat)} {w' : Option (Nat × Nat)} (hf : f < sh.length) (hsh : sh[f]? = cur[f]?) (hx : MD K H E x6 (fwD w)) (hw : w' = if w.isNone && kd && wrgR r.2.2 cur (f, c) then some (i, f) else w)
    (kk : ∀ (E : List (Addr × HO)) x6, MD K H E x6 (fwD w') → D.nx (if c then jst d pr p5 b r st kd i s f lo (f : Nat) k x6 c else jst d pr p5 b r st kd i s f ((f : Nat) + 1) hi k x6 c) ⟨H, E ++ (p5, .lst (cV (if turnR r kd then sh.set f (cdB c) else sh))) :: []⟩) :
    r_jud2 K D (jst d pr p5 b r st kd i s f lo hi k x6 c) ⟨H, E ++ (p5, .lst (cV sh)) :: []⟩ := by
  refine cut_go (fun σ S => ∃ (E : List (Addr × HO)) (x6 : V), MD K H E x6 (fwD w') ∧ σ = jst d pr p5 b r st kd i s f lo hi k x6 c ∧ S = ⟨H, E ++ (p5, .lst (cV sh)) :: []⟩) ?_ ?_
  · refine ifT_go (and_go (tst_go (op_go (var_go (v := x6) (by rfl) (c_go (isN_fw hx ?_))))))
    cases hn : w.isNone with
    | false =>
      rw [hn] at hw
      exact nx_go ⟨_, SLe.refl _, E, x6, by rw [hw]; exact hx, rfl, rfl⟩
    | true =>
      rw [hn] at hw
      try dsimp only
      refine and_go (tst_go (op_go (var_go (v := .str (kS kd)) (by rfl) (c_go (eq_s (kS_dec kd) ?_)))))
      cases hk : kd with
      | false =>
        subst hk
        exact nx_go ⟨_, SLe.refl _, E, x6, by rw [hw]; exact hx, rfl, rfl⟩
      | true =>
        subst hk
        try dsimp only
        obtain ⟨ch, hc⟩ : ∃ ch, sh[f]? = some ch := ⟨_, List.getElem?_eq_getElem hf⟩
        have hh : wrgR r.2.2 cur (f, c) = (decide (ch = cdB c) == r.2.2) := by
          unfold wrgR hitP
          rw [← hsh, hc]
          congr 1
          exact decide_eq_decide.mpr ⟨Option.some.inj, congrArg some⟩
        refine tst_go (op_go (op_go (op_go (var_go (v := .ref p5) (by rfl) (var_go (v := .int (f : Nat)) (by rfl) ⟨_, _, .inl (.inl ⟨E.length, at_mid⟩), atI_at (cV_at hc), var_go (v := .str (sdS c)) (by rfl) (eq_s (c := decide (ch = cdB c)) (sg_eq ch (cdB c)) ?_)⟩)))))
        refine op_go (op_go (var_go (v := .str (rlS r)) (by rfl) (c_go (ix_r2 (c_go (eq_s (dec_a r.2.2) (eq_b (dec_b _ _) ?_)))))))
        rw [hh] at hw
        cases hq : (decide (ch = cdB c) == r.2.2) with
        | false =>
          rw [hq] at hw
          exact nx_go ⟨_, SLe.refl _, E, x6, by rw [hw]; exact hx, rfl, rfl⟩
        | true =>
          rw [hq] at hw
          refine set_go (tup_go (cons_go (var_go (v := .int (i : Nat)) (by rfl) (cons_go (var_go (v := .int (f : Nat)) (by rfl) (nil_go ⟨show 2 ≤ sizeLine by decide, fun pt => ?_⟩))))))
          refine ⟨_, SLe.refl _, (pt, .tup [.int (i : Nat), .int (f : Nat)]) :: E, .ref pt, ?_, rfl, rfl⟩
          rw [hw]
          exact .tup (.inl (.head _)) (.cons (.int _) (.cons (.int _) .nil))
  · rintro σ S ⟨E, x6, hx, rfl, rfl⟩
    exact jud3 hf (kk E x6 hx)
end
theorem vc_l_judged {vs : List V} {H : Hp} (g : V × TR × Rl × List Nat × V × List Ln) (h : (ct_l_judged K).pre g vs H) : ∃ S, Own S H ∧ r_l_judged K a (endsC (ct_l_judged K) g H) (start N_l_judged vs) S := by
  obtain ⟨tv, b, r, st, rv, run⟩ := g
  obtain ⟨e0, ⟨d, kvs, e1, hd0, hv0⟩, hl0, hsm0, hR0, hlr0⟩ := h
  have e0 : vs = [tv, .int (nS b : Nat), .str (rlS r), .str (pS st), rv] := e0
  subst e0
  have e1 : tv = .ref d := e1
  subst e1
  have hd : H d = some (.dT kvs) := hd0
  have hv : ∀ k, valV kvs k = topK b 0 k := hv0
  have hl : st.length + 1 = nS b := hl0
  have hsm : nS b ≤ 64 := hsm0
  have hlr : run.length ≤ 200 := hlr0
  obtain ⟨⟨pr, rs, e1, hpr, hrs⟩, hslot⟩ := (show RunG K H b rv run from hR0)
  subst e1
  clear hd0 hv0 hl0 hsm0 hR0 hlr0
  have lrs : rs.length = run.length := by rw [hrs.len, List.length_map]
  have hpos := nS_pos b
  refine ⟨⟨H, []⟩, Own.base H, ?_⟩
  refine seq_go (set_go (call1_go (cons_go (var_go (v := .str (pS st)) (by rfl) (nil_go ⟨?_, fun p5 => ?_⟩)))))
  · show st.length ≤ sizeLine
    exact Nat.le_trans (show st.length ≤ 100 by omega) (by decide)
  rw [sg_pS]
  try dsimp only
  refine seq_go (set_go (c_go ?_))
  try dsimp only
  refine cut_go (fun σ S => ∃ (E : List (Addr × HO)) (x6 : V) (x7 x8 x9 x10 x11 x12 x13 x14 : Option V), MD K H E x6 (fwD (fwR b r run 0 st)) ∧ σ = [some (.ref d), some (.int (nS b : Nat)), some (.str (rlS r)), some (.str (pS st)), some (.ref pr), some (.ref p5), some x6, x7, x8, x9, x10, x11, x12, x13, x14] ∧ S = ⟨H, E ++ (p5, .lst (cV (fbL b r st run))) :: []⟩) ?_ ?_
  · refine ⟨rs, .inl (.inr hpr), ?_⟩
    rw [lrs]
    refine ⟨by unfold rngOk; omega, ?_⟩
    refine ⟨fun i σ S => ∃ (E : List (Addr × HO)) (x6 : V) (x7 x8 x9 x10 x11 x12 x13 x14 : Option V), MD K H E x6 (fwD (fwT b r st run i)) ∧ σ = [some (.ref d), some (.int (nS b : Nat)), some (.str (rlS r)), some (.str (pS st)), some (.ref pr), some (.ref p5), some x6, x7, x8, x9, x10, x11, x12, x13, x14] ∧ S = ⟨H, E ++ (p5, .lst (cV (fbL b r st (run.take i)))) :: []⟩,
      ⟨[], .non, none, none, none, none, none, none, none, none, .non, rfl, rfl⟩, fun _ _ _ _ _ => trivial, ?_, ?_⟩
    · rintro i σ S hi ⟨E, x6, x7, x8, x9, x10, x11, x12, x13, x14, hx, rfl, rfl⟩
      have hi : i < run.length := by
        have hi : i < ((run.length : Nat) : Int).toNat := hi
        rw [Int.toNat_natCast] at hi
        exact hi
      obtain ⟨l, hlk⟩ : ∃ l, run[i]? = some l := ⟨_, List.getElem?_eq_getElem hi⟩
      obtain ⟨v, hv1, mv⟩ := hrs.get (i := i) (d := lnD l) (by rw [List.getElem?_map, hlk]; rfl)
      obtain ⟨pl, rfl, hpl⟩ := ln_open mv
      have hpl := hpl.elim (fun z => nomatch z) id
      have hs := hslot l (List.mem_of_getElem? hlk)
      have ht1 := fwT_more b r st run i l hlk
      have hb1 : fbL b r st (run.take (i + 1)) = trnL b r l.1 (fbL b r st (run.take i)) l.2 := by rw [take_more hlk, fbL_snoc]
      have lcur : (fbL b r st (run.take i)).length + 1 = nS b := by rw [fbL_len]; exact hl
      generalize fbL b r st (run.take i) = cur at hb1 ht1 lcur
      generalize fwT b r st run i = w0 at hx ht1
      obtain ⟨kd, s⟩ := l
      refine yldR_go (nm_go ?_)
      try dsimp only
      rw [show (0 : Int) + (i : Nat) = ((i : Nat) : Int) by omega]
      refine seq_go (set_go (op_go (op_go (var_go (v := .ref pr) (by rfl) (var_go (v := .int (i : Nat)) (by rfl) ⟨rs, .ref pl, .inl (.inr hpr), atI_at hv1, c_go ⟨_, .str (kS kd), .inr (.inr hpl), atI_at (i := 0) rfl, ?_⟩⟩)))))
      try dsimp only
      refine seq_go (set_go (op_go (op_go (var_go (v := .ref pr) (by rfl) (var_go (v := .int (i : Nat)) (by rfl) ⟨rs, .ref pl, .inl (.inr hpr), atI_at hv1, c_go ⟨_, .int (s : Nat), .inr (.inr hpl), atI_at (i := 1) rfl, ?_⟩⟩)))))
      try dsimp only
      refine seq_go (cons_go (c_go (cons_go (op_go (var_go (v := .int (nS b : Nat)) (by rfl) (c_go (sub_g (nil_go ?_))))))))
      rw [show ((nS b : Nat) : Int) - 1 = ((0 + nS b - 1 : Nat) : Int) by omega]
      try dsimp only
      refine ⟨by unfold rngOk; decide, ?_⟩
      refine ⟨fun k σ S => ∃ (t : TR) (o : Nat) (u : Way) (E : List (Addr × HO)) (x6 : V) (x12 x13 x14 : Option V), Dn b 0 t o u ∧ o ≤ s ∧ s < o + nS t ∧ k + nS t ≤ nS b ∧ MD K H E x6 (fwD (fwS r w0 kd i cur u)) ∧ σ = [some (.ref d), some (.int (nS b : Nat)), some (.str (rlS r)), some (.str (pS st)), some (.ref pr), some (.ref p5), some x6, some (.int (i : Nat)), some (.str (kS kd)), some (.int (s : Nat)), some (.int (o : Nat)), some (.int (o + nS t - 1 : Nat)), x12, x13, x14] ∧ S = ⟨H, E ++ (p5, .lst (cV (trnW (turnR r kd) cur u))) :: []⟩,
        ⟨b, 0, [], E, x6, x12, x13, x14, .here b 0, Nat.zero_le _, by omega, by omega, by rw [fwS_nil]; exact hx, rfl, ?_⟩, fun _ _ _ _ _ => trivial, ?_, ?_⟩
      · unfold trnW
        cases turnR r kd <;> rfl
      · rintro k σ S hk ⟨t, o, u, E, x6, x12, x13, x14, hdn, h1, h2, hkt, hx, rfl, rfl⟩
        refine yldR_go (nm_go ?_)
        try dsimp only
        refine seq_go (ifT_go (tst_go (op_go (var_go (v := .int (o : Nat)) (by rfl) (var_go (v := .int (o + nS t - 1 : Nat)) (by rfl) (eq_i (c := decide (nS t = 1)) (decide_eq_decide.mpr (by have := nS_pos t; omega)) ?_))))))
        cases ht : decide (nS t = 1) with
        | true =>
          have et := leaf_of (t := t) (by have := of_decide_eq_true ht; omega)
          subst et
          have hu := way_leaf hdn hs h1 h2
          rw [← hu] at hx ⊢
          refine ⟨_, SLe.refl _, E, x6, some (.int (i : Nat)), some (.str (kS kd)), some (.int (s : Nat)), some (.int (o : Nat)), some (.int (o + nS leaf - 1 : Nat)), some (.int (0 + (k : Nat))), x13, x14, ?_, rfl, ?_⟩
          · rw [ht1]
            exact hx
          · rw [hb1]
            rfl
        | false =>
          have ht := of_decide_eq_false ht
          cases t with
          | leaf => exact absurd rfl ht
          | node L R =>
            have p1 := nS_pos L
            have p2 := nS_pos R
            have eN : nS (node L R) = nS L + nS R := rfl
            have hf := top_in hdn
            obtain ⟨vv, hway⟩ := way_fresh hdn hs h1 h2
            have nd := wy_nodup hs
            rw [hway] at nd
            refine nx_go ?_
            try dsimp only
            refine seq_go (set_go (top_go hd hv hdn (by rfl) (by rfl) (by rfl) fun pk q => ?_))
            try dsimp only
            refine seq_go (set_go (c_go ?_))
            try dsimp only
            refine cut_go (fun σ S => σ = jst d pr p5 b r st kd i s (o + nS L - 1) (o : Nat) (o + nS (node L R) - 1 : Nat) (0 + (k : Nat)) x6 (decide (s < o + nS L)) ∧ S = ⟨H, ((pk, q) :: E) ++ (p5, .lst (cV (trnW (turnR r kd) cur u))) :: []⟩) ?_ ?_
            · refine ifT_go (tst_go (op_go (var_go (v := .int (s : Nat)) (by rfl) (var_go (v := .int (o + nS L - 1 : Nat)) (by rfl) (le_i (c := decide (s < o + nS L)) (decide_eq_decide.mpr (by omega)) ?_)))))
              cases decide (s < o + nS L) with
              | true => exact set_go (c_go ⟨_, SLe.refl _, rfl, rfl⟩)
              | false => exact nx_go ⟨_, SLe.refl _, rfl, rfl⟩
            · rintro σ S ⟨rfl, rfl⟩
              refine jud2 (w' := fwS r w0 kd i cur (u ++ [(o + nS L - 1, decide (s < o + nS L))])) (by rw [trnW_len]; omega) (trn_fresh nd) (hx.sub fun _ z => .tail _ z) (fwS_snoc r w0 kd i cur u _) fun E x6 hx => ?_
              cases hq : decide (s < o + nS L) with
              | true =>
                have hq' := of_decide_eq_true hq
                rw [hq] at hx
                refine ⟨_, SLe.refl _, L, o, _, E, x6, _, _, _, .left hdn, h1, by omega, by omega, hx, rfl, ?_⟩
                rw [trnW_snoc]
              | false =>
                have hq' := of_decide_eq_false hq
                rw [hq] at hx
                refine ⟨_, SLe.refl _, R, o + nS L, _, E, x6, some (.int (0 + (k : Nat))), some (.int (o + nS L - 1 : Nat)), some (.str (sdS false)), .right hdn, by omega, by omega, by omega, hx, ?_, ?_⟩
                · rw [show ((o + nS L : Nat) : Int) = ((o + nS L - 1 : Nat) : Int) + 1 by omega, show o + nS L + nS R - 1 = o + nS (node L R) - 1 by omega]
                  rfl
                · rw [trnW_snoc]
      · rintro σ S ⟨t, o, u, E, x6, x12, x13, x14, hdn, h1, h2, hkt, hx, rfl, rfl⟩
        have := nS_pos t
        have hkt : 64 + nS t ≤ nS b := hkt
        omega
    · rintro σ S ⟨E, x6, x7, x8, x9, x10, x11, x12, x13, x14, hx, rfl, rfl⟩
      have en : (itR 0 ((run.length : Nat) : Int).toNat).n = run.length := Int.toNat_natCast _
      rw [en, fwT_all] at hx
      rw [en, List.take_length]
      exact ⟨_, SLe.refl _, E, x6, x7, x8, x9, x10, x11, x12, x13, x14, hx, rfl, rfl⟩
  · rintro σ S ⟨E, x6, x7, x8, x9, x10, x11, x12, x13, x14, hx, rfl, rfl⟩
    have hle : (fbL b r st run).length = st.length := fbL_len b r run st
    refine ret_go (tup_go (cons_go (var_go (v := x6) (by rfl) (cons_go (mt_go (c_go ⟨rfl, cons_go (var_go (v := .ref p5) (by rfl) (nil_go ⟨(fbL b r st run).map fun c => pS [c], .inl (.inl ⟨E.length, by rw [cV_ss]; exact at_mid⟩), ?_, ?_⟩))⟩))))))
    · rw [sum_pS]
      show _ + _ * 0 ≤ 16777216
      omega
    · rw [join_pS]
      refine nil_go ⟨show 2 ≤ sizeLine by decide, fun pt H' o' => ⟨?_, fun c u e => o'.fr c u e⟩⟩
      have m : MD K H' [] x6 (fwD (fwR b r run 0 st)) := (hx.sub (G' := (pt, .tup [x6, .str (pS (fbL b r st run))]) :: (E ++ (p5, .lst (cV (fbL b r st run))) :: [])) fun _ z => .tail _ (List.mem_append_left _ z)).own o'
      exact .tup (.inr (o'.u (.inl ⟨0, rfl⟩))) (.cons m (.cons (.str _) .nil))
end
section
variable {K : PySem.W.Frag} {a : Ads}
open TR
theorem min2_go {i j k : Int} {S : SH} {Q : V → SH → Prop} (e : (if j < i then j else i) = k) (h : Q (.int k) S) : nMin2 [.int i, .int j] S Q := by
  show Q (.int (if j < i then j else i)) S
  rw [e]
  exact h
def evL : List Nat := [1, 2, 4, 8, 16, 32, 64]
def r_tree3 (K : PySem.W.Frag) (a : Ads) : sS := sSeq (sSet (sCallD (q_l_part K a 64) [] (sCons (sVar 0) (sCons (sC (.int 0)) (sCons (sVar 3) (sCons (sVar 4) (sNil)))))) 6) (sRet (sTup (sCons (sOp (oIx K) (sVar 6) (sC (.int 0))) (sCons (sOp (oIx K) (sVar 6) (sC (.int 1))) (sCons (sVar 3) (sNil))))))
theorem tree3 {H F : Hp} {b : Addr} {x y : Sx} {E : List (Addr × HO)} {v2 : V} {many lean : Nat} {x5 x7 : Option V} (e : Ext (woL H (SK.bg b x)) F) (h1 : 1 ≤ many) (h2 : many ≤ 64) :
    r_tree3 K a (endsC (ct_l_tree K) (b, x, ()) H) [some (.ref b), some (.int 64), some v2, some (.int (many : Nat)), some (.int (lean : Nat)), x5, none, x7] ⟨F, E ++ SK.bg b y⟩ := by
  refine seq_go (set_go (calld_go (cons_go (var_go (v := .ref b) (by rfl) (cons_go (c_go (cons_go (var_go (v := .int (many : Nat)) (by rfl) (cons_go (var_go (v := .int (lean : Nat)) (by rfl) (nil_go ?_)))))))))))
  refine use_part (E := E) 0 many lean (by rfl) (by omega) fun y F2 bt p d kvs e1 q1 q2 q3 q4 => ?_
  try dsimp only
  refine ret_go (tup_go (cons_go (op_go (var_go (v := .ref p) (by rfl) (c_go ⟨_, .str (tS bt), .inr (.inr (.inl (.inl q2))), atI_at (i := 0) rfl, ?_⟩)))))
  refine cons_go (op_go (var_go (v := .ref p) (by rfl) (c_go ⟨_, .ref d, .inr (.inr (.inl (.inl q2))), atI_at (i := 1) rfl, ?_⟩)))
  refine cons_go (var_go (v := .int (many : Nat)) (by rfl) (nil_go ⟨show 3 ≤ sizeLine by decide, fun pt H' o' => ?_⟩))
  refine end_sk (E := [(pt, .tup [.str (tS bt), .ref d, .int (many : Nat)])]) (y := y) (e.trans e1) o' fun H2 o2 => ?_
  exact ⟨bt, pt, d, rfl, by rw [q1]; exact own_g o2 (.head _), ⟨d, kvs, rfl, own_F o2 _ _ q3, q4.val⟩, by omega⟩
theorem vc_l_tree {vs : List V} {H : Hp} (g : Addr × Sx × Unit) (h : (ct_l_tree K).pre g vs H) : ∃ S, Own S H ∧ r_l_tree K a (endsC (ct_l_tree K) g H) (start N_l_tree vs) S := by
  refine body_lbox g h fun b x u F eg eF hinv hok e => ?_
  subst eg
  have e : vs = [.ref b, .int 64] := e
  subst e
  have eX : Ext (woL H (SK.bg b x)) F := by rw [← eF]; exact Ext.refl _
  refine seq_go (set_go (calld_go (cons_go (var_go (v := .ref b) (by rfl) (cons_go (c_go (nil_go ?_)))))))
  refine use_take (E := []) 9 (by rfl) (by decide) fun y ed hed => ?_
  try dsimp only
  refine seq_go (set_go (op_go (c_go (calld_go (cons_go (var_go (v := .ref b) (by rfl) (cons_go (call1_go (cons_go (var_go (v := .int 64) (by rfl) (cons_go (c_go (nil_go (min2_go (k := ((7 : Nat) : Int)) (by decide) (nil_go ?_)))))))))))))))
  refine use_take (E := []) 7 (by rfl) (by decide) fun y m hm => ?_
  refine add_g ?_
  rw [show (1 : Int) + (m : Nat) = ((m + 1 : Nat) : Int) by omega]
  try dsimp only
  refine cut_go (fun σ S => ∃ (m : Nat) (y : Sx), 1 ≤ m ∧ m ≤ 64 ∧ σ = [some (.ref b), some (.int 64), some (.int (ed : Nat)), some (.int (m : Nat)), none, none, none, none] ∧ S = ⟨F, [] ++ SK.bg b y⟩) ?_ ?_
  · refine ifT_go (tst_go (op_go (calld_go (cons_go (var_go (v := .ref b) (by rfl) (cons_go (c_go (nil_go ?_))))))))
    refine use_take (E := []) 6 (by rfl) (by decide) fun y z hz => ?_
    refine c_go (eq_i (c := decide (z = 0)) (decide_eq_decide.mpr (by omega)) ?_)
    cases decide (z = 0) with
    | false => exact nx_go ⟨_, SLe.refl _, m + 1, y, by omega, by omega, rfl, rfl⟩
    | true =>
      refine set_go (op_go (c_go (calld_go (cons_go (var_go (v := .ref b) (by rfl) (cons_go (var_go (v := .int 64) (by rfl) (nil_go ?_))))))))
      refine use_take (E := []) 64 (by rfl) (by decide) fun y z hz => ?_
      refine add_g ⟨_, SLe.refl _, z + 1, y, by omega, by omega, ?_, rfl⟩
      rw [show ((z + 1 : Nat) : Int) = (1 : Int) + (z : Nat) by omega]
      rfl
  rintro σ S ⟨m, y, h1, h2, rfl, rfl⟩
  refine seq_go (set_go (c_go ?_))
  try dsimp only
  refine cut_go (fun σ S => ∃ (m : Nat), 1 ≤ m ∧ m ≤ 64 ∧ σ = [some (.ref b), some (.int 64), some (.int (ed : Nat)), some (.int (m : Nat)), some (.int 0), none, none, none] ∧ S = ⟨F, [] ++ SK.bg b y⟩) ?_ ?_
  · refine ifT_go (tst_go (op_go (var_go (v := .int (ed : Nat)) (by rfl) (c_go (eq_i (c := decide (ed = 0)) (decide_eq_decide.mpr (by omega)) ?_)))))
    cases decide (ed = 0) with
    | false => exact nx_go ⟨_, SLe.refl _, m, h1, h2, rfl, rfl⟩
    | true => exact set_go (c_go ⟨_, SLe.refl _, 1, by omega, by omega, rfl, rfl⟩)
  rintro σ S ⟨m, h1, h2, rfl, rfl⟩
  refine cut_go (fun σ S => ∃ (lean : Nat), σ = [some (.ref b), some (.int 64), some (.int (ed : Nat)), some (.int (m : Nat)), some (.int (lean : Nat)), none, none, none] ∧ S = ⟨F, [] ++ SK.bg b y⟩) ?_ ?_
  · refine ifT_go (or_go (tst_go (op_go (var_go (v := .int (ed : Nat)) (by rfl) (c_go (eq_i (c := decide (ed = 1)) (decide_eq_decide.mpr (by omega)) ?_))))))
    cases decide (ed = 1) with
    | true => exact set_go (var_go (v := .int (ed : Nat)) (by rfl) ⟨_, SLe.refl _, ed, rfl, rfl⟩)
    | false =>
      try dsimp only
      refine tst_go (op_go (var_go (v := .int (ed : Nat)) (by rfl) (c_go (eq_i (c := decide (ed = 2)) (decide_eq_decide.mpr (by omega)) ?_))))
      cases decide (ed = 2) with
      | true => exact set_go (var_go (v := .int (ed : Nat)) (by rfl) ⟨_, SLe.refl _, ed, rfl, rfl⟩)
      | false => exact nx_go ⟨_, SLe.refl _, 0, rfl, rfl⟩
  rintro σ S ⟨lean, rfl, rfl⟩
  refine cut_go (fun σ S => ∃ (m lean : Nat) (y : Sx) (E : List (Addr × HO)) (x5 x7 : Option V), 1 ≤ m ∧ m ≤ 64 ∧ σ = [some (.ref b), some (.int 64), some (.int (ed : Nat)), some (.int (m : Nat)), some (.int (lean : Nat)), x5, none, x7] ∧ S = ⟨F, E ++ SK.bg b y⟩) ?_ ?_
  · refine ifT_go (tst_go (op_go (var_go (v := .int (ed : Nat)) (by rfl) (c_go (eq_i (c := decide (ed = 3)) (decide_eq_decide.mpr (by omega)) ?_)))))
    cases decide (ed = 3) with
    | false => exact nx_go ⟨_, SLe.refl _, m, lean, y, [], none, none, h1, h2, rfl, rfl⟩
    | true =>
      refine seq_go (set_go ?_)
      refine seqI_go (lst_go (cons_go (c_go (cons_go (c_go (cons_go (c_go (cons_go (c_go (cons_go (c_go (cons_go (c_go (cons_go (c_go (nil_go ⟨show 7 ≤ sizeLine by decide, fun pe => ?_⟩))))))))))))))))
      refine .inl ⟨nV evL, .inl ⟨0, rfl⟩, fun D => ?_⟩
      refine ⟨fun i S => S = ⟨F, (D, .lst (nV (evL.take i))) :: (pe, .lst (nV evL)) :: SK.bg b y⟩, rfl, ?_, ?_, ?_⟩
      · rintro i S _ rfl
        exact .inl ⟨1, rfl⟩
      · rintro i S hi rfl v hv
        obtain ⟨k, hk, rfl⟩ := nV_get hv
        have hk64 : k ≤ 64 := (show ∀ k ∈ evL, k ≤ 64 by decide) k (List.mem_of_getElem? hk)
        refine nm_go ⟨rfl, ?_⟩
        refine tst_go (op_go (var_go (v := .int (k : Nat)) (by rfl) (var_go (v := .int 64) (by rfl) (le_i (c := true) (decide_eq_true (by omega)) ?_))))
        try dsimp only
        refine var_go (v := .int (k : Nat)) (by rfl) ?_
        have hi : i < 7 := hi
        refine lc_put (E := []) ?_ ?_
        · rw [nV_len, List.length_take]
          exact small_of (show min i _ ≤ 7 by omega) (by decide)
        · show SH.mk F _ = SH.mk F _
          rw [take_more hk, nV_append]
          rfl
      · rintro S rfl
        try dsimp only
        refine seq_go (set_go (op_go (var_go (v := .ref D) (by rfl) (calld_go (cons_go (var_go (v := .ref b) (by rfl) (cons_go (call1_go (cons_go (var_go (v := .ref D) (by rfl) (nil_go ⟨nV evL, .inl (.inl ⟨0, rfl⟩), nil_go ?_⟩)))))))))))
        refine use_take (E := (D, .lst (nV evL)) :: (pe, .lst (nV evL)) :: []) 7 (by rfl) (by decide) fun y z hz => ?_
        obtain ⟨k, hk⟩ : ∃ k, evL[z]? = some k := ⟨_, List.getElem?_eq_getElem (by exact hz)⟩
        have hk64 : 1 ≤ k ∧ k ≤ 64 := (show ∀ k ∈ evL, 1 ≤ k ∧ k ≤ 64 by decide) k (List.mem_of_getElem? hk)
        refine ⟨nV evL, .int (k : Nat), .inl (.inl ⟨0, rfl⟩), atI_at (nV_at hk), ?_⟩
        try dsimp only
        refine set_go (c_go ?_)
        exact ⟨_, SLe.refl _, k, 3, y, [(D, .lst (nV evL)), (pe, .lst (nV evL))], _, _, hk64.1, hk64.2, rfl, rfl⟩
  rintro σ S ⟨m, lean, y, E, x5, x7, h1, h2, rfl, rfl⟩
  exact tree3 eX h1 h2
theorem use_tree {W : sWX} {vs : List V} {σ : L2.St} {F : Hp} {E : List (Addr × HO)} {b : Addr} {x : Sx} {Q : V → SH → Prop} (e : vs = [.ref b, .int 64])
    (k : ∀ (y : Sx) (F2 : Hp) (bt : TR) (p d : Addr), Ext F F2 → nS bt ≤ 64 → F2 p = some (.tup [.str (tS bt), .ref d, .int (nS bt : Nat)]) → topsR F2 (.ref d) bt → Q (.ref p) ⟨F2, [] ++ SK.bg b y⟩) : rC (ct_l_tree K) W vs σ ⟨F, E ++ SK.bg b x⟩ Q := by
  refine use_lbox (B := SK) () e trivial (fun _ _ => trivial) fun y H1 v H2 hy o1 o2 ex hres => ?_
  obtain ⟨bt, p, d, rfl, h2, h3, h4⟩ := hres
  exact ⟨H2, [], Own.base H2, k y H2 bt p d (own_F o2) h4 h2 h3⟩
theorem ltt_as (g : Bool) : lttS g = pS [asN g] := by cases g <;> rfl
theorem vc_l_run {vs : List V} {H : Hp} (g : Addr × Sx × V × TR × List Nat × Rl) (h : (ct_l_run K).pre g vs H) : ∃ S, Own S H ∧ r_l_run K a (endsC (ct_l_run K) g H) (start N_l_run vs) S := by
  refine body_lbox g h fun b x gg F eg eF hinv hok e => ?_
  obtain ⟨tv, bt, st, r⟩ := gg
  subst eg
  have e : vs = [.ref b, tv, .int (nS bt : Nat), .str (pS st), .str (rlS r)] := e
  subst e
  obtain ⟨hT, hl, hsm⟩ := (show topsR F tv bt ∧ st.length + 1 = nS bt ∧ nS bt ≤ 64 from hok)
  have hpos := nS_pos bt
  refine seq_go (set_go (calld_go (cons_go (var_go (v := .ref b) (by rfl) (cons_go (c_go (nil_go ?_)))))))
  refine use_take (E := []) 13 (by rfl) (by decide) fun y m hm => ?_
  try dsimp only
  refine cut_go (fun σ S => ∃ (m : Nat) (y : Sx), m ≤ 60 ∧ σ = [some (.ref b), some tv, some (.int (nS bt : Nat)), some (.str (pS st)), some (.str (rlS r)), some (.int (m : Nat)), none, none, none, none, none, none] ∧ S = ⟨F, [] ++ SK.bg b y⟩) ?_ ?_
  · refine ifT_go (tst_go (op_go (calld_go (cons_go (var_go (v := .ref b) (by rfl) (cons_go (c_go (nil_go ?_))))))))
    refine use_take (E := []) 6 (by rfl) (by decide) fun y z hz => ?_
    refine c_go (eq_i (c := decide (z = 0)) (decide_eq_decide.mpr (by omega)) ?_)
    cases decide (z = 0) with
    | false => exact nx_go ⟨_, SLe.refl _, m, y, by omega, rfl, rfl⟩
    | true =>
      refine set_go (op_go (c_go (calld_go (cons_go (var_go (v := .ref b) (by rfl) (cons_go (c_go (nil_go ?_))))))))
      refine use_take (E := []) 48 (by rfl) (by decide) fun y z hz => ?_
      refine add_g ⟨_, SLe.refl _, z + 13, y, by omega, ?_, rfl⟩
      rw [show ((z + 13 : Nat) : Int) = (13 : Int) + (z : Nat) by omega]
      rfl
  rintro σ S ⟨m, y, h1, rfl, rfl⟩
  refine seq_go (set_go (calld_go (cons_go (var_go (v := .ref b) (by rfl) (cons_go (c_go (nil_go ?_)))))))
  refine use_take (E := []) 3 (by rfl) (by decide) fun y sy hsy => ?_
  try dsimp only
  refine seq_go (set_go (calld_go (cons_go (var_go (v := .ref b) (by rfl) (cons_go (op_go (var_go (v := .int (m : Nat)) (by rfl) (c_go (add_g (nil_go ?_))))))))))
  refine use_take (E := []) (m + 1) (by rfl) (by omega) fun y od hod => ?_
  try dsimp only
  refine seq_go (set_go (lst_go (nil_go ⟨Nat.zero_le _, fun p8 => ?_⟩)))
  try dsimp only
  refine seq_go ⟨by unfold rngOk; omega, ?_⟩
  refine ⟨fun i σ S => ∃ (y : Sx) (cur : List Nat) (run : List Ln) (xs : List V) (E : List (Addr × HO)) (x9 x10 x11 : Option V), cur.length + 1 = nS bt ∧ run.length = i ∧ (∀ l ∈ run, l.2 < nS bt) ∧ MDs K F E xs (run.map lnD) ∧ σ = [some (.ref b), some tv, some (.int (nS bt : Nat)), some (.str (pS cur)), some (.str (rlS r)), some (.int (m : Nat)), some (.int (sy : Nat)), some (.int (od : Nat)), some (.ref p8), x9, x10, x11] ∧ S = ⟨F, (E ++ (p8, .lst xs) :: []) ++ SK.bg b y⟩,
    ⟨y, st, [], [], [], none, none, none, hl, rfl, (fun _ z => nomatch z), .nil, rfl, rfl⟩, fun _ _ _ _ _ => trivial, ?_, ?_⟩
  · rintro i σ S hi ⟨y, cur, run, xs, E, x9, x10, x11, hc, hlr, hsl, hxs, rfl, rfl⟩
    have hi : i < m := by
      have hi : i < ((m : Nat) : Int).toNat := hi
      rw [Int.toNat_natCast] at hi
      exact hi
    refine yldR_go (nm_go ?_)
    try dsimp only
    refine seq_go (set_go (op_go (lst_go (cons_go (c_go (cons_go (c_go (nil_go ⟨show 2 ≤ sizeLine by decide, fun pw => ?_⟩))))))))
    refine calld_go (cons_go (var_go (v := .ref b) (by rfl) (cons_go (c_go (nil_go ?_)))))
    refine use_take (E := (pw, .lst [.str "hit", .str "load"]) :: (E ++ (p8, .lst xs) :: [])) 2 (by rfl) (by decide) fun y z hz => ?_
    obtain ⟨kd, hkd⟩ : ∃ kd : Bool, ([V.str "hit", .str "load"] : List V)[z]? = some (.str (kS kd)) := by
      rcases (show z = 0 ∨ z = 1 by omega) with rfl | rfl
      · exact ⟨false, rfl⟩
      · exact ⟨true, rfl⟩
    refine ⟨_, _, .inl (.inl ⟨0, rfl⟩), atI_at hkd, ?_⟩
    try dsimp only
    refine seq_go (set_go (calld_go (cons_go (var_go (v := .ref b) (by rfl) (cons_go (var_go (v := .int (nS bt : Nat)) (by rfl) (nil_go ?_)))))))
    refine use_take (E := (pw, .lst [.str "hit", .str "load"]) :: (E ++ (p8, .lst xs) :: [])) (nS bt) (by rfl) (by omega) fun y s hs => ?_
    try dsimp only
    refine cut_go (fun σ S => ∃ s : Nat, s < nS bt ∧ σ = [some (.ref b), some tv, some (.int (nS bt : Nat)), some (.str (pS cur)), some (.str (rlS r)), some (.int (m : Nat)), some (.int (sy : Nat)), some (.int (od : Nat)), some (.ref p8), some (.int (0 + (i : Nat))), some (.str (kS kd)), some (.int (s : Nat))] ∧ S = ⟨F, ((pw, .lst [.str "hit", .str "load"]) :: (E ++ (p8, .lst xs) :: [])) ++ SK.bg b y⟩) ?_ ?_
    · have no : ∀ S, S = SH.mk F (((pw, .lst [.str "hit", .str "load"]) :: (E ++ (p8, .lst xs) :: [])) ++ SK.bg b y) → Wk (fun S => ∃ s' : Nat, s' < nS bt ∧ [some (.ref b), some tv, some (.int (nS bt : Nat)), some (.str (pS cur)), some (.str (rlS r)), some (.int (m : Nat)), some (.int (sy : Nat)), some (.int (od : Nat)), some (.ref p8), some (.int (0 + (i : Nat))), some (.str (kS kd)), some (.int (s : Nat))] = [some (.ref b), some tv, some (.int (nS bt : Nat)), some (.str (pS cur)), some (.str (rlS r)), some (.int (m : Nat)), some (.int (sy : Nat)), some (.int (od : Nat)), some (.ref p8), some (.int (0 + (i : Nat))), some (.str (kS kd)), some (.int (s' : Nat))] ∧ S = ⟨F, ((pw, .lst [.str "hit", .str "load"]) :: (E ++ (p8, .lst xs) :: [])) ++ SK.bg b y⟩) S := fun S e => ⟨_, SLe.refl _, s, hs, rfl, e⟩
      refine ifT_go (and_go (tst_go (op_go (var_go (v := .str (kS kd)) (by rfl) (c_go (eq_s (kS_dec kd) ?_))))))
      cases kd with
      | false => exact nx_go (no _ rfl)
      | true =>
        try dsimp only
        have yes : ∀ D : sEnds, (∀ s' : Nat, s' < nS bt → D.nx [some (.ref b), some tv, some (.int (nS bt : Nat)), some (.str (pS cur)), some (.str (rlS r)), some (.int (m : Nat)), some (.int (sy : Nat)), some (.int (od : Nat)), some (.ref p8), some (.int (0 + (i : Nat))), some (.str (kS true)), some (.int (s' : Nat))] ⟨F, ((pw, .lst [.str "hit", .str "load"]) :: (E ++ (p8, .lst xs) :: [])) ++ SK.bg b y⟩) → (sSet (sCallD (q_l_victim K a) [] (sCons (sVar 1) (sCons (sVar 2) (sCons (sVar 3) (sCons (sOp (oIx K) (sVar 4) (sC (.int 2))) (sNil)))))) 11) D [some (.ref b), some tv, some (.int (nS bt : Nat)), some (.str (pS cur)), some (.str (rlS r)), some (.int (m : Nat)), some (.int (sy : Nat)), some (.int (od : Nat)), some (.ref p8), some (.int (0 + (i : Nat))), some (.str (kS true)), some (.int (s : Nat))] ⟨F, ((pw, .lst [.str "hit", .str "load"]) :: (E ++ (p8, .lst xs) :: [])) ++ SK.bg b y⟩ := fun D kk => by
          refine set_go (calld_go (cons_go (var_go (v := tv) (by rfl) (cons_go (var_go (v := .int (nS bt : Nat)) (by rfl) (cons_go (var_go (v := .str (pS cur)) (by rfl) (cons_go (op_go (var_go (v := .str (rlS r)) (by rfl) (c_go (ix_r2 (nil_go ?_)))))))))))))
          refine use_vic tv bt cur r.2.2 (by rw [ltt_as]; rfl) hT hc hsm fun hlt => ?_
          exact kk _ hlt
        refine or_go (tst_go (op_go (var_go (v := .int (sy : Nat)) (by rfl) (c_go (eq_i (c := decide (sy = 1)) (decide_eq_decide.mpr (by omega)) ?_)))))
        cases decide (sy = 1) with
        | true => exact yes _ fun s' hs' => ⟨_, SLe.refl _, s', hs', rfl, rfl⟩
        | false =>
          try dsimp only
          refine and_go (tst_go (op_go (var_go (v := .int (sy : Nat)) (by rfl) (c_go (eq_i (c := decide (sy = 2)) (decide_eq_decide.mpr (by omega)) ?_)))))
          cases decide (sy = 2) with
          | false => exact nx_go (no _ rfl)
          | true =>
            try dsimp only
            refine tst_go (op_go (var_go (v := .int (0 + (i : Nat))) (by rfl) (var_go (v := .int (od : Nat)) (by rfl) (ne_i (c := !decide (i = od)) (by rw [Bool.not_not]; exact decide_eq_decide.mpr (by omega)) ?_))))
            cases decide (i = od) with
            | true => exact nx_go (no _ rfl)
            | false => exact yes _ fun s' hs' => ⟨_, SLe.refl _, s', hs', rfl, rfl⟩
    rintro σ S ⟨s, hs, rfl, rfl⟩
    refine cut_go (fun σ S => ∃ cur : List Nat, cur.length + 1 = nS bt ∧ σ = [some (.ref b), some tv, some (.int (nS bt : Nat)), some (.str (pS cur)), some (.str (rlS r)), some (.int (m : Nat)), some (.int (sy : Nat)), some (.int (od : Nat)), some (.ref p8), some (.int (0 + (i : Nat))), some (.str (kS kd)), some (.int (s : Nat))] ∧ S = ⟨F, ((pw, .lst [.str "hit", .str "load"]) :: (E ++ (p8, .lst xs) :: [])) ++ SK.bg b y⟩) ?_ ?_
    · refine ifT_go (tst_go (op_go (op_go (var_go (v := .str (rlS r)) (by rfl) (call1_go (cons_go (op_go (var_go (v := .str (kS kd)) (by rfl) (c_go (eq_s (kS_dec kd) (nil_go (nIntB (ix_rk ?_)))))))))))))
      refine c_go (eq_s (dec_t _) ?_)
      cases turnR r kd with
      | false => exact nx_go ⟨_, SLe.refl _, cur, hc, rfl, rfl⟩
      | true =>
        refine set_go (calld_go (cons_go (var_go (v := tv) (by rfl) (cons_go (var_go (v := .int (nS bt : Nat)) (by rfl) (cons_go (var_go (v := .str (pS cur)) (by rfl) (cons_go (var_go (v := .int (s : Nat)) (by rfl) (nil_go ?_))))))))))
        refine use_aft tv bt cur s (by rfl) hT hc hsm hs ?_
        exact ⟨_, SLe.refl _, _, by rw [hitL_len]; exact hc, rfl, rfl⟩
    rintro σ S ⟨cur, hc, rfl, rfl⟩
    have lx : xs.length = i := by rw [hxs.len, List.length_map, hlr]
    refine drop_go (mt_go (var_go (v := .ref p8) (by rfl) ⟨.inl ⟨rfl, xs, sL_mem (List.mem_append_left _ (.tail _ (List.mem_append_right _ (.head _))))⟩, ?_⟩))
    refine cons_go (tup_go (cons_go (var_go (v := .str (kS kd)) (by rfl) (cons_go (var_go (v := .int (s : Nat)) (by rfl) (nil_go ⟨show 2 ≤ sizeLine by decide, fun pt => nil_go ?_⟩))))))
    refine app_eq (F := F) (acc := xs) (E := (pt, .tup [.str (kS kd), .int (s : Nat)]) :: (pw, .lst [.str "hit", .str "load"]) :: E) (G := SK.bg b y) (by show SH.mk F _ = SH.mk F _; simp) (by rw [lx]; exact small_of (show i ≤ 60 by omega) (by decide)) ?_
    refine ⟨_, SLe.refl _, y, cur, run ++ [(kd, s)], xs ++ [.ref pt], (pt, .tup [.str (kS kd), .int (s : Nat)]) :: (pw, .lst [.str "hit", .str "load"]) :: E, _, _, _, hc, by rw [List.length_append, hlr]; rfl, fun l hl => ?_, ?_, rfl, ?_⟩
    · rcases List.mem_append.mp hl with hl | hl
      · exact hsl l hl
      · rw [List.mem_singleton.mp hl]
        exact hs
    · rw [List.map_append]
      exact (hxs.sub fun _ z => .tail _ (.tail _ z)).snoc (.tup (.inl (.head _)) (.cons (.str _) (.cons (.int _) .nil)))
    · show SH.mk F _ = SH.mk F _
      simp
  · rintro σ S ⟨y, cur, run, xs, E, x9, x10, x11, hc, hlr, hsl, hxs, rfl, rfl⟩
    have hlr : run.length = ((m : Nat) : Int).toNat := hlr
    rw [Int.toNat_natCast] at hlr
    try dsimp only
    refine ret_go (var_go (v := .ref p8) (by rfl) ?_)
    intro H' o'
    subst eF
    refine end_sk (y := y) (Ext.refl _) o' fun H2 o2 => ⟨run, ⟨⟨p8, xs, rfl, .inl (.inl (own_g o2 (List.mem_append_right _ (.head _)))), (hxs.sub fun _ z => List.mem_append_left _ z).own o2⟩, hsl⟩, by omega⟩
theorem use_run {W : sWX} {vs : List V} {σ : L2.St} {F : Hp} {E : List (Addr × HO)} {b : Addr} {x : Sx} {Q : V → SH → Prop} (tv : V) (bt : TR) (st : List Nat) (r : Rl) (e : vs = [.ref b, tv, .int (nS bt : Nat), .str (pS st), .str (rlS r)]) (hT : topsR F tv bt) (hl : st.length + 1 = nS bt) (hs : nS bt ≤ 64)
    (k : ∀ (y : Sx) (H1 F2 : Hp) (v : V) (run : List Ln), Own ⟨F, E⟩ H1 → Ext H1 F2 → RunG K F2 bt v run → run.length ≤ 60 → Q v ⟨F2, [] ++ SK.bg b y⟩) : rC (ct_l_run K) W vs σ ⟨F, E ++ SK.bg b x⟩ Q := by
  refine use_lbox (B := SK) (tv, bt, st, r) e trivial (fun H o => ⟨hT.ext (own_F o), hl, hs⟩) fun y H1 v H2 hy o1 o2 ex hres => ?_
  obtain ⟨run, h1, h2⟩ := hres
  exact ⟨H2, [], Own.base H2, k y H1 H2 v run o1 ex h1 h2⟩
end
section
variable {K : PySem.W.Frag} {a : Ads}
open TR
theorem vc_l_is_integer {vs : List V} {H : Hp} (g : V × TY) (h : (ct_is_integer K).pre g vs H) : ∃ S, Own S H ∧ r_l_is_integer K a (endsC (ct_is_integer K) g H) (start N_l_is_integer vs) S := by
  obtain ⟨x, t⟩ := g
  obtain ⟨rfl, ht⟩ := h
  refine ⟨⟨H, []⟩, Own.base H, ?_⟩
  have fin : ∀ H', Own ⟨H, []⟩ H' → Ext H H' := fun H' o => ext0 o
  cases x with
  | non => exact fun H' o => ⟨rfl, fin H' o⟩
  | bl b => exact fun H' o => ⟨rfl, fin H' o⟩
  | int b => exact fun H' o => ⟨rfl, fin H' o⟩
  | str b => exact fun H' o => ⟨rfl, fin H' o⟩
  | ref p =>
    have ht' : isiTy K (.ref p) ⟨H, []⟩ t := ht
    refine ⟨t, ht', ?_⟩
    rcases ht' with ⟨rfl, _⟩ | ⟨rfl, _⟩ | ⟨rfl, _⟩
    · exact fun H' o => ⟨rfl, fin H' o⟩
    · exact fun H' o => ⟨rfl, fin H' o⟩
    · exact fun H' o => ⟨rfl, fin H' o⟩
  | byt b => exact ht.elim
  | flt b => exact ht.elim
  | ty b => exact ht.elim
theorem fw_lay (w : Option (Nat × Nat)) : PyData.canLay0 (fwD w) = true ∧ PyData.depth (fwD w) ≤ 5 := by
  cases w with
  | none => exact ⟨rfl, Nat.zero_le _⟩
  | some q => exact ⟨rfl, by show max 0 (max 0 0) + 1 ≤ 5; decide⟩
theorem shp {d : PyData} (h : PyData.canLay0 d = true ∧ PyData.depth d ≤ 5) : SeqAt.shaped d = true := by
  unfold SeqAt.shaped
  rw [h.1, Bool.true_and]
  exact decide_eq_true (by omega)
theorem run_shp (run : List Ln) : SeqAt.shaped (.list (run.map lnD)) = true := (shaped_all fun d hd => by
  obtain ⟨l, _, rfl⟩ := List.mem_map.mp hd
  exact ln_lay l).2
theorem use_judg {W : sWX} {σ : L2.St} {F : Hp} {G : List (Addr × HO)} {Q : V → SH → Prop} {vs : List V} (tv : V) (b : TR) (r : Rl) (st : List Nat) (rv : V) (run : List Ln) (e : vs = [tv, .int (nS b : Nat), .str (rlS r), .str (pS st), rv]) (hT : topsR F tv b) (hl : st.length + 1 = nS b) (hs : nS b ≤ 64) (hR : RunG K F b rv run) (hlr : run.length ≤ 200)
    (k : ∀ H1 H2 v, Own ⟨F, G⟩ H1 → Ext H1 H2 → MD K H2 [] v (.tuple [fwD (fwR b r run 0 st), .str (pS (fbL b r st run))]) → Q v ⟨H2, []⟩) : rC (ct_l_judged K) W vs σ ⟨F, G⟩ Q :=
  ⟨(tv, b, r, st, rv, run), fun H o => ⟨e, hT.ext (own_F o), hl, hs, hR.ext (own_F o), hlr⟩, fun H v H' o q => ⟨_, Own.base H', k H H' v o q.2 q.1⟩, fun _ _ _ _ _ q => q.elim⟩
theorem use_qb {res : TR → Rl → List Nat → List Ln → V → Hp → Prop} {W : sWX} {σ : L2.St} {F : Hp} {G : List (Addr × HO)} {Q : V → SH → Prop} {vs : List V} (tv : V) (b : TR) (r : Rl) (st : List Nat) (rv : V) (run : List Ln) (e : vs = [tv, .str (rlS r), .str (pS st), rv]) (hT : TreeAt K a F tv b) (hl : st.length + 1 = nS b) (hf : flgOk st) (hR : ∀ H, Own ⟨F, G⟩ H → RunG K H b rv run) (hlr : run.length ≤ 200)
    (k : ∀ H1 H2 v, Own ⟨F, G⟩ H1 → Ext H1 H2 → res b r st run v H2 → Q v ⟨H2, []⟩) : rC (ct_qb K a res) W vs σ ⟨F, G⟩ Q :=
  ⟨⟨tv, b, .str (rlS r), .str (pS st), rv, .ok r st run⟩, fun H o => ⟨e, hT.ext (own_F o), rfl, rfl, hl, hf, hR H o, hlr⟩, fun H v H' o q => ⟨_, Own.base H', by
    obtain ⟨⟨r2, s2, n2, e2, q2⟩, q3⟩ := q
    cases e2
    exact k H H' v o q3 q2⟩, fun _ _ _ _ _ q => q.elim⟩
theorem use_isL {W : sWX} {σ : L2.St} {S : SH} {Q : V → SH → Prop} {vs : List V} (x : V) (t : TY) (e : vs = [x]) (ht : ∀ H, Own S H → Ty0 K H x t) (h : Q (.bl (isInt x)) S) : rC (ct_is_integer K) W vs σ S Q :=
  ⟨(x, t), fun H o => ⟨e, ht H o⟩, fun H v H' o q => ⟨S, o.ex q.2, by rw [q.1]; exact h⟩, fun _ _ _ _ _ q => q.elim⟩
theorem mT_at {H : Hp} {p : Addr} {xs : List V} (h : mT K H [] p xs) : SqT K H p xs := h.elim (fun z => nomatch z) id
theorem vc_l_rule_right {vs : List V} {H : Hp} (g : RrG) (h : (ct_l_rule_right K a).pre g vs H) : ∃ S, Own S H ∧ r_l_rule_right K a (endsC (ct_l_rule_right K a) g H) (start N_l_rule_right vs) S := by
  obtain ⟨tv, kv, b, r, st, rv, run⟩ := g
  obtain ⟨e0, hT0, hk0, hl0, hf0, hR0, hlr0⟩ := h
  have e0 : vs = [tv, kv, .int (nS b : Nat), .str (rlS r), .str (pS st), rv] := e0
  subst e0
  have hT : TreeAt K a H tv b := hT0
  have hk : topsR H kv b := hk0
  have hl : st.length + 1 = nS b := hl0
  have hf : flgOk st := hf0
  have hR : RunG K H b rv run := hR0
  have hlr : run.length ≤ 200 := hlr0
  clear hT0 hk0 hl0 hf0 hR0 hlr0
  have hsm := hT.sm
  refine ⟨⟨H, []⟩, Own.base H, ?_⟩
  have fin : ∀ (v : V) (F2 : Hp), v = .bl true → Ext H F2 → ∀ (E : List (Addr × HO)) H', Own ⟨F2, E⟩ H' → (ct_l_rule_right K a).post ⟨tv, kv, b, r, st, rv, run⟩ H v H' := fun v F2 e e2 E H' o => ⟨e, fun c u z => o.fr c u (e2 c u z)⟩
  refine seq_go (set_go (calld_go (cons_go (var_go (v := kv) (by rfl) (cons_go (var_go (v := .int (nS b : Nat)) (by rfl) (cons_go (var_go (v := .str (rlS r)) (by rfl) (cons_go (var_go (v := .str (pS st)) (by rfl) (cons_go (var_go (v := rv) (by rfl) (nil_go ?_)))))))))))))
  refine use_judg kv b r st rv run (by rfl) hk hl hsm hR hlr fun H1 F2 v6 o1 x1 hj => ?_
  have e2 : Ext H F2 := (own_F o1).trans x1
  obtain ⟨p6, xs6, rfl, h6, m6⟩ := hj.tupI
  have h6 := mT_at h6
  cases m6 with
  | @cons w6 _ _ _ mw m6 =>
  cases m6 with
  | @cons s6 _ _ _ ms m6 =>
  cases m6
  have es := ms.strI
  subst es
  have hR2 := hR.ext e2
  obtain ⟨⟨pr, rs, er, hpr, hrs⟩, hslot⟩ := hR2
  subst er
  try dsimp only
  refine seq_go (set_go (call1_go (cons_go (var_go (v := .ref pr) (by rfl) (nil_go ⟨rs, .inl (.inr hpr), fun p7 => ?_⟩)))))
  try dsimp only
  have go7 : ∀ H', Own (SH.mk F2 [(p7, .lst rs)]) H' → RunG K H' b (.ref p7) run := fun H' o => ⟨⟨p7, rs, rfl, o.l (.inl ⟨0, rfl⟩), hrs.ext (own_F o)⟩, hslot⟩
  refine seq_go (set_go (calld_go (cons_go (var_go (v := tv) (by rfl) (cons_go (var_go (v := .str (rlS r)) (by rfl) (cons_go (var_go (v := .str (pS st)) (by rfl) (cons_go (var_go (v := .ref p7) (by rfl) (nil_go ?_)))))))))))
  refine use_qb (res := resFw K) tv b r st (.ref p7) run (by rfl) (hT.ext e2) hl hf go7 hlr fun H3 F4 v8 o3 x3 h8 => ?_
  have e4 : Ext F2 F4 := (own_F o3).trans x3
  have m7 : F4 p7 = some (.lst rs) := x3 _ _ (own_g o3 (.head _))
  have h8 : MD K F4 [] v8 (fwD (fwR b r run 0 st)) := h8
  try dsimp only
  refine seq_go (set_go (calld_go (cons_go (var_go (v := tv) (by rfl) (cons_go (var_go (v := .str (rlS r)) (by rfl) (cons_go (var_go (v := .str (pS st)) (by rfl) (cons_go (var_go (v := .ref p7) (by rfl) (nil_go ?_)))))))))))
  refine use_qb (res := resFb) tv b r st (.ref p7) run (by rfl) ((hT.ext e2).ext e4) hl hf (fun H' o => ⟨⟨p7, rs, rfl, .inl (.inl (own_F o _ _ m7)), (hrs.ext e4).ext (own_F o)⟩, hslot⟩) hlr fun H5 F6 v9 o5 x5 h9 => ?_
  have e6 : Ext F4 F6 := (own_F o5).trans x5
  have h9 : v9 = .str (pS (fbL b r st run)) := h9
  subst h9
  have m7 := e6 _ _ m7
  have e06 : Ext H F6 := (e2.trans e4).trans e6
  have q6 := SqT.up (e4.trans e6) h6
  have h8 := h8.ext e6
  have mw := mw.ext (e4.trans e6)
  try dsimp only
  refine seq_go (ifT_go (or_go (tst_go (op_go (var_go (v := .ref p7) (by rfl) (var_go (v := .ref pr) (by rfl) ?_))))))
  refine ne_same (d := .list (run.map lnD)) rfl (fun H' o => .lst (.inl (.inl (own_F o _ _ m7))) (MDs.dp _ _ ((hrs.ext (e4.trans e6)).ext (own_F o)))) (fun H' o => .lst (SqL.up (own_F o) (SqL.up (e4.trans e6) hpr)) (MDs.dp _ _ ((hrs.ext (e4.trans e6)).ext (own_F o)))) (run_shp run) ?_
  try dsimp only
  refine or_go (not_go (tru_go (var_go (v := .str (pS (fbL b r st run))) (by rfl) ?_)))
  try dsimp only
  refine otb_go ?_
  try dsimp only
  refine tst_go (op_go (var_go (v := .str (pS (fbL b r st run))) (by rfl) (op_go (var_go (v := .ref p6) (by rfl) (c_go ⟨_, .str (pS (fbL b r st run)), .inr (.inr q6), atI_at (i := 1) rfl, ne_s (c := false) (decide_eq_true rfl) ?_⟩)))))
  refine nx_go ?_
  try dsimp only
  refine seq_go (ifT_go (tst_go (op_go (op_go (var_go (v := .ref p6) (by rfl) (c_go ⟨_, w6, .inr (.inr q6), atI_at (i := 0) rfl, c_go (isN_fw (G := []) mw ?_)⟩))))))
  generalize fwR b r run 0 st = w at h8 mw
  cases w with
  | none =>
    try dsimp only
    refine ret_go (op_go (var_go (v := v8) (by rfl) (c_go (isN_fw (G := []) h8 ?_))))
    exact fin _ F6 rfl e06 []
  | some q =>
    try dsimp only
    refine nx_go ?_
    try dsimp only
    obtain ⟨p8, xs8, rfl, t8, m8⟩ := MD.tupI (show MD K F6 [] v8 (.tuple _) from h8)
    obtain ⟨pw, xsw, rfl, tw, mw2⟩ := MD.tupI (show MD K F6 [] w6 (.tuple _) from mw)
    have t8 := mT_at t8
    cases m8 with
    | @cons a8 _ _ _ ma m8 =>
    cases m8 with
    | @cons b8 _ _ _ mb m8 =>
    cases m8
    have ea := ma.intI
    have eb := mb.intI
    subst ea eb
    refine seq_go (ifT_go (or_go (not_go (tru_go (var_go (v := .ref p8) (by rfl) ⟨.tuple, .inr (.inl ⟨rfl, _, .inr t8⟩), ?_⟩)))))
    try dsimp only
    refine otb_go ?_
    try dsimp only
    refine tst_go (op_go (call1_go (cons_go (var_go (v := .ref p8) (by rfl) (nil_go ⟨_, .inr (.inr t8), c_go (ne_i (c := false) (show decide (((2 : Nat) : Int) = 2) = !false by decide) ?_)⟩)))))
    try dsimp only
    refine nx_go ?_
    try dsimp only
    refine ret_go (andV_go (calld_go (cons_go (op_go (var_go (v := .ref p8) (by rfl) (c_go ⟨_, .int (q.1 : Nat), .inr (.inr t8), atI_at (i := 0) rfl, nil_go ?_⟩))))))
    refine use_isL (.int (q.1 : Nat)) .int (by rfl) (fun H' o => rfl) ?_
    try dsimp only
    refine andV_go (calld_go (cons_go (op_go (var_go (v := .ref p8) (by rfl) (c_go ⟨_, .int (q.2 : Nat), .inr (.inr t8), atI_at (i := 1) rfl, nil_go ?_⟩)))))
    refine use_isL (.int (q.2 : Nat)) .int (by rfl) (fun H' o => rfl) ?_
    try dsimp only
    refine op_go (var_go (v := .ref p8) (by rfl) (op_go (var_go (v := .ref p6) (by rfl) (c_go ⟨_, .ref pw, .inr (.inr q6), atI_at (i := 0) rfl, ?_⟩))))
    refine eq_same (d := fwD (some q)) rfl (fun H' o => MD.dp _ _ (h8.ext (own_F o))) (fun H' o => MD.dp _ _ (mw.ext (own_F o))) (shp (fw_lay _)) ?_
    exact fin _ F6 rfl e06 []
theorem rls_get {i : Nat} {v : V} (h : (rlsS.map V.str)[i]? = some v) : ∃ r, v = .str (rlS r) := by
  rw [List.getElem?_map] at h
  cases e : rlsS[i]? with
  | none =>
    rw [e] at h
    cases h
  | some u =>
    rw [e] at h
    obtain ⟨r, _, hr⟩ := List.mem_map.mp (List.mem_of_getElem? e)
    exact ⟨r, by rw [hr]; exact (Option.some.inj h).symm⟩
theorem vc_l_same_right {vs : List V} {H : Hp} (g : V × TR × V) (h : (ct_l_same_right K a).pre g vs H) : ∃ S, Own S H ∧ r_l_same_right K a (endsC (ct_l_same_right K a) g H) (start N_l_same_right vs) S := by
  obtain ⟨tv, b, lv⟩ := g
  obtain ⟨e0, hT0, p, e1, hp⟩ := h
  have e0 : vs = [tv, .int (nS b : Nat), lv] := e0
  subst e0
  have hT : TreeAt K a H tv b := hT0
  have e1 : lv = .ref p := e1
  subst e1
  clear hT0
  refine ⟨⟨H, []⟩, Own.base H, ?_⟩
  refine seq_go (seqI_go (var_go (v := .ref p) (by rfl) ?_))
  refine .inl ⟨rlsS.map V.str, .inr hp, ?_⟩
  refine ⟨fun i σ S => ∃ (x3 x4 x5 x6 : Option V), σ = [some tv, some (.int (nS b : Nat)), some (.ref p), x3, x4, x5, x6] ∧ S = ⟨H, []⟩, ⟨none, none, none, none, rfl, rfl⟩, ?_, ?_, ?_⟩
  · rintro i σ S _ ⟨x3, x4, x5, x6, rfl, rfl⟩
    exact .inr hp
  · rintro i σ S hi ⟨x3, x4, x5, x6, rfl, rfl⟩ v hv
    obtain ⟨r, rfl⟩ := rls_get hv
    refine nm_go ?_
    try dsimp only
    refine seqI_go (var_go (v := .ref p) (by rfl) ?_)
    refine .inl ⟨rlsS.map V.str, .inr hp, ?_⟩
    refine ⟨fun j σ S => ∃ (x4 x5 x6 : Option V), σ = [some tv, some (.int (nS b : Nat)), some (.ref p), some (.str (rlS r)), x4, x5, x6] ∧ S = ⟨H, []⟩, ⟨x4, x5, x6, rfl, rfl⟩, ?_, ?_, ?_⟩
    · rintro i σ S _ ⟨x4, x5, x6, rfl, rfl⟩
      exact .inr hp
    · rintro j σ S hj ⟨x4, x5, x6, rfl, rfl⟩ v hv
      obtain ⟨o, rfl⟩ := rls_get hv
      refine nm_go ?_
      try dsimp only
      have tail : ∀ d : Bool, d = (decide (r = o) || decide (nS b = 1)) → (sCut (sIfS (sAnd (sTst (sOp (oEq K) (sOp (oIx K) (sVar 3) (sC (.int 2))) (sC (.str ("s" : Str))))) (sAnd (sTst (sOp (oEq K) (sOp (oIx K) (sVar 4) (sC (.int 2))) (sC (.str ("s" : Str))))) (sTst (sOp (oEq K) (sOp (oIx K) (sVar 3) (sC (.int 0))) (sOp (oIx K) (sVar 4) (sC (.int 0))))))) (sSet (sC (.bl true)) 5) (sNext)) (sSeq (sSet (sCallD (q_same_rule K a) [] (sCons (sVar 0) (sCons (sVar 3) (sCons (sVar 4) (sNil))))) 6) (sIfS (sOr (sNot (sTru K (sIsi K .bool (sVar 6)))) (sTst (sOp (oNe K) (sVar 6) (sVar 5)))) (sRet (sC (.bl false))) (sNext)))) { nx := fun σ' => Wk fun S => ∃ (x4 x5 x6 : Option V), σ' = [some tv, some (.int (nS b : Nat)), some (.ref p), some (.str (rlS r)), x4, x5, x6] ∧ S = ⟨H, []⟩, rt := (endsC (ct_l_same_right K a) (tv, b, .ref p) H).rt, bk := fun σ' => Wk fun S => ∃ (x3 x4 x5 x6 : Option V), σ' = [some tv, some (.int (nS b : Nat)), some (.ref p), x3, x4, x5, x6] ∧ S = ⟨H, []⟩, ct := fun σ' => Wk fun S => ∃ (x4 x5 x6 : Option V), σ' = [some tv, some (.int (nS b : Nat)), some (.ref p), some (.str (rlS r)), x4, x5, x6] ∧ S = ⟨H, []⟩, ex := (endsC (ct_l_same_right K a) (tv, b, .ref p) H).ex } [some tv, some (.int (nS b : Nat)), some (.ref p), some (.str (rlS r)), some (.str (rlS o)), some (.bl d), x6] ⟨H, []⟩ := fun d hd => by
        refine cut_go (fun σ S => σ = [some tv, some (.int (nS b : Nat)), some (.ref p), some (.str (rlS r)), some (.str (rlS o)), some (.bl (smB b r o)), x6] ∧ S = ⟨H, []⟩) ?_ ?_
        · unfold smB
          rw [← hd]
          refine ifT_go (and_go (tst_go (op_go (op_go (var_go (v := .str (rlS r)) (by rfl) (c_go (ix_r2 (c_go (eq_s (dec_s r.2.2) ?_)))))))))
          cases r.2.2 with
          | true => exact nx_go ⟨_, SLe.refl _, by cases d <;> rfl, rfl⟩
          | false =>
            try dsimp only
            refine and_go (tst_go (op_go (op_go (var_go (v := .str (rlS o)) (by rfl) (c_go (ix_r2 (c_go (eq_s (dec_s o.2.2) ?_))))))))
            cases o.2.2 with
            | true => exact nx_go ⟨_, SLe.refl _, by cases d <;> rfl, rfl⟩
            | false =>
              try dsimp only
              refine tst_go (op_go (op_go (var_go (v := .str (rlS r)) (by rfl) (c_go (ix_r0 (op_go (var_go (v := .str (rlS o)) (by rfl) (c_go (ix_r0 (eq_s (dec_tt r.1 o.1) ?_))))))))))
              cases (r.1 == o.1) with
              | true => exact set_go (c_go ⟨_, SLe.refl _, by cases d <;> rfl, rfl⟩)
              | false => exact nx_go ⟨_, SLe.refl _, by cases d <;> rfl, rfl⟩
        · rintro σ S ⟨rfl, rfl⟩
          refine seq_go (set_go (calld_go (cons_go (var_go (v := tv) (by rfl) (cons_go (var_go (v := .str (rlS r)) (by rfl) (cons_go (var_go (v := .str (rlS o)) (by rfl) (nil_go ?_)))))))))
          refine use_same tv b r o (by rfl) hT ?_
          try dsimp only
          refine ifT_go (or_go (not_go (tru_go (var_go (v := .bl (smB b r o)) (by rfl) ?_))))
          try dsimp only
          refine otb_go ?_
          try dsimp only
          refine tst_go (op_go (var_go (v := .bl (smB b r o)) (by rfl) (var_go (v := .bl (smB b r o)) (by rfl) (ne_b (c := false) (decide_eq_true rfl) ?_))))
          exact nx_go ⟨_, SLe.refl _, _, _, _, rfl, rfl⟩
      refine seq_go (set_go (orV_go (op_go (var_go (v := .str (rlS r)) (by rfl) (var_go (v := .str (rlS o)) (by rfl) (eq_s (rl_dec r o) ?_))))))
      cases h1 : decide (r = o) with
      | true =>
        rw [h1] at tail
        exact tail true rfl
      | false =>
        rw [h1] at tail
        refine op_go (var_go (v := .int (nS b : Nat)) (by rfl) (c_go (eq_i (c := decide (nS b = 1)) (decide_eq_decide.mpr (by omega)) ?_)))
        exact tail _ (by rw [Bool.false_or])
    · rintro σ S ⟨x4, x5, x6, rfl, rfl⟩
      exact ⟨_, SLe.refl _, _, _, _, _, rfl, rfl⟩
  · rintro σ S ⟨x3, x4, x5, x6, rfl, rfl⟩
    try dsimp only
    exact ret_go (c_go fun H' o' => ⟨rfl, ext0 o'⟩)
end
section
variable {K : PySem.W.Frag} {a : Ads}
open TR
def pfD (q : Pf) : PyData := .tuple [.str (pS q.1), .str (pS q.2)]
def keyF (q : Pf) : List Key := [.inr (pS q.1), .inr (pS q.2)]
def seenD (met : List Pf) : List (List Key × V) := met.map fun q => (keyF q, .bl true)
theorem keyF_inj {p q : Pf} (h : keyF p = keyF q) : p = q := by
  have h1 := List.head_eq_of_cons_eq h
  have h2 := List.head_eq_of_cons_eq (List.tail_eq_of_cons_eq h)
  exact Prod.ext (pS_inj (Sum.inr.inj h1)) (pS_inj (Sum.inr.inj h2))
theorem seen_val (q : Pf) : ∀ met : List Pf, (valV (seenD met) (keyF q)).isSome = met.contains q
  | [] => rfl
  | p :: met => by
    rw [List.contains_cons]
    by_cases e : p = q
    · subst e
      show (valV ((keyF p, V.bl true) :: seenD met) (keyF p)).isSome = _
      rw [valV_pos rfl, beq_self_eq_true]
      rfl
    · show (valV ((keyF p, V.bl true) :: seenD met) (keyF q)).isSome = _
      rw [valV_neg (fun z => e (keyF_inj z)), seen_val q met, beq_eq_false_iff_ne.mpr (fun z => e z.symm), Bool.false_or]
theorem seen_put {q : Pf} {met : List Pf} (h : met.contains q = false) : putK (seenD met) (keyF q) (.bl true) = seenD (met ++ [q]) := by
  have hn : valV (seenD met) (keyF q) = none := by
    have := seen_val q met
    rw [h] at this
    cases e : valV (seenD met) (keyF q) with
    | none => rfl
    | some x =>
      rw [e] at this
      cases this
  rw [putK_new _ hn]
  unfold seenD
  rw [List.map_append]
  rfl
def stD2 (q : Bool × Nat) : PyData := .tuple [.int (if q.1 then 1 else 0), .int (q.2 : Nat)]
theorem stp_open {F : Hp} {G : List (Addr × HO)} {v : V} {q : Bool × Nat} (h : MD K F G v (stD2 q)) : ∃ p, v = .ref p ∧ mT K F G p [.int (if q.1 then 1 else 0), .int (q.2 : Nat)] := by
  obtain ⟨p, xs, rfl, hp, hx⟩ := h.tupI
  cases hx with
  | cons h1 hx =>
    cases hx with
    | cons h2 hx =>
      cases hx
      rw [h1.intI, h2.intI] at hp
      exact ⟨p, rfl, hp⟩
theorem pf_open {F : Hp} {G : List (Addr × HO)} {v : V} {q : Pf} (h : MD K F G v (pfD q)) : ∃ p, v = .ref p ∧ mT K F G p [.str (pS q.1), .str (pS q.2)] := by
  obtain ⟨p, xs, rfl, hp, hx⟩ := h.tupI
  cases hx with
  | cons h1 hx =>
    cases hx with
    | cons h2 hx =>
      cases hx
      rw [h1.strI, h2.strI] at hp
      exact ⟨p, rfl, hp⟩
theorem addS_len (b : TR) (r o : Rl) (p : Pf) (met : List Pf) (q : Bool × Nat) : (addS b r o p met q).length ≤ met.length + 1 := by
  unfold addS
  split
  · omega
  · rw [List.length_append, List.length_singleton]
    omega
theorem addS_ok {b : TR} {r o : Rl} {p : Pf} {met : List Pf} {q : Bool × Nat} {n : Nat} (h : ∀ x ∈ met, x.1.length + 1 = n ∧ x.2.length + 1 = n) (hp : p.1.length + 1 = n ∧ p.2.length + 1 = n) : ∀ x ∈ addS b r o p met q, x.1.length + 1 = n ∧ x.2.length + 1 = n := fun x hx => by
  unfold addS at hx
  split at hx
  · exact h x hx
  · rcases List.mem_append.mp hx with hx | hx
    · exact h x hx
    · rw [List.mem_singleton.mp hx]
      exact ⟨by rw [trnL_len]; exact hp.1, by rw [trnL_len]; exact hp.2⟩
theorem stp_len (n g : Nat) : (stpS n g).length = n + 1 := by
  unfold stpS
  rw [List.length_append, List.length_map, List.length_range]
  rfl
theorem stp_small {n g : Nat} (h : g < n) : ∀ q ∈ stpS n g, q.2 < n := fun q hq => by
  rcases List.mem_append.mp hq with hq | hq
  · obtain ⟨x, hx, rfl⟩ := List.mem_map.mp hq
    exact List.mem_range.mp hx
  · rw [List.mem_singleton.mp hq]
    exact h
abbrev rG (z : Addr × HO) (p5 p6 : Addr) (xs : List V) (met : List Pf) : List (Addr × HO) := (p6, .dT (seenD met)) :: (p5, .lst xs) :: z :: []
theorem sub_c2 {z x y : Addr × HO} (E : List (Addr × HO)) : (z :: E) ⊆ (z :: x :: y :: E) := fun q hq => by
  cases hq with
  | head => exact .head _
  | tail _ hq => exact .tail _ (.tail _ (.tail _ hq))
theorem sub_c4 {z x y u v : Addr × HO} (E : List (Addr × HO)) : (z :: E) ⊆ (z :: u :: v :: x :: y :: E) := fun q hq => by
  cases hq with
  | head => exact .head _
  | tail _ hq => exact .tail _ (.tail _ (.tail _ (.tail _ (.tail _ hq))))
def r_rea3 (K : PySem.W.Frag) : sS := sIfS (sDInP true (sTup (sCons (sOp (oIx K) (sVar 14) (sC (.int 0))) (sCons (sOp (oIx K) (sVar 14) (sC (.int 1))) (sNil)))) (sVar 6)) (sSeq (sDPutT (sVar 6) (sTup (sCons (sOp (oIx K) (sVar 14) (sC (.int 0))) (sCons (sOp (oIx K) (sVar 14) (sC (.int 1))) (sNil)))) (sC (.bl true))) (sDrop (sMt K "list" mAppend (sVar 5) (sCons (sTup (sCons (sOp (oIx K) (sVar 14) (sC (.int 0))) (sCons (sOp (oIx K) (sVar 14) (sC (.int 1))) (sNil)))) (sNil))))) (sNext)
theorem rea3 {z : Addr × HO} {D : sEnds} {H : Hp} {σ : L2.St} {E : List (Addr × HO)} {p5 p6 p14 : Addr} {xs : List V} {met : List Pf} {q : Pf} (e5 : σ[5]? = some (some (.ref p5))) (e6 : σ[6]? = some (some (.ref p6))) (e14 : σ[14]? = some (some (.ref p14))) (hl : met.length ≤ 1000) (hx : MDs K H (z :: E) xs (met.map pfD))
    (k : ∀ (E' : List (Addr × HO)) (xs : List V) (met' : List Pf), E ⊆ E' → met' = (if met.contains q then met else met ++ [q]) → MDs K H (z :: E') xs (met'.map pfD) → D.nx σ ⟨H, E' ++ rG z p5 p6 xs met'⟩) :
    r_rea3 K D σ ⟨H, ((p14, .lst [.str (pS q.1), .str (pS q.2)]) :: E) ++ rG z p5 p6 xs met⟩ := by
  have lx : xs.length = met.length := by rw [hx.len, List.length_map]
  have get : ∀ (E1 : List (Addr × HO)) (W : sWX) (Q : List V → SH → Prop), (p14, HO.lst [.str (pS q.1), .str (pS q.2)]) ∈ E1 → Q [.str (pS q.1), .str (pS q.2)] ⟨H, E1⟩ → sCons (sOp (oIx K) (sVar 14) (sC (.int 0))) (sCons (sOp (oIx K) (sVar 14) (sC (.int 1))) (sNil)) W σ ⟨H, E1⟩ Q := fun E1 W Q m h =>
    cons_go (op_go (var_go e14 (c_go ⟨_, .str (pS q.1), .inl (sL_mem m), atI_at (i := 0) rfl, cons_go (op_go (var_go e14 (c_go ⟨_, .str (pS q.2), .inl (sL_mem m), atI_at (i := 1) rfl, nil_go h⟩)))⟩)))
  refine ifT_go (tup_go (get _ _ _ (.head _) ⟨show 2 ≤ sizeLine by decide, fun pk => var_go e6 ?_⟩))
  try dsimp only
  refine ⟨seenD met, keyF q, at_mem (.tail _ (.tail _ (List.mem_append_right _ (.head _)))), .inl ⟨0, rfl⟩, ?_⟩
  rw [if_pos rfl, seen_val]
  cases hc : met.contains q with
  | true =>
    refine nx_go (k ((pk, .tup [.str (pS q.1), .str (pS q.2)]) :: (p14, .lst [.str (pS q.1), .str (pS q.2)]) :: E) xs met (fun _ y => .tail _ (.tail _ y)) ?_ (hx.sub (sub_c2 _)))
    rw [hc, if_pos rfl]
  | false =>
    try dsimp only
    refine seq_go (c_go (var_go e6 (tup_go (get _ _ _ (.tail _ (.head _)) ⟨show 2 ≤ sizeLine by decide, fun pk2 => ?_⟩))))
    try dsimp only
    refine ⟨E.length + 3, seenD met, keyF q, ?_, .inl ⟨0, rfl⟩, ?_, ?_⟩
    · show (((pk2, HO.tup [.str (pS q.1), .str (pS q.2)]) :: (pk, .tup [.str (pS q.1), .str (pS q.2)]) :: (p14, .lst [.str (pS q.1), .str (pS q.2)]) :: (E ++ rG z p5 p6 xs met)))[E.length + 3]? = _
      rw [List.getElem?_cons_succ, List.getElem?_cons_succ, List.getElem?_cons_succ, List.getElem?_append_right (by omega), Nat.sub_self]
      rfl
    · unfold seenD
      rw [List.length_map]
      exact small_of hl (by decide)
    rw [seen_put hc]
    have eG : ((((pk2, HO.tup [.str (pS q.1), .str (pS q.2)]) :: (pk, .tup [.str (pS q.1), .str (pS q.2)]) :: (((p14, .lst [.str (pS q.1), .str (pS q.2)]) :: E) ++ rG z p5 p6 xs met)).set (E.length + 3) (p6, .dT (seenD (met ++ [q]))))) = ((pk2, HO.tup [.str (pS q.1), .str (pS q.2)]) :: (pk, .tup [.str (pS q.1), .str (pS q.2)]) :: (p14, .lst [.str (pS q.1), .str (pS q.2)]) :: E) ++ rG z p5 p6 xs (met ++ [q]) := by
      show (_ :: _ :: _ :: (E ++ rG z p5 p6 xs met)).set (E.length + 3) _ = _ :: _ :: _ :: (E ++ rG z p5 p6 xs (met ++ [q]))
      rw [List.set_cons_succ, List.set_cons_succ, List.set_cons_succ, List.set_append_right _ _ (by omega), Nat.sub_self]
      rfl
    show sDrop _ _ _ (SH.mk H ((((pk2, HO.tup [.str (pS q.1), .str (pS q.2)]) :: (pk, .tup [.str (pS q.1), .str (pS q.2)]) :: (((p14, .lst [.str (pS q.1), .str (pS q.2)]) :: E) ++ rG z p5 p6 xs met)).set (E.length + 3) (p6, .dT (seenD (met ++ [q]))))))
    rw [eG]
    refine drop_go (mt_go (var_go e5 ⟨.inl ⟨rfl, xs, sL_mem (List.mem_append_right _ (.tail _ (.head _)))⟩, cons_go (tup_go (get _ _ _ (.tail _ (.tail _ (.head _))) ⟨show 2 ≤ sizeLine by decide, fun pt => nil_go ?_⟩))⟩))
    refine app_eq (F := H) (acc := xs) (E := ((pt, .tup [.str (pS q.1), .str (pS q.2)]) :: (pk2, .tup [.str (pS q.1), .str (pS q.2)]) :: (pk, .tup [.str (pS q.1), .str (pS q.2)]) :: (p14, .lst [.str (pS q.1), .str (pS q.2)]) :: E) ++ [(p6, .dT (seenD (met ++ [q])))]) (G := z :: []) (by show SH.mk H _ = SH.mk H _; simp [rG]) (by rw [lx]; exact small_of hl (by decide)) ?_
    rw [show (((pt, HO.tup [.str (pS q.1), .str (pS q.2)]) :: (pk2, .tup [.str (pS q.1), .str (pS q.2)]) :: (pk, .tup [.str (pS q.1), .str (pS q.2)]) :: (p14, .lst [.str (pS q.1), .str (pS q.2)]) :: E) ++ [(p6, .dT (seenD (met ++ [q])))]) ++ (p5, .lst (xs ++ [.ref pt])) :: z :: [] = ((pt, HO.tup [.str (pS q.1), .str (pS q.2)]) :: (pk2, .tup [.str (pS q.1), .str (pS q.2)]) :: (pk, .tup [.str (pS q.1), .str (pS q.2)]) :: (p14, .lst [.str (pS q.1), .str (pS q.2)]) :: E) ++ rG z p5 p6 (xs ++ [.ref pt]) (met ++ [q]) by simp [rG]]
    refine k _ (xs ++ [.ref pt]) (met ++ [q]) (fun _ y => .tail _ (.tail _ (.tail _ (.tail _ y)))) ?_ ?_
    · rw [hc, if_neg Bool.false_ne_true]
    · rw [List.map_append]
      exact (hx.sub (sub_c4 _)).snoc (.tup (.inl (.tail _ (.head _))) (.cons (.str _) (.cons (.str _) .nil)))
def r_rea2 (K : PySem.W.Frag) (a : Ads) : sS := sSeq (sSet (sLst (sCons (sVar 8) (sCons (sVar 9) (sNil)))) 14) (sCut (sIfS (sTst (sOp (oEq K) (sOp (oIx K) (sVar 3) (sVar 12)) (sC (.str ("t" : Str))))) (sAsg (sCallD (q_l_after K a) [] (sCons (sVar 0) (sCons (sVar 1) (sCons (sVar 8) (sCons (sVar 13) (sNil)))))) (sgSub (sVar 14) (sC (.int 0)))) (sNext)) (sCut (sIfS (sTst (sOp (oEq K) (sOp (oIx K) (sVar 4) (sVar 12)) (sC (.str ("t" : Str))))) (sAsg (sCallD (q_l_after K a) [] (sCons (sVar 0) (sCons (sVar 1) (sCons (sVar 9) (sCons (sVar 13) (sNil)))))) (sgSub (sVar 14) (sC (.int 1)))) (sNext)) (r_rea3 K)))
abbrev rst (d p5 p6 : Addr) (b : TR) (st : List Nat) (r o : Rl) (x7 : V) (h t : List Nat) (g : Nat) (p11 : Addr) (x12 x13 x14 : Option V) : L2.St :=
  [some (.ref d), some (.int (nS b : Nat)), some (.str (pS st)), some (.str (rlS r)), some (.str (rlS o)), some (.ref p5), some (.ref p6), some x7, some (.str (pS h)), some (.str (pS t)), some (.int (g : Nat)), some (.ref p11), x12, x13, x14]
theorem rea2 {z : Addr × HO} {D : sEnds} {H : Hp} {d p5 p6 p11 : Addr} {b : TR} {st : List Nat} {r o : Rl} {x7 : V} {g : Nat} {x14 : Option V} {E : List (Addr × HO)} {xs : List V} {met : List Pf} {p : Pf} {kd : Bool} {s : Nat} (hT : topsR H (.ref d) b) (hsm : nS b ≤ 64) (hp : p.1.length + 1 = nS b ∧ p.2.length + 1 = nS b) (hs : s < nS b) (hl : met.length ≤ 1000) (hx : MDs K H (z :: E) xs (met.map pfD))
    (k : ∀ (E' : List (Addr × HO)) (xs : List V) (x14 : Option V), E ⊆ E' → MDs K H (z :: E') xs ((addS b r o p met (kd, s)).map pfD) → D.nx (rst d p5 p6 b st r o x7 p.1 p.2 g p11 (some (.int (if kd then 1 else 0))) (some (.int (s : Nat))) x14) ⟨H, E' ++ rG z p5 p6 xs (addS b r o p met (kd, s))⟩) :
    r_rea2 K a D (rst d p5 p6 b st r o x7 p.1 p.2 g p11 (some (.int (if kd then 1 else 0))) (some (.int (s : Nat))) x14) ⟨H, E ++ rG z p5 p6 xs met⟩ := by
  refine seq_go (set_go (lst_go (cons_go (var_go (v := .str (pS p.1)) (by rfl) (cons_go (var_go (v := .str (pS p.2)) (by rfl) (nil_go ⟨show 2 ≤ sizeLine by decide, fun p14 => ?_⟩)))))))
  try dsimp only
  refine cut_go (fun σ S => σ = rst d p5 p6 b st r o x7 p.1 p.2 g p11 (some (.int (if kd then 1 else 0))) (some (.int (s : Nat))) (some (.ref p14)) ∧ S = ⟨H, ((p14, .lst [.str (pS (trnL b r kd p.1 s)), .str (pS p.2)]) :: E) ++ rG z p5 p6 xs met⟩) ?_ ?_
  · refine ifT_go (tst_go (op_go (op_go (var_go (v := .str (rlS r)) (by rfl) (var_go (v := .int (if kd then 1 else 0)) (by rfl) (ix_rk (c_go (eq_s (dec_t _) ?_))))))))
    unfold trnL trnW
    cases turnR r kd with
    | false => exact nx_go ⟨_, SLe.refl _, rfl, rfl⟩
    | true =>
      refine asg_go (calld_go (cons_go (var_go (v := .ref d) (by rfl) (cons_go (var_go (v := .int (nS b : Nat)) (by rfl) (cons_go (var_go (v := .str (pS p.1)) (by rfl) (cons_go (var_go (v := .int (s : Nat)) (by rfl) (nil_go ?_))))))))))
      refine use_aft (.ref d) b p.1 s (by rfl) hT hp.1 hsm hs ?_
      try dsimp only
      refine var_go (v := .ref p14) (by rfl) (c_go ⟨0, _, 0, rfl, rfl, ?_⟩)
      exact ⟨_, SLe.refl _, rfl, rfl⟩
  rintro σ S ⟨rfl, rfl⟩
  refine cut_go (fun σ S => σ = rst d p5 p6 b st r o x7 p.1 p.2 g p11 (some (.int (if kd then 1 else 0))) (some (.int (s : Nat))) (some (.ref p14)) ∧ S = ⟨H, ((p14, .lst [.str (pS (trnL b r kd p.1 s)), .str (pS (trnL b o kd p.2 s))]) :: E) ++ rG z p5 p6 xs met⟩) ?_ ?_
  · refine ifT_go (tst_go (op_go (op_go (var_go (v := .str (rlS o)) (by rfl) (var_go (v := .int (if kd then 1 else 0)) (by rfl) (ix_rk (c_go (eq_s (dec_t _) ?_))))))))
    generalize trnL b r kd p.1 s = h1
    unfold trnL trnW
    cases turnR o kd with
    | false => exact nx_go ⟨_, SLe.refl _, rfl, rfl⟩
    | true =>
      refine asg_go (calld_go (cons_go (var_go (v := .ref d) (by rfl) (cons_go (var_go (v := .int (nS b : Nat)) (by rfl) (cons_go (var_go (v := .str (pS p.2)) (by rfl) (cons_go (var_go (v := .int (s : Nat)) (by rfl) (nil_go ?_))))))))))
      refine use_aft (.ref d) b p.2 s (by rfl) hT hp.2 hsm hs ?_
      try dsimp only
      refine var_go (v := .ref p14) (by rfl) (c_go ⟨0, _, 1, rfl, rfl, ?_⟩)
      exact ⟨_, SLe.refl _, rfl, rfl⟩
  rintro σ S ⟨rfl, rfl⟩
  refine rea3 (q := (trnL b r kd p.1 s, trnL b o kd p.2 s)) (by rfl) (by rfl) (by rfl) hl hx fun E xs met' es em hx' => ?_
  have em : met' = addS b r o p met (kd, s) := em
  subst em
  exact k E xs _ es hx'
theorem foldS_len (b : TR) (r o : Rl) (p : Pf) : ∀ (met : List Pf) (l : List (Bool × Nat)) (j : Nat), ((l.take j).foldl (addS b r o p) met).length ≤ met.length + j
  | met, [], j => by
    rw [List.take_nil]
    show met.length ≤ _
    omega
  | met, q :: l, 0 => Nat.le_refl _
  | met, q :: l, j + 1 => by
    show ((l.take j).foldl (addS b r o p) (addS b r o p met q)).length ≤ _
    have h1 := foldS_len b r o p (addS b r o p met q) l j
    have h2 := addS_len b r o p met q
    omega
theorem foldS_ok {b : TR} {r o : Rl} {p : Pf} {n : Nat} (hp : p.1.length + 1 = n ∧ p.2.length + 1 = n) : ∀ (l : List (Bool × Nat)) (met : List Pf), (∀ x ∈ met, x.1.length + 1 = n ∧ x.2.length + 1 = n) → ∀ x ∈ l.foldl (addS b r o p) met, x.1.length + 1 = n ∧ x.2.length + 1 = n
  | [], met, h => h
  | q :: l, met, h => foldS_ok hp l _ (addS_ok h hp)
theorem foldS_ge (b : TR) (r o : Rl) (p : Pf) : ∀ (l : List (Bool × Nat)) (met : List Pf), met.length ≤ (l.foldl (addS b r o p) met).length
  | [], _ => Nat.le_refl _
  | q :: l, met => by
    refine Nat.le_trans ?_ (foldS_ge b r o p l (addS b r o p met q))
    unfold addS
    split
    · exact Nat.le_refl _
    · rw [List.length_append]
      omega
theorem stp_get {n g i : Nat} {q : Bool × Nat} (h : (stpS n g)[i]? = some q) : ((stpS n g).take (i + 1)) = (stpS n g).take i ++ [q] := take_more h
theorem rch_step {b : TR} {r o : Rl} {n k : Nat} {met : List Pf} {p : Pf} (h : met[k]? = some p) : rchS b r o (n + 1) k met = if vicN b 0 p.1 r.2.2 = vicN b 0 p.2 o.2.2 then rchS b r o n (k + 1) ((stpS (nS b) (vicN b 0 p.1 r.2.2)).foldl (addS b r o p) met) else false := by
  show (match met[k]? with
    | none => true
    | some p => _) = _
  rw [h]
theorem rch_stop {b : TR} {r o : Rl} {n k : Nat} {met : List Pf} (h : met.length ≤ k) : rchS b r o n k met = true := by
  cases n with
  | zero => rfl
  | succ n =>
    show (match met[k]? with
      | none => true
      | some p => _) = true
    rw [List.getElem?_eq_none h]
theorem vc_l_reached {vs : List V} {H : Hp} (g : V × TR × List Nat × Rl × Rl) (h : (ct_l_reached K).pre g vs H) : ∃ S, Own S H ∧ r_l_reached K a (endsC (ct_l_reached K) g H) (start N_l_reached vs) S := by
  obtain ⟨tv, b, st, r, o⟩ := g
  obtain ⟨e0, hT0, hl0, hs0⟩ := h
  have e0 : vs = [tv, .int (nS b : Nat), .str (pS st), .str (rlS r), .str (rlS o)] := e0
  subst e0
  have hT : topsR H tv b := hT0
  have hl : st.length + 1 = nS b := hl0
  have hs4 : nS b ≤ 4 := hs0
  have hsm : nS b ≤ 64 := by omega
  obtain ⟨d, hd⟩ : ∃ d, tv = .ref d := by
    obtain ⟨d, _, e, _⟩ := hT
    exact ⟨d, e⟩
  subst hd
  clear hT0 hl0 hs0
  refine ⟨⟨H, []⟩, Own.base H, ?_⟩
  have fin : ∀ (v : Bool) (E : List (Addr × HO)), v = rchS b r o 64 0 [(st, st)] → ∀ H', Own ⟨H, E⟩ H' → (ct_l_reached K).post (.ref d, b, st, r, o) H (.bl v) H' := fun v E e H' o => ⟨by rw [e], fun c u z => o.fr c u z⟩
  refine seq_go (set_go (lst_go (cons_go (tup_go (cons_go (var_go (v := .str (pS st)) (by rfl) (cons_go (var_go (v := .str (pS st)) (by rfl) (nil_go ⟨show 2 ≤ sizeLine by decide, fun t0 => nil_go ⟨show 1 ≤ sizeLine by decide, fun p5 => ?_⟩⟩)))))))))
  try dsimp only
  refine seq_go (set_go fun p6 => ?_)
  refine tup_go (cons_go (var_go (v := .str (pS st)) (by rfl) (cons_go (var_go (v := .str (pS st)) (by rfl) (nil_go ⟨show 2 ≤ sizeLine by decide, fun tk => c_go ?_⟩)))))
  try dsimp only
  refine ⟨1, keyF (st, st), rfl, .inl ⟨0, rfl⟩, ?_⟩
  show sCut _ _ _ _ ⟨H, [(tk, .tup [.str (pS st), .str (pS st)])] ++ rG (t0, HO.tup [V.str (pS st), V.str (pS st)]) p5 p6 [.ref t0] [(st, st)]⟩
  generalize hz0 : (t0, HO.tup [V.str (pS st), V.str (pS st)]) = z
  refine cut_go (fun σ S => rchS b r o 64 0 [(st, st)] = true ∧ S.F = H) ?_ ?_
  · refine ⟨by unfold rngOk; decide, ?_⟩
    refine ⟨fun k σ S => ∃ (met : List Pf) (xs : List V) (E : List (Addr × HO)) (x7 x8 x9 x10 x11 x12 x13 x14 : Option V), k ≤ met.length ∧ met.length ≤ 1 + 5 * k ∧ (∀ q ∈ met, q.1.length + 1 = nS b ∧ q.2.length + 1 = nS b) ∧ MDs K H (z :: E) xs (met.map pfD) ∧ rchS b r o (64 - k) k met = rchS b r o 64 0 [(st, st)] ∧ σ = [some (.ref d), some (.int (nS b : Nat)), some (.str (pS st)), some (.str (rlS r)), some (.str (rlS o)), some (.ref p5), some (.ref p6), x7, x8, x9, x10, x11, x12, x13, x14] ∧ S = ⟨H, E ++ rG z p5 p6 xs met⟩,
      ?_, fun _ _ _ _ _ => trivial, ?_, ?_⟩
    · refine ⟨[(st, st)], [.ref t0], _, none, none, none, none, none, none, none, none, Nat.zero_le _, Nat.le_refl 1, ?_, .cons (.tup (.inl (by rw [← hz0]; exact .head _)) (.cons (.str _) (.cons (.str _) .nil))) .nil, rfl, rfl, rfl⟩
      intro q hq
      rw [List.mem_singleton.mp hq]
      exact ⟨hl, hl⟩
    · rintro k σ S hk ⟨met, xs, E, x7, x8, x9, x10, x11, x12, x13, x14, h1, h2, hok, hx, hr, rfl, rfl⟩
      have hk : k < 64 := hk
      have lx : xs.length = met.length := by rw [hx.len, List.length_map]
      refine yldR_go (nm_go ?_)
      try dsimp only
      rw [show (0 : Int) + (k : Nat) = ((k : Nat) : Int) by omega]
      refine seq_go (ifT_go (tst_go (op_go (var_go (v := .int (k : Nat)) (by rfl) (call1_go (cons_go (var_go (v := .ref p5) (by rfl) (nil_go ⟨xs, .inl (sL_mem (List.mem_append_right _ (.tail _ (.head _)))), eq_i (c := decide (k = met.length)) (decide_eq_decide.mpr (by rw [lx]; omega)) ?_⟩))))))))
      cases hq : decide (k = met.length) with
      | true =>
        refine ⟨_, SLe.refl _, ?_, rfl⟩
        rw [← hr]
        exact rch_stop (by have := of_decide_eq_true hq; omega)
      | false =>
        have hq := of_decide_eq_false hq
        obtain ⟨p, hp⟩ : ∃ p, met[k]? = some p := ⟨_, List.getElem?_eq_getElem (by omega)⟩
        have hp1 := hok p (List.mem_of_getElem? hp)
        obtain ⟨v, hv, mv⟩ := hx.get (i := k) (d := pfD p) (by rw [List.getElem?_map, hp]; rfl)
        obtain ⟨pq, rfl, hpq⟩ := pf_open mv
        have hpq : sU K ⟨H, E ++ rG z p5 p6 xs met⟩ pq [.str (pS p.1), .str (pS p.2)] := hpq.s fun q hq => by
          cases hq with
          | head => exact List.mem_append_right _ (.tail _ (.tail _ (.head _)))
          | tail _ hq => exact List.mem_append_left _ hq
        have hxm : sL K ⟨H, E ++ rG z p5 p6 xs met⟩ p5 xs := sL_mem (List.mem_append_right _ (.tail _ (.head _)))
        refine nx_go ?_
        try dsimp only
        refine seq_go (set_go (op_go (op_go (var_go (v := .ref p5) (by rfl) (var_go (v := .int (k : Nat)) (by rfl) ⟨xs, .ref pq, .inl hxm, atI_at hv, c_go ⟨_, .str (pS p.1), .inr hpq, atI_at (i := 0) rfl, ?_⟩⟩)))))
        try dsimp only
        refine seq_go (set_go (op_go (op_go (var_go (v := .ref p5) (by rfl) (var_go (v := .int (k : Nat)) (by rfl) ⟨xs, .ref pq, .inl hxm, atI_at hv, c_go ⟨_, .str (pS p.2), .inr hpq, atI_at (i := 1) rfl, ?_⟩⟩)))))
        try dsimp only
        refine seq_go (set_go (calld_go (cons_go (var_go (v := .ref d) (by rfl) (cons_go (var_go (v := .int (nS b : Nat)) (by rfl) (cons_go (var_go (v := .str (pS p.1)) (by rfl) (cons_go (op_go (var_go (v := .str (rlS r)) (by rfl) (c_go (ix_r2 (nil_go ?_))))))))))))))
        refine use_vic (.ref d) b p.1 r.2.2 (by rw [ltt_as]; rfl) hT hp1.1 hsm fun hlt => ?_
        try dsimp only
        refine seq_go (ifT_go (tst_go (op_go (var_go (v := .int (vicN b 0 p.1 r.2.2 : Nat)) (by rfl) (calld_go (cons_go (var_go (v := .ref d) (by rfl) (cons_go (var_go (v := .int (nS b : Nat)) (by rfl) (cons_go (var_go (v := .str (pS p.2)) (by rfl) (cons_go (op_go (var_go (v := .str (rlS o)) (by rfl) (c_go (ix_r2 (nil_go ?_)))))))))))))))))
        refine use_vic (.ref d) b p.2 o.2.2 (by rw [ltt_as]; rfl) hT hp1.2 hsm fun hlt2 => ?_
        refine ne_i (c := !decide (vicN b 0 p.1 r.2.2 = vicN b 0 p.2 o.2.2)) (by rw [Bool.not_not]; exact decide_eq_decide.mpr (by omega)) ?_
        rw [show 64 - k = (64 - (k + 1)) + 1 by omega, rch_step hp] at hr
        cases hq2 : decide (vicN b 0 p.1 r.2.2 = vicN b 0 p.2 o.2.2) with
        | false =>
          rw [if_neg (of_decide_eq_false hq2)] at hr
          exact ret_go (c_go (fin false _ hr))
        | true =>
          rw [if_pos (of_decide_eq_true hq2)] at hr
          generalize vicN b 0 p.1 r.2.2 = g at hr hlt
          refine nx_go ?_
          try dsimp only
          refine seq_go (set_go (op_go ?_))
          refine ⟨by show rngOk (nS b : Nat); unfold rngOk; omega, fun D => ?_⟩
          refine ⟨fun i S => ∃ (E2 : List (Addr × HO)) (ys : List V), MDs K H E2 ys (((List.range i).map fun s => (false, s)).map stD2) ∧ S = ⟨H, E2 ++ (D, .lst ys) :: (E ++ rG z p5 p6 xs met)⟩, ⟨[], [], .nil, rfl⟩, fun _ _ _ _ => trivial, ?_, ?_⟩
          · rintro i S hi ⟨E2, ys, hys, rfl⟩
            have hi : i < nS b := by
              have hi : i < ((nS b : Nat) : Int).toNat := hi
              rw [Int.toNat_natCast] at hi
              exact hi
            have ly : ys.length = i := by rw [hys.len, List.length_map, List.length_map, List.length_range]
            refine yldR_go (nm_go ⟨rfl, yesg_go ?_⟩)
            try dsimp only
            rw [show (0 : Int) + (i : Nat) = ((i : Nat) : Int) by omega]
            refine tup_go (cons_go (c_go (cons_go (var_go (v := .int (i : Nat)) (by rfl) (nil_go ⟨show 2 ≤ sizeLine by decide, fun pt => ?_⟩)))))
            refine lc_put (E := (pt, .tup [.int 0, .int (i : Nat)]) :: E2) (by rw [ly]; exact small_of (show i ≤ 4 by omega) (by decide)) ?_
            refine ⟨(pt, .tup [.int 0, .int (i : Nat)]) :: E2, ys ++ [.ref pt], ?_, rfl⟩
            rw [List.range_succ, List.map_append, List.map_append]
            exact (hys.sub fun _ z => .tail _ z).snoc (.tup (.inl (.head _)) (.cons (.int _) (.cons (.int _) .nil)))
          · rintro S ⟨E2, ys, hys, rfl⟩
            have en : (itR 0 ((nS b : Nat) : Int).toNat).n = nS b := Int.toNat_natCast _
            rw [en] at hys
            have ly : ys.length = nS b := by rw [hys.len, List.length_map, List.length_map, List.length_range]
            refine lst_go (cons_go (tup_go (cons_go (c_go (cons_go (var_go (v := .int (g : Nat)) (by rfl) (nil_go ⟨show 2 ≤ sizeLine by decide, fun pt => nil_go ⟨show 1 ≤ sizeLine by decide, fun pu => ?_⟩⟩)))))))
            refine ⟨ys, [.ref pt], at_mem (.tail _ (.tail _ (List.mem_append_right _ (.head _)))), at_mem (.head _), Nat.le_trans (show ys.length + 1 ≤ 100 by omega) (by decide), fun p11 => ?_⟩
            try dsimp only
            have hst : MDs K H ((pt, .tup [.int 1, .int (g : Nat)]) :: E2) (ys ++ [.ref pt]) ((stpS (nS b) g).map stD2) := by
              unfold stpS
              rw [List.map_append]
              exact (hys.sub fun _ z => .tail _ z).snoc (.tup (.inl (.head _)) (.cons (.int _) (.cons (.int _) .nil)))
            generalize ys ++ [.ref pt] = zs at hst
            have lz : zs.length = nS b + 1 := by rw [hst.len, List.length_map, stp_len]
            have sub : ∀ q, q ∈ (pt, HO.tup [.int 1, .int (g : Nat)]) :: E2 → q ∈ ((p11, .lst zs) :: (pu, .lst [.ref pt]) :: (pt, .tup [.int 1, .int (g : Nat)]) :: (E2 ++ (D, .lst ys) :: E)) := fun q hq => by
              cases hq with
              | head => exact .tail _ (.tail _ (.head _))
              | tail _ hq => exact .tail _ (.tail _ (.tail _ (List.mem_append_left _ hq)))
            have hzE : (z :: E) ⊆ z :: ((p11, .lst zs) :: (pu, .lst [.ref pt]) :: (pt, .tup [.int 1, .int (g : Nat)]) :: (E2 ++ (D, .lst ys) :: E)) := fun q hq => by
              cases hq with
              | head => exact .head _
              | tail _ hq => exact .tail _ (.tail _ (.tail _ (.tail _ (List.mem_append_right _ (.tail _ hq)))))
            have eS : SH.mk H ((p11, .lst zs) :: (pu, .lst [.ref pt]) :: (pt, .tup [.int 1, .int (g : Nat)]) :: (E2 ++ (D, .lst ys) :: (E ++ rG z p5 p6 xs met))) = ⟨H, ((p11, .lst zs) :: (pu, .lst [.ref pt]) :: (pt, .tup [.int 1, .int (g : Nat)]) :: (E2 ++ (D, .lst ys) :: E)) ++ rG z p5 p6 xs met⟩ := by simp
            show sFor _ _ _ _ _ (SH.mk H ((p11, .lst zs) :: (pu, .lst [.ref pt]) :: (pt, .tup [.int 1, .int (g : Nat)]) :: (E2 ++ (D, .lst ys) :: (E ++ rG z p5 p6 xs met))))
            rw [eS]
            have hx2 := hx.sub hzE
            have m11 : (p11, HO.lst zs) ∈ ((p11, .lst zs) :: (pu, .lst [.ref pt]) :: (pt, .tup [.int 1, .int (g : Nat)]) :: (E2 ++ (D, .lst ys) :: E)) := .head _
            generalize ((p11, HO.lst zs) :: (pu, .lst [.ref pt]) :: (pt, .tup [.int 1, .int (g : Nat)]) :: (E2 ++ (D, .lst ys) :: E)) = E3 at sub hx2 m11
            have hst := hst.sub (G' := E3) fun q hq => sub q hq
            refine seqI_go (var_go (v := .ref p11) (by rfl) ?_)
            refine .inl ⟨zs, sL_mem (List.mem_append_left _ m11), ?_⟩
            refine ⟨fun j σ S => ∃ (xs : List V) (E : List (Addr × HO)) (x12 x13 x14 : Option V), E3 ⊆ E ∧ MDs K H (z :: E) xs ((((stpS (nS b) g).take j).foldl (addS b r o p) met).map pfD) ∧ σ = rst d p5 p6 b st r o (.int (k : Nat)) p.1 p.2 g p11 x12 x13 x14 ∧ S = ⟨H, E ++ rG z p5 p6 xs (((stpS (nS b) g).take j).foldl (addS b r o p) met)⟩, ⟨xs, E3, _, _, _, List.Subset.refl _, hx2, rfl, rfl⟩, ?_, ?_, ?_⟩
            · rintro j σ S _ ⟨xs, E, x12, x13, x14, hsub, hx, rfl, rfl⟩
              exact sL_mem (List.mem_append_left _ (hsub m11))
            · rintro j σ S hj ⟨xs, E, x12, x13, x14, hsub, hx, rfl, rfl⟩ v hv
              have hj : j < zs.length := hj
              obtain ⟨d2, hd2, mv⟩ := hst.at hv
              obtain ⟨q, hq⟩ : ∃ q, (stpS (nS b) g)[j]? = some q := ⟨_, List.getElem?_eq_getElem (by rw [stp_len]; omega)⟩
              rw [List.getElem?_map, hq] at hd2
              cases hd2
              obtain ⟨pt2, rfl, hpt2⟩ := stp_open mv
              have hsq := stp_small hlt q (List.mem_of_getElem? hq)
              have hmo : ((stpS (nS b) g).take (j + 1)).foldl (addS b r o p) met = addS b r o p (((stpS (nS b) g).take j).foldl (addS b r o p) met) q := by
                rw [take_more hq, List.foldl_append]
                rfl
              have hlen : (((stpS (nS b) g).take j).foldl (addS b r o p) met).length ≤ met.length + j := by
                clear hx hmo
                induction j with
                | zero => exact Nat.le_refl _
                | succ j ih =>
                  obtain ⟨q2, hq2⟩ : ∃ q, (stpS (nS b) g)[j]? = some q := ⟨_, List.getElem?_eq_getElem (by rw [stp_len]; omega)⟩
                  rw [take_more hq2, List.foldl_append]
                  have h1 := addS_len b r o p (((stpS (nS b) g).take j).foldl (addS b r o p) met) q2
                  have h2 : (((stpS (nS b) g).take j).foldl (addS b r o p) met).length ≤ met.length + j := by
                    clear ih h1 hq hv
                    exact foldS_len b r o p met _ j
                  show (addS b r o p _ q2).length ≤ _
                  omega
              generalize ((stpS (nS b) g).take j).foldl (addS b r o p) met = mj at hx hmo hlen
              refine ⟨_, hpt2.s (fun y hy => List.mem_append_left _ (hsub hy)), rfl, ?_⟩
              obtain ⟨kd, s⟩ := q
              refine sg2_go ?_
              refine rea2 (z := z) hT hsm hp1 hsq (by omega) hx fun E4 xs4 x14' hs4 hx4 => ?_
              rw [← hmo] at hx4 ⊢
              exact ⟨_, SLe.refl _, xs4, E4, _, _, _, fun y hy => hs4 (hsub hy), hx4, rfl, rfl⟩
            · rintro σ S ⟨xs, E, x12, x13, x14, hsub, hx, rfl, rfl⟩
              have ez : (itL K p11 zs).n = (stpS (nS b) g).length := by rw [stp_len]; exact lz
              rw [ez, List.take_length] at hx
              rw [ez, List.take_length]
              refine ⟨_, SLe.refl _, _, xs, E, _, _, _, _, _, _, _, _, ?_, ?_, ?_, hx, hr, rfl, rfl⟩
              · have := foldS_ge b r o p (stpS (nS b) g) met
                omega
              · have := foldS_len b r o p met (stpS (nS b) g) (stpS (nS b) g).length
                rw [List.take_length, stp_len] at this
                omega
              · exact foldS_ok hp1 _ _ hok
    · rintro σ S ⟨met, xs, E, x7, x8, x9, x10, x11, x12, x13, x14, h1, h2, hok, hx, hr, rfl, rfl⟩
      exact ⟨_, SLe.refl _, hr.symm, rfl⟩
  · rintro σ S ⟨h1, h2⟩
    refine ret_go (c_go ?_)
    obtain ⟨F, G⟩ := S
    have h2 : F = H := h2
    subst h2
    exact fin true G h1.symm
end
section
variable {K : PySem.W.Frag} {a : Ads}
open TR
def Has (E : List (Addr × HO)) (H : Hp) : Prop := ∀ q ∈ E, H q.1 = some q.2
theorem own_has {F : Hp} {E : List (Addr × HO)} {H : Hp} (o : Own ⟨F, E⟩ H) : Has E H := fun q hq => (o.gs q hq).1
theorem new_has {F : Hp} {E : List (Addr × HO)} {H F3 : Hp} (o : Own ⟨F, E⟩ H) (n : NewK F H F3) : Has E F3 := fun q hq => n.1 _ _ (o.gs q hq).2 (o.gs q hq).1
theorem new_of {F : Hp} {E : List (Addr × HO)} {H H' : Hp} (o : Own ⟨F, E⟩ H) (e : Ext H H') (hl : Lists E) : NewK H H' (hid E H') := by
  refine ⟨fun c u h1 h2 => ?_, fun c u h n => ?_⟩
  · show (if c ∈ E.map (·.1) then none else H' c) = some u
    rw [if_neg (fun z => ?_)]
    · exact h2
    · obtain ⟨q, hq, rfl⟩ := List.mem_map.mp z
      rw [(o.gs q hq).1] at h1
      cases h1
  · exact (own_hid o e hl).2.2 c u (e c u h) n
theorem ty_t {H : Hp} {p : Addr} {xs : List V} (h : H p = some (.tup xs)) : Ty0 K H (.ref p) .tuple := .inr (.inl ⟨rfl, xs, .inr (.inl (.inl h))⟩)
theorem ty_l {H : Hp} {p : Addr} {xs : List V} (h : H p = some (.lst xs)) : Ty0 K H (.ref p) .list := .inl ⟨rfl, xs, .inr (.inl (.inl h))⟩
theorem at_all {α : Type} {P : α → Prop} {L : List α} (h : ∀ x ∈ L, P x) {i : Nat} (hi : i < L.length) : ∃ x, L[i]? = some x ∧ P x := ⟨_, List.getElem?_eq_getElem hi, h _ (List.getElem_mem hi)⟩
theorem all_nil {α : Type} {P : α → Prop} : ∀ x ∈ ([] : List α), P x := fun _ z => nomatch z
theorem all_cons {α : Type} {P : α → Prop} {x : α} {L : List α} (h : P x) (t : ∀ x ∈ L, P x) : ∀ y ∈ x :: L, P y := fun y hy => by
  rcases List.mem_cons.mp hy with rfl | hy
  · exact h
  · exact t y hy
theorem all_app {α : Type} {P : α → Prop} {L M : List α} (h : ∀ x ∈ L, P x) (t : ∀ x ∈ M, P x) : ∀ y ∈ L ++ M, P y := fun y hy => (List.mem_append.mp hy).elim (h y) (t y)
/-! ### a bad rule -/
def rlL (r : Rl) : List Nat := [tkN r.1, tkN r.2.1, asN r.2.2]
theorem rl_pS (r : Rl) : rlS r = pS (rlL r) := rfl
def aatL : List Nat := [97, 97, 116]
def menR (r : Rl) (i : Nat) : List (List Nat) := [(rlL r).take i ++ [aatL.getD i 0] ++ (rlL r).drop (i + 1), rlL r ++ [97], (rlL r).take 2, (rlL r).drop 1, [if r.1 then 84 else 75, if r.2.1 then 84 else 75, if r.2.2 then 65 else 83], rlL r ++ [32], [32] ++ rlL r, rlL r ++ [10], []]
theorem menR_bad : ∀ r ∈ rls, ∀ i ∈ [0, 1, 2], ∀ x ∈ menR r i, decide (pS x ∈ rlsS) = false ∧ PyData.strOk (pS x) = true := by decide +kernel
theorem rl_upper : ∀ r ∈ rls, Txt.upper (rlS r) = pS [if r.1 then 84 else 75, if r.2.1 then 84 else 75, if r.2.2 then 65 else 83] := by decide +kernel
theorem ch_ok : ∀ r ∈ rls, ∀ c ∈ rlL r, PyData.strOk (pS [c]) = true := by decide +kernel
theorem dp_cV (H : Hp) : ∀ fl : List Nat, DpAll K H (cV fl) (fl.map fun c => PyData.str (pS [c]))
  | [] => .nil
  | c :: fl => .cons (.str _) (dp_cV H fl)
theorem ch_lay : ∀ {fl : List Nat}, (∀ c ∈ fl, PyData.strOk (pS [c]) = true) → PyData.canLayAll0 (fl.map fun c => PyData.str (pS [c])) = true ∧ PyData.depthAll (fl.map fun c => PyData.str (pS [c])) = 0
  | [], _ => ⟨rfl, rfl⟩
  | c :: fl, h => by
    obtain ⟨h3, h4⟩ := ch_lay fun x hx => h x (.tail _ hx)
    refine ⟨?_, ?_⟩
    · show (PyData.strOk (pS [c]) && PyData.canLayAll0 (fl.map fun c => PyData.str (pS [c]))) = true
      rw [h c (.head _), h3]
      rfl
    · show max (PyData.depth (.str _)) (PyData.depthAll (fl.map fun c => PyData.str (pS [c]))) = 0
      rw [h4]
      rfl
theorem odd_str {H : Hp} {u : Str} (h : PyData.strOk u = true) : OddD K H (.str u) := ⟨.str, .str u, rfl, (fun z => nomatch z), .str u, h, Nat.zero_le _⟩
theorem odd_lst {H : Hp} {p : Addr} {fl : List Nat} (h : H p = some (.lst (cV fl))) (hs : ∀ c ∈ fl, PyData.strOk (pS [c]) = true) : OddD K H (.ref p) := by
  obtain ⟨h1, h2⟩ := ch_lay hs
  refine ⟨.list, .list (fl.map fun c => PyData.str (pS [c])), ty_l h, (fun z => nomatch z), .lst (.inl (.inl h)) (dp_cV H fl), h1, ?_⟩
  show PyData.depthAll _ + 1 ≤ 5
  rw [h2]
  decide
theorem odd_tup {H : Hp} {p : Addr} {fl : List Nat} (h : H p = some (.tup (cV fl))) (hs : ∀ c ∈ fl, PyData.strOk (pS [c]) = true) : OddD K H (.ref p) := by
  obtain ⟨h1, h2⟩ := ch_lay hs
  refine ⟨.tuple, .tuple (fl.map fun c => PyData.str (pS [c])), ty_t h, (fun z => nomatch z), .tup (.inl (.inl h)) (dp_cV H fl), h1, ?_⟩
  show PyData.depthAll _ + 1 ≤ 5
  rw [h2]
  decide
theorem OddD.ext {H H' : Hp} {v : V} (h : OddD K H v) (e : Ext H H') : OddD K H' v := by
  obtain ⟨t, d, h1, h2, h3, h4⟩ := h
  exact ⟨t, d, h1.ex e, h2, dp_ext e d v h3, h4⟩
theorem slS_to {l : List Nat} {te : sE} {i : Nat} {W : sWX} {σ : L2.St} {S : SH} {Q : V → SH → Prop} {tl : sO} (h : l.length ≤ 300) (k : Q (.str (pS (l.take i))) S) : oSl K (.str (pS l)) none (some (i : Int)) S Q := by
  refine ⟨pS_line h, ?_⟩
  rw [cut_to]
  exact k
theorem slS_from {l : List Nat} {i : Nat} {S : SH} {Q : V → SH → Prop} (h : l.length ≤ 300) (k : Q (.str (pS (l.drop i))) S) : oSl K (.str (pS l)) (some (i : Int)) none S Q := by
  refine ⟨pS_line h, ?_⟩
  rw [cut_from]
  exact k
theorem sl_go {te : sE} {tl th : sO} {W : sWX} {σ : L2.St} {S : SH} {Q : V → SH → Prop} (h : te W σ S fun x S1 => tl W σ S1 fun l S2 => th W σ S2 fun u S3 => oSl K x l u S3 Q) : sSl K te tl th W σ S Q := h
theorem nop_go {W : sWX} {σ : L2.St} {S : SH} {Q : Option Int → SH → Prop} (h : Q none S) : sNoP W σ S Q := h
theorem part_go {t : sE} {W : sWX} {σ : L2.St} {S : SH} {Q : Option Int → SH → Prop} (h : t W σ S fun x S1 => match x with
  | .int i => Q (some i) S1
  | _ => False) : sPart t W σ S Q := h
theorem vc_l_bad_rule {vs : List V} {H : Hp} (g : Addr × Sx × Rl) (h : (ct_l_bad_rule K).pre g vs H) : ∃ S, Own S H ∧ r_l_bad_rule K a (endsC (ct_l_bad_rule K) g H) (start N_l_bad_rule vs) S := by
  refine body_lbox g h fun b x r F eg eF hinv hok e => ?_
  subst eg
  have e : vs = [.ref b, .str (rlS r)] := e
  subst e
  have l3 : (rlL r).length = 3 := rfl
  refine seq_go (set_go (calld_go (cons_go (var_go (v := .ref b) (by rfl) (cons_go (c_go (nil_go ?_)))))))
  refine use_take (E := []) 3 (by rfl) (by decide) fun y i hi => ?_
  have hbad := menR_bad r (rls_all r) i (by rcases (show i = 0 ∨ i = 1 ∨ i = 2 by omega) with rfl | rfl | rfl <;> simp)
  try dsimp only
  refine seq_go (set_go (op_go (op_go (sl_go (var_go (v := .str (pS (rlL r))) (by rfl) (nop_go (part_go (var_go (v := .int (i : Nat)) (by rfl) ?_))))))))
  try dsimp only
  refine slS_to (te := sC .non) (W := fun _ _ _ _ => False) (σ := []) (tl := sNoP) (by omega) ?_
  refine op_go (c_go (var_go (v := .int (i : Nat)) (by rfl) ⟨pS_line (l := aatL) (by decide), aatL.getD i 0, ?_, ?_⟩))
  · exact pS_at (st := aatL) (by rcases (show i = 0 ∨ i = 1 ∨ i = 2 by omega) with rfl | rfl | rfl <;> rfl)
  refine add_s (x := (rlL r).take i) (y := [aatL.getD i 0]) (by rw [List.length_take, List.length_singleton]; omega) ?_
  refine sl_go (var_go (v := .str (pS (rlL r))) (by rfl) (part_go (op_go (var_go (v := .int (i : Nat)) (by rfl) (c_go (add_g (nop_go ?_)))))))
  try dsimp only
  rw [show (i : Int) + 1 = ((i + 1 : Nat) : Int) by omega]
  refine slS_from (by omega) ?_
  refine add_s (x := (rlL r).take i ++ [aatL.getD i 0]) (y := (rlL r).drop (i + 1)) (by rw [List.length_append, List.length_take, List.length_singleton, List.length_drop]; omega) ?_
  try dsimp only
  generalize hbt : (rlL r).take i ++ [aatL.getD i 0] ++ (rlL r).drop (i + 1) = bt
  refine seq_go (set_go (lst_go (cons_go (var_go (v := .str (pS bt)) (by rfl) (cons_go (op_go (var_go (v := .str (pS (rlL r))) (by rfl) (c_go (add_s (x := rlL r) (y := [97]) (by rw [l3]; decide) ?_)))))))))
  refine cons_go (sl_go (var_go (v := .str (pS (rlL r))) (by rfl) (nop_go (part_go (c_go ?_)))))
  try dsimp only
  refine slS_to (i := 2) (te := sC .non) (W := fun _ _ _ _ => False) (σ := []) (tl := sNoP) (by omega) ?_
  refine cons_go (sl_go (var_go (v := .str (pS (rlL r))) (by rfl) (part_go (c_go (nop_go ?_)))))
  try dsimp only
  refine slS_from (i := 1) (by omega) ?_
  refine cons_go (mt_go (var_go (v := .str (rlS r)) (by rfl) ⟨rfl, nil_go ⟨by rw [rl_pS, pS_len, l3]; decide, ?_⟩⟩))
  rw [rl_upper r (rls_all r)]
  refine cons_go (op_go (var_go (v := .str (pS (rlL r))) (by rfl) (c_go (add_s (x := rlL r) (y := [32]) (by rw [l3]; decide) ?_))))
  refine cons_go (op_go (c_go (var_go (v := .str (pS (rlL r))) (by rfl) (add_s (x := [32]) (y := rlL r) (by rw [l3]; decide) ?_))))
  refine cons_go (op_go (var_go (v := .str (pS (rlL r))) (by rfl) (c_go (add_s (x := rlL r) (y := [10]) (by rw [l3]; decide) ?_))))
  refine nil_go ⟨show 8 ≤ sizeLine by decide, fun l4 => ?_⟩
  try dsimp only
  refine seq_go (set_go (op_go (var_go (v := .ref l4) (by rfl) (lst_go (cons_go (c_go (cons_go (c_go (cons_go (c_go (cons_go ?_)))))))))))
  refine (show sTuple K _ _ _ _ _ from call1_go (cons_go (var_go (v := .str (rlS r)) (by rfl) (nil_go ⟨show 3 ≤ sizeLine by decide, fun p5 => ?_⟩))))
  try dsimp only
  refine .inl ⟨cV (rlL r), .inl ⟨0, rfl⟩, fun t6 => ?_⟩
  refine cons_go (call1_go (cons_go (var_go (v := .str (rlS r)) (by rfl) (nil_go ⟨show 3 ≤ sizeLine by decide, fun l7 => ?_⟩))))
  refine nil_go ⟨show 5 ≤ sizeLine by decide, fun l8 => ?_⟩
  refine ⟨_, _, .inl ⟨4, rfl⟩, .inl ⟨0, rfl⟩, show 13 ≤ sizeLine by decide, fun l9 => ?_⟩
  try dsimp only
  generalize hE : [(l9, HO.lst ([V.str (pS bt), .str (pS (rlL r ++ [97])), .str (pS ((rlL r).take 2)), .str (pS ((rlL r).drop 1)), .str (pS [if r.1 then 84 else 75, if r.2.1 then 84 else 75, if r.2.2 then 65 else 83]), .str (pS (rlL r ++ [32])), .str (pS ([32] ++ rlL r)), .str (pS (rlL r ++ [10]))] ++ [V.str "", .non, .int 3, .ref t6, .ref l7])), (l8, .lst [.str "", .non, .int 3, .ref t6, .ref l7]), (l7, .lst (cV (rlL r))), (t6, .tup (cV (rlL r))), (p5, .lst (cV (rlL r))), (l4, .lst [.str (pS bt), .str (pS (rlL r ++ [97])), .str (pS ((rlL r).take 2)), .str (pS ((rlL r).drop 1)), .str (pS [if r.1 then 84 else 75, if r.2.1 then 84 else 75, if r.2.2 then 65 else 83]), .str (pS (rlL r ++ [32])), .str (pS ([32] ++ rlL r)), .str (pS (rlL r ++ [10]))])] = E
  show sRet _ _ _ ⟨F, [(l9, HO.lst ([V.str (pS bt), .str (pS (rlL r ++ [97])), .str (pS ((rlL r).take 2)), .str (pS ((rlL r).drop 1)), .str (pS [if r.1 then 84 else 75, if r.2.1 then 84 else 75, if r.2.2 then 65 else 83]), .str (pS (rlL r ++ [32])), .str (pS ([32] ++ rlL r)), .str (pS (rlL r ++ [10]))] ++ [V.str "", .non, .int 3, .ref t6, .ref l7])), (l8, .lst [.str "", .non, .int 3, .ref t6, .ref l7]), (l7, .lst (cV (rlL r))), (t6, .tup (cV (rlL r))), (p5, .lst (cV (rlL r))), (l4, .lst [.str (pS bt), .str (pS (rlL r ++ [97])), .str (pS ((rlL r).take 2)), .str (pS ((rlL r).drop 1)), .str (pS [if r.1 then 84 else 75, if r.2.1 then 84 else 75, if r.2.2 then 65 else 83]), .str (pS (rlL r ++ [32])), .str (pS ([32] ++ rlL r)), .str (pS (rlL r ++ [10]))])] ++ SK.bg b y⟩
  rw [hE]
  have m9 : (l9, HO.lst ([V.str (pS bt), .str (pS (rlL r ++ [97])), .str (pS ((rlL r).take 2)), .str (pS ((rlL r).drop 1)), .str (pS [if r.1 then 84 else 75, if r.2.1 then 84 else 75, if r.2.2 then 65 else 83]), .str (pS (rlL r ++ [32])), .str (pS ([32] ++ rlL r)), .str (pS (rlL r ++ [10]))] ++ [V.str "", .non, .int 3, .ref t6, .ref l7])) ∈ E := by rw [← hE]; exact .head _
  have m7 : (l7, HO.lst (cV (rlL r))) ∈ E := by rw [← hE]; exact .tail _ (.tail _ (.head _))
  have m6 : (t6, HO.tup (cV (rlL r))) ∈ E := by rw [← hE]; exact .tail _ (.tail _ (.tail _ (.head _)))
  have st : ∀ x, x ∈ menR r i → ∀ H, Has E H → OddD K H (.str (pS x)) ∧ rulB (.str (pS x)) = false := fun x hx H _ => ⟨odd_str (hbad x hx).2, (hbad x hx).1⟩
  have all : ∀ v ∈ ([V.str (pS bt), .str (pS (rlL r ++ [97])), .str (pS ((rlL r).take 2)), .str (pS ((rlL r).drop 1)), .str (pS [if r.1 then 84 else 75, if r.2.1 then 84 else 75, if r.2.2 then 65 else 83]), .str (pS (rlL r ++ [32])), .str (pS ([32] ++ rlL r)), .str (pS (rlL r ++ [10]))] ++ [V.str "", .non, .int 3, .ref t6, .ref l7] : List V), ∀ H, Has E H → OddD K H v ∧ rulB v = false :=
    all_cons (st _ (by rw [← hbt]; exact .head _)) (all_cons (st _ (.tail _ (.head _))) (all_cons (st _ (.tail _ (.tail _ (.head _)))) (all_cons (st _ (.tail _ (.tail _ (.tail _ (.head _))))) (all_cons (st _ (.tail _ (.tail _ (.tail _ (.tail _ (.head _)))))) (all_cons (st _ (.tail _ (.tail _ (.tail _ (.tail _ (.tail _ (.head _))))))) (all_cons (st _ (.tail _ (.tail _ (.tail _ (.tail _ (.tail _ (.tail _ (.head _)))))))) (all_cons (st _ (.tail _ (.tail _ (.tail _ (.tail _ (.tail _ (.tail _ (.tail _ (.head _)))))))))
    (all_cons (st [] (.tail _ (.tail _ (.tail _ (.tail _ (.tail _ (.tail _ (.tail _ (.tail _ (.head _)))))))))) (all_cons (fun H _ => ⟨⟨.non, .none, rfl, (fun z => nomatch z), .non, rfl, Nat.zero_le _⟩, rfl⟩) (all_cons (fun H _ => ⟨⟨.int, .int 3, rfl, (fun z => nomatch z), .int 3, rfl, Nat.zero_le _⟩, rfl⟩) (all_cons (fun H hh => ⟨odd_tup (hh _ m6) (ch_ok r (rls_all r)), rfl⟩) (all_cons (fun H hh => ⟨odd_lst (hh _ m7) (ch_ok r (rls_all r)), rfl⟩) all_nil))))))))))))
  refine ret_go (op_go (var_go (v := .ref l9) (by rfl) (calld_go (cons_go (var_go (v := .ref b) (by rfl) (cons_go (call1_go (cons_go (var_go (v := .ref l9) (by rfl) (nil_go ⟨_, .inl (sL_mem (List.mem_append_left _ m9)), nil_go ?_⟩))))))))))
  refine use_take (E := E) 13 (by rfl) (by decide) fun y m hm => ?_
  obtain ⟨v, hv, hvb⟩ := at_all all (i := m) (by exact hm)
  refine ⟨_, v, .inl (sL_mem (List.mem_append_left _ m9)), atI_at hv, ?_⟩
  intro H' o'
  subst eF
  exact end_sk (E := E) (y := y) (Ext.refl _) o' fun H2 o2 => ⟨fun F3 n => (hvb F3 (new_has o2 n)).1, (hvb H2 (own_has o2)).2⟩
theorem use_brule {W : sWX} {vs : List V} {σ : L2.St} {F : Hp} {E : List (Addr × HO)} {b : Addr} {x : Sx} {Q : V → SH → Prop} (r : Rl) (e : vs = [.ref b, .str (rlS r)]) (hl : Lists E)
    (k : ∀ (y : Sx) (F2 : Hp) (v : V), Ext F F2 → OddD K F2 v → rulB v = false → Q v ⟨F2, E ++ SK.bg b y⟩) : rC (ct_l_bad_rule K) W vs σ ⟨F, E ++ SK.bg b x⟩ Q := by
  refine use_lbox (B := SK) r e trivial (fun _ _ => trivial) fun y H1 v H2 hy o1 o2 ex hres => ?_
  obtain ⟨q1, q2, q3⟩ := own_hid o1 ex hl
  exact ⟨_, E, q1, k y _ v q2 (hres.1 _ (new_of o1 ex hl)) hres.2⟩
/-! ### bad flags -/
theorem strOk_pS {l : List Nat} (h : ∀ c ∈ l, c < 1114112) : PyData.strOk (pS l) = true := by
  show (l.toArray.all fun c => decide (c < 0x110000)) = true
  rw [List.all_toArray]
  exact List.all_eq_true.mpr fun c hc => decide_eq_true (h c hc)
theorem flg_lt {st : List Nat} (h : flgOk st) : ∀ c ∈ st, c < 1114112 := fun c hc => by rcases h c hc with rfl | rfl <;> decide
theorem fl_len {b : TR} {l : List Nat} (h : l.length + 1 ≠ nS b) : flOk false b (.str (pS l)) = false := by
  show (madeL false (pS l) && decide (l.length + 1 = nS b)) = false
  rw [decide_eq_false h, Bool.and_false]
theorem fl_sgn {b : TR} {l : List Nat} {c : Nat} (hc : c ∈ l) (h : c ≠ 76 ∧ c ≠ 82) : flOk false b (.str (pS l)) = false := by
  have : madeL false (pS l) = false := by
    refine Bool.eq_false_iff.mpr fun z => ?_
    have := List.all_eq_true.mp (show (l.all fun c => c == 76 || c == 82 || (false && c == 63)) = true from z) c hc
    simp [h.1, h.2] at this
  show (madeL false (pS l) && _) = false
  rw [this, Bool.false_and]
def sgnL : List Nat := [63, 108, 114, 46, 120, 32, 10]
theorem sgn_all : ∀ c ∈ sgnL, (c ≠ 76 ∧ c ≠ 82) ∧ c ∈ [76, 82, 63, 108, 114, 46, 120, 32, 10] ∧ c < 1114112 := by decide
theorem flg_sg {st : List Nat} (h : flgOk st) : ∀ c ∈ st, c ∈ [76, 82, 63, 108, 114, 46, 120, 32, 10] := fun c hc => by rcases h c hc with rfl | rfl <;> decide
/-- a text that is tried as flags -/
def TryF (b : TR) (l : List Nat) : Prop := (l.length ≤ 100 ∧ ∀ c ∈ l, c ∈ [76, 82, 63, 108, 114, 46, 120, 32, 10]) ∧ flOk false b (.str (pS l)) = false
theorem tryF_v {b : TR} {l : List Nat} {H : Hp} (h : TryF b l) : OddD K H (.str (pS l)) ∧ strOk (.str (pS l)) ∧ flOk false b (.str (pS l)) = false := by
  refine ⟨odd_str (strOk_pS fun c hc => ?_), ⟨h.1.1, h.1.2⟩, h.2⟩
  have all : ∀ c ∈ [76, 82, 63, 108, 114, 46, 120, 32, 10], c < 1114112 := by decide
  exact all c (h.1.2 c hc)
theorem cut_last (l : List Nat) : cutS (pS l) none (some (-1)) = pS (l.take (l.length - 1)) := by
  refine TL.ext_tl ?_
  show ((TL.tl (pS l)).drop (HT.sIx (pS l).length 0 none)).take (HT.sIx (pS l).length (pS l).length (some (-1)) - HT.sIx (pS l).length 0 none) = _
  rw [HT.sIx_none, Nat.sub_zero, List.drop_zero, pS_tl, pS_tl, pS_len]
  congr 1
  show (if (-1 : Int) < 0 then ((-1 : Int) + (l.length : Int)).toNat else min (-1 : Int).toNat l.length) = _
  rw [if_pos (by decide)]
  omega
end
section
variable {K : PySem.W.Frag} {a : Ads}
open TR
def GoodF (K : PySem.W.Frag) (b : TR) (E : List (Addr × HO)) (v : V) : Prop := ∀ H, Has E H → OddD K H v ∧ strOk v ∧ flOk false b v = false
theorem good_str {b : TR} {E : List (Addr × HO)} {l : List Nat} (h : TryF b l) : GoodF K b E (.str (pS l)) := fun H _ => tryF_v h
theorem dec_emp (st : List Nat) : decide (V.str (pS st) = V.str "") = decide (st = []) := decide_eq_decide.mpr ⟨fun h => pS_inj (V.str.inj h), fun h => by rw [h]; rfl⟩
theorem vc_l_bad_flags {vs : List V} {H : Hp} (g : Addr × Sx × TR × List Nat) (h : (ct_l_bad_flags K).pre g vs H) : ∃ S, Own S H ∧ r_l_bad_flags K a (endsC (ct_l_bad_flags K) g H) (start N_l_bad_flags vs) S := by
  refine body_lbox g h fun b x gg F eg eF hinv hok e => ?_
  obtain ⟨bt, st⟩ := gg
  subst eg
  have e : vs = [.ref b, .str (pS st)] := e
  subst e
  obtain ⟨hl, hsm, hf⟩ := (show st.length + 1 = nS bt ∧ nS bt ≤ 64 ∧ flgOk st from hok)
  refine seq_go (set_go (calld_go (cons_go (var_go (v := .ref b) (by rfl) (cons_go (op_go (call1_go (cons_go (var_go (v := .str (pS st)) (by rfl) (nil_go ⟨pS_line (by omega), c_go (add_g (nil_go ?_))⟩))))))))))
  rw [pS_len]
  refine use_take (E := []) (st.length + 1) (by rfl) (by omega) fun y i hi => ?_
  try dsimp only
  refine seq_go (set_go (op_go (c_go (calld_go (cons_go (var_go (v := .ref b) (by rfl) (cons_go (c_go (nil_go ?_)))))))))
  refine use_take (E := []) 7 (by rfl) (by decide) fun y z hz => ?_
  obtain ⟨c, hc⟩ : ∃ c, sgnL[z]? = some c := ⟨_, List.getElem?_eq_getElem (by exact hz)⟩
  obtain ⟨c1, c2, c3⟩ := sgn_all c (List.mem_of_getElem? hc)
  refine ⟨pS_line (l := sgnL) (by decide), c, pS_at (st := sgnL) hc, ?_⟩
  try dsimp only
  refine seq_go (set_go (lst_go (cons_go (op_go (op_go (sl_go (var_go (v := .str (pS st)) (by rfl) (nop_go (part_go (var_go (v := .int (i : Nat)) (by rfl) ?_))))))))))
  try dsimp only
  refine slS_to (te := sC .non) (W := fun _ _ _ _ => False) (σ := []) (tl := sNoP) (by omega) ?_
  refine var_go (v := .str (pS [c])) (by rfl) (add_s (x := st.take i) (y := [c]) (by rw [List.length_take, List.length_singleton]; omega) ?_)
  refine sl_go (var_go (v := .str (pS st)) (by rfl) (part_go (op_go (var_go (v := .int (i : Nat)) (by rfl) (c_go (add_g (nop_go ?_)))))))
  try dsimp only
  rw [show (i : Int) + 1 = ((i + 1 : Nat) : Int) by omega]
  refine slS_from (by omega) ?_
  refine add_s (x := st.take i ++ [c]) (y := st.drop (i + 1)) (by rw [List.length_append, List.length_take, List.length_singleton, List.length_drop]; omega) ?_
  refine cons_go (op_go (var_go (v := .str (pS st)) (by rfl) (c_go (add_s (x := st) (y := [76]) (by rw [List.length_singleton]; omega) ?_))))
  refine cons_go (op_go (var_go (v := .str (pS st)) (by rfl) (c_go (add_s (x := st) (y := [82]) (by rw [List.length_singleton]; omega) ?_))))
  refine cons_go (op_go (var_go (v := .str (pS st)) (by rfl) (c_go (add_s (x := st) (y := [10]) (by rw [List.length_singleton]; omega) ?_))))
  refine nil_go ⟨show 4 ≤ sizeLine by decide, fun l4 => ?_⟩
  try dsimp only
  refine seq_go (set_go (op_go (var_go (v := .ref l4) (by rfl) (lst_go (cons_go (c_go (cons_go (c_go (cons_go (call1_go (cons_go (var_go (v := .str (pS st)) (by rfl) (nil_go ⟨?_, fun l5 => ?_⟩)))))))))))))
  · show st.length ≤ sizeLine
    exact Nat.le_trans (show st.length ≤ 100 by omega) (by decide)
  refine nil_go ⟨show 3 ≤ sizeLine by decide, fun l6 => ?_⟩
  refine ⟨_, _, .inl ⟨2, rfl⟩, .inl ⟨0, rfl⟩, show 7 ≤ sizeLine by decide, fun l7 => ?_⟩
  try dsimp only
  rw [sg_pS]
  have sub : ∀ {l : List Nat}, (∀ q ∈ l, q ∈ st) → ∀ q ∈ l, q ∈ [76, 82, 63, 108, 114, 46, 120, 32, 10] := fun h q hq => flg_sg hf q (h q hq)
  have t1 : TryF bt (st.take i ++ [c] ++ st.drop (i + 1)) := by
    refine ⟨⟨?_, fun q hq => ?_⟩, fl_sgn (c := c) (by simp) c1⟩
    · rw [List.length_append, List.length_append, List.length_take, List.length_drop, List.length_singleton]
      omega
    · rcases List.mem_append.mp hq with hq | hq
      · rcases List.mem_append.mp hq with hq | hq
        · exact flg_sg hf q (List.mem_of_mem_take hq)
        · rw [List.mem_singleton.mp hq]
          exact c2
      · exact flg_sg hf q (List.mem_of_mem_drop hq)
  have app : ∀ d, d ∈ [76, 82, 63, 108, 114, 46, 120, 32, 10] → TryF bt (st ++ [d]) := fun d hd => by
    refine ⟨⟨?_, fun q hq => ?_⟩, fl_len (by rw [List.length_append, List.length_singleton]; omega)⟩
    · rw [List.length_append, List.length_singleton]
      omega
    · rcases List.mem_append.mp hq with hq | hq
      · exact flg_sg hf q hq
      · rw [List.mem_singleton.mp hq]
        exact hd
  have t2 : ∀ l : List Nat, (∀ q ∈ l, q ∈ st) → l.length < st.length → TryF bt l := fun l h1 h2 => ⟨⟨by omega, sub h1⟩, fl_len (by omega)⟩
  generalize st.take i ++ [c] ++ st.drop (i + 1) = u0 at t1
  show sCut _ _ _ _ ⟨F, [(l7, HO.lst ([V.str (pS u0), .str (pS (st ++ [76])), .str (pS (st ++ [82])), .str (pS (st ++ [10]))] ++ [V.non, .int 0, .ref l5])), (l6, .lst [.non, .int 0, .ref l5]), (l5, .lst (cV st)), (l4, .lst [.str (pS u0), .str (pS (st ++ [76])), .str (pS (st ++ [82])), .str (pS (st ++ [10]))])] ++ SK.bg b y⟩
  generalize hL : ([V.str (pS u0), .str (pS (st ++ [76])), .str (pS (st ++ [82])), .str (pS (st ++ [10]))] ++ [V.non, .int 0, .ref l5] : List V) = L
  generalize hE : [(l7, HO.lst L), (l6, .lst [.non, .int 0, .ref l5]), (l5, .lst (cV st)), (l4, .lst [.str (pS u0), .str (pS (st ++ [76])), .str (pS (st ++ [82])), .str (pS (st ++ [10]))])] = E
  have m7 : (l7, HO.lst L) ∈ E := by rw [← hE]; exact .head _
  have m5 : (l5, HO.lst (cV st)) ∈ E := by rw [← hE]; exact .tail _ (.tail _ (.head _))
  have lL : L.length = 7 := by rw [← hL]; rfl
  have all : ∀ v ∈ L, GoodF K bt E v := by
    rw [← hL]
    exact all_cons (good_str t1) (all_cons (good_str (app 76 (by decide))) (all_cons (good_str (app 82 (by decide))) (all_cons (good_str (app 10 (by decide))) (all_cons (fun H _ => ⟨⟨.non, .none, rfl, (fun z => nomatch z), .non, rfl, Nat.zero_le _⟩, trivial, rfl⟩) (all_cons (fun H _ => ⟨⟨.int, .int 0, rfl, (fun z => nomatch z), .int 0, rfl, Nat.zero_le _⟩, trivial, rfl⟩)
      (all_cons (fun H hh => ⟨odd_lst (hh _ m5) (fun c hc => strOk_pS fun d hd => by rw [List.mem_singleton.mp hd]; exact flg_lt hf c hc), trivial, rfl⟩) all_nil))))))
  clear hE hL
  refine cut_go (fun σ S => ∃ (p : Addr) (L : List V) (E : List (Addr × HO)), (p, HO.lst L) ∈ E ∧ 0 < L.length ∧ L.length < 1000 ∧ (∀ v ∈ L, GoodF K bt E v) ∧ σ = [some (.ref b), some (.str (pS st)), some (.int (i : Nat)), some (.str (pS [c])), some (.ref p)] ∧ S = ⟨F, E ++ SK.bg b y⟩) ?_ ?_
  · refine ifT_go (tst_go (op_go (var_go (v := .str (pS st)) (by rfl) (c_go (ne_s (c := !decide (st = [])) (by rw [Bool.not_not]; exact dec_emp st) ?_)))))
    cases hst : decide (st = []) with
    | true => exact nx_go ⟨_, SLe.refl _, l7, L, E, m7, by omega, by omega, all, rfl, rfl⟩
    | false =>
      have hst := of_decide_eq_false hst
      have hlen : 0 < st.length := List.length_pos_iff.mpr hst
      refine set_go (op_go (var_go (v := .ref l7) (by rfl) (lst_go (cons_go (sl_go (var_go (v := .str (pS st)) (by rfl) (part_go (c_go (nop_go ?_)))))))))
      try dsimp only
      refine slS_from (i := 1) (by omega) ?_
      refine cons_go (sl_go (var_go (v := .str (pS st)) (by rfl) (nop_go (part_go (c_go ?_)))))
      try dsimp only
      refine ⟨pS_line (by omega), ?_⟩
      rw [show -(1 : Int) = -1 from rfl, cut_last]
      refine nil_go ⟨show 2 ≤ sizeLine by decide, fun l8 => ?_⟩
      refine ⟨L, _, at_mem (.tail _ (List.mem_append_left _ m7)), at_mem (.head _), Nat.le_trans (show L.length + 2 ≤ 100 by omega) (by decide), fun l9 => ?_⟩
      refine ⟨_, SLe.refl _, l9, L ++ [.str (pS (st.drop 1)), .str (pS (st.take (st.length - 1)))], (l9, .lst (L ++ [.str (pS (st.drop 1)), .str (pS (st.take (st.length - 1)))])) :: (l8, .lst [.str (pS (st.drop 1)), .str (pS (st.take (st.length - 1)))]) :: E, .head _, by rw [List.length_append]; omega, by rw [List.length_append, lL]; exact (show 7 + 2 < 1000 by decide), ?_, rfl, rfl⟩
      refine all_app (fun v hv H hh => all v hv H fun q hq => hh q (.tail _ (.tail _ hq))) (all_cons (good_str (t2 _ (fun q hq => List.mem_of_mem_drop hq) (by rw [List.length_drop]; omega))) (all_cons (good_str (t2 _ (fun q hq => List.mem_of_mem_take hq) (by rw [List.length_take]; omega))) all_nil))
  rintro σ S ⟨p, L, E, m, h0, h1, all, rfl, rfl⟩
  refine ret_go (op_go (var_go (v := .ref p) (by rfl) (calld_go (cons_go (var_go (v := .ref b) (by rfl) (cons_go (call1_go (cons_go (var_go (v := .ref p) (by rfl) (nil_go ⟨L, .inl (sL_mem (List.mem_append_left _ m)), nil_go ?_⟩))))))))))
  refine use_take (E := E) L.length (by rfl) (by omega) fun y k hk => ?_
  obtain ⟨v, hv, hvb⟩ := at_all all hk
  refine ⟨L, v, .inl (sL_mem (List.mem_append_left _ m)), atI_at hv, ?_⟩
  intro H' o'
  subst eF
  exact end_sk (E := E) (y := y) (Ext.refl _) o' fun H2 o2 => ⟨fun F3 n => (hvb F3 (new_has o2 n)).1, (hvb H2 (own_has o2)).2⟩
theorem use_bflags {W : sWX} {vs : List V} {σ : L2.St} {F : Hp} {E : List (Addr × HO)} {b : Addr} {x : Sx} {Q : V → SH → Prop} (bt : TR) (st : List Nat) (e : vs = [.ref b, .str (pS st)]) (hc : st.length + 1 = nS bt ∧ nS bt ≤ 64 ∧ flgOk st) (hl : Lists E)
    (k : ∀ (y : Sx) (F2 : Hp) (v : V), Ext F F2 → OddD K F2 v → strOk v → flOk false bt v = false → Q v ⟨F2, E ++ SK.bg b y⟩) : rC (ct_l_bad_flags K) W vs σ ⟨F, E ++ SK.bg b x⟩ Q := by
  refine use_lbox (B := SK) (bt, st) e trivial (fun _ _ => hc) fun y H1 v H2 hy o1 o2 ex hres => ?_
  obtain ⟨q1, q2, q3⟩ := own_hid o1 ex hl
  exact ⟨_, E, q1, k y _ v q2 (hres.1 _ (new_of o1 ex hl)) hres.2.1 hres.2.2⟩
/-! ### a bad run -/
def BadV (K : PySem.W.Frag) (E : List (Addr × HO)) (n : Nat) (v : V) : Prop := ∀ H2, Has E H2 → LineV K H2 n v false
theorem bad_flat {E : List (Addr × HO)} {n : Nat} {v : V} (t : TY) (ht : t ≠ .tuple) (h : ∀ H, Ty0 K H v t) : BadV K E n v := fun H2 _ => .inl ⟨rfl, t, ht, h H2⟩
theorem bad_lst {E : List (Addr × HO)} {n : Nat} {p : Addr} {xs : List V} (h : (p, HO.lst xs) ∈ E) : BadV K E n (.ref p) := fun H2 hh => .inl ⟨rfl, .list, by decide, ty_l (hh _ h)⟩
theorem bad_len {E : List (Addr × HO)} {n : Nat} {p : Addr} {xs : List V} (h : (p, HO.tup xs) ∈ E) (hl : xs.length ≠ 2) : BadV K E n (.ref p) := fun H2 hh => .inr ⟨p, xs, rfl, .inl (.inl (hh _ h)), .inl ⟨hl, rfl⟩⟩
theorem bad_two {E : List (Addr × HO)} {n : Nat} {p : Addr} {x y : V} (h : (p, HO.tup [x, y]) ∈ E) (hx : flatV x = true) (hy : ∀ H2, Has E H2 → ∃ t, Ty0 K H2 y t) (e : (inV x [.str "hit", .str "load"] && plcB n y) = false) : BadV K E n (.ref p) := fun H2 hh => by
  obtain ⟨t, ht⟩ := hy H2 hh
  exact .inr ⟨p, [x, y], rfl, .inl (.inl (hh _ h)), .inr ⟨x, y, t, rfl, hx, ht, e.symm⟩⟩
theorem and_f {a b : Bool} (h : a = false) : (a && b) = false := by rw [h, Bool.false_and]
theorem line_low {F F3 : Hp} {n : Nat} {v : V} (h : LineV K F n v true) (k : KeepT F3 F) : LineV K F3 n v true := by
  rcases h with ⟨z, _⟩ | ⟨p, xs, e, hp, h⟩
  · cases z
  · have hp3 : SqT K F3 p xs := by
      rcases hp with (hp | ⟨o, hp⟩) | hp
      · exact .inl (.inl (k _ _ hp fun _ z => nomatch z))
      · exact .inl (.inr ⟨o, k _ _ hp fun _ z => nomatch z⟩)
      · exact .inr hp
    refine .inr ⟨p, xs, e, hp3, ?_⟩
    rcases h with ⟨h1, z⟩ | ⟨x, y, t, h1, h2, h3, h4⟩
    · cases z
    · refine .inr ⟨x, y, .int, h1, h2, ?_, h4⟩
      have h4 := ((Bool.and_eq_true _ _).mp h4.symm).2
      cases y with
      | int i => rfl
      | _ => cases h4
def r_bad2 (K : PySem.W.Frag) (a : Ads) : sS := sSeq (sSet (sOp oAdd (sOp oAdd (sSl K (sVar 1) sNoP (sPart (sVar 3))) (sLst (sCons (sOp (oIx K) (sVar 5) (sCallD (q_l_take K a) [] (sCons (sVar 0) (sCons (sCall1 (nLen K) (sCons (sVar 5) (sNil))) (sNil))))) (sNil)))) (sSl K (sVar 1) (sPart (sVar 3)) sNoP)) 6) (sCut (sIfS (sTst (sOp (oEq K) (sCallD (q_l_take K a) [] (sCons (sVar 0) (sCons (sC (.int 3)) (sNil)))) (sC (.int 0)))) (sDrop (sMt K "list" mAppend (sVar 6) (sCons (sTup (sCons (sC (.str ("load" : Str))) (sCons (sVar 2) (sNil)))) (sNil)))) (sNext)) (sRet (sTup (sCons (sVar 6) (sCons (sVar 3) (sNil))))))
theorem bad_tail {F H : Hp} {E : List (Addr × HO)} {b : Addr} {x y : Sx} {pr : Addr} {rs : List V} {run : List Ln} {t : TR} {at_ s : Nat} {pB : Addr} {L : List V} (eF : F = woL H (SK.bg b x)) (hpr : SqL K F pr rs) (hgood : ∀ v ∈ rs, LineV K F (nS t) v true) (lr : rs.length ≤ 200) (hat : at_ ≤ rs.length) (hpB : (pB, HO.lst L) ∈ E) (hL : 0 < L.length ∧ L.length < 1000) (hbad : ∀ v ∈ L, BadV K E (nS t) v) :
    r_bad2 K a (endsC (ct_l_bad_run K) (b, x, .ref pr, run, t) H) [some (.ref b), some (.ref pr), some (.int (nS t : Nat)), some (.int (at_ : Nat)), some (.int (s : Nat)), some (.ref pB), none] ⟨F, E ++ SK.bg b y⟩ := by
  refine seq_go (set_go (op_go (op_go (sl_go (var_go (v := .ref pr) (by rfl) (nop_go (part_go (var_go (v := .int (at_ : Nat)) (by rfl) ?_))))))))
  try dsimp only
  refine .inl ⟨rs, .inr hpr, fun q1 => ?_⟩
  rw [cut_take hat]
  refine lst_go (cons_go (op_go (var_go (v := .ref pB) (by rfl) (calld_go (cons_go (var_go (v := .ref b) (by rfl) (cons_go (call1_go (cons_go (var_go (v := .ref pB) (by rfl) (nil_go ⟨L, .inl (sL_mem (.tail _ (List.mem_append_left _ hpB))), nil_go ?_⟩)))))))))))
  refine use_take (E := (q1, .lst (rs.take at_)) :: E) L.length (by rfl) (by omega) fun y m hm => ?_
  obtain ⟨v, hv, hvb⟩ := at_all hbad hm
  refine ⟨L, v, .inl (sL_mem (.tail _ (List.mem_append_left _ hpB))), atI_at hv, ?_⟩
  refine nil_go ⟨show 1 ≤ sizeLine by decide, fun q2 => ?_⟩
  refine ⟨rs.take at_, [v], .inl ⟨1, rfl⟩, .inl ⟨0, rfl⟩, ?_, fun q3 => ?_⟩
  · rw [List.length_take]
    exact Nat.le_trans (show min at_ rs.length + 1 ≤ 300 by omega) (by decide)
  refine sl_go (var_go (v := .ref pr) (by rfl) (part_go (var_go (v := .int (at_ : Nat)) (by rfl) (nop_go ?_))))
  try dsimp only
  refine .inl ⟨rs, .inr hpr, fun q4 => ?_⟩
  rw [cut_drop hat]
  refine ⟨rs.take at_ ++ [v], rs.drop at_, .inl ⟨1, rfl⟩, .inl ⟨0, rfl⟩, ?_, fun q5 => ?_⟩
  · rw [List.length_append, List.length_take, List.length_drop]
    exact Nat.le_trans (show min at_ rs.length + 1 + (rs.length - at_) ≤ 600 by omega) (by decide)
  try dsimp only
  have e5 : rs.take at_ ++ [v] ++ rs.drop at_ = rs.take at_ ++ v :: rs.drop at_ := by rw [List.append_assoc]; rfl
  rw [e5]
  have lw : (rs.drop at_).length ≤ 200 := by rw [List.length_drop]; omega
  generalize rs.drop at_ = w at lw
  refine cut_go (fun σ S => ∃ (y : Sx) (E2 : List (Addr × HO)) (w : List V), E ⊆ E2 ∧ σ = [some (.ref b), some (.ref pr), some (.int (nS t : Nat)), some (.int (at_ : Nat)), some (.int (s : Nat)), some (.ref pB), some (.ref q5)] ∧ S = ⟨F, ((q5, .lst (rs.take at_ ++ v :: w)) :: E2) ++ SK.bg b y⟩) ?_ ?_
  · refine ifT_go (tst_go (op_go (calld_go (cons_go (var_go (v := .ref b) (by rfl) (cons_go (c_go (nil_go ?_))))))))
    refine use_take (E := (q5, .lst (rs.take at_ ++ v :: w)) :: (q4, .lst w) :: (q3, .lst (rs.take at_ ++ [v])) :: (q2, .lst [v]) :: (q1, .lst (rs.take at_)) :: E) 3 (by rfl) (by decide) fun y d hd => ?_
    refine c_go (eq_i (c := decide (d = 0)) (decide_eq_decide.mpr (by omega)) ?_)
    cases decide (d = 0) with
    | false => exact nx_go ⟨_, SLe.refl _, y, (q4, .lst w) :: (q3, .lst (rs.take at_ ++ [v])) :: (q2, .lst [v]) :: (q1, .lst (rs.take at_)) :: E, w, (fun z hz => .tail _ (.tail _ (.tail _ (.tail _ hz)))), rfl, rfl⟩
    | true =>
      refine drop_go (mt_go (var_go (v := .ref q5) (by rfl) ⟨.inl ⟨rfl, _, .inl ⟨0, rfl⟩⟩, cons_go (tup_go (cons_go (c_go (cons_go (var_go (v := .int (nS t : Nat)) (by rfl) (nil_go ⟨show 2 ≤ sizeLine by decide, fun pt => nil_go ?_⟩))))))⟩))
      refine app_go (E := [(pt, .tup [.str "load", .int (nS t : Nat)])]) (F := F) (D := q5) ?_ ?_
      · rw [List.length_append, List.length_take, List.length_cons]
        exact small_of (show min at_ rs.length + (w.length + 1) ≤ 600 by omega) (by decide)
      · rw [List.append_assoc]
        refine ⟨_, sle_perm (List.Perm.swap _ _ _), y, (pt, .tup [.str "load", .int (nS t : Nat)]) :: (q4, .lst w) :: (q3, .lst (rs.take at_ ++ [v])) :: (q2, .lst [v]) :: (q1, .lst (rs.take at_)) :: E, w ++ [.ref pt], (fun z hz => .tail _ (.tail _ (.tail _ (.tail _ (.tail _ hz))))), rfl, rfl⟩
  · rintro σ S ⟨y, E2, w, sub, rfl, rfl⟩
    refine ret_go (tup_go (cons_go (var_go (v := .ref q5) (by rfl) (cons_go (var_go (v := .int (at_ : Nat)) (by rfl) (nil_go ⟨show 2 ≤ sizeLine by decide, fun pt => ?_⟩))))))
    intro H' o'
    subst eF
    refine end_sk (E := (pt, .tup [.ref q5, .int (at_ : Nat)]) :: (q5, .lst (rs.take at_ ++ v :: w)) :: E2) (y := y) (Ext.refl _) o' fun H2 o2 => ?_
    refine ⟨pt, .ref q5, at_, rfl, fun F3 n => ?_⟩
    have hh := new_has o2 n
    refine ⟨.inl (.inl (hh _ (.head _))), .inr ⟨q5, _, at_, v, rfl, .inl (.inl (hh _ (.tail _ (.head _)))), rfl, ?_, ?_, ?_⟩⟩
    · rw [List.getElem?_append_right (by rw [List.length_take]; omega), List.length_take, Nat.min_eq_left hat, Nat.sub_self]
      rfl
    · exact hvb F3 fun q hq => hh q (.tail _ (.tail _ (sub hq)))
    · intro k z hk hz
      rw [List.getElem?_append_left (by rw [List.length_take]; omega), List.getElem?_take, if_pos hk] at hz
      exact line_low (hgood z (List.mem_of_getElem? hz)) n.2
theorem neg1_go {W : sWX} {σ : L2.St} {S : SH} {Q : V → SH → Prop} (h : Q (.int (-1)) S) : s1Op oNeg (sC (.int 1)) W σ S Q := h
theorem log_small {s : Nat} (h : s < 64) : ((s : Nat) : Int).natAbs.log2 < 1920 := by
  show s.log2 < 1920
  by_cases h0 : s = 0
  · subst h0
    decide
  · exact (Nat.log2_lt h0).mpr (Nat.lt_of_lt_of_le h (Nat.pow_le_pow_right (n := 2) (by decide) (show 6 ≤ 1920 by decide)))
theorem vc_l_bad_run {vs : List V} {H : Hp} (g : Addr × Sx × V × List Ln × TR) (h : (ct_l_bad_run K).pre g vs H) : ∃ S, Own S H ∧ r_l_bad_run K a (endsC (ct_l_bad_run K) g H) (start N_l_bad_run vs) S := by
  refine body_lbox g h fun b x g F eg eF hinv hok e => ?_
  subst eg
  obtain ⟨rv, run, t⟩ := g
  have e : vs = [.ref b, rv, .int (nS t : Nat)] := e
  subst e
  obtain ⟨hR, hl, hsm⟩ := (show RunG K F t rv run ∧ run.length ≤ 200 ∧ nS t ≤ 64 from hok)
  have hpos := nS_pos t
  obtain ⟨pr, rs, e1, hpr, hrs, _, hgood⟩ := run_lines hR
  subst e1
  have lrs : rs.length = run.length := by rw [hrs.len, List.length_map]
  have pn : ∀ i : Int, (i < 0 ∨ (nS t : Int) ≤ i) → plcB (nS t) (.int i) = false := fun i hi => by
    show (decide (0 ≤ i) && decide (i < nS t)) = false
    rcases hi with hi | hi
    · rw [decide_eq_false (show ¬ 0 ≤ i by omega), Bool.false_and]
    · rw [decide_eq_false (show ¬ i < nS t by omega), Bool.and_false]
  refine seq_go (ifT_go (tst_go (op_go (calld_go (cons_go (var_go (v := .ref b) (by rfl) (cons_go (c_go (nil_go ?_)))))))))
  refine use_take (E := []) 5 (by rfl) (by decide) fun y d hd => ?_
  refine c_go (eq_i (c := decide (d = 0)) (decide_eq_decide.mpr (by omega)) ?_)
  cases decide (d = 0) with
  | true =>
    refine ret_go (tup_go (cons_go (op_go (lst_go (cons_go (c_go (cons_go (c_go (cons_go (c_go (cons_go ?_)))))))))))
    refine (show sTuple K _ _ _ _ _ from var_go (v := .ref pr) (by rfl) ?_)
    refine .inl ⟨rs, .inr hpr, fun tq => ?_⟩
    refine nil_go ⟨show 4 ≤ sizeLine by decide, fun p5 => ?_⟩
    refine calld_go (cons_go (var_go (v := .ref b) (by rfl) (cons_go (c_go (nil_go ?_)))))
    refine use_take (E := (p5, .lst [.non, .int 3, .str "", .ref tq]) :: (tq, .tup rs) :: []) 4 (by rfl) (by decide) fun y m hm => ?_
    have all : ∀ v ∈ ([.non, .int 3, .str "", .ref tq] : List V), ∀ H2, Has ((p5, .lst [.non, .int 3, .str "", .ref tq]) :: (tq, .tup rs) :: []) H2 → ∃ ty, ty ≠ TY.list ∧ Ty0 K H2 v ty :=
      all_cons (fun _ _ => ⟨.non, by decide, rfl⟩) (all_cons (fun _ _ => ⟨.int, by decide, rfl⟩) (all_cons (fun _ _ => ⟨.str, by decide, rfl⟩) (all_cons (fun H2 hh => ⟨.tuple, by decide, ty_t (hh (tq, .tup rs) (.tail _ (.head _)))⟩) all_nil)))
    obtain ⟨v, hv, hvt⟩ := at_all all (i := m) (by exact hm)
    refine ⟨_, v, .inl (.inl ⟨0, rfl⟩), atI_at hv, ?_⟩
    refine cons_go (neg1_go ?_)
    refine nil_go ⟨show 2 ≤ sizeLine by decide, fun pt => ?_⟩
    intro H' o'
    subst eF
    refine end_sk (E := (pt, .tup [v, .int (-1)]) :: (p5, .lst [.non, .int 3, .str "", .ref tq]) :: (tq, .tup rs) :: []) (y := y) (Ext.refl _) o' fun H2 o2 => ?_
    refine ⟨pt, v, -1, rfl, fun F3 n => ?_⟩
    have hh := new_has o2 n
    exact ⟨.inl (.inl (hh _ (.head _))), .inl ⟨rfl, hvt F3 fun q hq => hh q (.tail _ hq)⟩⟩
  | false =>
    refine nx_go ?_
    try dsimp only
    refine seq_go (set_go (calld_go (cons_go (var_go (v := .ref b) (by rfl) (cons_go (op_go (call1_go (cons_go (var_go (v := .ref pr) (by rfl) (nil_go ⟨rs, .inl (.inr hpr), c_go (add_g (nil_go ?_))⟩))))))))))
    rw [lrs]
    refine use_take (E := []) (run.length + 1) (by rfl) (by omega) fun y pl hpl => ?_
    try dsimp only
    refine seq_go (set_go (calld_go (cons_go (var_go (v := .ref b) (by rfl) (cons_go (var_go (v := .int (nS t : Nat)) (by rfl) (nil_go ?_)))))))
    refine use_take (E := []) (nS t) (by rfl) (by omega) fun y s hs => ?_
    try dsimp only
    have two : ∀ (v1 v2 : V) (t1 t2 : sE) (W : sWX) (σ : L2.St) (S : SH) (Q : V → SH → Prop), (∀ S (Q : V → SH → Prop), Q v1 S → t1 W σ S Q) → (∀ S (Q : V → SH → Prop), Q v2 S → t2 W σ S Q) → (∀ p, Q (.ref p) (S.new p (.tup [v1, v2]))) → sTup (sCons t1 (sCons t2 sNil)) W σ S Q := fun v1 v2 t1 t2 W σ S Q h1 h2 h => tup_go (cons_go (h1 _ _ (cons_go (h2 _ _ (nil_go ⟨show 2 ≤ sizeLine by decide, h⟩)))))
    refine seq_go (set_go (lst_go (cons_go ?_)))
    refine two (.str "hit") (.int (nS t : Nat)) _ _ _ _ _ _ (fun _ _ q => c_go q) (fun _ _ q => var_go (by rfl) q) fun t1 => cons_go ?_
    refine two (.str "load") (.int (nS t : Nat)) _ _ _ _ _ _ (fun _ _ q => c_go q) (fun _ _ q => var_go (by rfl) q) fun t2 => cons_go ?_
    refine two (.str "load") (.int (-1)) _ _ _ _ _ _ (fun _ _ q => c_go q) (fun _ _ q => c_go q) fun t3 => cons_go ?_
    refine two (.str "look") (.int (s : Nat)) _ _ _ _ _ _ (fun _ _ q => c_go q) (fun _ _ q => var_go (by rfl) q) fun t4 => cons_go ?_
    refine two (.str "HIT") (.int (s : Nat)) _ _ _ _ _ _ (fun _ _ q => c_go q) (fun _ _ q => var_go (by rfl) q) fun t5 => cons_go ?_
    refine lst_go (cons_go (c_go (cons_go (var_go (v := .int (s : Nat)) (by rfl) (nil_go ⟨show 2 ≤ sizeLine by decide, fun u6 => ?_⟩)))))
    refine nil_go ⟨show 6 ≤ sizeLine by decide, fun m1 => ?_⟩
    try dsimp only
    refine seq_go (set_go (op_go (var_go (v := .ref m1) (by rfl) (lst_go (cons_go (tup_go (cons_go (c_go (nil_go ⟨show 1 ≤ sizeLine by decide, fun t7 => ?_⟩)))))))))
    refine cons_go (tup_go (cons_go (c_go (cons_go (var_go (v := .int (s : Nat)) (by rfl) (cons_go (var_go (v := .int (s : Nat)) (by rfl) (nil_go ⟨show 3 ≤ sizeLine by decide, fun t8 => cons_go ?_⟩))))))))
    refine two (.str "hit") .non _ _ _ _ _ _ (fun _ _ q => c_go q) (fun _ _ q => c_go q) fun t9 => cons_go ?_
    refine two (.str "hit") (.str (toString ((s : Nat) : Int))) _ _ _ _ _ _ (fun _ _ q => c_go q) (fun _ _ q => call1_go (cons_go (var_go (v := .int (s : Nat)) (by rfl) (nil_go ⟨log_small (by omega), q⟩)))) fun t10 => cons_go ?_
    refine two (.int (s : Nat)) (.str "hit") _ _ _ _ _ _ (fun _ _ q => var_go (by rfl) q) (fun _ _ q => c_go q) fun t11 => cons_go ?_
    refine c_go (nil_go ⟨show 6 ≤ sizeLine by decide, fun m2 => ?_⟩)
    refine ⟨_, _, .inl ⟨6, rfl⟩, .inl ⟨0, rfl⟩, show 12 ≤ sizeLine by decide, fun m3 => ?_⟩
    try dsimp only
    refine seq_go (set_go (op_go (var_go (v := .ref m3) (by rfl) (lst_go (cons_go (c_go (cons_go ?_)))))))
    refine two (.str "hit") (.bl true) _ _ _ _ _ _ (fun _ _ q => c_go q) (fun _ _ q => c_go q) fun t12 => cons_go ?_
    refine two (.str "load") (.bl false) _ _ _ _ _ _ (fun _ _ q => c_go q) (fun _ _ q => c_go q) fun t13 => cons_go ?_
    refine tup_go (nil_go ⟨Nat.zero_le _, fun t14 => nil_go ⟨show 4 ≤ sizeLine by decide, fun m4 => ?_⟩⟩)
    refine ⟨_, _, .inl ⟨4, rfl⟩, .inl ⟨0, rfl⟩, show 16 ≤ sizeLine by decide, fun m5 => ?_⟩
    try dsimp only
    generalize hE : [(m5, HO.lst (([V.ref t1, .ref t2, .ref t3, .ref t4, .ref t5, .ref u6] ++ [.ref t7, .ref t8, .ref t9, .ref t10, .ref t11, .non]) ++ [.str "load", .ref t12, .ref t13, .ref t14])), (m4, .lst [.str "load", .ref t12, .ref t13, .ref t14]), (t14, .tup []), (t13, .tup [.str "load", .bl false]), (t12, .tup [.str "hit", .bl true]), (m3, .lst ([V.ref t1, .ref t2, .ref t3, .ref t4, .ref t5, .ref u6] ++ [.ref t7, .ref t8, .ref t9, .ref t10, .ref t11, .non])), (m2, .lst [.ref t7, .ref t8, .ref t9, .ref t10, .ref t11, .non]), (t11, .tup [.int (s : Nat), .str "hit"]), (t10, .tup [.str "hit", .str (toString ((s : Nat) : Int))]), (t9, .tup [.str "hit", .non]), (t8, .tup [.str "load", .int (s : Nat), .int (s : Nat)]), (t7, .tup [.str "load"]), (m1, .lst [V.ref t1, .ref t2, .ref t3, .ref t4, .ref t5, .ref u6]), (u6, .lst [.str "hit", .int (s : Nat)]), (t5, .tup [.str "HIT", .int (s : Nat)]), (t4, .tup [.str "look", .int (s : Nat)]), (t3, .tup [.str "load", .int (-1)]), (t2, .tup [.str "load", .int (nS t : Nat)]), (t1, .tup [.str "hit", .int (nS t : Nat)])] = E
    refine bad_tail (E := [(m5, HO.lst (([V.ref t1, .ref t2, .ref t3, .ref t4, .ref t5, .ref u6] ++ [.ref t7, .ref t8, .ref t9, .ref t10, .ref t11, .non]) ++ [.str "load", .ref t12, .ref t13, .ref t14])), (m4, .lst [.str "load", .ref t12, .ref t13, .ref t14]), (t14, .tup []), (t13, .tup [.str "load", .bl false]), (t12, .tup [.str "hit", .bl true]), (m3, .lst ([V.ref t1, .ref t2, .ref t3, .ref t4, .ref t5, .ref u6] ++ [.ref t7, .ref t8, .ref t9, .ref t10, .ref t11, .non])), (m2, .lst [.ref t7, .ref t8, .ref t9, .ref t10, .ref t11, .non]), (t11, .tup [.int (s : Nat), .str "hit"]), (t10, .tup [.str "hit", .str (toString ((s : Nat) : Int))]), (t9, .tup [.str "hit", .non]), (t8, .tup [.str "load", .int (s : Nat), .int (s : Nat)]), (t7, .tup [.str "load"]), (m1, .lst [V.ref t1, .ref t2, .ref t3, .ref t4, .ref t5, .ref u6]), (u6, .lst [.str "hit", .int (s : Nat)]), (t5, .tup [.str "HIT", .int (s : Nat)]), (t4, .tup [.str "look", .int (s : Nat)]), (t3, .tup [.str "load", .int (-1)]), (t2, .tup [.str "load", .int (nS t : Nat)]), (t1, .tup [.str "hit", .int (nS t : Nat)])]) (y := y) (rs := rs) (at_ := pl) eF hpr hgood (by omega) (by omega) (.head _) ⟨by simp, by simp⟩ ?_
    rw [hE]
    have mm : ∀ q, q ∈ [(m5, HO.lst (([V.ref t1, .ref t2, .ref t3, .ref t4, .ref t5, .ref u6] ++ [.ref t7, .ref t8, .ref t9, .ref t10, .ref t11, .non]) ++ [.str "load", .ref t12, .ref t13, .ref t14])), (m4, .lst [.str "load", .ref t12, .ref t13, .ref t14]), (t14, .tup []), (t13, .tup [.str "load", .bl false]), (t12, .tup [.str "hit", .bl true]), (m3, .lst ([V.ref t1, .ref t2, .ref t3, .ref t4, .ref t5, .ref u6] ++ [.ref t7, .ref t8, .ref t9, .ref t10, .ref t11, .non])), (m2, .lst [.ref t7, .ref t8, .ref t9, .ref t10, .ref t11, .non]), (t11, .tup [.int (s : Nat), .str "hit"]), (t10, .tup [.str "hit", .str (toString ((s : Nat) : Int))]), (t9, .tup [.str "hit", .non]), (t8, .tup [.str "load", .int (s : Nat), .int (s : Nat)]), (t7, .tup [.str "load"]), (m1, .lst [V.ref t1, .ref t2, .ref t3, .ref t4, .ref t5, .ref u6]), (u6, .lst [.str "hit", .int (s : Nat)]), (t5, .tup [.str "HIT", .int (s : Nat)]), (t4, .tup [.str "look", .int (s : Nat)]), (t3, .tup [.str "load", .int (-1)]), (t2, .tup [.str "load", .int (nS t : Nat)]), (t1, .tup [.str "hit", .int (nS t : Nat)])] → q ∈ E := fun q hq => by rw [← hE]; exact hq
    clear hE
    exact all_cons (bad_two (p := t1) (x := .str "hit") (y := .int (nS t : Nat)) (mm _ (by simp)) rfl (fun _ _ => ⟨.int, rfl⟩) (by rw [pn _ (.inr (by omega)), Bool.and_false])) (
      all_cons (bad_two (p := t2) (x := .str "load") (y := .int (nS t : Nat)) (mm _ (by simp)) rfl (fun _ _ => ⟨.int, rfl⟩) (by rw [pn _ (.inr (by omega)), Bool.and_false])) (
      all_cons (bad_two (p := t3) (x := .str "load") (y := .int (-1)) (mm _ (by simp)) rfl (fun _ _ => ⟨.int, rfl⟩) (by rw [pn _ (.inl (by omega)), Bool.and_false])) (
      all_cons (bad_two (p := t4) (x := .str "look") (y := .int (s : Nat)) (mm _ (by simp)) rfl (fun _ _ => ⟨.int, rfl⟩) (and_f (by decide +kernel))) (
      all_cons (bad_two (p := t5) (x := .str "HIT") (y := .int (s : Nat)) (mm _ (by simp)) rfl (fun _ _ => ⟨.int, rfl⟩) (and_f (by decide +kernel))) (
      all_cons (bad_lst (p := u6) (xs := [.str "hit", .int (s : Nat)]) (mm _ (by simp))) (
      all_cons (bad_len (p := t7) (xs := [.str "load"]) (mm _ (by simp)) (show 1 ≠ 2 by decide)) (
      all_cons (bad_len (p := t8) (xs := [.str "load", .int (s : Nat), .int (s : Nat)]) (mm _ (by simp)) (show 3 ≠ 2 by decide)) (
      all_cons (bad_two (p := t9) (x := .str "hit") (y := .non) (mm _ (by simp)) rfl (fun _ _ => ⟨.non, rfl⟩) (Bool.and_false _)) (
      all_cons (bad_two (p := t10) (x := .str "hit") (y := .str (toString ((s : Nat) : Int))) (mm _ (by simp)) rfl (fun _ _ => ⟨.str, rfl⟩) (Bool.and_false _)) (
      all_cons (bad_two (p := t11) (x := .int (s : Nat)) (y := .str "hit") (mm _ (by simp)) rfl (fun _ _ => ⟨.str, rfl⟩) (Bool.and_false _)) (
      all_cons (bad_flat .non (by decide) fun _ => rfl) (
      all_cons (bad_flat .str (by decide) fun _ => rfl) (
      all_cons (bad_two (p := t12) (x := .str "hit") (y := .bl true) (mm _ (by simp)) rfl (fun _ _ => ⟨.bool, rfl⟩) (Bool.and_false _)) (
      all_cons (bad_two (p := t13) (x := .str "load") (y := .bl false) (mm _ (by simp)) rfl (fun _ _ => ⟨.bool, rfl⟩) (Bool.and_false _)) (
      all_cons (bad_len (p := t14) (xs := []) (mm _ (by simp)) (show 0 ≠ 2 by decide)) (
      all_nil))))))))))))))))
theorem use_brun {W : sWX} {vs : List V} {σ : L2.St} {F : Hp} {E : List (Addr × HO)} {b : Addr} {x : Sx} {Q : V → SH → Prop} (rv : V) (run : List Ln) (t : TR) (e : vs = [.ref b, rv, .int (nS t : Nat)]) (hR : RunG K F t rv run) (hl : run.length ≤ 200) (hs : nS t ≤ 64) (hE : Lists E)
    (k : ∀ (y : Sx) (F2 : Hp) (p : Addr) (u : V) (i : Int), Ext F F2 → SqT K F2 p [u, .int i] → RunB K F2 (nS t) u i → Q (.ref p) ⟨F2, E ++ SK.bg b y⟩) : rC (ct_l_bad_run K) W vs σ ⟨F, E ++ SK.bg b x⟩ Q := by
  refine use_lbox (B := SK) (rv, run, t) e trivial (fun H o => ⟨hR.ext (own_F o), hl, hs⟩) fun y H1 v H2 hy o1 o2 ex hres => ?_
  obtain ⟨p, u, i, rfl, h1⟩ := hres
  obtain ⟨q1, q2, q3⟩ := own_hid o1 ex hE
  obtain ⟨h2, h3⟩ := h1 _ (new_of o1 ex hE)
  exact ⟨_, E, q1, k y _ p u i q2 h2 h3⟩
end
section
variable {K : PySem.W.Frag} {a : Ads}
open TR
theorem notV_go {t : sE} {W : sWX} {σ : L2.St} {S : SH} {Q : V → SH → Prop} (h : t W σ S fun x S1 => oTru K x S1 fun k S2 => Q (.bl (!k)) S2) : sNotV K t W σ S Q := h
/-- the call: it is answered, or an error is raised -/
theorem use_qbX {res : TR → Rl → List Nat → List Ln → V → Hp → Prop} {W : sWX} {σ : L2.St} {F : Hp} {G : List (Addr × HO)} {Q : V → SH → Prop} {vs : List V} (g : QbG) (e : vs = [g.tv, g.rv, g.sv, g.lv]) (hT : TreeAt K a F g.tv g.b) (hq : qbOk K F g.b g.rv g.sv g.lv g.q)
    (hx : ∀ H, Ext F H → qbOk K H g.b g.rv g.sv g.lv g.q)
    (k : ∀ v r st run, g.q = .ok r st run → Q v ⟨F, G⟩) (x1 : ∀ t d dd, g.q = .rule t d → W (.ref a.InvalidRule) (some dd) σ ⟨F, (dd, .xd [("rule", g.rv)]) :: G⟩)
    (x2 : ∀ r t d dd, g.q = .flags r t d → W (.ref a.InvalidFlags) (some dd) σ ⟨F, (dd, .xd [("flags", g.sv)]) :: G⟩) (x3 : ∀ r st i dd, g.q = .line r st i → W (.ref a.InvalidLine) (some dd) σ ⟨F, (dd, .xd [("index", .int i)]) :: G⟩) : rC (ct_qb K a res) W vs σ ⟨F, G⟩ Q := by
  obtain ⟨tv, b, rv, sv, lv, q⟩ := g
  refine ⟨⟨tv, b, rv, sv, lv, q⟩, fun H o => ⟨e, hT.ext (own_F o), hx H (own_F o)⟩, fun H v H' o q => ?_, fun H c d H' o ex => ?_⟩
  · obtain ⟨⟨r, st, run, e2, _⟩, q3⟩ := q
    exact ⟨_, o.ex q3, k v r st run e2⟩
  · cases q with
    | ok r st run => exact ex.elim
    | rule t dv =>
      obtain ⟨rfl, dd, rfl, q1, q2, q3⟩ := (show Exn1 H c d H' _ _ _ from ex)
      exact ⟨_, o.new q1 q2 q3, x1 t _ dd rfl⟩
    | flags r t dv =>
      obtain ⟨rfl, dd, rfl, q1, q2, q3⟩ := (show Exn1 H c d H' _ _ _ from ex)
      exact ⟨_, o.new q1 q2 q3, x2 r t _ dd rfl⟩
    | line r st i =>
      obtain ⟨rfl, dd, rfl, q1, q2, q3⟩ := (show Exn1 H c d H' _ _ _ from ex)
      exact ⟨_, o.new q1 q2 q3, x3 r st i dd rfl⟩
theorem qb_ext {F H : Hp} {b : TR} {rv sv lv : V} {q : QB} (h : qbOk K F b rv sv lv q) (e : Ext F H) : qbOk K H b rv sv lv q := by
  cases q with
  | ok r st run =>
    obtain ⟨h1, h2, h3, h4, h5, h6⟩ := h
    exact ⟨h1, h2, h3, h4, h5.ext e, h6⟩
  | rule t d =>
    obtain ⟨h1, h2, h3⟩ := h
    exact ⟨h1.ex e, h2, dp_ext e _ _ h3⟩
  | flags r t d =>
    obtain ⟨h1, h2, h3, h4, h5⟩ := h
    exact ⟨h1, h2.ex e, h3, h4, dp_ext e _ _ h5⟩
  | line r st i =>
    obtain ⟨h1, h2, h3, h4, h5⟩ := h
    exact ⟨h1, h2, h3, h4, h5.ext e⟩
theorem isy_go {C ea dd : Addr} {fs : List (Str × V)} {X : V} {cv : Value} {b : Bool} {W : sWX} {σ : L2.St} {S : SH} {Q : V → SH → Prop} (e5 : σ[5]? = some (some (.ref ea))) (hE : ExcC K C) (hd : At S dd (.xd fs)) (hX : ∀ u, RelV X u → u = cv) (hk : PySem.W.kitOne K (.ref C) cv = some b) (h : Q (.bl b) S) :
    sCall1 (nIsY K ea (.ref C) (some dd)) (sCons (sVar 5) (sCons (sC X) (sNil))) W σ S Q :=
  call1_go (cons_go (var_go e5 (cons_go (c_go (nil_go ⟨rfl, C, dd, cv, b, fs, rfl, rfl, hE, hd, hX, hk, h⟩)))))
/-- the first row of a suite -/
theorem suf1 {C ea dd : Addr} {f : Str} {v : V} {D : sEnds} {x0 x1 x2 x3 x4 x6 : Option V} {F : Hp} {w : sS} (hE : ExcC K C) (hc : PySem.W.kitOne K (.ref C) (.ref a.CacheError) = some true) (hv : PySem.W.kitOne K (.ref C) (.type "ValueError") = some true)
    (h : w D [x0, x1, x2, x3, x4, some (.ref ea), some (.bl true)] ⟨F, [(dd, .xd [(f, v)])]⟩) :
    sSeq (sSet (sAndV (sCall1 (nIsY K ea (.ref C) (some dd)) (sCons (sVar 5) (sCons (sC (.ref a.CacheError)) (sNil)))) (sCall1 (nIsY K ea (.ref C) (some dd)) (sCons (sVar 5) (sCons (sC (.ty "ValueError")) (sNil))))) 6) w D [x0, x1, x2, x3, x4, some (.ref ea), x6] ⟨F, [(dd, .xd [(f, v)])]⟩ := by
  refine seq_go (set_go (andV_go (isy_go (by rfl) hE (.inl ⟨0, rfl⟩) (fun u r => r) hc ?_)))
  try dsimp only
  exact isy_go (by rfl) hE (.inl ⟨0, rfl⟩) (fun u r => r) hv h
theorem look1 {f : Str} {v : V} : List.lookup f [(f, v)] = some v := by
  rw [List.lookup_cons, beq_self_eq_true]
theorem suf2 {C ea dd : Addr} {f : Str} {v : V} {D : sEnds} {x0 x1 x2 x3 x4 : Option V} {F : Hp} {wd : Str} {cs : List V} {us : List Value} {ts : sA} (hE : ExcC K C) (hts : ∀ (W : sWX) (σ : L2.St) (S : SH) (Q : List V → SH → Prop), Q cs S → ts W σ S Q) (hl : cs.length ≤ sizeLine) (hp : Paired ClsV cs us) (hk : PySem.W.kitAny K (.ref C) us = some false)
    (h : ∀ t p, D.rt (.ref p) ⟨F, (p, .lst [.str wd, v, .bl true]) :: (t, .tup cs) :: [(dd, .xd [(f, v)])]⟩) :
    sRet (sLst (sCons (sC (.str wd)) (sCons (sXf ea (.ref C) (some dd) C f (sVar 5)) (sCons (sAndV (sVar 6) (sNotV K (sCall1 (nIsYT K ea (.ref C) (some dd)) (sCons (sVar 5) (sCons (sTup ts) (sNil)))))) (sNil))))) D [x0, x1, x2, x3, x4, some (.ref ea), some (.bl true)] ⟨F, [(dd, .xd [(f, v)])]⟩ := by
  refine ret_go (lst_go (cons_go (c_go (cons_go ?_))))
  refine (show sXf ea (.ref C) (some dd) C f (sVar 5) _ _ _ _ from var_go (v := .ref ea) (by rfl) ⟨rfl, rfl, dd, [(f, v)], v, rfl, .inl ⟨0, rfl⟩, look1, ?_⟩)
  refine cons_go (andV_go (var_go (v := .bl true) (by rfl) ?_))
  try dsimp only
  refine notV_go (call1_go (cons_go (var_go (v := .ref ea) (by rfl) (cons_go (tup_go (hts _ _ _ _ ⟨hl, fun t => nil_go ?_⟩))))))
  refine ⟨rfl, C, dd, cs, us, false, [(f, v)], rfl, rfl, hE, .inl ⟨1, rfl⟩, .inl ⟨0, rfl⟩, hp, hk, ?_⟩
  try dsimp only
  refine otb_go (nil_go ⟨show 3 ≤ sizeLine by decide, fun p => h t p⟩)
theorem rfd_post {H F : Hp} {g : Nat × QbG} {E : List (Addr × HO)} {p : Addr} {H' : Hp} (o : Own ⟨H, (p, .lst [.str (qbW g.2.q).1, qbX g.2.rv g.2.sv g.2.q, .bl true]) :: E⟩ H') : (ct_l_refused K a).post g H (.ref p) H' :=
  ⟨⟨p, rfl, (o.gs _ (.head _)).2, (o.gs _ (.head _)).1⟩, fun c u e => o.fr c u e⟩
theorem rfd_if {D : sEnds} {H : Hp} {door : Nat} {tv : V} {b : TR} {rv sv lv : V} {q : QB} (hT : TreeAt K a H tv b) (hq : qbOk K H b rv sv lv q) (k : ∀ r st run, q = .ok r st run → D.nx [some (.int (door : Nat)), some tv, some rv, some sv, some lv, none, none] ⟨H, []⟩)
    (x1 : ∀ t d dd, q = .rule t d → D.ex (.ref a.InvalidRule) (some dd) [some (.int (door : Nat)), some tv, some rv, some sv, some lv, none, none] ⟨H, [(dd, .xd [("rule", rv)])]⟩)
    (x2 : ∀ r t d dd, q = .flags r t d → D.ex (.ref a.InvalidFlags) (some dd) [some (.int (door : Nat)), some tv, some rv, some sv, some lv, none, none] ⟨H, [(dd, .xd [("flags", sv)])]⟩)
    (x3 : ∀ r st i dd, q = .line r st i → D.ex (.ref a.InvalidLine) (some dd) [some (.int (door : Nat)), some tv, some rv, some sv, some lv, none, none] ⟨H, [(dd, .xd [("index", .int i)])]⟩) :
    (sIfS (sTst (sOp (oEq K) (sVar 0) (sC (.int 0)))) (sDrop (sCallD (q_first_wrong_by K a) [] (sCons (sVar 1) (sCons (sVar 2) (sCons (sVar 3) (sCons (sVar 4) (sNil))))))) (sDrop (sCallD (q_flags_by K a) [] (sCons (sVar 1) (sCons (sVar 2) (sCons (sVar 3) (sCons (sVar 4) (sNil)))))))) D [some (.int (door : Nat)), some tv, some rv, some sv, some lv, none, none] ⟨H, []⟩ := by
  have go : ∀ (res : TR → Rl → List Nat → List Ln → V → Hp → Prop), sDrop (sCallD (rC (ct_qb K a res)) [] (sCons (sVar 1) (sCons (sVar 2) (sCons (sVar 3) (sCons (sVar 4) (sNil)))))) D [some (.int (door : Nat)), some tv, some rv, some sv, some lv, none, none] ⟨H, []⟩ := fun res => by
    refine drop_go (calld_go (cons_go (var_go (v := tv) (by rfl) (cons_go (var_go (v := rv) (by rfl) (cons_go (var_go (v := sv) (by rfl) (cons_go (var_go (v := lv) (by rfl) (nil_go ?_))))))))))
    exact use_qbX ⟨tv, b, rv, sv, lv, q⟩ (by rfl) hT hq (fun H2 e => qb_ext hq e) (fun v r st run e => k r st run e) x1 x2 x3
  refine ifT_go (tst_go (op_go (var_go (v := .int (door : Nat)) (by rfl) (c_go (eq_i (c := decide (door = 0)) (decide_eq_decide.mpr (by omega)) ?_)))))
  cases decide (door = 0) with
  | true => exact go (resFw K)
  | false => exact go resFb
theorem vc_l_refused (T : Kit K a) {vs : List V} {H : Hp} (g : Nat × QbG) (h : (ct_l_refused K a).pre g vs H) : ∃ S, Own S H ∧ r_l_refused K a (endsC (ct_l_refused K a) g H) (start N_l_refused vs) S := by
  obtain ⟨door, tv, b, rv, sv, lv, q⟩ := g
  obtain ⟨e0, hT0, hq0⟩ := h
  have e0 : vs = [.int (door : Nat), tv, rv, sv, lv] := e0
  subst e0
  have hT : TreeAt K a H tv b := hT0
  have hq : qbOk K H b rv sv lv q := hq0
  clear hT0 hq0
  refine ⟨⟨H, []⟩, Own.base H, ?_⟩
  refine cut_go (fun σ S => S = ⟨H, []⟩ ∧ ∃ r st run, q = .ok r st run) ?_ ?_
  · refine rfd_if hT hq (fun r st run e => ?_) (fun t d dd e => ?_) (fun r t d dd e => ?_) (fun r st i dd e => ?_)
    · exact ⟨_, SLe.refl _, rfl, r, st, run, e⟩
    · refine ⟨true, T.hrr, fun _ ea => ?_, fun y => nomatch y⟩
      refine suf1 (a := a) T.er T.cr T.vr (suf2 (cs := [.ref a.Refused, .ref a.InvalidFlags, .ref a.InvalidLine]) T.er (fun W σ S Q h => cons_go (c_go (cons_go (c_go (cons_go (c_go (nil_go h))))))) (show 3 ≤ sizeLine by decide) (.cons (.own _) (.cons (.own _) (.cons (.own _) .nil))) T.xr fun t2 p => ?_)
      subst e
      exact fun H' o => rfd_post (F := H) (g := (door, ⟨tv, b, rv, sv, lv, .rule t d⟩)) o
    · refine ⟨false, T.hfr, (fun y => by cases y), fun _ => ?_⟩
      refine ⟨true, T.hff, fun _ ea => ?_, fun y => nomatch y⟩
      refine suf1 (a := a) T.ef T.cf T.vf (suf2 (cs := [.ref a.Refused, .ref a.InvalidLine]) T.ef (fun W σ S Q h => cons_go (c_go (cons_go (c_go (nil_go h))))) (show 2 ≤ sizeLine by decide) (.cons (.own _) (.cons (.own _) .nil)) T.xf fun t2 p => ?_)
      subst e
      exact fun H' o => rfd_post (F := H) (g := (door, ⟨tv, b, rv, sv, lv, .flags r t d⟩)) o
    · refine ⟨false, T.hlr, (fun y => by cases y), fun _ => ?_⟩
      refine ⟨false, T.hlf, (fun y => by cases y), fun _ => ?_⟩
      refine ⟨true, T.hll, fun _ ea => ?_, fun y => nomatch y⟩
      refine suf1 (a := a) T.el T.cl T.vl ?_
      subst e
      refine ret_go (lst_go (cons_go (c_go (cons_go ?_))))
      refine (show sXf ea (.ref a.InvalidLine) (some dd) a.InvalidLine "index" (sVar 5) _ _ _ _ from var_go (v := .ref ea) (by rfl) ⟨rfl, rfl, dd, [("index", .int i)], .int i, rfl, .inl ⟨0, rfl⟩, look1, ?_⟩)
      refine cons_go (andV_go (var_go (v := .bl true) (by rfl) ?_))
      try dsimp only
      refine notV_go (isy_go (by rfl) T.el (.inl ⟨0, rfl⟩) (fun u r => r) T.rl ?_)
      try dsimp only
      refine otb_go (nil_go ⟨show 3 ≤ sizeLine by decide, fun p => ?_⟩)
      exact fun H' o => rfd_post (F := H) (g := (door, ⟨tv, b, rv, sv, lv, .line r st i⟩)) o
  · rintro σ S ⟨rfl, r, st, run, rfl⟩
    refine ret_go (lst_go (cons_go (c_go (cons_go (c_go (cons_go (c_go (nil_go ⟨show 3 ≤ sizeLine by decide, fun p => ?_⟩))))))))
    exact fun H' o => rfd_post (F := H) (g := (door, ⟨tv, b, rv, sv, lv, .ok r st run⟩)) o
theorem use_rfd {W : sWX} {σ : L2.St} {F : Hp} {G : List (Addr × HO)} {Q : V → SH → Prop} {vs : List V} (door : Nat) (g : QbG) (e : vs = [.int (door : Nat), g.tv, g.rv, g.sv, g.lv]) (hT : TreeAt K a F g.tv g.b) (hq : qbOk K F g.b g.rv g.sv g.lv g.q)
    (k : ∀ p, Q (.ref p) ⟨F, (p, .lst [.str (qbW g.q).1, qbX g.rv g.sv g.q, .bl true]) :: G⟩) : rC (ct_l_refused K a) W vs σ ⟨F, G⟩ Q :=
  ⟨(door, g), fun H o => ⟨e, hT.ext (own_F o), qb_ext hq (own_F o)⟩, fun H v H' o q => by
    obtain ⟨⟨p, rfl, h1, h2⟩, h3⟩ := q
    exact ⟨_, o.new h1 h3 h2, k p⟩, fun _ _ _ _ _ q => q.elim⟩
theorem vc_l_both_refused (T : Kit K a) {vs : List V} {H : Hp} (g : QcG) (h : (ct_l_both_refused K a).pre g vs H) : ∃ S, Own S H ∧ r_l_both_refused K a (endsC (ct_l_both_refused K a) g H) (start N_l_both_refused vs) S := by
  obtain ⟨tv, b, rv, ov, q⟩ := g
  obtain ⟨e0, hT0, hq0⟩ := h
  have e0 : vs = [tv, rv, ov] := e0
  subst e0
  have hT : TreeAt K a H tv b := hT0
  have hq : qcOk K H rv ov q := hq0
  clear hT0 hq0
  refine ⟨⟨H, []⟩, Own.base H, ?_⟩
  refine cut_go (fun σ S => S = ⟨H, []⟩ ∧ ∃ r o, q = .ok r o) ?_ ?_
  · refine drop_go (calld_go (cons_go (var_go (v := tv) (by rfl) (cons_go (var_go (v := rv) (by rfl) (cons_go (var_go (v := ov) (by rfl) (nil_go ?_))))))))
    refine ⟨⟨tv, b, rv, ov, q⟩, fun H2 o => ⟨by rfl, hT.ext (own_F o), ?_⟩, fun H2 v H' o q2 => ?_, fun H2 c d H' o ex => ?_⟩
    · cases q with
      | ok r o => exact hq
      | one t d => exact ⟨hq.1.ex (own_F o), hq.2.1, dp_ext (own_F o) _ _ hq.2.2⟩
      | two r t d => exact ⟨hq.1, hq.2.1.ex (own_F o), hq.2.2.1, dp_ext (own_F o) _ _ hq.2.2.2⟩
    · obtain ⟨⟨r, o2, e2, _⟩, q3⟩ := q2
      exact ⟨_, o.ex q3, ⟨_, SLe.refl _, rfl, r, o2, e2⟩⟩
    · have key : ∀ (v : V), qcX rv ov q = [v, .bl true] → Exn1 H2 c d H' a.InvalidRule "rule" v → ∃ S', Own S' H' ∧ (∃ b_1, PySem.W.exmOne K c (.ref a.InvalidRule) = some b_1 ∧ (b_1 = true → ∀ ea, sRet (sLst (sCons (sXf ea c d a.InvalidRule ("rule" : Str) (sVar 3)) (sCons (sAndV (sCall1 (nIsY K ea c d) (sCons (sVar 3) (sCons (sC (.ref a.CacheError)) (sNil)))) (sNotV K (sCall1 (nIsY K ea c d) (sCons (sVar 3) (sCons (sC (.ref a.Refused)) (sNil)))))) (sNil)))) { nx := fun σ2 S2 => Wk ((fun (_ : L2.St) (S : SH) => S = ⟨H, []⟩ ∧ ∃ r o, q = QC.ok r o) (σ2.set 3 none)) S2, rt := (endsC (ct_l_both_refused K a) ⟨tv, b, rv, ov, q⟩ H).rt, bk := fun σ2 S2 => (endsC (ct_l_both_refused K a) ⟨tv, b, rv, ov, q⟩ H).bk (σ2.set 3 none) S2, ct := fun σ2 S2 => (endsC (ct_l_both_refused K a) ⟨tv, b, rv, ov, q⟩ H).ct (σ2.set 3 none) S2, ex := noW } [some tv, some rv, some ov, some (.ref ea)] S') ∧ (b_1 = false → (endsC (ct_l_both_refused K a) ⟨tv, b, rv, ov, q⟩ H).ex c d [some tv, some rv, some ov, none] S')) := fun v hw ex => by
        obtain ⟨rfl, dd, rfl, q1, q2, q3⟩ := ex
        refine ⟨_, o.new q1 q2 q3, true, T.hrr, fun _ ea => ?_, fun y => nomatch y⟩
        refine ret_go (lst_go (cons_go ?_))
        refine (show sXf ea (.ref a.InvalidRule) (some dd) a.InvalidRule "rule" (sVar 3) _ _ _ _ from var_go (v := .ref ea) (by rfl) ⟨rfl, rfl, dd, [("rule", v)], v, rfl, .inl ⟨0, rfl⟩, look1, ?_⟩)
        refine cons_go (andV_go (call1_go (cons_go (var_go (v := .ref ea) (by rfl) (cons_go (c_go (nil_go ⟨rfl, a.InvalidRule, dd, _, true, _, rfl, rfl, T.er, .inl ⟨0, rfl⟩, fun u r => r, T.cr, ?_⟩)))))))
        try dsimp only
        refine notV_go (call1_go (cons_go (var_go (v := .ref ea) (by rfl) (cons_go (c_go (nil_go ⟨rfl, a.InvalidRule, dd, _, false, _, rfl, rfl, T.er, .inl ⟨0, rfl⟩, fun u r => r, T.rr, ?_⟩))))))
        try dsimp only
        refine otb_go (nil_go ⟨show 2 ≤ sizeLine by decide, fun p => ?_⟩)
        refine fun H3 o3 => ⟨⟨p, rfl, (o3.gs _ (.head _)).2, ?_⟩, fun c u e => o3.fr c u e⟩
        show H3 p = some (.lst (qcX rv ov q))
        rw [hw]
        exact own_g o3 (.head _)
      cases q with
      | ok r o => exact ex.elim
      | one t dv => exact key rv rfl ex
      | two r t dv => exact key ov rfl ex
  · rintro σ S ⟨rfl, r, o, rfl⟩
    refine ret_go (lst_go (nil_go ⟨Nat.zero_le _, fun p H' o' => ⟨⟨p, rfl, (o'.gs _ (.head _)).2, own_g o' (.head _)⟩, fun c u e => o'.fr c u e⟩⟩))
theorem use_both {W : sWX} {σ : L2.St} {F : Hp} {G : List (Addr × HO)} {Q : V → SH → Prop} {vs : List V} (g : QcG) (e : vs = [g.tv, g.rv, g.ov]) (hT : TreeAt K a F g.tv g.b) (hq : qcOk K F g.rv g.ov g.q)
    (k : ∀ p, Q (.ref p) ⟨F, (p, .lst (qcX g.rv g.ov g.q)) :: G⟩) : rC (ct_l_both_refused K a) W vs σ ⟨F, G⟩ Q :=
  ⟨g, fun H o => ⟨e, hT.ext (own_F o), by
    obtain ⟨tv, b, rv, ov, q⟩ := g
    cases q with
    | ok r o => exact hq
    | one t d => exact ⟨hq.1.ex (own_F o), hq.2.1, dp_ext (own_F o) _ _ hq.2.2⟩
    | two r t d => exact ⟨hq.1, hq.2.1.ex (own_F o), hq.2.2.1, dp_ext (own_F o) _ _ hq.2.2.2⟩⟩, fun H v H' o q => by
    obtain ⟨⟨p, rfl, h1, h2⟩, h3⟩ := q
    exact ⟨_, o.new h1 h3 h2, k p⟩, fun _ _ _ _ _ q => q.elim⟩
end
section
variable {K : PySem.W.Frag} {a : Ads}
open TR
theorem sub_goB {F : Hp} {E B : List (Addr × HO)} {D : Addr} {acc : List V} {v : V} {j : Nat} {σ : L2.St} {Q : L2.St → SH → Prop} (hj : j < acc.length) (h : Q σ ⟨F, (E ++ (D, .lst (acc.set j v)) :: []) ++ B⟩) :
    ∃ n xs j', (SH.mk F ((E ++ (D, .lst acc) :: []) ++ B)).G[n]? = some (D, .lst xs) ∧ ixN xs.length (j : Int) = some j' ∧ Q σ (SH.put ⟨F, (E ++ (D, .lst acc) :: []) ++ B⟩ n D (.lst (xs.set j' v))) := by
  have e : ∀ o : HO, (E ++ (D, o) :: []) ++ B = E ++ (D, o) :: B := fun o => by simp
  rw [e] at h
  rw [e]
  exact sub_go hj h
theorem odd_ty {F : Hp} {v : V} (h : OddD K F v) : ∃ t, t ≠ TY.bool ∧ Ty0 K F v t := by
  obtain ⟨t, d, h1, h2, _⟩ := h
  exact ⟨t, h2, h1⟩
theorem isi_up {F : Hp} {G : List (Addr × HO)} {p : Addr} {t : TY} (h : isiTy K (.ref p) ⟨F, []⟩ t) : isiTy K (.ref p) ⟨F, G⟩ t := by
  rcases h with ⟨e, xs, h⟩ | ⟨e, xs, h⟩ | ⟨e, h⟩
  · refine .inl ⟨e, xs, ?_⟩
    rcases h with ⟨i, z⟩ | h
    · cases z
    · exact .inr h
  · refine .inr (.inl ⟨e, xs, ?_⟩)
    rcases h with ⟨i, z⟩ | h
    · cases z
    · exact .inr h
  · refine .inr (.inr ⟨e, ?_⟩)
    rcases h with ⟨k, h⟩ | ⟨k, h⟩
    · refine .inl ⟨k, ?_⟩
      rcases h with ⟨i, z⟩ | h
      · cases z
      · exact .inr h
    · refine .inr ⟨k, ?_⟩
      rcases h with ⟨i, z⟩ | h
      · cases z
      · exact .inr h
theorem ty_nb {t : TY} (h : t ≠ .bool) : TY.sub t .bool = false := by cases t <;> first | rfl | exact absurd rfl h
/-- isinstance(x, bool) of a thing that is none -/
theorem isb_go {te : sE} {W : sWX} {σ : L2.St} {S S' : SH} {Q : V → SH → Prop} {x : V} (h : OddD K S'.F x) (he : ∀ Q : V → SH → Prop, Q x S' → te W σ S Q) (k : Q (.bl false) S') : sIsi K .bool te W σ S Q := by
  obtain ⟨t, h1, h2⟩ := odd_ty h
  refine he _ ?_
  obtain ⟨F, G⟩ := S'
  cases x with
  | non => exact k
  | bl b => exact absurd (show t = .bool from h2) h1
  | int i => exact k
  | str s => exact k
  | ref p =>
    refine ⟨t, isi_up h2, ?_⟩
    rw [ty_nb h1]
    exact k
  | byt b => exact h2.elim
  | flt b => exact h2.elim
  | ty b => exact h2.elim
theorem wd_ok (q : QB) : PyData.strOk (qbW q).1 = true := by
  cases q with
  | ok r st run => exact (by decide +kernel : PyData.strOk ("let" : Str) = true)
  | rule t d => exact (by decide +kernel : PyData.strOk ("rule" : Str) = true)
  | flags r t d => exact (by decide +kernel : PyData.strOk ("flags" : Str) = true)
  | line r st i => exact (by decide +kernel : PyData.strOk ("run" : Str) = true)
theorem odd_int {F : Hp} {i : Int} : OddD K F (.int i) := ⟨.int, .int i, rfl, (fun z => nomatch z), .int i, rfl, Nat.zero_le _⟩
theorem odd_non {F : Hp} : OddD K F .non := ⟨.non, .none, rfl, (fun z => nomatch z), .non, rfl, Nat.zero_le _⟩
theorem three_shp {w : Str} {d : PyData} (hw : PyData.strOk w = true) (h : PyData.canLay0 d = true ∧ PyData.depth d ≤ 5) : SeqAt.shaped (.list [.str w, d, .bool true]) = true := (shaped_all fun x hx => by
  rcases List.mem_cons.mp hx with rfl | hx
  · exact ⟨hw, Nat.zero_le _⟩
  rcases List.mem_cons.mp hx with rfl | hx
  · exact h
  rw [List.mem_singleton.mp hx]
  exact ⟨rfl, Nat.zero_le _⟩).2
theorem lists_sx (b : Addr) (y : Sx) : Lists (SK.bg b y) := lists_one
abbrev dst (b : Addr) (tv : V) (bt : TR) (r : Rl) (st : List Nat) (rv : V) (p6 p7 : Addr) (w : Nat) (pb : Addr) (x10 x11 : Option V) : L2.St :=
  [some (.ref b), some tv, some (.int (nS bt : Nat)), some (.str (rlS r)), some (.str (pS st)), some rv, some (.ref p6), some (.ref p7), some (.int (w : Nat)), some (.ref pb), x10, x11, none, none]
structure DoS (K : PySem.W.Frag) (F : Hp) (bt : TR) (p7 : Addr) (D : List (Addr × HO)) (rv sv lv : V) (q : QB) : Prop where
  m : (p7, HO.lst [.str (qbW q).1, qbX rv sv q, .bl true]) ∈ D
  ls : Lists D
  ok : qbOk K F bt rv sv lv q
  od : OddD K F (qbX rv sv q)
theorem DoS.ext {F F2 : Hp} {bt : TR} {p7 : Addr} {D : List (Addr × HO)} {rv sv lv : V} {q : QB} (h : DoS K F bt p7 D rv sv lv q) (e : Ext F F2) : DoS K F2 bt p7 D rv sv lv q := ⟨h.m, h.ls, qb_ext h.ok e, h.od.ext e⟩
def r_doors3 (K : PySem.W.Frag) (a : Ads) : sS := sSeq (sFor (siR1 (sCons (sC (.int 2)) (sNil))) (sgName 12) (sSeq (sSet (sCallD (q_l_refused K a) [] (sCons (sVar 12) (sCons (sVar 1) (sCons (sOp (oIx K) (sVar 6) (sC (.int 0))) (sCons (sOp (oIx K) (sVar 6) (sC (.int 1))) (sCons (sOp (oIx K) (sVar 6) (sC (.int 2))) (sNil))))))) 13) (sIfS (sOr (sTst (sOp (oNe K) (sVar 13) (sVar 7))) (sTru K (sIsi K .bool (sOp (oIx K) (sVar 13) (sC (.int 1)))))) (sRet (sC (.bl false))) (sNext)))) (sRet (sC (.bl true)))
theorem doors3 {g : DoG} {H F : Hp} {b : Addr} {x y : Sx} {tv : V} {bt : TR} {r : Rl} {st : List Nat} {rn : V} {p6 p7 pb : Addr} {w : Nat} {x10 x11 : Option V} {D : List (Addr × HO)} {rv sv lv : V} {q : QB} (eX : Ext (woL H (SK.bg b x)) F) (hT : TreeAt K a F tv bt) (h : DoS K F bt p7 D rv sv lv q) :
    r_doors3 K a (endsC (ct_l_doors_right K a) (b, x, g) H) (dst b tv bt r st rn p6 p7 w pb x10 x11) ⟨F, (D ++ (p6, .lst [rv, sv, lv]) :: []) ++ SK.bg b y⟩ := by
  obtain ⟨t, d, ht, hnb, hd, hc, hdp⟩ := h.od
  refine seq_go ⟨by unfold rngOk; decide, ?_⟩
  refine ⟨fun i σ S => ∃ (E : List (Addr × HO)) (x12 x13 : Option V), (p6, HO.lst [rv, sv, lv]) ∈ E ∧ (p7, HO.lst [.str (qbW q).1, qbX rv sv q, .bl true]) ∈ E ∧ σ = [some (.ref b), some tv, some (.int (nS bt : Nat)), some (.str (rlS r)), some (.str (pS st)), some rn, some (.ref p6), some (.ref p7), some (.int (w : Nat)), some (.ref pb), x10, x11, x12, x13] ∧ S = ⟨F, E ++ SK.bg b y⟩,
    ⟨_, none, none, List.mem_append_right _ (.head _), List.mem_append_left _ h.m, rfl, rfl⟩, fun _ _ _ _ _ => trivial, ?_, ?_⟩
  · rintro i σ S hi ⟨E, x12, x13, m6, m7, rfl, rfl⟩
    refine yldR_go (nm_go ?_)
    try dsimp only
    rw [show (0 : Int) + (i : Nat) = ((i : Nat) : Int) by omega]
    have ix : ∀ (j : Nat) (v : V) (Q : V → SH → Prop), ([rv, sv, lv] : List V)[j]? = some v → Q v ⟨F, E ++ SK.bg b y⟩ → oIx K (.ref p6) (.int (j : Nat)) ⟨F, E ++ SK.bg b y⟩ Q := fun j v Q hv hq => ⟨_, v, .inl (sL_mem (List.mem_append_left _ m6)), atI_at hv, hq⟩
    refine seq_go (set_go (calld_go (cons_go (var_go (v := .int (i : Nat)) (by rfl) (cons_go (var_go (v := tv) (by rfl) (cons_go (op_go (var_go (v := .ref p6) (by rfl) (c_go (ix 0 rv _ rfl (cons_go (op_go (var_go (v := .ref p6) (by rfl) (c_go (ix 1 sv _ rfl (cons_go (op_go (var_go (v := .ref p6) (by rfl) (c_go (ix 2 lv _ rfl (nil_go ?_))))))))))))))))))))))
    refine use_rfd i ⟨tv, bt, rv, sv, lv, q⟩ (by rfl) hT h.ok fun p => ?_
    try dsimp only
    refine ifT_go (or_go (tst_go (op_go (var_go (v := .ref p) (by rfl) (var_go (v := .ref p7) (by rfl) ?_)))))
    refine ne_same (d := .list [.str (qbW q).1, d, .bool true]) rfl (fun H' o => .lst (.inl (.inl (own_g o (.head _)))) (.cons (.str _) (.cons (dp_ext (own_F o) _ _ hd) (.cons (.bl true) .nil)))) (fun H' o => .lst (.inl (.inl (own_g o (.tail _ (List.mem_append_left _ m7))))) (.cons (.str _) (.cons (dp_ext (own_F o) _ _ hd) (.cons (.bl true) .nil)))) (three_shp (wd_ok q) ⟨hc, hdp⟩) ?_
    try dsimp only
    refine tru_go (isb_go (S' := ⟨F, (p, .lst [.str (qbW q).1, qbX rv sv q, .bl true]) :: (E ++ SK.bg b y)⟩) h.od (fun Q hq => op_go (var_go (v := .ref p) (by rfl) (c_go ⟨_, qbX rv sv q, .inl (.inl ⟨0, rfl⟩), atI_at (i := 1) rfl, hq⟩))) ?_)
    try dsimp only
    refine otb_go ?_
    refine nx_go ⟨_, SLe.refl _, (p, .lst [.str (qbW q).1, qbX rv sv q, .bl true]) :: E, some (.int (i : Nat)), some (.ref p), .tail _ m6, .tail _ m7, rfl, rfl⟩
  · rintro σ S ⟨E, x12, x13, m6, m7, rfl, rfl⟩
    try dsimp only
    refine ret_go (c_go ?_)
    exact fun H' o' => end_sk (E := E) (y := y) eX o' fun H2 o2 => rfl
theorem vc_l_doors_right {vs : List V} {H : Hp} (g : Addr × Sx × DoG) (h : (ct_l_doors_right K a).pre g vs H) : ∃ S, Own S H ∧ r_l_doors_right K a (endsC (ct_l_doors_right K a) g H) (start N_l_doors_right vs) S := by
  refine body_lbox g h fun b x gg F eg eF hinv hok e => ?_
  obtain ⟨tv, bt, r, st, rn, run⟩ := gg
  subst eg
  have e : vs = [.ref b, tv, .int (nS bt : Nat), .str (rlS r), .str (pS st), rn] := e
  subst e
  obtain ⟨hT, hl, hf, hR, hlr⟩ := (show TreeAt K a F tv bt ∧ st.length + 1 = nS bt ∧ flgOk st ∧ RunG K F bt rn run ∧ run.length ≤ 60 from hok)
  have hsm := hT.sm
  have eX : Ext (woL H (SK.bg b x)) F := by rw [← eF]; exact Ext.refl _
  refine seq_go (set_go (lst_go (cons_go (var_go (v := .str (rlS r)) (by rfl) (cons_go (var_go (v := .str (pS st)) (by rfl) (cons_go (var_go (v := rn) (by rfl) (nil_go ⟨show 3 ≤ sizeLine by decide, fun p6 => ?_⟩)))))))))
  try dsimp only
  refine seq_go (set_go (lst_go (cons_go (c_go (cons_go (c_go (cons_go (c_go (nil_go ⟨show 3 ≤ sizeLine by decide, fun p7 => ?_⟩)))))))))
  try dsimp only
  refine seq_go (set_go (calld_go (cons_go (var_go (v := .ref b) (by rfl) (cons_go (c_go (nil_go ?_)))))))
  refine use_take (E := [(p7, .lst [.str "let", .non, .bl true])] ++ (p6, .lst [.str (rlS r), .str (pS st), rn]) :: []) 8 (by rfl) (by decide) fun y w hw => ?_
  try dsimp only
  have h0 : DoS K F bt p7 [(p7, .lst [.str "let", .non, .bl true])] (.str (rlS r)) (.str (pS st)) rn (.ok r st run) := ⟨.head _, lists_one, ⟨rfl, rfl, hl, hf, hR, by omega⟩, odd_non⟩
  refine seq_go (set_go (calld_go (cons_go (var_go (v := .ref b) (by rfl) (cons_go (var_go (v := rn) (by rfl) (cons_go (var_go (v := .int (nS bt : Nat)) (by rfl) (nil_go ?_)))))))))
  refine use_brun rn run bt (by rfl) hR (by omega) hsm (lists_app h0.ls lists_one) fun y F2 pb u i e2 hpb hub => ?_
  try dsimp only
  have h0 := h0.ext e2
  have hT2 := hT.ext e2
  refine cut_go (fun σ S => ∃ (p7 : Addr) (D : List (Addr × HO)) (lv : V) (q : QB), DoS K F2 bt p7 D (.str (rlS r)) (.str (pS st)) lv q ∧ σ = dst b tv bt r st rn p6 p7 w pb none none ∧ S = ⟨F2, (D ++ (p6, .lst [.str (rlS r), .str (pS st), lv]) :: []) ++ SK.bg b y⟩) ?_ ?_
  · refine ifT_go (tst_go (op_go (op_go (var_go (v := .int (w : Nat)) (by rfl) (c_go (fwd_i (by decide) (c_go (eq_i (c := decide ((w : Int) / 4 = 1)) rfl ?_))))))))
    cases decide ((w : Int) / 4 = 1) with
    | false => exact nx_go ⟨_, SLe.refl _, p7, _, rn, _, h0, rfl, rfl⟩
    | true =>
      refine seq_go (asg_go (op_go (var_go (v := .ref pb) (by rfl) (c_go ⟨_, u, .inr (.inr hpb), atI_at (i := 0) rfl, ?_⟩))))
      try dsimp only
      refine var_go (v := .ref p6) (by rfl) (c_go (sub_goB (E := [(p7, .lst [.str "let", .non, .bl true])]) (j := 2) (show 2 < 3 by decide) ?_))
      try dsimp only
      refine set_go (lst_go (cons_go (c_go (cons_go (op_go (var_go (v := .ref pb) (by rfl) (c_go ⟨_, .int i, .inr (.inr hpb), atI_at (i := 1) rfl, cons_go (c_go (nil_go ⟨show 3 ≤ sizeLine by decide, fun p9 => ?_⟩))⟩)))))))
      exact ⟨_, SLe.refl _, p9, (p9, .lst [.str "run", .int i, .bl true]) :: [(p7, .lst [.str "let", .non, .bl true])], u, .line r st i, ⟨.head _, lists_cons h0.ls, ⟨rfl, rfl, hl, hf, hub⟩, odd_int⟩, rfl, rfl⟩
  rintro σ S ⟨p7, D, lv, q, h1, rfl, rfl⟩
  refine seq_go (set_go (calld_go (cons_go (var_go (v := .ref b) (by rfl) (cons_go (var_go (v := .str (pS st)) (by rfl) (nil_go ?_)))))))
  refine use_bflags bt st (by rfl) ⟨hl, hsm, hf⟩ (lists_app h1.ls lists_one) fun y F3 wv e3 ho hso hfo => ?_
  try dsimp only
  have h1 := h1.ext e3
  have hT3 := hT2.ext e3
  refine cut_go (fun σ S => ∃ (p7 : Addr) (D : List (Addr × HO)) (sv lv : V) (q : QB), DoS K F3 bt p7 D (.str (rlS r)) sv lv q ∧ σ = dst b tv bt r st rn p6 p7 w pb (some wv) none ∧ S = ⟨F3, (D ++ (p6, .lst [.str (rlS r), sv, lv]) :: []) ++ SK.bg b y⟩) ?_ ?_
  · refine ifT_go (tst_go (op_go (op_go (call1_go (cons_go (op_go (var_go (v := .int (w : Nat)) (by rfl) (c_go (fwd_i (by decide) (nil_go (int_i (c_go (mod_i (by decide) (c_go (eq_i (c := decide ((w : Int) / 2 % 2 = 1)) rfl ?_)))))))))))))))
    cases decide ((w : Int) / 2 % 2 = 1) with
    | false => exact nx_go ⟨_, SLe.refl _, p7, D, _, lv, q, h1, rfl, rfl⟩
    | true =>
      refine seq_go (asg_go (var_go (v := wv) (by rfl) ?_))
      try dsimp only
      refine var_go (v := .ref p6) (by rfl) (c_go (sub_goB (E := D) (j := 1) (show 1 < 3 by decide) ?_))
      try dsimp only
      refine set_go (lst_go (cons_go (c_go (cons_go (var_go (v := wv) (by rfl) (cons_go (c_go (nil_go ⟨show 3 ≤ sizeLine by decide, fun p9 => ?_⟩))))))))
      obtain ⟨t, d, ht, hnb, hd, _⟩ := id ho
      exact ⟨_, SLe.refl _, p9, (p9, .lst [.str "flags", wv, .bl true]) :: D, wv, lv, .flags r t d, ⟨.head _, lists_cons h1.ls, ⟨rfl, ht, hso, hfo, hd⟩, ho⟩, rfl, rfl⟩
  rintro σ S ⟨p7, D, sv, lv, q, h2, rfl, rfl⟩
  refine seq_go (set_go (calld_go (cons_go (var_go (v := .ref b) (by rfl) (cons_go (var_go (v := .str (rlS r)) (by rfl) (nil_go ?_)))))))
  refine use_brule r (by rfl) (lists_app h2.ls lists_one) fun y F4 wr e4 ho2 hro => ?_
  try dsimp only
  have h2 := h2.ext e4
  have hT4 := hT3.ext e4
  refine cut_go (fun σ S => ∃ (p7 : Addr) (D : List (Addr × HO)) (rv sv lv : V) (q : QB), DoS K F4 bt p7 D rv sv lv q ∧ σ = dst b tv bt r st rn p6 p7 w pb (some wv) (some wr) ∧ S = ⟨F4, (D ++ (p6, .lst [rv, sv, lv]) :: []) ++ SK.bg b y⟩) ?_ ?_
  · refine ifT_go (tst_go (op_go (op_go (call1_go (cons_go (var_go (v := .int (w : Nat)) (by rfl) (nil_go (int_i (c_go (mod_i (by decide) (c_go (eq_i (c := decide ((w : Int) % 2 = 1)) rfl ?_))))))))))))
    cases decide ((w : Int) % 2 = 1) with
    | false => exact nx_go ⟨_, SLe.refl _, p7, D, _, sv, lv, q, h2, rfl, rfl⟩
    | true =>
      refine seq_go (asg_go (var_go (v := wr) (by rfl) ?_))
      try dsimp only
      refine var_go (v := .ref p6) (by rfl) (c_go (sub_goB (E := D) (j := 0) (show 0 < 3 by decide) ?_))
      try dsimp only
      refine set_go (lst_go (cons_go (c_go (cons_go (var_go (v := wr) (by rfl) (cons_go (c_go (nil_go ⟨show 3 ≤ sizeLine by decide, fun p9 => ?_⟩))))))))
      obtain ⟨t, d, ht, hnb, hd, _⟩ := id ho2
      exact ⟨_, SLe.refl _, p9, (p9, .lst [.str "rule", wr, .bl true]) :: D, wr, sv, lv, .rule t d, ⟨.head _, lists_cons h2.ls, ⟨ht, hro, hd⟩, ho2⟩, rfl, rfl⟩
  rintro σ S ⟨p7, D, rv, sv, lv, q, h3, rfl, rfl⟩
  exact doors3 (((eX.trans e2).trans e3).trans e4) hT4 h3
theorem two_shp {d : PyData} (h : PyData.canLay0 d = true ∧ PyData.depth d ≤ 5) : SeqAt.shaped (.list [d, .bool true]) = true := (shaped_all fun x hx => by
  rcases List.mem_cons.mp hx with rfl | hx
  · exact h
  rw [List.mem_singleton.mp hx]
  exact ⟨rfl, Nat.zero_le _⟩).2
theorem two_same {F : Hp} {G : List (Addr × HO)} {p q : Addr} {x : V} {d : PyData} (hd : Dp K F x d) (m1 : (p, HO.lst [x, .bl true]) ∈ G) : sD K ⟨F, G⟩ (.ref p) (.list [d, .bool true]) := fun H o => .lst (.inl (.inl (own_g o m1))) (.cons (dp_ext (own_F o) _ _ hd) (.cons (.bl true) .nil))
theorem vc_l_pairs_right {vs : List V} {H : Hp} (g : Addr × Sx × V × TR × Rl × Rl) (h : (ct_l_pairs_right K a).pre g vs H) : ∃ S, Own S H ∧ r_l_pairs_right K a (endsC (ct_l_pairs_right K a) g H) (start N_l_pairs_right vs) S := by
  refine body_lbox g h fun b x gg F eg eF hinv hok e => ?_
  obtain ⟨tv, bt, r, o⟩ := gg
  subst eg
  have e : vs = [.ref b, tv, .str (rlS r), .str (rlS o)] := e
  subst e
  have hT : TreeAt K a F tv bt := hok
  have eX : Ext (woL H (SK.bg b x)) F := by rw [← eF]; exact Ext.refl _
  refine seq_go (set_go (calld_go (cons_go (var_go (v := .ref b) (by rfl) (cons_go (var_go (v := .str (rlS r)) (by rfl) (nil_go ?_)))))))
  refine use_brule (E := []) r (by rfl) lists_nil fun y F2 v4 e2 h4 r4 => ?_
  try dsimp only
  refine seq_go (set_go (calld_go (cons_go (var_go (v := .ref b) (by rfl) (cons_go (var_go (v := .str (rlS o)) (by rfl) (nil_go ?_)))))))
  refine use_brule (E := []) o (by rfl) lists_nil fun y F3 v5 e3 h5 r5 => ?_
  have h4 := h4.ext e3
  have hT := (hT.ext e2).ext e3
  have eX := (eX.trans e2).trans e3
  clear e2 e3 eF hok
  obtain ⟨t4, d4, a4, _, b4, c4⟩ := h4
  obtain ⟨t5, d5, a5, _, b5, c5⟩ := h5
  try dsimp only
  refine seq_go (ifT_go (tst_go (op_go (calld_go (cons_go (var_go (v := tv) (by rfl) (cons_go (var_go (v := v4) (by rfl) (cons_go (var_go (v := .str (rlS o)) (by rfl) (nil_go ?_)))))))))))
  refine use_both ⟨tv, bt, v4, .str (rlS o), .one t4 d4⟩ (by rfl) hT ⟨a4, r4, b4⟩ fun p1 => ?_
  try dsimp only
  refine lst_go (cons_go (var_go (v := v4) (by rfl) (cons_go (c_go (nil_go ⟨show 2 ≤ sizeLine by decide, fun q1 => ?_⟩)))))
  try dsimp only
  refine ne_same (d := .list [d4, .bool true]) rfl (two_same (q := q1) b4 (.tail _ (.head _))) (two_same (q := q1) b4 (.head _)) (two_shp c4) ?_
  refine nx_go ?_
  try dsimp only
  refine seq_go (ifT_go (tst_go (op_go (calld_go (cons_go (var_go (v := tv) (by rfl) (cons_go (var_go (v := .str (rlS r)) (by rfl) (cons_go (var_go (v := v5) (by rfl) (nil_go ?_)))))))))))
  refine use_both ⟨tv, bt, .str (rlS r), v5, .two r t5 d5⟩ (by rfl) hT ⟨rfl, a5, r5, b5⟩ fun p2 => ?_
  try dsimp only
  refine lst_go (cons_go (var_go (v := v5) (by rfl) (cons_go (c_go (nil_go ⟨show 2 ≤ sizeLine by decide, fun q2 => ?_⟩)))))
  try dsimp only
  refine ne_same (d := .list [d5, .bool true]) rfl (two_same (q := q1) b5 (.tail _ (.head _))) (two_same (q := q1) b5 (.head _)) (two_shp c5) ?_
  refine nx_go ?_
  try dsimp only
  refine ret_go (andV_go (op_go (calld_go (cons_go (var_go (v := tv) (by rfl) (cons_go (var_go (v := v4) (by rfl) (cons_go (var_go (v := v5) (by rfl) (nil_go ?_))))))))))
  refine use_both ⟨tv, bt, v4, v5, .one t4 d4⟩ (by rfl) hT ⟨a4, r4, b4⟩ fun p3 => ?_
  try dsimp only
  refine lst_go (cons_go (var_go (v := v4) (by rfl) (cons_go (c_go (nil_go ⟨show 2 ≤ sizeLine by decide, fun q3 => ?_⟩)))))
  try dsimp only
  refine eq_same (d := .list [d4, .bool true]) rfl (two_same (q := q1) b4 (.tail _ (.head _))) (two_same (q := q1) b4 (.head _)) (two_shp c4) ?_
  try dsimp only
  refine op_go (calld_go (cons_go (var_go (v := tv) (by rfl) (cons_go (var_go (v := .str (rlS r)) (by rfl) (cons_go (var_go (v := .str (rlS o)) (by rfl) (nil_go ?_))))))))
  refine use_both ⟨tv, bt, .str (rlS r), .str (rlS o), .ok r o⟩ (by rfl) hT ⟨rfl, rfl⟩ fun p4 => ?_
  try dsimp only
  refine lst_go (nil_go ⟨Nat.zero_le _, fun q4 => ?_⟩)
  try dsimp only
  refine eq_same (d := .list []) rfl (fun H' o => .lst (.inl (.inl (own_g o (.tail _ (.head _))))) .nil) (fun H' o => .lst (.inl (.inl (own_g o (.head _)))) .nil) (by decide +kernel) ?_
  intro H' o'
  refine end_sk (E := [(q4, .lst []), (p4, .lst []), (q3, .lst [v4, .bl true]), (p3, .lst [v4, .bl true]), (q2, .lst [v5, .bl true]), (p2, .lst [v5, .bl true]), (q1, .lst [v4, .bl true]), (p1, .lst [v4, .bl true])]) (y := y) eX o' fun H2 o2 => rfl
theorem use_pure {α : Type} {args : α → List V} {ok : α → Hp → Prop} {W : sWX} {vs : List V} {σ : L2.St} {F : Hp} {E : List (Addr × HO)} {b : Addr} {x : Sx} {Q : V → SH → Prop} (g : α) (e : vs = .ref b :: args g) (hg : ∀ H, Ext F H → ok g H) (k : ∀ y, Q (.bl true) ⟨F, E ++ SK.bg b y⟩) : rC (ct_lbox SK args (fun _ _ v _ => v = .bl true) ok) W vs σ ⟨F, E ++ SK.bg b x⟩ Q := by
  refine use_lbox (B := SK) g e trivial (fun H o => hg H (own_F o)) fun y H1 v H2 hy o1 o2 ex hres => ?_
  have hres : v = .bl true := hres
  subst hres
  exact ⟨F, E, o2, k y⟩
end
section
variable {K : PySem.W.Frag} {a : Ads}
open TR
theorem mk_go {W : sWX} {σ : L2.St} {F : Hp} {G : List (Addr × HO)} {Q : V → SH → Prop} {ta : sE} {bt : TR} (hl : Lists G) (hsm : nS bt ≤ 64) (he : ∀ Q : V → SH → Prop, Q (.str (tS bt)) ⟨F, G⟩ → ta W σ ⟨F, G⟩ Q) (k : ∀ F2 x, Ext F F2 → TreeAt K a F2 (.ref x) bt → Q (.ref x) ⟨F2, G⟩) : sMakO a.Tree (q_Tree_init K a) (sCons ta (sNil)) W σ ⟨F, G⟩ Q := by
  refine cons_go (he _ (nil_go fun x dx => ?_))
  refine ⟨(x, dx, bt), fun H1 o => ⟨rfl, (o.gs _ (.head _)).1, hsm⟩, fun H1 v H' o q => ?_, fun _ _ _ _ _ q => q.elim⟩
  obtain ⟨q1, q2, q3⟩ := q
  have o1 : Own ⟨F, G⟩ (without H1 x) := by
    have nd : (x :: dx :: G.map Prod.fst).Nodup := o.nd
    have nx : ∀ q ∈ G, q.1 ≠ x := fun q hq e => (List.nodup_cons.mp nd).1 (.tail _ (by rw [← e]; exact List.mem_map.mpr ⟨q, hq, rfl⟩))
    have fx : F x = none := (o.gs (x, .ins a.Tree dx []) (.head _)).2
    refine ⟨fun c u e => ?_, fun q hq => ?_, (List.nodup_cons.mp (List.nodup_cons.mp nd).2).2⟩
    · have ne : c ≠ x := fun z => by
        have e : F c = some u := e
        rw [z, fx] at e
        cases e
      rw [without_ne ne]
      exact o.fr c u e
    · rw [without_ne (nx q hq)]
      exact o.gs q (.tail _ (.tail _ hq))
  have e1 : Ext (without H1 x) H' := fun c u e => by
    have ne : c ≠ x := fun z => by
      rw [z, without_same] at e
      cases e
    rw [without_ne ne] at e
    exact q3 c u ne e
  obtain ⟨o2, e2, k2⟩ := own_hid o1 e1 hl
  refine ⟨_, o2, q1, k _ x e2 ?_⟩
  exact TreeAt.low q2 k2
theorem use_flagsL {W : sWX} {vs : List V} {σ : L2.St} {F : Hp} {E : List (Addr × HO)} {b : Addr} {x : Sx} {Q : V → SH → Prop} (n : Nat) (e : vs = [.ref b, .int (n : Nat)]) (hn : 1 ≤ n ∧ n ≤ 64) (k : ∀ y st, st.length + 1 = n → flgOk st → Q (.str (pS st)) ⟨F, E ++ SK.bg b y⟩) : rC (ct_l_flags K) W vs σ ⟨F, E ++ SK.bg b x⟩ Q := by
  refine use_lbox (B := SK) n e trivial (fun _ _ => hn) fun y H1 v H2 hy o1 o2 ex hres => ?_
  obtain ⟨st, rfl, h1, h2⟩ := hres
  exact ⟨F, E, o2, k y st h1 h2⟩
theorem use_rules {W : sWX} {σ : L2.St} {F : Hp} {G : List (Addr × HO)} {Q : V → SH → Prop} (k : ∀ p, Q (.ref p) ⟨F, (p, .lst (rlsS.map V.str)) :: G⟩) : rC ct_l_rules W [] σ ⟨F, G⟩ Q :=
  ⟨(), fun H o => ⟨rfl, trivial⟩, fun H v H' o q => by
    obtain ⟨⟨p, rfl, h1, h2⟩, h3⟩ := q
    exact ⟨_, o.new h1 h3 h2, k p⟩, fun _ _ _ _ _ q => q.elim⟩
theorem call0_go {r : sWX → List V → L2.St → SH → (V → SH → Prop) → Prop} {W : sWX} {σ : L2.St} {S : SH} {Q : V → SH → Prop} (h : r (fun _ _ _ _ => False) [] σ S Q) : sCall0 r W σ S Q := h
theorem use_rr {W : sWX} {σ : L2.St} {F : Hp} {G : List (Addr × HO)} {Q : V → SH → Prop} {vs : List V} (g : RrG) (e : vs = [g.tv, g.kv, .int (nS g.b : Nat), .str (rlS g.r), .str (pS g.st), g.rv]) (hT : TreeAt K a F g.tv g.b) (hk : topsR F g.kv g.b) (hl : g.st.length + 1 = nS g.b) (hf : flgOk g.st) (hR : RunG K F g.b g.rv g.run) (hlr : g.run.length ≤ 200) (k : Q (.bl true) ⟨F, G⟩) : rC (ct_l_rule_right K a) W vs σ ⟨F, G⟩ Q :=
  ⟨g, fun H o => ⟨e, hT.ext (own_F o), hk.ext (own_F o), hl, hf, hR.ext (own_F o), hlr⟩, fun H v H' o q => ⟨_, o.ex q.2, by rw [q.1]; exact k⟩, fun _ _ _ _ _ q => q.elim⟩
theorem use_sr {W : sWX} {σ : L2.St} {F : Hp} {G : List (Addr × HO)} {Q : V → SH → Prop} {vs : List V} (tv : V) (b : TR) (p : Addr) (e : vs = [tv, .int (nS b : Nat), .ref p]) (hT : TreeAt K a F tv b) (hp : SqL K F p (rlsS.map V.str)) (k : Q (.bl true) ⟨F, G⟩) : rC (ct_l_same_right K a) W vs σ ⟨F, G⟩ Q :=
  ⟨(tv, b, .ref p), fun H o => ⟨e, hT.ext (own_F o), p, rfl, SqL.up (own_F o) hp⟩, fun H v H' o q => ⟨_, o.ex q.2, by rw [q.1]; exact k⟩, fun _ _ _ _ _ q => q.elim⟩
theorem use_rea {W : sWX} {σ : L2.St} {F : Hp} {G : List (Addr × HO)} {Q : V → SH → Prop} {vs : List V} (tv : V) (b : TR) (st : List Nat) (r o : Rl) (e : vs = [tv, .int (nS b : Nat), .str (pS st), .str (rlS r), .str (rlS o)]) (hT : topsR F tv b) (hl : st.length + 1 = nS b) (hs : nS b ≤ 4) (hf : flgOk st) (k : Q (.bl (smB b r o)) ⟨F, G⟩) : rC (ct_l_reached K) W vs σ ⟨F, G⟩ Q :=
  ⟨(tv, b, st, r, o), fun H oo => ⟨e, hT.ext (own_F oo), hl, hs⟩, fun H v H' oo q => ⟨_, oo.ex q.2, by rw [q.1]; rw [rch_same r o hs hl hf]; exact k⟩, fun _ _ _ _ _ q => q.elim⟩
theorem rul_shp : SeqAt.shaped (.list (rlsS.map PyData.str)) = true := by decide +kernel
theorem dp_strs (H : Hp) : ∀ us : List Str, DpAll K H (us.map V.str) (us.map PyData.str)
  | [] => .nil
  | u :: us => .cons (.str u) (dp_strs H us)
theorem rul_at {i : Nat} (h : i < 8) : ∃ r, (rlsS.map V.str)[i]? = some (.str (rlS r)) := by
  obtain ⟨v, hv⟩ : ∃ v, (rlsS.map V.str)[i]? = some v := ⟨_, List.getElem?_eq_getElem (by exact h)⟩
  obtain ⟨r, rfl⟩ := rls_get hv
  exact ⟨r, hv⟩
theorem lists_two {G : List (Addr × HO)} (h : Lists G) (b : Addr) (y : Sx) : Lists (G ++ SK.bg b y) := lists_app h (lists_sx b y)
theorem vc_law (T : Kit K a) {vs : List V} {H : Hp} (g : Addr × List Int) (h : (ct_law K).pre g vs H) : ∃ S, Own S H ∧ r_law K a (endsC (ct_law K) g H) (start N_law vs) S := by
  obtain ⟨p0, ns⟩ := g
  obtain ⟨e0, hp0⟩ := h
  have e0 : vs = [.ref p0] := e0
  subst e0
  have hp : SqL K H p0 (ns.map V.int) := hp0
  clear hp0
  refine ⟨⟨H, []⟩, Own.base H, ?_⟩
  refine seq_go (set_go (calld_go (cons_go (calld_go (cons_go (var_go (v := .ref p0) (by rfl) (cons_go (c_go (nil_go ?_)))))))))
  refine use_source p0 ns 0 (by rfl) hp fun b0 y0 => ?_
  try dsimp only
  refine cons_go (c_go (nil_go ?_))
  refine use_tree (E := []) (by rfl) fun y F2 bt p1 d e2 hsm ht hk => ?_
  have hpos := nS_pos bt
  try dsimp only
  refine seq_go (set_go (op_go (var_go (v := .ref p1) (by rfl) (c_go ⟨_, .ref d, .inr (.inr (.inl (.inl ht))), atI_at (i := 1) rfl, ?_⟩))))
  try dsimp only
  refine seq_go (set_go (op_go (var_go (v := .ref p1) (by rfl) (c_go ⟨_, .int (nS bt : Nat), .inr (.inr (.inl (.inl ht))), atI_at (i := 2) rfl, ?_⟩))))
  try dsimp only
  refine seq_go (set_go ?_)
  refine mk_go (bt := bt) (lists_app lists_nil (lists_sx b0 y)) hsm (fun Q hq => op_go (var_go (v := .ref p1) (by rfl) (c_go ⟨_, .str (tS bt), .inr (.inr (.inl (.inl ht))), atI_at (i := 0) rfl, hq⟩))) fun F3 xt e3 hT => ?_
  have hp := SqL.up (e2.trans e3) hp
  have hk := hk.ext e3
  clear e2
  generalize hG : ([] ++ SK.bg b0 y : List (Addr × HO)) = G
  try dsimp only
  refine seq_go (set_go (calld_go (cons_go (calld_go (cons_go (var_go (v := .ref p0) (by rfl) (cons_go (c_go (nil_go ?_)))))))))
  refine use_source p0 ns 1 (by rfl) hp fun b1 y1 => ?_
  try dsimp only
  refine cons_go (var_go (v := .int (nS bt : Nat)) (by rfl) (nil_go ?_))
  refine use_flagsL (E := G) (nS bt) (by rfl) ⟨hpos, hsm⟩ fun y st hl hf => ?_
  generalize G ++ SK.bg b1 y = G
  clear hG
  try dsimp only
  refine seq_go (set_go ?_)
  refine call0_go (use_rules fun p6 => ?_)
  try dsimp only
  refine seq_go (ifT_go (or_go (not_go (tru_go ?_))))
  refine (show sIsi K .tuple (sC (.ref a.RULES)) _ _ _ _ from ⟨.tuple, .inr (.inl ⟨rfl, _, .inr (T.rules F3)⟩), ?_⟩)
  try dsimp only
  refine otb_go ?_
  try dsimp only
  refine tst_go (op_go (call1_go (cons_go (c_go (nil_go ⟨rlsS.map V.str, .inr (.inr (T.rules F3)), fun p9 => ?_⟩)))))
  try dsimp only
  refine var_go (v := .ref p6) (by rfl) ?_
  refine ne_same (d := .list (rlsS.map PyData.str)) rfl (fun H' o => .lst (.inl (.inl (own_g o (.head _)))) (dp_strs H' _)) (fun H' o => .lst (.inl (.inl (own_g o (.tail _ (.head _))))) (dp_strs H' _)) rul_shp ?_
  refine nx_go ?_
  try dsimp only
  have m6 : (p6, HO.lst (rlsS.map V.str)) ∈ (p9, HO.lst (rlsS.map V.str)) :: (p6, .lst (rlsS.map V.str)) :: G := .tail _ (.head _)
  refine seq_go (set_go (calld_go (cons_go (var_go (v := .ref p0) (by rfl) (cons_go (c_go (nil_go ?_)))))))
  refine use_source p0 ns 2 (by rfl) hp fun b7 y7 => ?_
  try dsimp only
  refine seq_go (set_go (calld_go (cons_go (var_go (v := .ref b7) (by rfl) (cons_go (var_go (v := .ref d) (by rfl) (cons_go (var_go (v := .int (nS bt : Nat)) (by rfl) (cons_go (var_go (v := .str (pS st)) (by rfl) (cons_go (op_go (var_go (v := .ref p6) (by rfl) (calld_go (cons_go (var_go (v := .ref b7) (by rfl) (cons_go (c_go (nil_go ?_)))))))))))))))))))
  refine use_take (E := (p9, .lst (rlsS.map V.str)) :: (p6, .lst (rlsS.map V.str)) :: G) 8 (by rfl) (by decide) fun y i hi => ?_
  obtain ⟨r0, hr0⟩ := rul_at hi
  refine ⟨_, _, .inl (sL_mem (List.mem_append_left _ m6)), atI_at hr0, nil_go ?_⟩
  refine use_run (E := (p9, .lst (rlsS.map V.str)) :: (p6, .lst (rlsS.map V.str)) :: G) (.ref d) bt st r0 (by rfl) hk hl hsm fun y H1 F5 rv run o1 x1 hR hlr => ?_
  have e5 : Ext F3 F5 := (own_F o1).trans x1
  have m6 : SqL K F5 p6 (rlsS.map V.str) := .inl (.inl (x1 _ _ (own_g o1 m6)))
  have hp := SqL.up e5 hp
  have hk := hk.ext e5
  have hT := hT.ext e5
  clear e5 x1 o1 e3
  generalize ([] ++ SK.bg b7 y : List (Addr × HO)) = G
  try dsimp only
  refine seq_go (seqI_go (var_go (v := .ref p6) (by rfl) ?_))
  refine .inl ⟨rlsS.map V.str, .inr m6, ?_⟩
  refine ⟨fun i σ S => ∃ (x9 : Option V), σ = [some (.ref p0), some (.ref p1), some (.ref d), some (.int (nS bt : Nat)), some (.ref xt), some (.str (pS st)), some (.ref p6), some (.ref b7), some rv, x9, none, none] ∧ S = ⟨F5, G⟩, ⟨none, rfl, rfl⟩, ?_, ?_, ?_⟩
  · rintro i σ S _ ⟨x9, rfl, rfl⟩
    exact .inr m6
  · rintro i σ S hi ⟨x9, rfl, rfl⟩ v hv
    obtain ⟨r, rfl⟩ := rls_get hv
    refine nm_go ?_
    try dsimp only
    refine ifT_go (not_go (tru_go (calld_go (cons_go (var_go (v := .ref xt) (by rfl) (cons_go (var_go (v := .ref d) (by rfl) (cons_go (var_go (v := .int (nS bt : Nat)) (by rfl) (cons_go (var_go (v := .str (rlS r)) (by rfl) (cons_go (var_go (v := .str (pS st)) (by rfl) (cons_go (var_go (v := rv) (by rfl) (nil_go ?_))))))))))))))))
    refine use_rr ⟨.ref xt, .ref d, bt, r, st, rv, run⟩ (by rfl) hT hk hl hf hR (show run.length ≤ 200 by omega) ?_
    try dsimp only
    refine otb_go ?_
    exact nx_go ⟨_, SLe.refl _, some (.str (rlS r)), rfl, rfl⟩
  · rintro σ S ⟨x9, rfl, rfl⟩
    try dsimp only
    refine seq_go (ifT_go (not_go (tru_go (calld_go (cons_go (var_go (v := .ref xt) (by rfl) (cons_go (var_go (v := .int (nS bt : Nat)) (by rfl) (cons_go (var_go (v := .ref p6) (by rfl) (nil_go ?_)))))))))))
    refine use_sr (.ref xt) bt p6 (by rfl) hT m6 ?_
    try dsimp only
    refine otb_go (nx_go ?_)
    try dsimp only
    refine seq_go (set_go (calld_go (cons_go (var_go (v := .ref p0) (by rfl) (cons_go (c_go (nil_go ?_)))))))
    refine use_source p0 ns 3 (by rfl) hp fun b10 y10 => ?_
    try dsimp only
    refine seq_go (set_go (op_go (var_go (v := .ref p6) (by rfl) (calld_go (cons_go (var_go (v := .ref b10) (by rfl) (cons_go (c_go (nil_go ?_)))))))))
    refine use_take (E := G) 8 (by rfl) (by decide) fun y i hi => ?_
    obtain ⟨r, hr⟩ := rul_at hi
    refine ⟨_, _, .inl (.inr m6), atI_at hr, ?_⟩
    try dsimp only
    refine seq_go (set_go (op_go (var_go (v := .ref p6) (by rfl) (calld_go (cons_go (var_go (v := .ref b10) (by rfl) (cons_go (c_go (nil_go ?_)))))))))
    refine use_take (E := G) 8 (by rfl) (by decide) fun y i hi => ?_
    obtain ⟨o, ho⟩ := rul_at hi
    refine ⟨_, _, .inl (.inr m6), atI_at ho, ?_⟩
    try dsimp only
    have tail : (sSeq (sIfS (sNot (sTru K (sCallD (q_l_doors_right K a) [] (sCons (sVar 10) (sCons (sVar 4) (sCons (sVar 3) (sCons (sVar 9) (sCons (sVar 5) (sCons (sVar 8) (sNil)))))))))) (sRet (sC (.bl false))) (sNext)) (sRet (sCallD (q_l_pairs_right K a) [] (sCons (sVar 10) (sCons (sVar 4) (sCons (sVar 9) (sCons (sVar 11) (sNil)))))))) (endsC (ct_law K) (p0, ns) H) [some (.ref p0), some (.ref p1), some (.ref d), some (.int (nS bt : Nat)), some (.ref xt), some (.str (pS st)), some (.ref p6), some (.ref b7), some rv, some (.str (rlS r)), some (.ref b10), some (.str (rlS o))] ⟨F5, G ++ SK.bg b10 y⟩ := by
      refine seq_go (ifT_go (not_go (tru_go (calld_go (cons_go (var_go (v := .ref b10) (by rfl) (cons_go (var_go (v := .ref xt) (by rfl) (cons_go (var_go (v := .int (nS bt : Nat)) (by rfl) (cons_go (var_go (v := .str (rlS r)) (by rfl) (cons_go (var_go (v := .str (pS st)) (by rfl) (cons_go (var_go (v := rv) (by rfl) (nil_go ?_)))))))))))))))))
      refine use_pure (E := G) (⟨.ref xt, bt, r, st, rv, run⟩ : DoG) (by rfl) (fun H' e => ⟨hT.ext e, hl, hf, hR.ext e, hlr⟩) fun y => ?_
      try dsimp only
      refine otb_go (nx_go ?_)
      try dsimp only
      refine ret_go (calld_go (cons_go (var_go (v := .ref b10) (by rfl) (cons_go (var_go (v := .ref xt) (by rfl) (cons_go (var_go (v := .str (rlS r)) (by rfl) (cons_go (var_go (v := .str (rlS o)) (by rfl) (nil_go ?_))))))))))
      refine use_pure (E := G) ((.ref xt, bt, r, o) : V × TR × Rl × Rl) (by rfl) (fun H' e => hT.ext e) fun y => ?_
      exact fun H' o' => rfl
    refine seq_go (ifT_go (and_go (tst_go (op_go (var_go (v := .int (nS bt : Nat)) (by rfl) (c_go (le_i (c := decide (nS bt ≤ 4)) (decide_eq_decide.mpr (by omega)) ?_)))))))
    cases h4 : decide (nS bt ≤ 4) with
    | false => exact nx_go tail
    | true =>
      have h4 := of_decide_eq_true h4
      try dsimp only
      refine tst_go (op_go (calld_go (cons_go (var_go (v := .ref xt) (by rfl) (cons_go (var_go (v := .str (rlS r)) (by rfl) (cons_go (var_go (v := .str (rlS o)) (by rfl) (nil_go ?_)))))))))
      refine use_same (.ref xt) bt r o (by rfl) hT ?_
      try dsimp only
      refine calld_go (cons_go (var_go (v := .ref d) (by rfl) (cons_go (var_go (v := .int (nS bt : Nat)) (by rfl) (cons_go (var_go (v := .str (pS st)) (by rfl) (cons_go (var_go (v := .str (rlS r)) (by rfl) (cons_go (var_go (v := .str (rlS o)) (by rfl) (nil_go ?_)))))))))))
      refine use_rea (.ref d) bt st r o (by rfl) hk hl h4 hf ?_
      refine ne_b (c := false) (decide_eq_true rfl) ?_
      exact nx_go tail
end
theorem no_l_part {K : PySem.W.Frag} {vs : List V} {H : Hp} {Q : VK} {E : XK} (h : spC (ct_l_part K 0) vs H Q E) : False := by
  obtain ⟨g, ⟨_, _, _, h3, h4, _⟩, _⟩ := h
  exact Nat.not_lt_zero _ (Nat.lt_of_lt_of_le h3 h4)
/-! ### each def keeps its promise -/
theorem sp_some {f : List V → Option Ot} {vs : List V} {H : Hp} {Q : VK} {E : XK} (h : spV f vs H Q E) : ∃ o, f vs = some o := by
  unfold spV at h
  split at h
  · exact ⟨_, by assumption⟩
  · exact ⟨_, by assumption⟩
  · exact h.elim
section
variable {P : Program} {w : World} {K : PySem.W.Frag} {mg : Str → Option Value} {base : Heap} {a : Ads}
theorem ok_is_integer (G : Env P w K mg base a)  {f : Addr} {fd : FuncData} (F : Fun K "is_integer" "is_integer" s_is_integer f fd) : FnOk P w K mg base (L2.CX P w) l_is_integer f fd ["value"] (p_is_integer K a) := by
  refine F.okX (k := l_is_integer - 1) sc_is_integer (fun vs H Q E h => ?_) fun cdv A outer s H vs Q E hr h => ⟨_, d_is_integer G  hr, ?_⟩
  · obtain ⟨g, hg, _⟩ := h
    have e := hg.1
    subst e
    rfl
  · exact body_C h fun g hg => vc_is_integer g hg
theorem ok_is_place (G : Env P w K mg base a) (T_is_integer : DefC P w K mg base "is_integer" ["value"] l_is_integer [] (p_is_integer K a)) {f : Addr} {fd : FuncData} (F : Fun K "is_place" "is_place" s_is_place f fd) : FnOk P w K mg base (L2.CX P w) l_is_place f fd ["many", "value"] (p_is_place K a) := by
  refine F.okX (k := l_is_place - 1) sc_is_place (fun vs H Q E h => ?_) fun cdv A outer s H vs Q E hr h => ⟨_, d_is_place G T_is_integer hr, ?_⟩
  · obtain ⟨g, hg, _⟩ := h
    have e := hg.1
    subst e
    rfl
  · exact body_C h fun g hg => vc_is_place g hg
theorem ok_is_made_of (G : Env P w K mg base a)  {f : Addr} {fd : FuncData} (F : Fun K "is_made_of" "is_made_of" s_is_made_of f fd) : FnOk P w K mg base (L2.CX P w) l_is_made_of f fd ["value", "signs"] (p_is_made_of K a) := by
  refine F.okX (k := l_is_made_of - 1) sc_is_made_of (fun vs H Q E h => ?_) fun cdv A outer s H vs Q E hr h => ⟨_, d_is_made_of G  hr, ?_⟩
  · obtain ⟨g, hg, _⟩ := h
    have e := hg.1
    subst e
    rfl
  · exact body_C h fun g hg => vc_is_made_of g hg
theorem ok_is_line (G : Env P w K mg base a) (T : Kit K a) (T_is_place : DefC P w K mg base "is_place" ["many", "value"] l_is_place [] (p_is_place K a)) {f : Addr} {fd : FuncData} (F : Fun K "is_line" "is_line" s_is_line f fd) : FnOk P w K mg base (L2.CX P w) l_is_line f fd ["many", "value"] (p_is_line K a) := by
  refine F.okX (k := l_is_line - 1) sc_is_line (fun vs H Q E h => ?_) fun cdv A outer s H vs Q E hr h => ⟨_, d_is_line G T_is_place hr, ?_⟩
  · obtain ⟨g, hg, _⟩ := h
    have e := hg.1
    subst e
    rfl
  · exact body_C h fun g hg => vc_is_line T g hg
theorem ok_Tree_forks (G : Env P w K mg base a)  {f : Addr} {fd : FuncData} (F : Fun K "forks" "Tree.forks" s_Tree_forks f fd) : FnOk P w K mg base (L2.CX P w) l_Tree_forks f fd ["self"] (p_Tree_forks K a) := by
  refine F.okX (k := l_Tree_forks - 1) sc_Tree_forks (fun vs H Q E h => ?_) fun cdv A outer s H vs Q E hr h => ⟨_, d_Tree_forks G  hr, ?_⟩
  · obtain ⟨g, hg, _⟩ := h
    have e := hg.1
    subst e
    rfl
  · exact body_C h fun g hg => vc_Tree_forks g hg
theorem ok_checked_flags (G : Env P w K mg base a) (T_is_made_of : DefC P w K mg base "is_made_of" ["value", "signs"] l_is_made_of [] (p_is_made_of K a)) (T_Tree_forks : ProC P w K mg base a.Tree "forks" l_Tree_forks (p_Tree_forks K a)) {f : Addr} {fd : FuncData} (F : Fun K "checked_flags" "checked_flags" s_checked_flags f fd) : FnOk P w K mg base (L2.CX P w) l_checked_flags f fd ["tree", "flags"] (p_checked_flags K a) := by
  refine F.okX (k := l_checked_flags - 1) sc_checked_flags (fun vs H Q E h => ?_) fun cdv A outer s H vs Q E hr h => ⟨_, d_checked_flags G T_is_made_of T_Tree_forks hr, ?_⟩
  · obtain ⟨g, hg, _⟩ := h
    have e := hg.1
    subst e
    rfl
  · exact body_C h fun g hg => vc_checked_flags g hg
theorem ok_checked_lines (G : Env P w K mg base a) (T_is_line : DefC P w K mg base "is_line" ["many", "value"] l_is_line [] (p_is_line K a)) {f : Addr} {fd : FuncData} (F : Fun K "checked_lines" "checked_lines" s_checked_lines f fd) : FnOk P w K mg base (L2.CX P w) l_checked_lines f fd ["many", "run"] (p_checked_lines K a) := by
  refine F.okX (k := l_checked_lines - 1) sc_checked_lines (fun vs H Q E h => ?_) fun cdv A outer s H vs Q E hr h => ⟨_, d_checked_lines G T_is_line hr, ?_⟩
  · obtain ⟨g, hg, _⟩ := h
    have e := hg.1
    subst e
    rfl
  · exact body_C h fun g hg => vc_checked_lines g hg
theorem ok_Tree_len (G : Env P w K mg base a)  {f : Addr} {fd : FuncData} (F : Fun K "__len__" "Tree.__len__" s_Tree_len f fd) : FnOk P w K mg base (L2.CX P w) l_Tree_len f fd ["self"] (p_Tree_len K a) := by
  refine F.okX (k := l_Tree_len - 1) sc_Tree_len (fun vs H Q E h => ?_) fun cdv A outer s H vs Q E hr h => ⟨_, d_Tree_len G  hr, ?_⟩
  · obtain ⟨g, hg, _⟩ := h
    have e := hg.1
    subst e
    rfl
  · exact body_C h fun g hg => vc_Tree_len g hg
theorem ok_checked_run (G : Env P w K mg base a) (T_checked_lines : DefC P w K mg base "checked_lines" ["many", "run"] l_checked_lines [] (p_checked_lines K a)) (T_Tree_len : MetC P w K mg base a.Tree "__len__" ["self"] l_Tree_len (p_Tree_len K a)) {f : Addr} {fd : FuncData} (F : Fun K "checked_run" "checked_run" s_checked_run f fd) : FnOk P w K mg base (L2.CX P w) l_checked_run f fd ["tree", "run"] (p_checked_run K a) := by
  refine F.okX (k := l_checked_run - 1) sc_checked_run (fun vs H Q E h => ?_) fun cdv A outer s H vs Q E hr h => ⟨_, d_checked_run G T_checked_lines T_Tree_len hr, ?_⟩
  · obtain ⟨g, hg, _⟩ := h
    have e := hg.1
    subst e
    rfl
  · exact body_C h fun g hg => vc_checked_run g hg
theorem ok_turned (G : Env P w K mg base a)  {f : Addr} {fd : FuncData} (F : Fun K "turned" "turned" s_turned f fd) : FnOk P w K mg base (L2.CX P w) l_turned f fd ["tree", "flags", "slot"] (p_turned K a) := by
  refine F.okX (k := l_turned - 1) sc_turned (fun vs H Q E h => ?_) fun cdv A outer s H vs Q E hr h => ⟨_, d_turned G  hr, ?_⟩
  · obtain ⟨g, hg, _⟩ := h
    have e := hg.1
    subst e
    rfl
  · exact body_C h fun g hg => vc_turned g hg
theorem ok_checked_rule (G : Env P w K mg base a) (T : Kit K a)  {f : Addr} {fd : FuncData} (F : Fun K "checked_rule" "checked_rule" s_checked_rule f fd) : FnOk P w K mg base (L2.CX P w) l_checked_rule f fd ["rule"] (p_checked_rule K a) := by
  refine F.okX (k := l_checked_rule - 1) sc_checked_rule (fun vs H Q E h => ?_) fun cdv A outer s H vs Q E hr h => ⟨_, d_checked_rule G  hr, ?_⟩
  · obtain ⟨g, hg, _⟩ := h
    have e := hg.1
    subst e
    rfl
  · exact body_C h fun g hg => vc_checked_rule T g hg
theorem ok_turned_by (G : Env P w K mg base a) (T_turned : DefC P w K mg base "turned" ["tree", "flags", "slot"] l_turned [] (p_turned K a)) {f : Addr} {fd : FuncData} (F : Fun K "turned_by" "turned_by" s_turned_by f fd) : FnOk P w K mg base (L2.CX P w) l_turned_by f fd ["tree", "rule", "flags", "kind", "slot"] (p_turned_by K a) := by
  refine F.okX (k := l_turned_by - 1) sc_turned_by (fun vs H Q E h => ?_) fun cdv A outer s H vs Q E hr h => ⟨_, d_turned_by G T_turned hr, ?_⟩
  · obtain ⟨g, hg, _⟩ := h
    have e := hg.1
    subst e
    rfl
  · exact body_C h fun g hg => vc_turned_by g hg
theorem ok_goes_against (G : Env P w K mg base a)  {f : Addr} {fd : FuncData} (F : Fun K "goes_against" "goes_against" s_goes_against f fd) : FnOk P w K mg base (L2.CX P w) l_goes_against f fd ["rule"] (p_goes_against K a) := by
  refine F.okX (k := l_goes_against - 1) sc_goes_against (fun vs H Q E h => ?_) fun cdv A outer s H vs Q E hr h => ⟨_, d_goes_against G  hr, ?_⟩
  · obtain ⟨g, hg, _⟩ := h
    have e := hg.1
    subst e
    rfl
  · exact body_C h fun g hg => vc_goes_against g hg
theorem ok_wrong_fork (G : Env P w K mg base a) (T_goes_against : DefC P w K mg base "goes_against" ["rule"] l_goes_against [] (p_goes_against K a)) {f : Addr} {fd : FuncData} (F : Fun K "wrong_fork" "wrong_fork" s_wrong_fork f fd) : FnOk P w K mg base (L2.CX P w) l_wrong_fork f fd ["tree", "rule", "flags", "slot"] (p_wrong_fork K a) := by
  refine F.okX (k := l_wrong_fork - 1) sc_wrong_fork (fun vs H Q E h => ?_) fun cdv A outer s H vs Q E hr h => ⟨_, d_wrong_fork G T_goes_against hr, ?_⟩
  · obtain ⟨g, hg, _⟩ := h
    have e := hg.1
    subst e
    rfl
  · exact body_C h fun g hg => vc_wrong_fork g hg
theorem ok_first_wrong_by (G : Env P w K mg base a) (T_checked_flags : DefC P w K mg base "checked_flags" ["tree", "flags"] l_checked_flags [] (p_checked_flags K a)) (T_checked_rule : DefC P w K mg base "checked_rule" ["rule"] l_checked_rule [] (p_checked_rule K a)) (T_checked_run : DefC P w K mg base "checked_run" ["tree", "run"] l_checked_run [] (p_checked_run K a)) (T_turned_by : DefC P w K mg base "turned_by" ["tree", "rule", "flags", "kind", "slot"] l_turned_by [] (p_turned_by K a)) (T_wrong_fork : DefC P w K mg base "wrong_fork" ["tree", "rule", "flags", "slot"] l_wrong_fork [] (p_wrong_fork K a)) {f : Addr} {fd : FuncData} (F : Fun K "first_wrong_by" "first_wrong_by" s_first_wrong_by f fd) : FnOk P w K mg base (L2.CX P w) l_first_wrong_by f fd ["tree", "rule", "flags", "run"] (p_first_wrong_by K a) := by
  refine F.okX (k := l_first_wrong_by - 1) sc_first_wrong_by (fun vs H Q E h => ?_) fun cdv A outer s H vs Q E hr h => ⟨_, d_first_wrong_by G T_checked_flags T_checked_rule T_checked_run T_turned_by T_wrong_fork hr, ?_⟩
  · obtain ⟨g, hg, _⟩ := h
    have e := hg.1
    subst e
    rfl
  · exact body_C h fun g hg => vc_first_wrong_by g hg
theorem ok_flags_by (G : Env P w K mg base a) (T_checked_flags : DefC P w K mg base "checked_flags" ["tree", "flags"] l_checked_flags [] (p_checked_flags K a)) (T_checked_rule : DefC P w K mg base "checked_rule" ["rule"] l_checked_rule [] (p_checked_rule K a)) (T_checked_run : DefC P w K mg base "checked_run" ["tree", "run"] l_checked_run [] (p_checked_run K a)) (T_turned_by : DefC P w K mg base "turned_by" ["tree", "rule", "flags", "kind", "slot"] l_turned_by [] (p_turned_by K a)) {f : Addr} {fd : FuncData} (F : Fun K "flags_by" "flags_by" s_flags_by f fd) : FnOk P w K mg base (L2.CX P w) l_flags_by f fd ["tree", "rule", "flags", "run"] (p_flags_by K a) := by
  refine F.okX (k := l_flags_by - 1) sc_flags_by (fun vs H Q E h => ?_) fun cdv A outer s H vs Q E hr h => ⟨_, d_flags_by G T_checked_flags T_checked_rule T_checked_run T_turned_by hr, ?_⟩
  · obtain ⟨g, hg, _⟩ := h
    have e := hg.1
    subst e
    rfl
  · exact body_C h fun g hg => vc_flags_by g hg
theorem ok_same_rule (G : Env P w K mg base a) (T_checked_rule : DefC P w K mg base "checked_rule" ["rule"] l_checked_rule [] (p_checked_rule K a)) (T_Tree_len : MetC P w K mg base a.Tree "__len__" ["self"] l_Tree_len (p_Tree_len K a)) {f : Addr} {fd : FuncData} (F : Fun K "same_rule" "same_rule" s_same_rule f fd) : FnOk P w K mg base (L2.CX P w) l_same_rule f fd ["tree", "rule", "other"] (p_same_rule K a) := by
  refine F.okX (k := l_same_rule - 1) sc_same_rule (fun vs H Q E h => ?_) fun cdv A outer s H vs Q E hr h => ⟨_, d_same_rule G T_checked_rule T_Tree_len hr, ?_⟩
  · obtain ⟨g, hg, _⟩ := h
    have e := hg.1
    subst e
    rfl
  · exact body_C h fun g hg => vc_same_rule g hg
theorem ok_ends_fork (G : Env P w K mg base a)  {f : Addr} {fd : FuncData} (F : Fun K "ends_fork" "ends_fork" s_ends_fork f fd) : FnOk P w K mg base (L2.CX P w) l_ends_fork f fd ["stack"] (p_ends_fork K a) := by
  refine F.okX (k := l_ends_fork - 1) sc_ends_fork (fun vs H Q E h => ?_) fun cdv A outer s H vs Q E hr h => ⟨_, d_ends_fork G  hr, ?_⟩
  · obtain ⟨g, hg, _⟩ := h
    have e := hg.1
    subst e
    rfl
  · exact body_C h fun g hg => vc_ends_fork g hg
theorem ok_read_forks (G : Env P w K mg base a) (T_ends_fork : DefC P w K mg base "ends_fork" ["stack"] l_ends_fork [] (p_ends_fork K a)) {f : Addr} {fd : FuncData} (F : Fun K "read_forks" "read_forks" s_read_forks f fd) : FnOk P w K mg base (L2.CX P w) l_read_forks f fd ["text"] (p_read_forks K a) := by
  refine F.okX (k := l_read_forks - 1) sc_read_forks (fun vs H Q E h => ?_) fun cdv A outer s H vs Q E hr h => ⟨_, d_read_forks G T_ends_fork hr, ?_⟩
  · obtain ⟨g, hg, _⟩ := h
    have e := hg.1
    subst e
    rfl
  · exact body_C h fun g hg => vc_read_forks g hg
theorem ok_lay_ways (G : Env P w K mg base a)  {f : Addr} {fd : FuncData} (F : Fun K "lay_ways" "lay_ways" s_lay_ways f fd) : FnOk P w K mg base (L2.CX P w) l_lay_ways f fd ["root", "lefts", "rights"] (p_lay_ways K a) := by
  refine F.okX (k := l_lay_ways - 1) sc_lay_ways (fun vs H Q E h => ?_) fun cdv A outer s H vs Q E hr h => ⟨_, d_lay_ways G  hr, ?_⟩
  · obtain ⟨g, hg, _⟩ := h
    have e := hg.1
    subst e
    rfl
  · exact body_C h fun g hg => vc_lay_ways g hg
theorem ok_Tree_init (G : Env P w K mg base a) (T_lay_ways : DefC P w K mg base "lay_ways" ["root", "lefts", "rights"] l_lay_ways [] (p_lay_ways K a)) (T_read_forks : DefC P w K mg base "read_forks" ["text"] l_read_forks [] (p_read_forks K a)) {f : Addr} {fd : FuncData} (F : Fun K "__init__" "Tree.__init__" s_Tree_init f fd) : FnOk P w K mg base (L2.CX P w) l_Tree_init f fd ["self", "text"] (p_Tree_init K a) := by
  refine F.okX (k := l_Tree_init - 1) sc_Tree_init (fun vs H Q E h => ?_) fun cdv A outer s H vs Q E hr h => ⟨_, d_Tree_init G T_lay_ways T_read_forks hr, ?_⟩
  · obtain ⟨g, hg, _⟩ := h
    have e := hg.1
    subst e
    rfl
  · exact body_C h fun g hg => vc_Tree_init g hg
theorem ok_l_source (G : Env P w K mg base a)  {f : Addr} {fd : FuncData} (F : Fun K "_law_source" "_law_source" s_l_source f fd) : FnOk P w K mg base (L2.CX P w) l_l_source f fd ["_law_script", "_law_place"] (p_l_source K a) := by
  refine F.okX (k := l_l_source - 1) sc_l_source (fun vs H Q E h => ?_) fun cdv A outer s H vs Q E hr h => ⟨_, d_l_source G  hr, ?_⟩
  · obtain ⟨g, hg, _⟩ := h
    have e := hg.1
    subst e
    rfl
  · exact body_C h fun g hg => vc_l_source g hg
theorem ok_l_take (G : Env P w K mg base a)  {f : Addr} {fd : FuncData} (F : Fun K "_law_take" "_law_take" s_l_take f fd) : FnOk P w K mg base (L2.CX P w) l_l_take f fd ["_law_source_here", "_law_many"] (p_l_take K a) := by
  refine F.okX (k := l_l_take - 1) sc_l_take (fun vs H Q E h => ?_) fun cdv A outer s H vs Q E hr h => ⟨_, d_l_take G  hr, ?_⟩
  · obtain ⟨g, hg, _⟩ := h
    have e := hg.1
    subst e
    rfl
  · exact body_C h fun g hg => vc_l_take g hg
theorem ok_l_part (G : Env P w K mg base a) (T_l_take : DefC P w K mg base "_law_take" ["_law_source_here", "_law_many"] l_l_take [] (p_l_take K a)) {f : Addr} {fd : FuncData} (F : Fun K "_law_part" "_law_part" s_l_part f fd) (hm : mg "_law_part" = some (.ref f)) (hk : PySem.W.keepIn K (.ref f) = true) : ∀ n, FnOk P w K mg base (L2.CX P w) (l_l_part + n) f fd ["_law_source_here", "_law_start", "_law_many", "_law_lean"] (p_l_part K a n)
  | 0 => F.okX (k := l_l_part - 1) sc_l_part (fun vs H Q E h => (no_l_part h).elim) fun cdv A outer s H vs Q E hr h => (no_l_part h).elim
  | n + 1 => by
    have ih := ok_l_part G T_l_take F hm hk n
    refine F.okX (k := l_l_part + n) sc_l_part (fun vs H Q E h => ?_) fun cdv A outer s H vs Q E hr h => ⟨_, d_l_part G T_l_take ⟨_, _, [], hm, hk, ih, .nil, F.binds (ps := ["_law_source_here", "_law_start", "_law_many", "_law_lean"]) fun _ _ _ _ _ _ us hl => match us, hl with | [_, _, _, _], _ => rfl⟩ (Nat.le_add_right _ _) hr, ?_⟩
    · obtain ⟨g, hg, _⟩ := h
      have e := hg.1
      subst e
      rfl
    · exact body_C h fun g hg => vc_l_part g hg
theorem ok_l_tree (G : Env P w K mg base a) (T_l_part : DefC P w K mg base "_law_part" ["_law_source_here", "_law_start", "_law_many", "_law_lean"] (l_l_part + 64) [] (p_l_part K a 64)) (T_l_take : DefC P w K mg base "_law_take" ["_law_source_here", "_law_many"] l_l_take [] (p_l_take K a)) {f : Addr} {fd : FuncData} (F : Fun K "_law_tree" "_law_tree" s_l_tree f fd) : FnOk P w K mg base (L2.CX P w) l_l_tree f fd ["_law_source_here", "_law_most"] (p_l_tree K a) := by
  refine F.okX (k := l_l_tree - 1) sc_l_tree (fun vs H Q E h => ?_) fun cdv A outer s H vs Q E hr h => ⟨_, d_l_tree G T_l_part T_l_take hr, ?_⟩
  · obtain ⟨g, hg, _⟩ := h
    have e := hg.1
    subst e
    rfl
  · exact body_C h fun g hg => vc_l_tree g hg
theorem ok_l_flags (G : Env P w K mg base a) (T_l_take : DefC P w K mg base "_law_take" ["_law_source_here", "_law_many"] l_l_take [] (p_l_take K a)) {f : Addr} {fd : FuncData} (F : Fun K "_law_flags" "_law_flags" s_l_flags f fd) : FnOk P w K mg base (L2.CX P w) l_l_flags f fd ["_law_source_here", "_law_many"] (p_l_flags K a) := by
  refine F.okX (k := l_l_flags - 1) sc_l_flags (fun vs H Q E h => ?_) fun cdv A outer s H vs Q E hr h => ⟨_, d_l_flags G T_l_take hr, ?_⟩
  · obtain ⟨g, hg, _⟩ := h
    have e := hg.1
    subst e
    rfl
  · exact body_C h fun g hg => vc_l_flags g hg
theorem ok_l_victim (G : Env P w K mg base a)  {f : Addr} {fd : FuncData} (F : Fun K "_law_victim" "_law_victim" s_l_victim f fd) : FnOk P w K mg base (L2.CX P w) l_l_victim f fd ["_law_tops", "_law_many", "_law_flags_here", "_law_letter"] (p_l_victim K a) := by
  refine F.okX (k := l_l_victim - 1) sc_l_victim (fun vs H Q E h => ?_) fun cdv A outer s H vs Q E hr h => ⟨_, d_l_victim G  hr, ?_⟩
  · obtain ⟨g, hg, _⟩ := h
    have e := hg.1
    subst e
    rfl
  · exact body_C h fun g hg => vc_l_victim g hg
theorem ok_l_after (G : Env P w K mg base a)  {f : Addr} {fd : FuncData} (F : Fun K "_law_after" "_law_after" s_l_after f fd) : FnOk P w K mg base (L2.CX P w) l_l_after f fd ["_law_tops", "_law_many", "_law_flags_here", "_law_slot"] (p_l_after K a) := by
  refine F.okX (k := l_l_after - 1) sc_l_after (fun vs H Q E h => ?_) fun cdv A outer s H vs Q E hr h => ⟨_, d_l_after G  hr, ?_⟩
  · obtain ⟨g, hg, _⟩ := h
    have e := hg.1
    subst e
    rfl
  · exact body_C h fun g hg => vc_l_after g hg
theorem ok_l_rules (G : Env P w K mg base a)  {f : Addr} {fd : FuncData} (F : Fun K "_law_rules" "_law_rules" s_l_rules f fd) : FnOk P w K mg base (L2.CX P w) l_l_rules f fd [] (p_l_rules K a) := by
  refine F.okX (k := l_l_rules - 1) sc_l_rules (fun vs H Q E h => ?_) fun cdv A outer s H vs Q E hr h => ⟨_, d_l_rules G  hr, ?_⟩
  · obtain ⟨g, hg, _⟩ := h
    have e := hg.1
    subst e
    rfl
  · exact body_C h fun g hg => vc_l_rules g hg
theorem ok_l_run (G : Env P w K mg base a) (T_l_after : DefC P w K mg base "_law_after" ["_law_tops", "_law_many", "_law_flags_here", "_law_slot"] l_l_after [] (p_l_after K a)) (T_l_take : DefC P w K mg base "_law_take" ["_law_source_here", "_law_many"] l_l_take [] (p_l_take K a)) (T_l_victim : DefC P w K mg base "_law_victim" ["_law_tops", "_law_many", "_law_flags_here", "_law_letter"] l_l_victim [] (p_l_victim K a)) {f : Addr} {fd : FuncData} (F : Fun K "_law_run" "_law_run" s_l_run f fd) : FnOk P w K mg base (L2.CX P w) l_l_run f fd ["_law_source_here", "_law_tops", "_law_many", "_law_flags_here", "_law_rule"] (p_l_run K a) := by
  refine F.okX (k := l_l_run - 1) sc_l_run (fun vs H Q E h => ?_) fun cdv A outer s H vs Q E hr h => ⟨_, d_l_run G T_l_after T_l_take T_l_victim hr, ?_⟩
  · obtain ⟨g, hg, _⟩ := h
    have e := hg.1
    subst e
    rfl
  · exact body_C h fun g hg => vc_l_run g hg
theorem ok_l_judged (G : Env P w K mg base a)  {f : Addr} {fd : FuncData} (F : Fun K "_law_judged" "_law_judged" s_l_judged f fd) : FnOk P w K mg base (L2.CX P w) l_l_judged f fd ["_law_tops", "_law_many", "_law_rule", "_law_flags_here", "_law_run_here"] (p_l_judged K a) := by
  refine F.okX (k := l_l_judged - 1) sc_l_judged (fun vs H Q E h => ?_) fun cdv A outer s H vs Q E hr h => ⟨_, d_l_judged G  hr, ?_⟩
  · obtain ⟨g, hg, _⟩ := h
    have e := hg.1
    subst e
    rfl
  · exact body_C h fun g hg => vc_l_judged g hg
theorem ok_l_is_integer (G : Env P w K mg base a)  {f : Addr} {fd : FuncData} (F : Fun K "_law_is_integer" "_law_is_integer" s_l_is_integer f fd) : FnOk P w K mg base (L2.CX P w) l_l_is_integer f fd ["_law_told"] (p_l_is_integer K a) := by
  refine F.okX (k := l_l_is_integer - 1) sc_l_is_integer (fun vs H Q E h => ?_) fun cdv A outer s H vs Q E hr h => ⟨_, d_l_is_integer G  hr, ?_⟩
  · obtain ⟨g, hg, _⟩ := h
    have e := hg.1
    subst e
    rfl
  · exact body_C h fun g hg => vc_l_is_integer g hg
theorem ok_l_rule_right (G : Env P w K mg base a) (T_l_is_integer : DefC P w K mg base "_law_is_integer" ["_law_told"] l_l_is_integer [] (p_l_is_integer K a)) (T_l_judged : DefC P w K mg base "_law_judged" ["_law_tops", "_law_many", "_law_rule", "_law_flags_here", "_law_run_here"] l_l_judged [] (p_l_judged K a)) (T_first_wrong_by : DefC P w K mg base "first_wrong_by" ["tree", "rule", "flags", "run"] l_first_wrong_by [] (p_first_wrong_by K a)) (T_flags_by : DefC P w K mg base "flags_by" ["tree", "rule", "flags", "run"] l_flags_by [] (p_flags_by K a)) {f : Addr} {fd : FuncData} (F : Fun K "_law_rule_right" "_law_rule_right" s_l_rule_right f fd) : FnOk P w K mg base (L2.CX P w) l_l_rule_right f fd ["_law_tree_here", "_law_tops", "_law_many", "_law_rule", "_law_flags_here", "_law_run_here"] (p_l_rule_right K a) := by
  refine F.okX (k := l_l_rule_right - 1) sc_l_rule_right (fun vs H Q E h => ?_) fun cdv A outer s H vs Q E hr h => ⟨_, d_l_rule_right G T_l_is_integer T_l_judged T_first_wrong_by T_flags_by hr, ?_⟩
  · obtain ⟨g, hg, _⟩ := h
    have e := hg.1
    subst e
    rfl
  · exact body_C h fun g hg => vc_l_rule_right g hg
theorem ok_l_reached (G : Env P w K mg base a) (T_l_after : DefC P w K mg base "_law_after" ["_law_tops", "_law_many", "_law_flags_here", "_law_slot"] l_l_after [] (p_l_after K a)) (T_l_victim : DefC P w K mg base "_law_victim" ["_law_tops", "_law_many", "_law_flags_here", "_law_letter"] l_l_victim [] (p_l_victim K a)) {f : Addr} {fd : FuncData} (F : Fun K "_law_reached" "_law_reached" s_l_reached f fd) : FnOk P w K mg base (L2.CX P w) l_l_reached f fd ["_law_tops", "_law_many", "_law_flags_here", "_law_rule", "_law_other"] (p_l_reached K a) := by
  refine F.okX (k := l_l_reached - 1) sc_l_reached (fun vs H Q E h => ?_) fun cdv A outer s H vs Q E hr h => ⟨_, d_l_reached G T_l_after T_l_victim hr, ?_⟩
  · obtain ⟨g, hg, _⟩ := h
    have e := hg.1
    subst e
    rfl
  · exact body_C h fun g hg => vc_l_reached g hg
theorem ok_l_same_right (G : Env P w K mg base a) (T_same_rule : DefC P w K mg base "same_rule" ["tree", "rule", "other"] l_same_rule [] (p_same_rule K a)) {f : Addr} {fd : FuncData} (F : Fun K "_law_same_right" "_law_same_right" s_l_same_right f fd) : FnOk P w K mg base (L2.CX P w) l_l_same_right f fd ["_law_tree_here", "_law_many", "_law_rules_here"] (p_l_same_right K a) := by
  refine F.okX (k := l_l_same_right - 1) sc_l_same_right (fun vs H Q E h => ?_) fun cdv A outer s H vs Q E hr h => ⟨_, d_l_same_right G T_same_rule hr, ?_⟩
  · obtain ⟨g, hg, _⟩ := h
    have e := hg.1
    subst e
    rfl
  · exact body_C h fun g hg => vc_l_same_right g hg
theorem ok_l_bad_rule (G : Env P w K mg base a) (T_l_take : DefC P w K mg base "_law_take" ["_law_source_here", "_law_many"] l_l_take [] (p_l_take K a)) {f : Addr} {fd : FuncData} (F : Fun K "_law_bad_rule" "_law_bad_rule" s_l_bad_rule f fd) : FnOk P w K mg base (L2.CX P w) l_l_bad_rule f fd ["_law_source_here", "_law_rule"] (p_l_bad_rule K a) := by
  refine F.okX (k := l_l_bad_rule - 1) sc_l_bad_rule (fun vs H Q E h => ?_) fun cdv A outer s H vs Q E hr h => ⟨_, d_l_bad_rule G T_l_take hr, ?_⟩
  · obtain ⟨g, hg, _⟩ := h
    have e := hg.1
    subst e
    rfl
  · exact body_C h fun g hg => vc_l_bad_rule g hg
theorem ok_l_bad_flags (G : Env P w K mg base a) (T_l_take : DefC P w K mg base "_law_take" ["_law_source_here", "_law_many"] l_l_take [] (p_l_take K a)) {f : Addr} {fd : FuncData} (F : Fun K "_law_bad_flags" "_law_bad_flags" s_l_bad_flags f fd) : FnOk P w K mg base (L2.CX P w) l_l_bad_flags f fd ["_law_source_here", "_law_flags_here"] (p_l_bad_flags K a) := by
  refine F.okX (k := l_l_bad_flags - 1) sc_l_bad_flags (fun vs H Q E h => ?_) fun cdv A outer s H vs Q E hr h => ⟨_, d_l_bad_flags G T_l_take hr, ?_⟩
  · obtain ⟨g, hg, _⟩ := h
    have e := hg.1
    subst e
    rfl
  · exact body_C h fun g hg => vc_l_bad_flags g hg
theorem ok_l_bad_run (G : Env P w K mg base a) (T_l_take : DefC P w K mg base "_law_take" ["_law_source_here", "_law_many"] l_l_take [] (p_l_take K a)) {f : Addr} {fd : FuncData} (F : Fun K "_law_bad_run" "_law_bad_run" s_l_bad_run f fd) : FnOk P w K mg base (L2.CX P w) l_l_bad_run f fd ["_law_source_here", "_law_run_here", "_law_many"] (p_l_bad_run K a) := by
  refine F.okX (k := l_l_bad_run - 1) sc_l_bad_run (fun vs H Q E h => ?_) fun cdv A outer s H vs Q E hr h => ⟨_, d_l_bad_run G T_l_take hr, ?_⟩
  · obtain ⟨g, hg, _⟩ := h
    have e := hg.1
    subst e
    rfl
  · exact body_C h fun g hg => vc_l_bad_run g hg
theorem ok_l_refused (G : Env P w K mg base a) (T : Kit K a) (T_first_wrong_by : DefC P w K mg base "first_wrong_by" ["tree", "rule", "flags", "run"] l_first_wrong_by [] (p_first_wrong_by K a)) (T_flags_by : DefC P w K mg base "flags_by" ["tree", "rule", "flags", "run"] l_flags_by [] (p_flags_by K a)) {f : Addr} {fd : FuncData} (F : Fun K "_law_refused" "_law_refused" s_l_refused f fd) : FnOk P w K mg base (L2.CX P w) l_l_refused f fd ["_law_door", "_law_tree_here", "_law_rule", "_law_flags_here", "_law_run_here"] (p_l_refused K a) := by
  refine F.okX (k := l_l_refused - 1) sc_l_refused (fun vs H Q E h => ?_) fun cdv A outer s H vs Q E hr h => ⟨_, d_l_refused G T_first_wrong_by T_flags_by hr, ?_⟩
  · obtain ⟨g, hg, _⟩ := h
    have e := hg.1
    subst e
    rfl
  · exact body_C h fun g hg => vc_l_refused T g hg
theorem ok_l_doors_right (G : Env P w K mg base a) (T_l_bad_flags : DefC P w K mg base "_law_bad_flags" ["_law_source_here", "_law_flags_here"] l_l_bad_flags [] (p_l_bad_flags K a)) (T_l_bad_rule : DefC P w K mg base "_law_bad_rule" ["_law_source_here", "_law_rule"] l_l_bad_rule [] (p_l_bad_rule K a)) (T_l_bad_run : DefC P w K mg base "_law_bad_run" ["_law_source_here", "_law_run_here", "_law_many"] l_l_bad_run [] (p_l_bad_run K a)) (T_l_refused : DefC P w K mg base "_law_refused" ["_law_door", "_law_tree_here", "_law_rule", "_law_flags_here", "_law_run_here"] l_l_refused [] (p_l_refused K a)) (T_l_take : DefC P w K mg base "_law_take" ["_law_source_here", "_law_many"] l_l_take [] (p_l_take K a)) {f : Addr} {fd : FuncData} (F : Fun K "_law_doors_right" "_law_doors_right" s_l_doors_right f fd) : FnOk P w K mg base (L2.CX P w) l_l_doors_right f fd ["_law_source_here", "_law_tree_here", "_law_many", "_law_rule", "_law_flags_here", "_law_run_here"] (p_l_doors_right K a) := by
  refine F.okX (k := l_l_doors_right - 1) sc_l_doors_right (fun vs H Q E h => ?_) fun cdv A outer s H vs Q E hr h => ⟨_, d_l_doors_right G T_l_bad_flags T_l_bad_rule T_l_bad_run T_l_refused T_l_take hr, ?_⟩
  · obtain ⟨g, hg, _⟩ := h
    have e := hg.1
    subst e
    rfl
  · exact body_C h fun g hg => vc_l_doors_right g hg
theorem ok_l_both_refused (G : Env P w K mg base a) (T : Kit K a) (T_same_rule : DefC P w K mg base "same_rule" ["tree", "rule", "other"] l_same_rule [] (p_same_rule K a)) {f : Addr} {fd : FuncData} (F : Fun K "_law_both_refused" "_law_both_refused" s_l_both_refused f fd) : FnOk P w K mg base (L2.CX P w) l_l_both_refused f fd ["_law_tree_here", "_law_rule", "_law_other"] (p_l_both_refused K a) := by
  refine F.okX (k := l_l_both_refused - 1) sc_l_both_refused (fun vs H Q E h => ?_) fun cdv A outer s H vs Q E hr h => ⟨_, d_l_both_refused G T_same_rule hr, ?_⟩
  · obtain ⟨g, hg, _⟩ := h
    have e := hg.1
    subst e
    rfl
  · exact body_C h fun g hg => vc_l_both_refused T g hg
theorem ok_l_pairs_right (G : Env P w K mg base a) (T_l_bad_rule : DefC P w K mg base "_law_bad_rule" ["_law_source_here", "_law_rule"] l_l_bad_rule [] (p_l_bad_rule K a)) (T_l_both_refused : DefC P w K mg base "_law_both_refused" ["_law_tree_here", "_law_rule", "_law_other"] l_l_both_refused [] (p_l_both_refused K a)) {f : Addr} {fd : FuncData} (F : Fun K "_law_pairs_right" "_law_pairs_right" s_l_pairs_right f fd) : FnOk P w K mg base (L2.CX P w) l_l_pairs_right f fd ["_law_source_here", "_law_tree_here", "_law_rule", "_law_other"] (p_l_pairs_right K a) := by
  refine F.okX (k := l_l_pairs_right - 1) sc_l_pairs_right (fun vs H Q E h => ?_) fun cdv A outer s H vs Q E hr h => ⟨_, d_l_pairs_right G T_l_bad_rule T_l_both_refused hr, ?_⟩
  · obtain ⟨g, hg, _⟩ := h
    have e := hg.1
    subst e
    rfl
  · exact body_C h fun g hg => vc_l_pairs_right g hg
theorem ok_law (G : Env P w K mg base a) (T : Kit K a) (T_l_doors_right : DefC P w K mg base "_law_doors_right" ["_law_source_here", "_law_tree_here", "_law_many", "_law_rule", "_law_flags_here", "_law_run_here"] l_l_doors_right [] (p_l_doors_right K a)) (T_l_flags : DefC P w K mg base "_law_flags" ["_law_source_here", "_law_many"] l_l_flags [] (p_l_flags K a)) (T_l_pairs_right : DefC P w K mg base "_law_pairs_right" ["_law_source_here", "_law_tree_here", "_law_rule", "_law_other"] l_l_pairs_right [] (p_l_pairs_right K a)) (T_l_reached : DefC P w K mg base "_law_reached" ["_law_tops", "_law_many", "_law_flags_here", "_law_rule", "_law_other"] l_l_reached [] (p_l_reached K a)) (T_l_rule_right : DefC P w K mg base "_law_rule_right" ["_law_tree_here", "_law_tops", "_law_many", "_law_rule", "_law_flags_here", "_law_run_here"] l_l_rule_right [] (p_l_rule_right K a)) (T_l_rules : DefC P w K mg base "_law_rules" [] l_l_rules [] (p_l_rules K a)) (T_l_run : DefC P w K mg base "_law_run" ["_law_source_here", "_law_tops", "_law_many", "_law_flags_here", "_law_rule"] l_l_run [] (p_l_run K a)) (T_l_same_right : DefC P w K mg base "_law_same_right" ["_law_tree_here", "_law_many", "_law_rules_here"] l_l_same_right [] (p_l_same_right K a)) (T_l_source : DefC P w K mg base "_law_source" ["_law_script", "_law_place"] l_l_source [] (p_l_source K a)) (T_l_take : DefC P w K mg base "_law_take" ["_law_source_here", "_law_many"] l_l_take [] (p_l_take K a)) (T_l_tree : DefC P w K mg base "_law_tree" ["_law_source_here", "_law_most"] l_l_tree [] (p_l_tree K a)) (T_same_rule : DefC P w K mg base "same_rule" ["tree", "rule", "other"] l_same_rule [] (p_same_rule K a)) (T_Tree_init : MakC P w K mg base "Tree" a.Tree ["self", "text"] l_Tree_init (p_Tree_init K a)) {f : Addr} {fd : FuncData} (F : Fun K "law" "law" s_law f fd) : FnOk P w K mg base (L2.CX P w) l_law f fd ["_law_script"] (p_law K a) := by
  refine F.okX (k := l_law - 1) sc_law (fun vs H Q E h => ?_) fun cdv A outer s H vs Q E hr h => ⟨_, d_law G T_l_doors_right T_l_flags T_l_pairs_right T_l_reached T_l_rule_right T_l_rules T_l_run T_l_same_right T_l_source T_l_take T_l_tree T_same_rule T_Tree_init hr, ?_⟩
  · obtain ⟨g, hg, _⟩ := h
    have e := hg.1
    subst e
    rfl
  · exact body_C h fun g hg => vc_law T g hg
end
/-! ### what the top has written -/
theorem all_mk {l : PySem.W.OpenLaw} {w : World} {K : PySem.W.Frag} {h : Heap} {mg : Str → Option Value} {fa : Addr} {c0 c1 c2 c3 c4 c5 c6 c7 qKINDS qRULES : Addr}
    {td_KINDS : Option Addr} {tn_KINDS : Nat} {ts_KINDS : Array (Option Value)} {tk_KINDS0 tk_KINDS1 : Tok}
    {td_RULES : Option Addr} {tn_RULES : Nat} {ts_RULES : Array (Option Value)} {tk_RULES0 tk_RULES1 tk_RULES2 tk_RULES3 tk_RULES4 tk_RULES5 tk_RULES6 tk_RULES7 : Tok}
    {tc_c7_MOST : Tok}
    {f0 : Addr} {od0 an0 : Option Addr} {sl0 : Array (Option Value)} {oc0 kV0 dc0 pm0 cd0 ct0 : Value}
    {f1 : Addr} {od1 an1 : Option Addr} {sl1 : Array (Option Value)} {oc1 kV1 dc1 pm1 cd1 ct1 : Value}
    {f2 : Addr} {od2 an2 : Option Addr} {sl2 : Array (Option Value)} {oc2 kV2 dc2 pm2 cd2 ct2 : Value}
    {f3 : Addr} {od3 an3 : Option Addr} {sl3 : Array (Option Value)} {oc3 kV3 dc3 pm3 cd3 ct3 : Value}
    {pp4 : Addr} {pq4 : List Value}
    {f4 : Addr} {od4 an4 : Option Addr} {sl4 : Array (Option Value)} {oc4 kV4 dc4 pm4 cd4 ct4 : Value}
    {f5 : Addr} {od5 an5 : Option Addr} {sl5 : Array (Option Value)} {oc5 kV5 dc5 pm5 cd5 ct5 : Value}
    {f6 : Addr} {od6 an6 : Option Addr} {sl6 : Array (Option Value)} {oc6 kV6 dc6 pm6 cd6 ct6 : Value}
    {f7 : Addr} {od7 an7 : Option Addr} {sl7 : Array (Option Value)} {oc7 kV7 dc7 pm7 cd7 ct7 : Value}
    {f8 : Addr} {od8 an8 : Option Addr} {sl8 : Array (Option Value)} {oc8 kV8 dc8 pm8 cd8 ct8 : Value}
    {f9 : Addr} {od9 an9 : Option Addr} {sl9 : Array (Option Value)} {oc9 kV9 dc9 pm9 cd9 ct9 : Value}
    {f10 : Addr} {od10 an10 : Option Addr} {sl10 : Array (Option Value)} {oc10 kV10 dc10 pm10 cd10 ct10 : Value}
    {f11 : Addr} {od11 an11 : Option Addr} {sl11 : Array (Option Value)} {oc11 kV11 dc11 pm11 cd11 ct11 : Value}
    {f12 : Addr} {od12 an12 : Option Addr} {sl12 : Array (Option Value)} {oc12 kV12 dc12 pm12 cd12 ct12 : Value}
    {f13 : Addr} {od13 an13 : Option Addr} {sl13 : Array (Option Value)} {oc13 kV13 dc13 pm13 cd13 ct13 : Value}
    {f14 : Addr} {od14 an14 : Option Addr} {sl14 : Array (Option Value)} {oc14 kV14 dc14 pm14 cd14 ct14 : Value}
    {f15 : Addr} {od15 an15 : Option Addr} {sl15 : Array (Option Value)} {oc15 kV15 dc15 pm15 cd15 ct15 : Value}
    {f16 : Addr} {od16 an16 : Option Addr} {sl16 : Array (Option Value)} {oc16 kV16 dc16 pm16 cd16 ct16 : Value}
    {f17 : Addr} {od17 an17 : Option Addr} {sl17 : Array (Option Value)} {oc17 kV17 dc17 pm17 cd17 ct17 : Value}
    {f18 : Addr} {od18 an18 : Option Addr} {sl18 : Array (Option Value)} {oc18 kV18 dc18 pm18 cd18 ct18 : Value}
    {f19 : Addr} {od19 an19 : Option Addr} {sl19 : Array (Option Value)} {oc19 kV19 dc19 pm19 cd19 ct19 : Value}
    {f20 : Addr} {od20 an20 : Option Addr} {sl20 : Array (Option Value)} {oc20 kV20 dc20 pm20 cd20 ct20 : Value}
    {f21 : Addr} {od21 an21 : Option Addr} {sl21 : Array (Option Value)} {oc21 kV21 dc21 pm21 cd21 ct21 : Value}
    {f22 : Addr} {od22 an22 : Option Addr} {sl22 : Array (Option Value)} {oc22 kV22 dc22 pm22 cd22 ct22 : Value}
    {f23 : Addr} {od23 an23 : Option Addr} {sl23 : Array (Option Value)} {oc23 kV23 dc23 pm23 cd23 ct23 : Value}
    {f24 : Addr} {od24 an24 : Option Addr} {sl24 : Array (Option Value)} {oc24 kV24 dc24 pm24 cd24 ct24 : Value}
    {f25 : Addr} {od25 an25 : Option Addr} {sl25 : Array (Option Value)} {oc25 kV25 dc25 pm25 cd25 ct25 : Value}
    {f26 : Addr} {od26 an26 : Option Addr} {sl26 : Array (Option Value)} {oc26 kV26 dc26 pm26 cd26 ct26 : Value}
    {f27 : Addr} {od27 an27 : Option Addr} {sl27 : Array (Option Value)} {oc27 kV27 dc27 pm27 cd27 ct27 : Value}
    {f28 : Addr} {od28 an28 : Option Addr} {sl28 : Array (Option Value)} {oc28 kV28 dc28 pm28 cd28 ct28 : Value}
    {f29 : Addr} {od29 an29 : Option Addr} {sl29 : Array (Option Value)} {oc29 kV29 dc29 pm29 cd29 ct29 : Value}
    {f30 : Addr} {od30 an30 : Option Addr} {sl30 : Array (Option Value)} {oc30 kV30 dc30 pm30 cd30 ct30 : Value}
    {f31 : Addr} {od31 an31 : Option Addr} {sl31 : Array (Option Value)} {oc31 kV31 dc31 pm31 cd31 ct31 : Value}
    {f32 : Addr} {od32 an32 : Option Addr} {sl32 : Array (Option Value)} {oc32 kV32 dc32 pm32 cd32 ct32 : Value}
    {f33 : Addr} {od33 an33 : Option Addr} {sl33 : Array (Option Value)} {oc33 kV33 dc33 pm33 cd33 ct33 : Value}
    {f34 : Addr} {od34 an34 : Option Addr} {sl34 : Array (Option Value)} {oc34 kV34 dc34 pm34 cd34 ct34 : Value}
    {f35 : Addr} {od35 an35 : Option Addr} {sl35 : Array (Option Value)} {oc35 kV35 dc35 pm35 cd35 ct35 : Value}
    {f36 : Addr} {od36 an36 : Option Addr} {sl36 : Array (Option Value)} {oc36 kV36 dc36 pm36 cd36 ct36 : Value}
    {f37 : Addr} {od37 an37 : Option Addr} {sl37 : Array (Option Value)} {oc37 kV37 dc37 pm37 cd37 ct37 : Value}
    {f38 : Addr} {od38 an38 : Option Addr} {sl38 : Array (Option Value)} {oc38 kV38 dc38 pm38 cd38 ct38 : Value}
    {f39 : Addr} {od39 an39 : Option Addr} {sl39 : Array (Option Value)} {oc39 kV39 dc39 pm39 cd39 ct39 : Value}
    {f40 : Addr} {od40 an40 : Option Addr} {sl40 : Array (Option Value)} {oc40 kV40 dc40 pm40 cd40 ct40 : Value}
    {f41 : Addr} {od41 an41 : Option Addr} {sl41 : Array (Option Value)} {oc41 kV41 dc41 pm41 cd41 ct41 : Value}
    {f42 : Addr} {od42 an42 : Option Addr} {sl42 : Array (Option Value)} {oc42 kV42 dc42 pm42 cd42 ct42 : Value}
    {nm_c2 qn_c2 : Str} {N_c2 : Addr} {bs_c2 bm_c2 sub_c2 : List Value} {sn_c2 : List Str} {ab_c2 : Bool} {col_c2 : Option Bool} {dd_c2 : Option Addr} {k0_c2 k1_c2 k2_c2 k3_c2 k5_c2 : Option Value}
    {fic2 : Addr} {odc2 anc2 : Option Addr} {slc2 : Array (Option Value)} {occ2 kVc2 dcc2 pmc2 cdc2 ctc2 : Value}
    {nm_c3 qn_c3 : Str} {N_c3 : Addr} {bs_c3 bm_c3 sub_c3 : List Value} {sn_c3 : List Str} {ab_c3 : Bool} {col_c3 : Option Bool} {dd_c3 : Option Addr} {k0_c3 k1_c3 k2_c3 k3_c3 k5_c3 : Option Value}
    {fic3 : Addr} {odc3 anc3 : Option Addr} {slc3 : Array (Option Value)} {occ3 kVc3 dcc3 pmc3 cdc3 ctc3 : Value}
    {nm_c4 qn_c4 : Str} {N_c4 : Addr} {bs_c4 bm_c4 sub_c4 : List Value} {sn_c4 : List Str} {ab_c4 : Bool} {col_c4 : Option Bool} {dd_c4 : Option Addr} {k0_c4 k1_c4 k2_c4 k3_c4 k5_c4 : Option Value}
    {fic4 : Addr} {odc4 anc4 : Option Addr} {slc4 : Array (Option Value)} {occ4 kVc4 dcc4 pmc4 cdc4 ctc4 : Value}
    {nm_c1 qn_c1 : Str} {N_c1 : Addr} {bs_c1 bm_c1 sub_c1 : List Value} {sn_c1 : List Str} {ab_c1 : Bool} {col_c1 : Option Bool} {dd_c1 : Option Addr} {k0_c1 k1_c1 k2_c1 k3_c1 k5_c1 : Option Value}
    {fic1 : Addr} {odc1 anc1 : Option Addr} {slc1 : Array (Option Value)} {occ1 kVc1 dcc1 pmc1 cdc1 ctc1 : Value}
    (X : K.In h) (G : h.Ns mainGlobals mg) (hfa : mg "law" = some (.ref fa))
    (ac0 : PySem.W.nsIn K mainGlobals "CacheError" = some (some (.ref c0)))
    (ac1 : PySem.W.nsIn K mainGlobals "InvalidTree" = some (some (.ref c1)))
    (ac2 : PySem.W.nsIn K mainGlobals "InvalidFlags" = some (some (.ref c2)))
    (ac3 : PySem.W.nsIn K mainGlobals "InvalidLine" = some (some (.ref c3)))
    (ac4 : PySem.W.nsIn K mainGlobals "InvalidRule" = some (some (.ref c4)))
    (ac5 : PySem.W.nsIn K mainGlobals "TooMany" = some (some (.ref c5)))
    (ac6 : PySem.W.nsIn K mainGlobals "Refused" = some (some (.ref c6)))
    (ac7 : PySem.W.nsIn K mainGlobals "Tree" = some (some (.ref c7)))
    (z_ValueError : PySem.W.nsIn K mainGlobals "ValueError" = some none)
    (z_all : PySem.W.nsIn K mainGlobals "all" = some none)
    (z_bool : PySem.W.nsIn K mainGlobals "bool" = some none)
    (z_enumerate : PySem.W.nsIn K mainGlobals "enumerate" = some none)
    (z_int : PySem.W.nsIn K mainGlobals "int" = some none)
    (z_isinstance : PySem.W.nsIn K mainGlobals "isinstance" = some none)
    (z_len : PySem.W.nsIn K mainGlobals "len" = some none)
    (z_list : PySem.W.nsIn K mainGlobals "list" = some none)
    (z_min : PySem.W.nsIn K mainGlobals "min" = some none)
    (z_range : PySem.W.nsIn K mainGlobals "range" = some none)
    (z_sorted : PySem.W.nsIn K mainGlobals "sorted" = some none)
    (z_str : PySem.W.nsIn K mainGlobals "str" = some none)
    (z_sum : PySem.W.nsIn K mainGlobals "sum" = some none)
    (z_tuple : PySem.W.nsIn K mainGlobals "tuple" = some none)
    (t_KINDS : PySem.W.nsIn K mainGlobals "KINDS" = some (some (.ref qKINDS)))
    (tl_KINDS : K.lookup qKINDS = some ⟨.type "tuple", td_KINDS, .seq #[.str "hit" tk_KINDS0, .str "load" tk_KINDS1] tn_KINDS, ts_KINDS⟩)
    (t_RULES : PySem.W.nsIn K mainGlobals "RULES" = some (some (.ref qRULES)))
    (tl_RULES : K.lookup qRULES = some ⟨.type "tuple", td_RULES, .seq #[.str "tta" tk_RULES0, .str "tts" tk_RULES1, .str "tka" tk_RULES2, .str "tks" tk_RULES3, .str "kta" tk_RULES4, .str "kts" tk_RULES5, .str "kka" tk_RULES6, .str "kks" tk_RULES7] tn_RULES, ts_RULES⟩)
    (opg_c7 : PySem.W.plainGet K c7 Str.empty = true)
    (ohd_c7 : PySem.W.hasDictIn K c7 = true)
    (opo_c7 : PySem.W.plainOver K c7 = true)
    (osa_c7 : PySem.W.findIn K (.ref c7) "__setattr__" = some (some (.builtin "object.__setattr__")))
    (omk_c7 : PySem.W.makesIn K c7 = true)
    (okc_c7 : PySem.W.keepIn K (.ref c7) = true)
    (ona_c7_bounds : PySem.W.findIn K (.ref c7) "bounds" = some none)
    (ona_c7_lefts : PySem.W.findIn K (.ref c7) "lefts" = some none)
    (ona_c7_postorder : PySem.W.findIn K (.ref c7) "postorder" = some none)
    (ona_c7_preorder : PySem.W.findIn K (.ref c7) "preorder" = some none)
    (ona_c7_rights : PySem.W.findIn K (.ref c7) "rights" = some none)
    (ona_c7_root : PySem.W.findIn K (.ref c7) "root" = some none)
    (ona_c7_spans : PySem.W.findIn K (.ref c7) "spans" = some none)
    (ona_c7_text : PySem.W.findIn K (.ref c7) "text" = some none)
    (ona_c7_ways : PySem.W.findIn K (.ref c7) "ways" = some none)
    (oco_c7_MOST : PySem.W.findIn K (.ref c7) "MOST" = some (some (.int 64 tc_c7_MOST)))
    (ocg_c7_MOST : PySem.W.specialIn K (.int 64 tc_c7_MOST) "__get__" = some none)
    (at0 : PySem.W.nsIn K mainGlobals "is_integer" = some (some (.ref f0)))
    (l0 : K.lookup f0 = some ⟨oc0, od0, .func (PySem.W.fnOf "is_integer" "is_integer" (defArgs s_is_integer) (defBody s_is_integer) (defScope s_is_integer) .none kV0 dc0 pm0 an0 cd0 ct0), sl0⟩)
    (co0 : PySem.W.codeIn K cd0 "is_integer" = true)
    (kp0 : PySem.W.keepIn K (.ref f0) = true)
    (at1 : PySem.W.nsIn K mainGlobals "is_place" = some (some (.ref f1)))
    (l1 : K.lookup f1 = some ⟨oc1, od1, .func (PySem.W.fnOf "is_place" "is_place" (defArgs s_is_place) (defBody s_is_place) (defScope s_is_place) .none kV1 dc1 pm1 an1 cd1 ct1), sl1⟩)
    (co1 : PySem.W.codeIn K cd1 "is_place" = true)
    (kp1 : PySem.W.keepIn K (.ref f1) = true)
    (at2 : PySem.W.nsIn K mainGlobals "is_made_of" = some (some (.ref f2)))
    (l2 : K.lookup f2 = some ⟨oc2, od2, .func (PySem.W.fnOf "is_made_of" "is_made_of" (defArgs s_is_made_of) (defBody s_is_made_of) (defScope s_is_made_of) .none kV2 dc2 pm2 an2 cd2 ct2), sl2⟩)
    (co2 : PySem.W.codeIn K cd2 "is_made_of" = true)
    (kp2 : PySem.W.keepIn K (.ref f2) = true)
    (at3 : PySem.W.nsIn K mainGlobals "is_line" = some (some (.ref f3)))
    (l3 : K.lookup f3 = some ⟨oc3, od3, .func (PySem.W.fnOf "is_line" "is_line" (defArgs s_is_line) (defBody s_is_line) (defScope s_is_line) .none kV3 dc3 pm3 an3 cd3 ct3), sl3⟩)
    (co3 : PySem.W.codeIn K cd3 "is_line" = true)
    (kp3 : PySem.W.keepIn K (.ref f3) = true)
    (pa4 : PySem.W.findIn K (.ref c7) "forks" = some (some (.ref pp4)))
    (pgt4 : PySem.W.specialIn K (.ref pp4) "__get__" = some (some (.builtin "property.__get__")))
    (pt4 : PySem.W.takesIn K (.ref pp4) = some true)
    (prc4 : PySem.W.recIn K pp4 "property" = some (.ref f4 :: pq4))
    (l4 : K.lookup f4 = some ⟨oc4, od4, .func (PySem.W.fnOf "forks" "Tree.forks" (defArgs s_Tree_forks) (defBody s_Tree_forks) (defScope s_Tree_forks) .none kV4 dc4 pm4 an4 cd4 ct4), sl4⟩)
    (co4 : PySem.W.codeIn K cd4 "Tree.forks" = true)
    (kp4 : PySem.W.keepIn K (.ref f4) = true)
    (at5 : PySem.W.nsIn K mainGlobals "checked_flags" = some (some (.ref f5)))
    (l5 : K.lookup f5 = some ⟨oc5, od5, .func (PySem.W.fnOf "checked_flags" "checked_flags" (defArgs s_checked_flags) (defBody s_checked_flags) (defScope s_checked_flags) .none kV5 dc5 pm5 an5 cd5 ct5), sl5⟩)
    (co5 : PySem.W.codeIn K cd5 "checked_flags" = true)
    (kp5 : PySem.W.keepIn K (.ref f5) = true)
    (at6 : PySem.W.nsIn K mainGlobals "checked_lines" = some (some (.ref f6)))
    (l6 : K.lookup f6 = some ⟨oc6, od6, .func (PySem.W.fnOf "checked_lines" "checked_lines" (defArgs s_checked_lines) (defBody s_checked_lines) (defScope s_checked_lines) .none kV6 dc6 pm6 an6 cd6 ct6), sl6⟩)
    (co6 : PySem.W.codeIn K cd6 "checked_lines" = true)
    (kp6 : PySem.W.keepIn K (.ref f6) = true)
    (at7 : PySem.W.findIn K (.ref c7) "__len__" = some (some (.ref f7)))
    (fn7 : PySem.W.isFn K (.ref f7) = true)
    (l7 : K.lookup f7 = some ⟨oc7, od7, .func (PySem.W.fnOf "__len__" "Tree.__len__" (defArgs s_Tree_len) (defBody s_Tree_len) (defScope s_Tree_len) .none kV7 dc7 pm7 an7 cd7 ct7), sl7⟩)
    (co7 : PySem.W.codeIn K cd7 "Tree.__len__" = true)
    (kp7 : PySem.W.keepIn K (.ref f7) = true)
    (at8 : PySem.W.nsIn K mainGlobals "checked_run" = some (some (.ref f8)))
    (l8 : K.lookup f8 = some ⟨oc8, od8, .func (PySem.W.fnOf "checked_run" "checked_run" (defArgs s_checked_run) (defBody s_checked_run) (defScope s_checked_run) .none kV8 dc8 pm8 an8 cd8 ct8), sl8⟩)
    (co8 : PySem.W.codeIn K cd8 "checked_run" = true)
    (kp8 : PySem.W.keepIn K (.ref f8) = true)
    (at9 : PySem.W.nsIn K mainGlobals "turned" = some (some (.ref f9)))
    (l9 : K.lookup f9 = some ⟨oc9, od9, .func (PySem.W.fnOf "turned" "turned" (defArgs s_turned) (defBody s_turned) (defScope s_turned) .none kV9 dc9 pm9 an9 cd9 ct9), sl9⟩)
    (co9 : PySem.W.codeIn K cd9 "turned" = true)
    (kp9 : PySem.W.keepIn K (.ref f9) = true)
    (at10 : PySem.W.nsIn K mainGlobals "checked_rule" = some (some (.ref f10)))
    (l10 : K.lookup f10 = some ⟨oc10, od10, .func (PySem.W.fnOf "checked_rule" "checked_rule" (defArgs s_checked_rule) (defBody s_checked_rule) (defScope s_checked_rule) .none kV10 dc10 pm10 an10 cd10 ct10), sl10⟩)
    (co10 : PySem.W.codeIn K cd10 "checked_rule" = true)
    (kp10 : PySem.W.keepIn K (.ref f10) = true)
    (at11 : PySem.W.nsIn K mainGlobals "turned_by" = some (some (.ref f11)))
    (l11 : K.lookup f11 = some ⟨oc11, od11, .func (PySem.W.fnOf "turned_by" "turned_by" (defArgs s_turned_by) (defBody s_turned_by) (defScope s_turned_by) .none kV11 dc11 pm11 an11 cd11 ct11), sl11⟩)
    (co11 : PySem.W.codeIn K cd11 "turned_by" = true)
    (kp11 : PySem.W.keepIn K (.ref f11) = true)
    (at12 : PySem.W.nsIn K mainGlobals "goes_against" = some (some (.ref f12)))
    (l12 : K.lookup f12 = some ⟨oc12, od12, .func (PySem.W.fnOf "goes_against" "goes_against" (defArgs s_goes_against) (defBody s_goes_against) (defScope s_goes_against) .none kV12 dc12 pm12 an12 cd12 ct12), sl12⟩)
    (co12 : PySem.W.codeIn K cd12 "goes_against" = true)
    (kp12 : PySem.W.keepIn K (.ref f12) = true)
    (at13 : PySem.W.nsIn K mainGlobals "wrong_fork" = some (some (.ref f13)))
    (l13 : K.lookup f13 = some ⟨oc13, od13, .func (PySem.W.fnOf "wrong_fork" "wrong_fork" (defArgs s_wrong_fork) (defBody s_wrong_fork) (defScope s_wrong_fork) .none kV13 dc13 pm13 an13 cd13 ct13), sl13⟩)
    (co13 : PySem.W.codeIn K cd13 "wrong_fork" = true)
    (kp13 : PySem.W.keepIn K (.ref f13) = true)
    (at14 : PySem.W.nsIn K mainGlobals "first_wrong_by" = some (some (.ref f14)))
    (l14 : K.lookup f14 = some ⟨oc14, od14, .func (PySem.W.fnOf "first_wrong_by" "first_wrong_by" (defArgs s_first_wrong_by) (defBody s_first_wrong_by) (defScope s_first_wrong_by) .none kV14 dc14 pm14 an14 cd14 ct14), sl14⟩)
    (co14 : PySem.W.codeIn K cd14 "first_wrong_by" = true)
    (kp14 : PySem.W.keepIn K (.ref f14) = true)
    (at15 : PySem.W.nsIn K mainGlobals "flags_by" = some (some (.ref f15)))
    (l15 : K.lookup f15 = some ⟨oc15, od15, .func (PySem.W.fnOf "flags_by" "flags_by" (defArgs s_flags_by) (defBody s_flags_by) (defScope s_flags_by) .none kV15 dc15 pm15 an15 cd15 ct15), sl15⟩)
    (co15 : PySem.W.codeIn K cd15 "flags_by" = true)
    (kp15 : PySem.W.keepIn K (.ref f15) = true)
    (at16 : PySem.W.nsIn K mainGlobals "same_rule" = some (some (.ref f16)))
    (l16 : K.lookup f16 = some ⟨oc16, od16, .func (PySem.W.fnOf "same_rule" "same_rule" (defArgs s_same_rule) (defBody s_same_rule) (defScope s_same_rule) .none kV16 dc16 pm16 an16 cd16 ct16), sl16⟩)
    (co16 : PySem.W.codeIn K cd16 "same_rule" = true)
    (kp16 : PySem.W.keepIn K (.ref f16) = true)
    (at17 : PySem.W.nsIn K mainGlobals "ends_fork" = some (some (.ref f17)))
    (l17 : K.lookup f17 = some ⟨oc17, od17, .func (PySem.W.fnOf "ends_fork" "ends_fork" (defArgs s_ends_fork) (defBody s_ends_fork) (defScope s_ends_fork) .none kV17 dc17 pm17 an17 cd17 ct17), sl17⟩)
    (co17 : PySem.W.codeIn K cd17 "ends_fork" = true)
    (kp17 : PySem.W.keepIn K (.ref f17) = true)
    (at18 : PySem.W.nsIn K mainGlobals "read_forks" = some (some (.ref f18)))
    (l18 : K.lookup f18 = some ⟨oc18, od18, .func (PySem.W.fnOf "read_forks" "read_forks" (defArgs s_read_forks) (defBody s_read_forks) (defScope s_read_forks) .none kV18 dc18 pm18 an18 cd18 ct18), sl18⟩)
    (co18 : PySem.W.codeIn K cd18 "read_forks" = true)
    (kp18 : PySem.W.keepIn K (.ref f18) = true)
    (at19 : PySem.W.nsIn K mainGlobals "lay_ways" = some (some (.ref f19)))
    (l19 : K.lookup f19 = some ⟨oc19, od19, .func (PySem.W.fnOf "lay_ways" "lay_ways" (defArgs s_lay_ways) (defBody s_lay_ways) (defScope s_lay_ways) .none kV19 dc19 pm19 an19 cd19 ct19), sl19⟩)
    (co19 : PySem.W.codeIn K cd19 "lay_ways" = true)
    (kp19 : PySem.W.keepIn K (.ref f19) = true)
    (at20 : PySem.W.findIn K (.ref c7) "__init__" = some (some (.ref f20)))
    (fn20 : PySem.W.isFn K (.ref f20) = true)
    (l20 : K.lookup f20 = some ⟨oc20, od20, .func (PySem.W.fnOf "__init__" "Tree.__init__" (defArgs s_Tree_init) (defBody s_Tree_init) (defScope s_Tree_init) .none kV20 dc20 pm20 an20 cd20 ct20), sl20⟩)
    (co20 : PySem.W.codeIn K cd20 "Tree.__init__" = true)
    (kp20 : PySem.W.keepIn K (.ref f20) = true)
    (at21 : PySem.W.nsIn K mainGlobals "_law_source" = some (some (.ref f21)))
    (l21 : K.lookup f21 = some ⟨oc21, od21, .func (PySem.W.fnOf "_law_source" "_law_source" (defArgs s_l_source) (defBody s_l_source) (defScope s_l_source) .none kV21 dc21 pm21 an21 cd21 ct21), sl21⟩)
    (co21 : PySem.W.codeIn K cd21 "_law_source" = true)
    (kp21 : PySem.W.keepIn K (.ref f21) = true)
    (at22 : PySem.W.nsIn K mainGlobals "_law_take" = some (some (.ref f22)))
    (l22 : K.lookup f22 = some ⟨oc22, od22, .func (PySem.W.fnOf "_law_take" "_law_take" (defArgs s_l_take) (defBody s_l_take) (defScope s_l_take) .none kV22 dc22 pm22 an22 cd22 ct22), sl22⟩)
    (co22 : PySem.W.codeIn K cd22 "_law_take" = true)
    (kp22 : PySem.W.keepIn K (.ref f22) = true)
    (at23 : PySem.W.nsIn K mainGlobals "_law_part" = some (some (.ref f23)))
    (l23 : K.lookup f23 = some ⟨oc23, od23, .func (PySem.W.fnOf "_law_part" "_law_part" (defArgs s_l_part) (defBody s_l_part) (defScope s_l_part) .none kV23 dc23 pm23 an23 cd23 ct23), sl23⟩)
    (co23 : PySem.W.codeIn K cd23 "_law_part" = true)
    (kp23 : PySem.W.keepIn K (.ref f23) = true)
    (at24 : PySem.W.nsIn K mainGlobals "_law_tree" = some (some (.ref f24)))
    (l24 : K.lookup f24 = some ⟨oc24, od24, .func (PySem.W.fnOf "_law_tree" "_law_tree" (defArgs s_l_tree) (defBody s_l_tree) (defScope s_l_tree) .none kV24 dc24 pm24 an24 cd24 ct24), sl24⟩)
    (co24 : PySem.W.codeIn K cd24 "_law_tree" = true)
    (kp24 : PySem.W.keepIn K (.ref f24) = true)
    (at25 : PySem.W.nsIn K mainGlobals "_law_flags" = some (some (.ref f25)))
    (l25 : K.lookup f25 = some ⟨oc25, od25, .func (PySem.W.fnOf "_law_flags" "_law_flags" (defArgs s_l_flags) (defBody s_l_flags) (defScope s_l_flags) .none kV25 dc25 pm25 an25 cd25 ct25), sl25⟩)
    (co25 : PySem.W.codeIn K cd25 "_law_flags" = true)
    (kp25 : PySem.W.keepIn K (.ref f25) = true)
    (at26 : PySem.W.nsIn K mainGlobals "_law_victim" = some (some (.ref f26)))
    (l26 : K.lookup f26 = some ⟨oc26, od26, .func (PySem.W.fnOf "_law_victim" "_law_victim" (defArgs s_l_victim) (defBody s_l_victim) (defScope s_l_victim) .none kV26 dc26 pm26 an26 cd26 ct26), sl26⟩)
    (co26 : PySem.W.codeIn K cd26 "_law_victim" = true)
    (kp26 : PySem.W.keepIn K (.ref f26) = true)
    (at27 : PySem.W.nsIn K mainGlobals "_law_after" = some (some (.ref f27)))
    (l27 : K.lookup f27 = some ⟨oc27, od27, .func (PySem.W.fnOf "_law_after" "_law_after" (defArgs s_l_after) (defBody s_l_after) (defScope s_l_after) .none kV27 dc27 pm27 an27 cd27 ct27), sl27⟩)
    (co27 : PySem.W.codeIn K cd27 "_law_after" = true)
    (kp27 : PySem.W.keepIn K (.ref f27) = true)
    (at28 : PySem.W.nsIn K mainGlobals "_law_rules" = some (some (.ref f28)))
    (l28 : K.lookup f28 = some ⟨oc28, od28, .func (PySem.W.fnOf "_law_rules" "_law_rules" (defArgs s_l_rules) (defBody s_l_rules) (defScope s_l_rules) .none kV28 dc28 pm28 an28 cd28 ct28), sl28⟩)
    (co28 : PySem.W.codeIn K cd28 "_law_rules" = true)
    (kp28 : PySem.W.keepIn K (.ref f28) = true)
    (at29 : PySem.W.nsIn K mainGlobals "_law_run" = some (some (.ref f29)))
    (l29 : K.lookup f29 = some ⟨oc29, od29, .func (PySem.W.fnOf "_law_run" "_law_run" (defArgs s_l_run) (defBody s_l_run) (defScope s_l_run) .none kV29 dc29 pm29 an29 cd29 ct29), sl29⟩)
    (co29 : PySem.W.codeIn K cd29 "_law_run" = true)
    (kp29 : PySem.W.keepIn K (.ref f29) = true)
    (at30 : PySem.W.nsIn K mainGlobals "_law_judged" = some (some (.ref f30)))
    (l30 : K.lookup f30 = some ⟨oc30, od30, .func (PySem.W.fnOf "_law_judged" "_law_judged" (defArgs s_l_judged) (defBody s_l_judged) (defScope s_l_judged) .none kV30 dc30 pm30 an30 cd30 ct30), sl30⟩)
    (co30 : PySem.W.codeIn K cd30 "_law_judged" = true)
    (kp30 : PySem.W.keepIn K (.ref f30) = true)
    (at31 : PySem.W.nsIn K mainGlobals "_law_is_integer" = some (some (.ref f31)))
    (l31 : K.lookup f31 = some ⟨oc31, od31, .func (PySem.W.fnOf "_law_is_integer" "_law_is_integer" (defArgs s_l_is_integer) (defBody s_l_is_integer) (defScope s_l_is_integer) .none kV31 dc31 pm31 an31 cd31 ct31), sl31⟩)
    (co31 : PySem.W.codeIn K cd31 "_law_is_integer" = true)
    (kp31 : PySem.W.keepIn K (.ref f31) = true)
    (at32 : PySem.W.nsIn K mainGlobals "_law_rule_right" = some (some (.ref f32)))
    (l32 : K.lookup f32 = some ⟨oc32, od32, .func (PySem.W.fnOf "_law_rule_right" "_law_rule_right" (defArgs s_l_rule_right) (defBody s_l_rule_right) (defScope s_l_rule_right) .none kV32 dc32 pm32 an32 cd32 ct32), sl32⟩)
    (co32 : PySem.W.codeIn K cd32 "_law_rule_right" = true)
    (kp32 : PySem.W.keepIn K (.ref f32) = true)
    (at33 : PySem.W.nsIn K mainGlobals "_law_reached" = some (some (.ref f33)))
    (l33 : K.lookup f33 = some ⟨oc33, od33, .func (PySem.W.fnOf "_law_reached" "_law_reached" (defArgs s_l_reached) (defBody s_l_reached) (defScope s_l_reached) .none kV33 dc33 pm33 an33 cd33 ct33), sl33⟩)
    (co33 : PySem.W.codeIn K cd33 "_law_reached" = true)
    (kp33 : PySem.W.keepIn K (.ref f33) = true)
    (at34 : PySem.W.nsIn K mainGlobals "_law_same_right" = some (some (.ref f34)))
    (l34 : K.lookup f34 = some ⟨oc34, od34, .func (PySem.W.fnOf "_law_same_right" "_law_same_right" (defArgs s_l_same_right) (defBody s_l_same_right) (defScope s_l_same_right) .none kV34 dc34 pm34 an34 cd34 ct34), sl34⟩)
    (co34 : PySem.W.codeIn K cd34 "_law_same_right" = true)
    (kp34 : PySem.W.keepIn K (.ref f34) = true)
    (at35 : PySem.W.nsIn K mainGlobals "_law_bad_rule" = some (some (.ref f35)))
    (l35 : K.lookup f35 = some ⟨oc35, od35, .func (PySem.W.fnOf "_law_bad_rule" "_law_bad_rule" (defArgs s_l_bad_rule) (defBody s_l_bad_rule) (defScope s_l_bad_rule) .none kV35 dc35 pm35 an35 cd35 ct35), sl35⟩)
    (co35 : PySem.W.codeIn K cd35 "_law_bad_rule" = true)
    (kp35 : PySem.W.keepIn K (.ref f35) = true)
    (at36 : PySem.W.nsIn K mainGlobals "_law_bad_flags" = some (some (.ref f36)))
    (l36 : K.lookup f36 = some ⟨oc36, od36, .func (PySem.W.fnOf "_law_bad_flags" "_law_bad_flags" (defArgs s_l_bad_flags) (defBody s_l_bad_flags) (defScope s_l_bad_flags) .none kV36 dc36 pm36 an36 cd36 ct36), sl36⟩)
    (co36 : PySem.W.codeIn K cd36 "_law_bad_flags" = true)
    (kp36 : PySem.W.keepIn K (.ref f36) = true)
    (at37 : PySem.W.nsIn K mainGlobals "_law_bad_run" = some (some (.ref f37)))
    (l37 : K.lookup f37 = some ⟨oc37, od37, .func (PySem.W.fnOf "_law_bad_run" "_law_bad_run" (defArgs s_l_bad_run) (defBody s_l_bad_run) (defScope s_l_bad_run) .none kV37 dc37 pm37 an37 cd37 ct37), sl37⟩)
    (co37 : PySem.W.codeIn K cd37 "_law_bad_run" = true)
    (kp37 : PySem.W.keepIn K (.ref f37) = true)
    (at38 : PySem.W.nsIn K mainGlobals "_law_refused" = some (some (.ref f38)))
    (l38 : K.lookup f38 = some ⟨oc38, od38, .func (PySem.W.fnOf "_law_refused" "_law_refused" (defArgs s_l_refused) (defBody s_l_refused) (defScope s_l_refused) .none kV38 dc38 pm38 an38 cd38 ct38), sl38⟩)
    (co38 : PySem.W.codeIn K cd38 "_law_refused" = true)
    (kp38 : PySem.W.keepIn K (.ref f38) = true)
    (at39 : PySem.W.nsIn K mainGlobals "_law_doors_right" = some (some (.ref f39)))
    (l39 : K.lookup f39 = some ⟨oc39, od39, .func (PySem.W.fnOf "_law_doors_right" "_law_doors_right" (defArgs s_l_doors_right) (defBody s_l_doors_right) (defScope s_l_doors_right) .none kV39 dc39 pm39 an39 cd39 ct39), sl39⟩)
    (co39 : PySem.W.codeIn K cd39 "_law_doors_right" = true)
    (kp39 : PySem.W.keepIn K (.ref f39) = true)
    (at40 : PySem.W.nsIn K mainGlobals "_law_both_refused" = some (some (.ref f40)))
    (l40 : K.lookup f40 = some ⟨oc40, od40, .func (PySem.W.fnOf "_law_both_refused" "_law_both_refused" (defArgs s_l_both_refused) (defBody s_l_both_refused) (defScope s_l_both_refused) .none kV40 dc40 pm40 an40 cd40 ct40), sl40⟩)
    (co40 : PySem.W.codeIn K cd40 "_law_both_refused" = true)
    (kp40 : PySem.W.keepIn K (.ref f40) = true)
    (at41 : PySem.W.nsIn K mainGlobals "_law_pairs_right" = some (some (.ref f41)))
    (l41 : K.lookup f41 = some ⟨oc41, od41, .func (PySem.W.fnOf "_law_pairs_right" "_law_pairs_right" (defArgs s_l_pairs_right) (defBody s_l_pairs_right) (defScope s_l_pairs_right) .none kV41 dc41 pm41 an41 cd41 ct41), sl41⟩)
    (co41 : PySem.W.codeIn K cd41 "_law_pairs_right" = true)
    (kp41 : PySem.W.keepIn K (.ref f41) = true)
    (at42 : PySem.W.nsIn K mainGlobals "law" = some (some (.ref f42)))
    (l42 : K.lookup f42 = some ⟨oc42, od42, .func (PySem.W.fnOf "law" "law" (defArgs s_law) (defBody s_law) (defScope s_law) .none kV42 dc42 pm42 an42 cd42 ct42), sl42⟩)
    (co42 : PySem.W.codeIn K cd42 "law" = true)
    (kp42 : PySem.W.keepIn K (.ref f42) = true)
    (x_c2 : K.lookup c2 = some (excClassObj nm_c2 qn_c2 c2 N_c2 bs_c2 bm_c2 true sn_c2 sub_c2 ab_c2 col_c2 dd_c2 k0_c2 k1_c2 k2_c2 k3_c2 k5_c2 "ValueError.__new__"))
    (rv_c2 : PySem.HandSPX.refsVE bm_c2 = true)
    (sa_c2 : PySem.W.findIn K (.ref c2) "__setattr__" = some (some (.builtin "object.__setattr__")))
    (ex_c2 : PySem.W.subIn K (.ref c2) (.type "BaseException") = some true)
    (ty_c2 : PySem.W.typeIn K (.ref c2) = some (.type "type"))
    (kc_c2 : PySem.W.keepIn K (.ref c2) = true)
    (ga_c2 : PySem.W.findIn K (.ref c2) "__getattribute__" = some (some (.builtin "BaseException.__getattribute__")))
    (gg_c2 : PySem.W.findIn K (.ref c2) "__getattr__" = some none)
    (hd_c2 : PySem.W.hasDictIn K c2 = true)
    (ha_c2 : PySem.W.findIn K (.ref c2) "__class__" = some (some (.builtin "object.__class__")))
    (hn_c2 : PySem.W.specialIn K (.builtin "object.__class__") "__get__" = some (some (.builtin "getset_descriptor.__get__")))
    (ht_c2 : PySem.W.takesIn K (.builtin "object.__class__") = some true)
    (hm_c2 : PySem.W.mroIn K c2 (.type "object") = some true)
    (no_c2 : PySem.W.findIn K (.ref c2) "flags" = some none)
    (fi_c2 : PySem.W.findIn K (.ref c2) "__init__" = some (some (.ref fic2)))
    (ft_c2 : PySem.W.typeIn K (.ref fic2) = some (.type "function"))
    (fl_c2 : K.lookup fic2 = some ⟨occ2, odc2, .func (PySem.W.fnOf "__init__" "InvalidFlags.__init__" (defArgs s_InvalidFlags_init) (defBody s_InvalidFlags_init) (defScope s_InvalidFlags_init) .none kVc2 dcc2 pmc2 anc2 cdc2 ctc2), slc2⟩)
    (fc_c2 : PySem.W.codeIn K cdc2 "InvalidFlags.__init__" = true)
    (fk_c2 : PySem.W.keepIn K (.ref fic2) = true)
    (x_c3 : K.lookup c3 = some (excClassObj nm_c3 qn_c3 c3 N_c3 bs_c3 bm_c3 true sn_c3 sub_c3 ab_c3 col_c3 dd_c3 k0_c3 k1_c3 k2_c3 k3_c3 k5_c3 "ValueError.__new__"))
    (rv_c3 : PySem.HandSPX.refsVE bm_c3 = true)
    (sa_c3 : PySem.W.findIn K (.ref c3) "__setattr__" = some (some (.builtin "object.__setattr__")))
    (ex_c3 : PySem.W.subIn K (.ref c3) (.type "BaseException") = some true)
    (ty_c3 : PySem.W.typeIn K (.ref c3) = some (.type "type"))
    (kc_c3 : PySem.W.keepIn K (.ref c3) = true)
    (ga_c3 : PySem.W.findIn K (.ref c3) "__getattribute__" = some (some (.builtin "BaseException.__getattribute__")))
    (gg_c3 : PySem.W.findIn K (.ref c3) "__getattr__" = some none)
    (hd_c3 : PySem.W.hasDictIn K c3 = true)
    (ha_c3 : PySem.W.findIn K (.ref c3) "__class__" = some (some (.builtin "object.__class__")))
    (hn_c3 : PySem.W.specialIn K (.builtin "object.__class__") "__get__" = some (some (.builtin "getset_descriptor.__get__")))
    (ht_c3 : PySem.W.takesIn K (.builtin "object.__class__") = some true)
    (hm_c3 : PySem.W.mroIn K c3 (.type "object") = some true)
    (no_c3 : PySem.W.findIn K (.ref c3) "index" = some none)
    (fi_c3 : PySem.W.findIn K (.ref c3) "__init__" = some (some (.ref fic3)))
    (ft_c3 : PySem.W.typeIn K (.ref fic3) = some (.type "function"))
    (fl_c3 : K.lookup fic3 = some ⟨occ3, odc3, .func (PySem.W.fnOf "__init__" "InvalidLine.__init__" (defArgs s_InvalidLine_init) (defBody s_InvalidLine_init) (defScope s_InvalidLine_init) .none kVc3 dcc3 pmc3 anc3 cdc3 ctc3), slc3⟩)
    (fc_c3 : PySem.W.codeIn K cdc3 "InvalidLine.__init__" = true)
    (fk_c3 : PySem.W.keepIn K (.ref fic3) = true)
    (x_c4 : K.lookup c4 = some (excClassObj nm_c4 qn_c4 c4 N_c4 bs_c4 bm_c4 true sn_c4 sub_c4 ab_c4 col_c4 dd_c4 k0_c4 k1_c4 k2_c4 k3_c4 k5_c4 "ValueError.__new__"))
    (rv_c4 : PySem.HandSPX.refsVE bm_c4 = true)
    (sa_c4 : PySem.W.findIn K (.ref c4) "__setattr__" = some (some (.builtin "object.__setattr__")))
    (ex_c4 : PySem.W.subIn K (.ref c4) (.type "BaseException") = some true)
    (ty_c4 : PySem.W.typeIn K (.ref c4) = some (.type "type"))
    (kc_c4 : PySem.W.keepIn K (.ref c4) = true)
    (ga_c4 : PySem.W.findIn K (.ref c4) "__getattribute__" = some (some (.builtin "BaseException.__getattribute__")))
    (gg_c4 : PySem.W.findIn K (.ref c4) "__getattr__" = some none)
    (hd_c4 : PySem.W.hasDictIn K c4 = true)
    (ha_c4 : PySem.W.findIn K (.ref c4) "__class__" = some (some (.builtin "object.__class__")))
    (hn_c4 : PySem.W.specialIn K (.builtin "object.__class__") "__get__" = some (some (.builtin "getset_descriptor.__get__")))
    (ht_c4 : PySem.W.takesIn K (.builtin "object.__class__") = some true)
    (hm_c4 : PySem.W.mroIn K c4 (.type "object") = some true)
    (no_c4 : PySem.W.findIn K (.ref c4) "rule" = some none)
    (fi_c4 : PySem.W.findIn K (.ref c4) "__init__" = some (some (.ref fic4)))
    (ft_c4 : PySem.W.typeIn K (.ref fic4) = some (.type "function"))
    (fl_c4 : K.lookup fic4 = some ⟨occ4, odc4, .func (PySem.W.fnOf "__init__" "InvalidRule.__init__" (defArgs s_InvalidRule_init) (defBody s_InvalidRule_init) (defScope s_InvalidRule_init) .none kVc4 dcc4 pmc4 anc4 cdc4 ctc4), slc4⟩)
    (fc_c4 : PySem.W.codeIn K cdc4 "InvalidRule.__init__" = true)
    (fk_c4 : PySem.W.keepIn K (.ref fic4) = true)
    (x_c1 : K.lookup c1 = some (excClassObj nm_c1 qn_c1 c1 N_c1 bs_c1 bm_c1 true sn_c1 sub_c1 ab_c1 col_c1 dd_c1 k0_c1 k1_c1 k2_c1 k3_c1 k5_c1 "ValueError.__new__"))
    (rv_c1 : PySem.HandSPX.refsVE bm_c1 = true)
    (sa_c1 : PySem.W.findIn K (.ref c1) "__setattr__" = some (some (.builtin "object.__setattr__")))
    (ex_c1 : PySem.W.subIn K (.ref c1) (.type "BaseException") = some true)
    (ty_c1 : PySem.W.typeIn K (.ref c1) = some (.type "type"))
    (kc_c1 : PySem.W.keepIn K (.ref c1) = true)
    (ga_c1 : PySem.W.findIn K (.ref c1) "__getattribute__" = some (some (.builtin "BaseException.__getattribute__")))
    (gg_c1 : PySem.W.findIn K (.ref c1) "__getattr__" = some none)
    (hd_c1 : PySem.W.hasDictIn K c1 = true)
    (ha_c1 : PySem.W.findIn K (.ref c1) "__class__" = some (some (.builtin "object.__class__")))
    (hn_c1 : PySem.W.specialIn K (.builtin "object.__class__") "__get__" = some (some (.builtin "getset_descriptor.__get__")))
    (ht_c1 : PySem.W.takesIn K (.builtin "object.__class__") = some true)
    (hm_c1 : PySem.W.mroIn K c1 (.type "object") = some true)
    (no_c1 : PySem.W.findIn K (.ref c1) "text" = some none)
    (fi_c1 : PySem.W.findIn K (.ref c1) "__init__" = some (some (.ref fic1)))
    (ft_c1 : PySem.W.typeIn K (.ref fic1) = some (.type "function"))
    (fl_c1 : K.lookup fic1 = some ⟨occ1, odc1, .func (PySem.W.fnOf "__init__" "InvalidTree.__init__" (defArgs s_InvalidTree_init) (defBody s_InvalidTree_init) (defScope s_InvalidTree_init) .none kVc1 dcc1 pmc1 anc1 cdc1 ctc1), slc1⟩)
    (fc_c1 : PySem.W.codeIn K cdc1 "InvalidTree.__init__" = true)
    (fk_c1 : PySem.W.keepIn K (.ref fic1) = true)
    (kcf : PySem.W.kitOne K (.ref c2) (.ref c0) = some true)
    (kcl : PySem.W.kitOne K (.ref c3) (.ref c0) = some true)
    (kcr : PySem.W.kitOne K (.ref c4) (.ref c0) = some true)
    (kvf : PySem.W.kitOne K (.ref c2) (.type "ValueError") = some true)
    (kvl : PySem.W.kitOne K (.ref c3) (.type "ValueError") = some true)
    (kvr : PySem.W.kitOne K (.ref c4) (.type "ValueError") = some true)
    (kxr : PySem.W.kitAny K (.ref c4) [.ref c6, .ref c2, .ref c3] = some false)
    (kxf : PySem.W.kitAny K (.ref c2) [.ref c6, .ref c3] = some false)
    (krl : PySem.W.kitOne K (.ref c3) (.ref c6) = some false)
    (krr : PySem.W.kitOne K (.ref c4) (.ref c6) = some false)
    (khrr : PySem.W.exmOne K (.ref c4) (.ref c4) = some true)
    (khfr : PySem.W.exmOne K (.ref c2) (.ref c4) = some false)
    (khlr : PySem.W.exmOne K (.ref c3) (.ref c4) = some false)
    (khff : PySem.W.exmOne K (.ref c2) (.ref c2) = some true)
    (khlf : PySem.W.exmOne K (.ref c3) (.ref c2) = some false)
    (khll : PySem.W.exmOne K (.ref c3) (.ref c3) = some true)
    : ∃ fd : FuncData, (∀ (s : Shared) (v : Value), BindsTo s fd ⟨[v], []⟩ [("_law_script", v)]) ∧ ∀ base : Heap, K.In base → base.Ns mainGlobals mg → FnOk l.prog w K mg base (L2.CX l.prog w) l_law fa fd ["_law_script"] (p_law K (Ads.mk c0 c1 c2 c3 c4 c5 c6 c7 qKINDS qRULES)) := by
  have e := hfa.symm.trans (PySem.W.mg_of X G at42)
  cases e
  refine ⟨PySem.W.fnOf "law" "law" (defArgs s_law) (defBody s_law) (defScope s_law) .none kV42 dc42 pm42 an42 cd42 ct42, fun s v => .of_eq rfl, fun base _ _ => ?_⟩
  have Oc2 : OexC K c2 := ⟨⟨_, _, _, _, _, _, _, _, _, _, _, _, _, _, _, x_c2, rv_c2⟩, sa_c2, ex_c2, ty_c2, kc_c2⟩
  have Ic2 := fun_mk (st := s_InvalidFlags_init) fl_c2 fc_c2 fk_c2
  have e_InvalidFlags : ErrC l.prog w K mg base "InvalidFlags" "flags" c2 := ⟨Oc2, ⟨ga_c2, gg_c2, ex_c2, hd_c2⟩, ⟨ga_c2, gg_c2, ex_c2, hd_c2, ha_c2, hn_c2, ht_c2, hm_c2⟩, no_c2, PySem.W.mg_of X G ac2, _, _, fi_c2, ft_c2, ini_InvalidFlags Oc2 no_c2 Ic2, Ic2.binds (ps := ["self", "flags"]) fun _ _ _ _ _ _ us hl => match us, hl with | [_, _], _ => rfl⟩
  have Oc3 : OexC K c3 := ⟨⟨_, _, _, _, _, _, _, _, _, _, _, _, _, _, _, x_c3, rv_c3⟩, sa_c3, ex_c3, ty_c3, kc_c3⟩
  have Ic3 := fun_mk (st := s_InvalidLine_init) fl_c3 fc_c3 fk_c3
  have e_InvalidLine : ErrC l.prog w K mg base "InvalidLine" "index" c3 := ⟨Oc3, ⟨ga_c3, gg_c3, ex_c3, hd_c3⟩, ⟨ga_c3, gg_c3, ex_c3, hd_c3, ha_c3, hn_c3, ht_c3, hm_c3⟩, no_c3, PySem.W.mg_of X G ac3, _, _, fi_c3, ft_c3, ini_InvalidLine Oc3 no_c3 Ic3, Ic3.binds (ps := ["self", "index"]) fun _ _ _ _ _ _ us hl => match us, hl with | [_, _], _ => rfl⟩
  have Oc4 : OexC K c4 := ⟨⟨_, _, _, _, _, _, _, _, _, _, _, _, _, _, _, x_c4, rv_c4⟩, sa_c4, ex_c4, ty_c4, kc_c4⟩
  have Ic4 := fun_mk (st := s_InvalidRule_init) fl_c4 fc_c4 fk_c4
  have e_InvalidRule : ErrC l.prog w K mg base "InvalidRule" "rule" c4 := ⟨Oc4, ⟨ga_c4, gg_c4, ex_c4, hd_c4⟩, ⟨ga_c4, gg_c4, ex_c4, hd_c4, ha_c4, hn_c4, ht_c4, hm_c4⟩, no_c4, PySem.W.mg_of X G ac4, _, _, fi_c4, ft_c4, ini_InvalidRule Oc4 no_c4 Ic4, Ic4.binds (ps := ["self", "rule"]) fun _ _ _ _ _ _ us hl => match us, hl with | [_, _], _ => rfl⟩
  have Oc1 : OexC K c1 := ⟨⟨_, _, _, _, _, _, _, _, _, _, _, _, _, _, _, x_c1, rv_c1⟩, sa_c1, ex_c1, ty_c1, kc_c1⟩
  have Ic1 := fun_mk (st := s_InvalidTree_init) fl_c1 fc_c1 fk_c1
  have e_InvalidTree : ErrC l.prog w K mg base "InvalidTree" "text" c1 := ⟨Oc1, ⟨ga_c1, gg_c1, ex_c1, hd_c1⟩, ⟨ga_c1, gg_c1, ex_c1, hd_c1, ha_c1, hn_c1, ht_c1, hm_c1⟩, no_c1, PySem.W.mg_of X G ac1, _, _, fi_c1, ft_c1, ini_InvalidTree Oc1 no_c1 Ic1, Ic1.binds (ps := ["self", "text"]) fun _ _ _ _ _ _ us hl => match us, hl with | [_, _], _ => rfl⟩
  have G0 : Env l.prog w K mg base (Ads.mk c0 c1 c2 c3 c4 c5 c6 c7 qKINDS qRULES) := ⟨PySem.W.mg_none_of X G z_ValueError, PySem.W.mg_none_of X G z_all, PySem.W.mg_none_of X G z_bool, PySem.W.mg_none_of X G z_enumerate, PySem.W.mg_none_of X G z_int, PySem.W.mg_none_of X G z_isinstance, PySem.W.mg_none_of X G z_len, PySem.W.mg_none_of X G z_list, PySem.W.mg_none_of X G z_min, PySem.W.mg_none_of X G z_range, PySem.W.mg_none_of X G z_sorted, PySem.W.mg_none_of X G z_str, PySem.W.mg_none_of X G z_sum, PySem.W.mg_none_of X G z_tuple, PySem.W.mg_of X G ac0, PySem.W.mg_of X G ac2, PySem.W.mg_of X G ac3, PySem.W.mg_of X G ac4, PySem.W.mg_of X G ac1, PySem.W.mg_of X G ac6, PySem.W.mg_of X G t_KINDS, PySem.W.mg_of X G t_RULES, ⟨opg_c7, ohd_c7, opo_c7, osa_c7⟩, ona_c7_bounds, ona_c7_lefts, ona_c7_postorder, ona_c7_preorder, ona_c7_rights, ona_c7_root, ona_c7_spans, ona_c7_text, ona_c7_ways, ⟨_, oco_c7_MOST, ⟨_, rfl⟩, ocg_c7_MOST, by decide +kernel⟩, e_InvalidFlags, e_InvalidLine, e_InvalidRule, e_InvalidTree⟩
  have T : Kit K (Ads.mk c0 c1 c2 c3 c4 c5 c6 c7 qKINDS qRULES) := ⟨fun H => .inr ⟨_, _, _, tl_KINDS, rfl, rfl, (show 2 ≤ sizeLine by decide), .cons ⟨_, rfl⟩ (.cons ⟨_, rfl⟩ .nil)⟩, fun H => (show SqT K H _ (rlsS.map V.str) from .inr ⟨_, _, _, tl_RULES, rfl, rfl, (show 8 ≤ sizeLine by decide), .cons ⟨_, rfl⟩ (.cons ⟨_, rfl⟩ (.cons ⟨_, rfl⟩ (.cons ⟨_, rfl⟩ (.cons ⟨_, rfl⟩ (.cons ⟨_, rfl⟩ (.cons ⟨_, rfl⟩ (.cons ⟨_, rfl⟩ (.nil))))))))⟩), e_InvalidFlags.isc, e_InvalidLine.isc, e_InvalidRule.isc, kcf, kcl, kcr, kvf, kvl, kvr, kxr, kxf, krl, krr, khrr, khfr, khlr, khff, khlf, khll⟩
  have F0 := fun_mk (st := s_is_integer) l0 co0 kp0
  have O0 : FnOk l.prog w K mg base (L2.CX l.prog w) l_is_integer f0 _ ["value"] (p_is_integer K (Ads.mk c0 c1 c2 c3 c4 c5 c6 c7 qKINDS qRULES)) := ok_is_integer G0  F0
  have T_is_integer : DefC l.prog w K mg base "is_integer" ["value"] l_is_integer [] (p_is_integer K (Ads.mk c0 c1 c2 c3 c4 c5 c6 c7 qKINDS qRULES)) := ⟨_, _, [], PySem.W.mg_of X G at0, kp0, O0, .nil, F0.binds (ps := ["value"]) fun _ _ _ _ _ _ us hl => match us, hl with | [_], _ => rfl⟩
  have F1 := fun_mk (st := s_is_place) l1 co1 kp1
  have O1 : FnOk l.prog w K mg base (L2.CX l.prog w) l_is_place f1 _ ["many", "value"] (p_is_place K (Ads.mk c0 c1 c2 c3 c4 c5 c6 c7 qKINDS qRULES)) := ok_is_place G0 T_is_integer F1
  have T_is_place : DefC l.prog w K mg base "is_place" ["many", "value"] l_is_place [] (p_is_place K (Ads.mk c0 c1 c2 c3 c4 c5 c6 c7 qKINDS qRULES)) := ⟨_, _, [], PySem.W.mg_of X G at1, kp1, O1, .nil, F1.binds (ps := ["many", "value"]) fun _ _ _ _ _ _ us hl => match us, hl with | [_, _], _ => rfl⟩
  have F2 := fun_mk (st := s_is_made_of) l2 co2 kp2
  have O2 : FnOk l.prog w K mg base (L2.CX l.prog w) l_is_made_of f2 _ ["value", "signs"] (p_is_made_of K (Ads.mk c0 c1 c2 c3 c4 c5 c6 c7 qKINDS qRULES)) := ok_is_made_of G0  F2
  have T_is_made_of : DefC l.prog w K mg base "is_made_of" ["value", "signs"] l_is_made_of [] (p_is_made_of K (Ads.mk c0 c1 c2 c3 c4 c5 c6 c7 qKINDS qRULES)) := ⟨_, _, [], PySem.W.mg_of X G at2, kp2, O2, .nil, F2.binds (ps := ["value", "signs"]) fun _ _ _ _ _ _ us hl => match us, hl with | [_, _], _ => rfl⟩
  have F3 := fun_mk (st := s_is_line) l3 co3 kp3
  have O3 : FnOk l.prog w K mg base (L2.CX l.prog w) l_is_line f3 _ ["many", "value"] (p_is_line K (Ads.mk c0 c1 c2 c3 c4 c5 c6 c7 qKINDS qRULES)) := ok_is_line G0 T T_is_place F3
  have T_is_line : DefC l.prog w K mg base "is_line" ["many", "value"] l_is_line [] (p_is_line K (Ads.mk c0 c1 c2 c3 c4 c5 c6 c7 qKINDS qRULES)) := ⟨_, _, [], PySem.W.mg_of X G at3, kp3, O3, .nil, F3.binds (ps := ["many", "value"]) fun _ _ _ _ _ _ us hl => match us, hl with | [_, _], _ => rfl⟩
  have F4 := fun_mk (st := s_Tree_forks) l4 co4 kp4
  have O4 : FnOk l.prog w K mg base (L2.CX l.prog w) l_Tree_forks f4 _ ["self"] (p_Tree_forks K (Ads.mk c0 c1 c2 c3 c4 c5 c6 c7 qKINDS qRULES)) := ok_Tree_forks G0  F4
  have T_Tree_forks : ProC l.prog w K mg base c7 "forks" l_Tree_forks (p_Tree_forks K (Ads.mk c0 c1 c2 c3 c4 c5 c6 c7 qKINDS qRULES)) := ⟨_, _, _, ⟨pa4, pgt4, pt4, _, prc4⟩, O4, F4.binds (ps := ["self"]) fun _ _ _ _ _ _ us hl => match us, hl with | [_], _ => rfl⟩
  have F5 := fun_mk (st := s_checked_flags) l5 co5 kp5
  have O5 : FnOk l.prog w K mg base (L2.CX l.prog w) l_checked_flags f5 _ ["tree", "flags"] (p_checked_flags K (Ads.mk c0 c1 c2 c3 c4 c5 c6 c7 qKINDS qRULES)) := ok_checked_flags G0 T_is_made_of T_Tree_forks F5
  have T_checked_flags : DefC l.prog w K mg base "checked_flags" ["tree", "flags"] l_checked_flags [] (p_checked_flags K (Ads.mk c0 c1 c2 c3 c4 c5 c6 c7 qKINDS qRULES)) := ⟨_, _, [], PySem.W.mg_of X G at5, kp5, O5, .nil, F5.binds (ps := ["tree", "flags"]) fun _ _ _ _ _ _ us hl => match us, hl with | [_, _], _ => rfl⟩
  have F6 := fun_mk (st := s_checked_lines) l6 co6 kp6
  have O6 : FnOk l.prog w K mg base (L2.CX l.prog w) l_checked_lines f6 _ ["many", "run"] (p_checked_lines K (Ads.mk c0 c1 c2 c3 c4 c5 c6 c7 qKINDS qRULES)) := ok_checked_lines G0 T_is_line F6
  have T_checked_lines : DefC l.prog w K mg base "checked_lines" ["many", "run"] l_checked_lines [] (p_checked_lines K (Ads.mk c0 c1 c2 c3 c4 c5 c6 c7 qKINDS qRULES)) := ⟨_, _, [], PySem.W.mg_of X G at6, kp6, O6, .nil, F6.binds (ps := ["many", "run"]) fun _ _ _ _ _ _ us hl => match us, hl with | [_, _], _ => rfl⟩
  have F7 := fun_mk (st := s_Tree_len) l7 co7 kp7
  have O7 : FnOk l.prog w K mg base (L2.CX l.prog w) l_Tree_len f7 _ ["self"] (p_Tree_len K (Ads.mk c0 c1 c2 c3 c4 c5 c6 c7 qKINDS qRULES)) := ok_Tree_len G0  F7
  have T_Tree_len : MetC l.prog w K mg base c7 "__len__" ["self"] l_Tree_len (p_Tree_len K (Ads.mk c0 c1 c2 c3 c4 c5 c6 c7 qKINDS qRULES)) := ⟨_, _, ⟨at7, fn7, kp7⟩, O7, F7.binds (ps := ["self"]) fun _ _ _ _ _ _ us hl => match us, hl with | [_], _ => rfl⟩
  have F8 := fun_mk (st := s_checked_run) l8 co8 kp8
  have O8 : FnOk l.prog w K mg base (L2.CX l.prog w) l_checked_run f8 _ ["tree", "run"] (p_checked_run K (Ads.mk c0 c1 c2 c3 c4 c5 c6 c7 qKINDS qRULES)) := ok_checked_run G0 T_checked_lines T_Tree_len F8
  have T_checked_run : DefC l.prog w K mg base "checked_run" ["tree", "run"] l_checked_run [] (p_checked_run K (Ads.mk c0 c1 c2 c3 c4 c5 c6 c7 qKINDS qRULES)) := ⟨_, _, [], PySem.W.mg_of X G at8, kp8, O8, .nil, F8.binds (ps := ["tree", "run"]) fun _ _ _ _ _ _ us hl => match us, hl with | [_, _], _ => rfl⟩
  have F9 := fun_mk (st := s_turned) l9 co9 kp9
  have O9 : FnOk l.prog w K mg base (L2.CX l.prog w) l_turned f9 _ ["tree", "flags", "slot"] (p_turned K (Ads.mk c0 c1 c2 c3 c4 c5 c6 c7 qKINDS qRULES)) := ok_turned G0  F9
  have T_turned : DefC l.prog w K mg base "turned" ["tree", "flags", "slot"] l_turned [] (p_turned K (Ads.mk c0 c1 c2 c3 c4 c5 c6 c7 qKINDS qRULES)) := ⟨_, _, [], PySem.W.mg_of X G at9, kp9, O9, .nil, F9.binds (ps := ["tree", "flags", "slot"]) fun _ _ _ _ _ _ us hl => match us, hl with | [_, _, _], _ => rfl⟩
  have F10 := fun_mk (st := s_checked_rule) l10 co10 kp10
  have O10 : FnOk l.prog w K mg base (L2.CX l.prog w) l_checked_rule f10 _ ["rule"] (p_checked_rule K (Ads.mk c0 c1 c2 c3 c4 c5 c6 c7 qKINDS qRULES)) := ok_checked_rule G0 T  F10
  have T_checked_rule : DefC l.prog w K mg base "checked_rule" ["rule"] l_checked_rule [] (p_checked_rule K (Ads.mk c0 c1 c2 c3 c4 c5 c6 c7 qKINDS qRULES)) := ⟨_, _, [], PySem.W.mg_of X G at10, kp10, O10, .nil, F10.binds (ps := ["rule"]) fun _ _ _ _ _ _ us hl => match us, hl with | [_], _ => rfl⟩
  have F11 := fun_mk (st := s_turned_by) l11 co11 kp11
  have O11 : FnOk l.prog w K mg base (L2.CX l.prog w) l_turned_by f11 _ ["tree", "rule", "flags", "kind", "slot"] (p_turned_by K (Ads.mk c0 c1 c2 c3 c4 c5 c6 c7 qKINDS qRULES)) := ok_turned_by G0 T_turned F11
  have T_turned_by : DefC l.prog w K mg base "turned_by" ["tree", "rule", "flags", "kind", "slot"] l_turned_by [] (p_turned_by K (Ads.mk c0 c1 c2 c3 c4 c5 c6 c7 qKINDS qRULES)) := ⟨_, _, [], PySem.W.mg_of X G at11, kp11, O11, .nil, F11.binds (ps := ["tree", "rule", "flags", "kind", "slot"]) fun _ _ _ _ _ _ us hl => match us, hl with | [_, _, _, _, _], _ => rfl⟩
  have F12 := fun_mk (st := s_goes_against) l12 co12 kp12
  have O12 : FnOk l.prog w K mg base (L2.CX l.prog w) l_goes_against f12 _ ["rule"] (p_goes_against K (Ads.mk c0 c1 c2 c3 c4 c5 c6 c7 qKINDS qRULES)) := ok_goes_against G0  F12
  have T_goes_against : DefC l.prog w K mg base "goes_against" ["rule"] l_goes_against [] (p_goes_against K (Ads.mk c0 c1 c2 c3 c4 c5 c6 c7 qKINDS qRULES)) := ⟨_, _, [], PySem.W.mg_of X G at12, kp12, O12, .nil, F12.binds (ps := ["rule"]) fun _ _ _ _ _ _ us hl => match us, hl with | [_], _ => rfl⟩
  have F13 := fun_mk (st := s_wrong_fork) l13 co13 kp13
  have O13 : FnOk l.prog w K mg base (L2.CX l.prog w) l_wrong_fork f13 _ ["tree", "rule", "flags", "slot"] (p_wrong_fork K (Ads.mk c0 c1 c2 c3 c4 c5 c6 c7 qKINDS qRULES)) := ok_wrong_fork G0 T_goes_against F13
  have T_wrong_fork : DefC l.prog w K mg base "wrong_fork" ["tree", "rule", "flags", "slot"] l_wrong_fork [] (p_wrong_fork K (Ads.mk c0 c1 c2 c3 c4 c5 c6 c7 qKINDS qRULES)) := ⟨_, _, [], PySem.W.mg_of X G at13, kp13, O13, .nil, F13.binds (ps := ["tree", "rule", "flags", "slot"]) fun _ _ _ _ _ _ us hl => match us, hl with | [_, _, _, _], _ => rfl⟩
  have F14 := fun_mk (st := s_first_wrong_by) l14 co14 kp14
  have O14 : FnOk l.prog w K mg base (L2.CX l.prog w) l_first_wrong_by f14 _ ["tree", "rule", "flags", "run"] (p_first_wrong_by K (Ads.mk c0 c1 c2 c3 c4 c5 c6 c7 qKINDS qRULES)) := ok_first_wrong_by G0 T_checked_flags T_checked_rule T_checked_run T_turned_by T_wrong_fork F14
  have T_first_wrong_by : DefC l.prog w K mg base "first_wrong_by" ["tree", "rule", "flags", "run"] l_first_wrong_by [] (p_first_wrong_by K (Ads.mk c0 c1 c2 c3 c4 c5 c6 c7 qKINDS qRULES)) := ⟨_, _, [], PySem.W.mg_of X G at14, kp14, O14, .nil, F14.binds (ps := ["tree", "rule", "flags", "run"]) fun _ _ _ _ _ _ us hl => match us, hl with | [_, _, _, _], _ => rfl⟩
  have F15 := fun_mk (st := s_flags_by) l15 co15 kp15
  have O15 : FnOk l.prog w K mg base (L2.CX l.prog w) l_flags_by f15 _ ["tree", "rule", "flags", "run"] (p_flags_by K (Ads.mk c0 c1 c2 c3 c4 c5 c6 c7 qKINDS qRULES)) := ok_flags_by G0 T_checked_flags T_checked_rule T_checked_run T_turned_by F15
  have T_flags_by : DefC l.prog w K mg base "flags_by" ["tree", "rule", "flags", "run"] l_flags_by [] (p_flags_by K (Ads.mk c0 c1 c2 c3 c4 c5 c6 c7 qKINDS qRULES)) := ⟨_, _, [], PySem.W.mg_of X G at15, kp15, O15, .nil, F15.binds (ps := ["tree", "rule", "flags", "run"]) fun _ _ _ _ _ _ us hl => match us, hl with | [_, _, _, _], _ => rfl⟩
  have F16 := fun_mk (st := s_same_rule) l16 co16 kp16
  have O16 : FnOk l.prog w K mg base (L2.CX l.prog w) l_same_rule f16 _ ["tree", "rule", "other"] (p_same_rule K (Ads.mk c0 c1 c2 c3 c4 c5 c6 c7 qKINDS qRULES)) := ok_same_rule G0 T_checked_rule T_Tree_len F16
  have T_same_rule : DefC l.prog w K mg base "same_rule" ["tree", "rule", "other"] l_same_rule [] (p_same_rule K (Ads.mk c0 c1 c2 c3 c4 c5 c6 c7 qKINDS qRULES)) := ⟨_, _, [], PySem.W.mg_of X G at16, kp16, O16, .nil, F16.binds (ps := ["tree", "rule", "other"]) fun _ _ _ _ _ _ us hl => match us, hl with | [_, _, _], _ => rfl⟩
  have F17 := fun_mk (st := s_ends_fork) l17 co17 kp17
  have O17 : FnOk l.prog w K mg base (L2.CX l.prog w) l_ends_fork f17 _ ["stack"] (p_ends_fork K (Ads.mk c0 c1 c2 c3 c4 c5 c6 c7 qKINDS qRULES)) := ok_ends_fork G0  F17
  have T_ends_fork : DefC l.prog w K mg base "ends_fork" ["stack"] l_ends_fork [] (p_ends_fork K (Ads.mk c0 c1 c2 c3 c4 c5 c6 c7 qKINDS qRULES)) := ⟨_, _, [], PySem.W.mg_of X G at17, kp17, O17, .nil, F17.binds (ps := ["stack"]) fun _ _ _ _ _ _ us hl => match us, hl with | [_], _ => rfl⟩
  have F18 := fun_mk (st := s_read_forks) l18 co18 kp18
  have O18 : FnOk l.prog w K mg base (L2.CX l.prog w) l_read_forks f18 _ ["text"] (p_read_forks K (Ads.mk c0 c1 c2 c3 c4 c5 c6 c7 qKINDS qRULES)) := ok_read_forks G0 T_ends_fork F18
  have T_read_forks : DefC l.prog w K mg base "read_forks" ["text"] l_read_forks [] (p_read_forks K (Ads.mk c0 c1 c2 c3 c4 c5 c6 c7 qKINDS qRULES)) := ⟨_, _, [], PySem.W.mg_of X G at18, kp18, O18, .nil, F18.binds (ps := ["text"]) fun _ _ _ _ _ _ us hl => match us, hl with | [_], _ => rfl⟩
  have F19 := fun_mk (st := s_lay_ways) l19 co19 kp19
  have O19 : FnOk l.prog w K mg base (L2.CX l.prog w) l_lay_ways f19 _ ["root", "lefts", "rights"] (p_lay_ways K (Ads.mk c0 c1 c2 c3 c4 c5 c6 c7 qKINDS qRULES)) := ok_lay_ways G0  F19
  have T_lay_ways : DefC l.prog w K mg base "lay_ways" ["root", "lefts", "rights"] l_lay_ways [] (p_lay_ways K (Ads.mk c0 c1 c2 c3 c4 c5 c6 c7 qKINDS qRULES)) := ⟨_, _, [], PySem.W.mg_of X G at19, kp19, O19, .nil, F19.binds (ps := ["root", "lefts", "rights"]) fun _ _ _ _ _ _ us hl => match us, hl with | [_, _, _], _ => rfl⟩
  have F20 := fun_mk (st := s_Tree_init) l20 co20 kp20
  have O20 : FnOk l.prog w K mg base (L2.CX l.prog w) l_Tree_init f20 _ ["self", "text"] (p_Tree_init K (Ads.mk c0 c1 c2 c3 c4 c5 c6 c7 qKINDS qRULES)) := ok_Tree_init G0 T_lay_ways T_read_forks F20
  have T_Tree_init : MakC l.prog w K mg base "Tree" c7 ["self", "text"] l_Tree_init (p_Tree_init K (Ads.mk c0 c1 c2 c3 c4 c5 c6 c7 qKINDS qRULES)) := ⟨_, _, PySem.W.mg_of X G ac7, ⟨omk_c7, at20, fn20, okc_c7⟩, O20, F20.binds (ps := ["self", "text"]) fun _ _ _ _ _ _ us hl => match us, hl with | [_, _], _ => rfl⟩
  have F21 := fun_mk (st := s_l_source) l21 co21 kp21
  have O21 : FnOk l.prog w K mg base (L2.CX l.prog w) l_l_source f21 _ ["_law_script", "_law_place"] (p_l_source K (Ads.mk c0 c1 c2 c3 c4 c5 c6 c7 qKINDS qRULES)) := ok_l_source G0  F21
  have T_l_source : DefC l.prog w K mg base "_law_source" ["_law_script", "_law_place"] l_l_source [] (p_l_source K (Ads.mk c0 c1 c2 c3 c4 c5 c6 c7 qKINDS qRULES)) := ⟨_, _, [], PySem.W.mg_of X G at21, kp21, O21, .nil, F21.binds (ps := ["_law_script", "_law_place"]) fun _ _ _ _ _ _ us hl => match us, hl with | [_, _], _ => rfl⟩
  have F22 := fun_mk (st := s_l_take) l22 co22 kp22
  have O22 : FnOk l.prog w K mg base (L2.CX l.prog w) l_l_take f22 _ ["_law_source_here", "_law_many"] (p_l_take K (Ads.mk c0 c1 c2 c3 c4 c5 c6 c7 qKINDS qRULES)) := ok_l_take G0  F22
  have T_l_take : DefC l.prog w K mg base "_law_take" ["_law_source_here", "_law_many"] l_l_take [] (p_l_take K (Ads.mk c0 c1 c2 c3 c4 c5 c6 c7 qKINDS qRULES)) := ⟨_, _, [], PySem.W.mg_of X G at22, kp22, O22, .nil, F22.binds (ps := ["_law_source_here", "_law_many"]) fun _ _ _ _ _ _ us hl => match us, hl with | [_, _], _ => rfl⟩
  have F23 := fun_mk (st := s_l_part) l23 co23 kp23
  have O23 : FnOk l.prog w K mg base (L2.CX l.prog w) (l_l_part + 64) f23 _ ["_law_source_here", "_law_start", "_law_many", "_law_lean"] (p_l_part K (Ads.mk c0 c1 c2 c3 c4 c5 c6 c7 qKINDS qRULES) 64) := ok_l_part G0 T_l_take F23 (PySem.W.mg_of X G at23) kp23 64
  have T_l_part : DefC l.prog w K mg base "_law_part" ["_law_source_here", "_law_start", "_law_many", "_law_lean"] (l_l_part + 64) [] (p_l_part K (Ads.mk c0 c1 c2 c3 c4 c5 c6 c7 qKINDS qRULES) 64) := ⟨_, _, [], PySem.W.mg_of X G at23, kp23, O23, .nil, F23.binds (ps := ["_law_source_here", "_law_start", "_law_many", "_law_lean"]) fun _ _ _ _ _ _ us hl => match us, hl with | [_, _, _, _], _ => rfl⟩
  have F24 := fun_mk (st := s_l_tree) l24 co24 kp24
  have O24 : FnOk l.prog w K mg base (L2.CX l.prog w) l_l_tree f24 _ ["_law_source_here", "_law_most"] (p_l_tree K (Ads.mk c0 c1 c2 c3 c4 c5 c6 c7 qKINDS qRULES)) := ok_l_tree G0 T_l_part T_l_take F24
  have T_l_tree : DefC l.prog w K mg base "_law_tree" ["_law_source_here", "_law_most"] l_l_tree [] (p_l_tree K (Ads.mk c0 c1 c2 c3 c4 c5 c6 c7 qKINDS qRULES)) := ⟨_, _, [], PySem.W.mg_of X G at24, kp24, O24, .nil, F24.binds (ps := ["_law_source_here", "_law_most"]) fun _ _ _ _ _ _ us hl => match us, hl with | [_, _], _ => rfl⟩
  have F25 := fun_mk (st := s_l_flags) l25 co25 kp25
  have O25 : FnOk l.prog w K mg base (L2.CX l.prog w) l_l_flags f25 _ ["_law_source_here", "_law_many"] (p_l_flags K (Ads.mk c0 c1 c2 c3 c4 c5 c6 c7 qKINDS qRULES)) := ok_l_flags G0 T_l_take F25
  have T_l_flags : DefC l.prog w K mg base "_law_flags" ["_law_source_here", "_law_many"] l_l_flags [] (p_l_flags K (Ads.mk c0 c1 c2 c3 c4 c5 c6 c7 qKINDS qRULES)) := ⟨_, _, [], PySem.W.mg_of X G at25, kp25, O25, .nil, F25.binds (ps := ["_law_source_here", "_law_many"]) fun _ _ _ _ _ _ us hl => match us, hl with | [_, _], _ => rfl⟩
  have F26 := fun_mk (st := s_l_victim) l26 co26 kp26
  have O26 : FnOk l.prog w K mg base (L2.CX l.prog w) l_l_victim f26 _ ["_law_tops", "_law_many", "_law_flags_here", "_law_letter"] (p_l_victim K (Ads.mk c0 c1 c2 c3 c4 c5 c6 c7 qKINDS qRULES)) := ok_l_victim G0  F26
  have T_l_victim : DefC l.prog w K mg base "_law_victim" ["_law_tops", "_law_many", "_law_flags_here", "_law_letter"] l_l_victim [] (p_l_victim K (Ads.mk c0 c1 c2 c3 c4 c5 c6 c7 qKINDS qRULES)) := ⟨_, _, [], PySem.W.mg_of X G at26, kp26, O26, .nil, F26.binds (ps := ["_law_tops", "_law_many", "_law_flags_here", "_law_letter"]) fun _ _ _ _ _ _ us hl => match us, hl with | [_, _, _, _], _ => rfl⟩
  have F27 := fun_mk (st := s_l_after) l27 co27 kp27
  have O27 : FnOk l.prog w K mg base (L2.CX l.prog w) l_l_after f27 _ ["_law_tops", "_law_many", "_law_flags_here", "_law_slot"] (p_l_after K (Ads.mk c0 c1 c2 c3 c4 c5 c6 c7 qKINDS qRULES)) := ok_l_after G0  F27
  have T_l_after : DefC l.prog w K mg base "_law_after" ["_law_tops", "_law_many", "_law_flags_here", "_law_slot"] l_l_after [] (p_l_after K (Ads.mk c0 c1 c2 c3 c4 c5 c6 c7 qKINDS qRULES)) := ⟨_, _, [], PySem.W.mg_of X G at27, kp27, O27, .nil, F27.binds (ps := ["_law_tops", "_law_many", "_law_flags_here", "_law_slot"]) fun _ _ _ _ _ _ us hl => match us, hl with | [_, _, _, _], _ => rfl⟩
  have F28 := fun_mk (st := s_l_rules) l28 co28 kp28
  have O28 : FnOk l.prog w K mg base (L2.CX l.prog w) l_l_rules f28 _ [] (p_l_rules K (Ads.mk c0 c1 c2 c3 c4 c5 c6 c7 qKINDS qRULES)) := ok_l_rules G0  F28
  have T_l_rules : DefC l.prog w K mg base "_law_rules" [] l_l_rules [] (p_l_rules K (Ads.mk c0 c1 c2 c3 c4 c5 c6 c7 qKINDS qRULES)) := ⟨_, _, [], PySem.W.mg_of X G at28, kp28, O28, .nil, F28.binds (ps := []) fun _ _ _ _ _ _ us hl => match us, hl with | [], _ => rfl⟩
  have F29 := fun_mk (st := s_l_run) l29 co29 kp29
  have O29 : FnOk l.prog w K mg base (L2.CX l.prog w) l_l_run f29 _ ["_law_source_here", "_law_tops", "_law_many", "_law_flags_here", "_law_rule"] (p_l_run K (Ads.mk c0 c1 c2 c3 c4 c5 c6 c7 qKINDS qRULES)) := ok_l_run G0 T_l_after T_l_take T_l_victim F29
  have T_l_run : DefC l.prog w K mg base "_law_run" ["_law_source_here", "_law_tops", "_law_many", "_law_flags_here", "_law_rule"] l_l_run [] (p_l_run K (Ads.mk c0 c1 c2 c3 c4 c5 c6 c7 qKINDS qRULES)) := ⟨_, _, [], PySem.W.mg_of X G at29, kp29, O29, .nil, F29.binds (ps := ["_law_source_here", "_law_tops", "_law_many", "_law_flags_here", "_law_rule"]) fun _ _ _ _ _ _ us hl => match us, hl with | [_, _, _, _, _], _ => rfl⟩
  have F30 := fun_mk (st := s_l_judged) l30 co30 kp30
  have O30 : FnOk l.prog w K mg base (L2.CX l.prog w) l_l_judged f30 _ ["_law_tops", "_law_many", "_law_rule", "_law_flags_here", "_law_run_here"] (p_l_judged K (Ads.mk c0 c1 c2 c3 c4 c5 c6 c7 qKINDS qRULES)) := ok_l_judged G0  F30
  have T_l_judged : DefC l.prog w K mg base "_law_judged" ["_law_tops", "_law_many", "_law_rule", "_law_flags_here", "_law_run_here"] l_l_judged [] (p_l_judged K (Ads.mk c0 c1 c2 c3 c4 c5 c6 c7 qKINDS qRULES)) := ⟨_, _, [], PySem.W.mg_of X G at30, kp30, O30, .nil, F30.binds (ps := ["_law_tops", "_law_many", "_law_rule", "_law_flags_here", "_law_run_here"]) fun _ _ _ _ _ _ us hl => match us, hl with | [_, _, _, _, _], _ => rfl⟩
  have F31 := fun_mk (st := s_l_is_integer) l31 co31 kp31
  have O31 : FnOk l.prog w K mg base (L2.CX l.prog w) l_l_is_integer f31 _ ["_law_told"] (p_l_is_integer K (Ads.mk c0 c1 c2 c3 c4 c5 c6 c7 qKINDS qRULES)) := ok_l_is_integer G0  F31
  have T_l_is_integer : DefC l.prog w K mg base "_law_is_integer" ["_law_told"] l_l_is_integer [] (p_l_is_integer K (Ads.mk c0 c1 c2 c3 c4 c5 c6 c7 qKINDS qRULES)) := ⟨_, _, [], PySem.W.mg_of X G at31, kp31, O31, .nil, F31.binds (ps := ["_law_told"]) fun _ _ _ _ _ _ us hl => match us, hl with | [_], _ => rfl⟩
  have F32 := fun_mk (st := s_l_rule_right) l32 co32 kp32
  have O32 : FnOk l.prog w K mg base (L2.CX l.prog w) l_l_rule_right f32 _ ["_law_tree_here", "_law_tops", "_law_many", "_law_rule", "_law_flags_here", "_law_run_here"] (p_l_rule_right K (Ads.mk c0 c1 c2 c3 c4 c5 c6 c7 qKINDS qRULES)) := ok_l_rule_right G0 T_l_is_integer T_l_judged T_first_wrong_by T_flags_by F32
  have T_l_rule_right : DefC l.prog w K mg base "_law_rule_right" ["_law_tree_here", "_law_tops", "_law_many", "_law_rule", "_law_flags_here", "_law_run_here"] l_l_rule_right [] (p_l_rule_right K (Ads.mk c0 c1 c2 c3 c4 c5 c6 c7 qKINDS qRULES)) := ⟨_, _, [], PySem.W.mg_of X G at32, kp32, O32, .nil, F32.binds (ps := ["_law_tree_here", "_law_tops", "_law_many", "_law_rule", "_law_flags_here", "_law_run_here"]) fun _ _ _ _ _ _ us hl => match us, hl with | [_, _, _, _, _, _], _ => rfl⟩
  have F33 := fun_mk (st := s_l_reached) l33 co33 kp33
  have O33 : FnOk l.prog w K mg base (L2.CX l.prog w) l_l_reached f33 _ ["_law_tops", "_law_many", "_law_flags_here", "_law_rule", "_law_other"] (p_l_reached K (Ads.mk c0 c1 c2 c3 c4 c5 c6 c7 qKINDS qRULES)) := ok_l_reached G0 T_l_after T_l_victim F33
  have T_l_reached : DefC l.prog w K mg base "_law_reached" ["_law_tops", "_law_many", "_law_flags_here", "_law_rule", "_law_other"] l_l_reached [] (p_l_reached K (Ads.mk c0 c1 c2 c3 c4 c5 c6 c7 qKINDS qRULES)) := ⟨_, _, [], PySem.W.mg_of X G at33, kp33, O33, .nil, F33.binds (ps := ["_law_tops", "_law_many", "_law_flags_here", "_law_rule", "_law_other"]) fun _ _ _ _ _ _ us hl => match us, hl with | [_, _, _, _, _], _ => rfl⟩
  have F34 := fun_mk (st := s_l_same_right) l34 co34 kp34
  have O34 : FnOk l.prog w K mg base (L2.CX l.prog w) l_l_same_right f34 _ ["_law_tree_here", "_law_many", "_law_rules_here"] (p_l_same_right K (Ads.mk c0 c1 c2 c3 c4 c5 c6 c7 qKINDS qRULES)) := ok_l_same_right G0 T_same_rule F34
  have T_l_same_right : DefC l.prog w K mg base "_law_same_right" ["_law_tree_here", "_law_many", "_law_rules_here"] l_l_same_right [] (p_l_same_right K (Ads.mk c0 c1 c2 c3 c4 c5 c6 c7 qKINDS qRULES)) := ⟨_, _, [], PySem.W.mg_of X G at34, kp34, O34, .nil, F34.binds (ps := ["_law_tree_here", "_law_many", "_law_rules_here"]) fun _ _ _ _ _ _ us hl => match us, hl with | [_, _, _], _ => rfl⟩
  have F35 := fun_mk (st := s_l_bad_rule) l35 co35 kp35
  have O35 : FnOk l.prog w K mg base (L2.CX l.prog w) l_l_bad_rule f35 _ ["_law_source_here", "_law_rule"] (p_l_bad_rule K (Ads.mk c0 c1 c2 c3 c4 c5 c6 c7 qKINDS qRULES)) := ok_l_bad_rule G0 T_l_take F35
  have T_l_bad_rule : DefC l.prog w K mg base "_law_bad_rule" ["_law_source_here", "_law_rule"] l_l_bad_rule [] (p_l_bad_rule K (Ads.mk c0 c1 c2 c3 c4 c5 c6 c7 qKINDS qRULES)) := ⟨_, _, [], PySem.W.mg_of X G at35, kp35, O35, .nil, F35.binds (ps := ["_law_source_here", "_law_rule"]) fun _ _ _ _ _ _ us hl => match us, hl with | [_, _], _ => rfl⟩
  have F36 := fun_mk (st := s_l_bad_flags) l36 co36 kp36
  have O36 : FnOk l.prog w K mg base (L2.CX l.prog w) l_l_bad_flags f36 _ ["_law_source_here", "_law_flags_here"] (p_l_bad_flags K (Ads.mk c0 c1 c2 c3 c4 c5 c6 c7 qKINDS qRULES)) := ok_l_bad_flags G0 T_l_take F36
  have T_l_bad_flags : DefC l.prog w K mg base "_law_bad_flags" ["_law_source_here", "_law_flags_here"] l_l_bad_flags [] (p_l_bad_flags K (Ads.mk c0 c1 c2 c3 c4 c5 c6 c7 qKINDS qRULES)) := ⟨_, _, [], PySem.W.mg_of X G at36, kp36, O36, .nil, F36.binds (ps := ["_law_source_here", "_law_flags_here"]) fun _ _ _ _ _ _ us hl => match us, hl with | [_, _], _ => rfl⟩
  have F37 := fun_mk (st := s_l_bad_run) l37 co37 kp37
  have O37 : FnOk l.prog w K mg base (L2.CX l.prog w) l_l_bad_run f37 _ ["_law_source_here", "_law_run_here", "_law_many"] (p_l_bad_run K (Ads.mk c0 c1 c2 c3 c4 c5 c6 c7 qKINDS qRULES)) := ok_l_bad_run G0 T_l_take F37
  have T_l_bad_run : DefC l.prog w K mg base "_law_bad_run" ["_law_source_here", "_law_run_here", "_law_many"] l_l_bad_run [] (p_l_bad_run K (Ads.mk c0 c1 c2 c3 c4 c5 c6 c7 qKINDS qRULES)) := ⟨_, _, [], PySem.W.mg_of X G at37, kp37, O37, .nil, F37.binds (ps := ["_law_source_here", "_law_run_here", "_law_many"]) fun _ _ _ _ _ _ us hl => match us, hl with | [_, _, _], _ => rfl⟩
  have F38 := fun_mk (st := s_l_refused) l38 co38 kp38
  have O38 : FnOk l.prog w K mg base (L2.CX l.prog w) l_l_refused f38 _ ["_law_door", "_law_tree_here", "_law_rule", "_law_flags_here", "_law_run_here"] (p_l_refused K (Ads.mk c0 c1 c2 c3 c4 c5 c6 c7 qKINDS qRULES)) := ok_l_refused G0 T T_first_wrong_by T_flags_by F38
  have T_l_refused : DefC l.prog w K mg base "_law_refused" ["_law_door", "_law_tree_here", "_law_rule", "_law_flags_here", "_law_run_here"] l_l_refused [] (p_l_refused K (Ads.mk c0 c1 c2 c3 c4 c5 c6 c7 qKINDS qRULES)) := ⟨_, _, [], PySem.W.mg_of X G at38, kp38, O38, .nil, F38.binds (ps := ["_law_door", "_law_tree_here", "_law_rule", "_law_flags_here", "_law_run_here"]) fun _ _ _ _ _ _ us hl => match us, hl with | [_, _, _, _, _], _ => rfl⟩
  have F39 := fun_mk (st := s_l_doors_right) l39 co39 kp39
  have O39 : FnOk l.prog w K mg base (L2.CX l.prog w) l_l_doors_right f39 _ ["_law_source_here", "_law_tree_here", "_law_many", "_law_rule", "_law_flags_here", "_law_run_here"] (p_l_doors_right K (Ads.mk c0 c1 c2 c3 c4 c5 c6 c7 qKINDS qRULES)) := ok_l_doors_right G0 T_l_bad_flags T_l_bad_rule T_l_bad_run T_l_refused T_l_take F39
  have T_l_doors_right : DefC l.prog w K mg base "_law_doors_right" ["_law_source_here", "_law_tree_here", "_law_many", "_law_rule", "_law_flags_here", "_law_run_here"] l_l_doors_right [] (p_l_doors_right K (Ads.mk c0 c1 c2 c3 c4 c5 c6 c7 qKINDS qRULES)) := ⟨_, _, [], PySem.W.mg_of X G at39, kp39, O39, .nil, F39.binds (ps := ["_law_source_here", "_law_tree_here", "_law_many", "_law_rule", "_law_flags_here", "_law_run_here"]) fun _ _ _ _ _ _ us hl => match us, hl with | [_, _, _, _, _, _], _ => rfl⟩
  have F40 := fun_mk (st := s_l_both_refused) l40 co40 kp40
  have O40 : FnOk l.prog w K mg base (L2.CX l.prog w) l_l_both_refused f40 _ ["_law_tree_here", "_law_rule", "_law_other"] (p_l_both_refused K (Ads.mk c0 c1 c2 c3 c4 c5 c6 c7 qKINDS qRULES)) := ok_l_both_refused G0 T T_same_rule F40
  have T_l_both_refused : DefC l.prog w K mg base "_law_both_refused" ["_law_tree_here", "_law_rule", "_law_other"] l_l_both_refused [] (p_l_both_refused K (Ads.mk c0 c1 c2 c3 c4 c5 c6 c7 qKINDS qRULES)) := ⟨_, _, [], PySem.W.mg_of X G at40, kp40, O40, .nil, F40.binds (ps := ["_law_tree_here", "_law_rule", "_law_other"]) fun _ _ _ _ _ _ us hl => match us, hl with | [_, _, _], _ => rfl⟩
  have F41 := fun_mk (st := s_l_pairs_right) l41 co41 kp41
  have O41 : FnOk l.prog w K mg base (L2.CX l.prog w) l_l_pairs_right f41 _ ["_law_source_here", "_law_tree_here", "_law_rule", "_law_other"] (p_l_pairs_right K (Ads.mk c0 c1 c2 c3 c4 c5 c6 c7 qKINDS qRULES)) := ok_l_pairs_right G0 T_l_bad_rule T_l_both_refused F41
  have T_l_pairs_right : DefC l.prog w K mg base "_law_pairs_right" ["_law_source_here", "_law_tree_here", "_law_rule", "_law_other"] l_l_pairs_right [] (p_l_pairs_right K (Ads.mk c0 c1 c2 c3 c4 c5 c6 c7 qKINDS qRULES)) := ⟨_, _, [], PySem.W.mg_of X G at41, kp41, O41, .nil, F41.binds (ps := ["_law_source_here", "_law_tree_here", "_law_rule", "_law_other"]) fun _ _ _ _ _ _ us hl => match us, hl with | [_, _, _, _], _ => rfl⟩
  have F42 := fun_mk (st := s_law) l42 co42 kp42
  have O42 : FnOk l.prog w K mg base (L2.CX l.prog w) l_law fa _ ["_law_script"] (p_law K (Ads.mk c0 c1 c2 c3 c4 c5 c6 c7 qKINDS qRULES)) := ok_law G0 T T_l_doors_right T_l_flags T_l_pairs_right T_l_reached T_l_rule_right T_l_rules T_l_run T_l_same_right T_l_source T_l_take T_l_tree T_same_rule T_Tree_init F42
  exact O42
theorem walk {l : PySem.W.OpenLaw} {q : Program} {loose : List Str} {XP : (Str → Option Value) → Heap → Prop} {YP : World → Heap → Prop} {d : DefRec} {K : Params → PySem.W.Frag} (hn : l.most = some 63) (hdf : d.params.defaults = [])
    (hY : ∀ (w : World) (h : Heap), YP w h → (K w.params).In h)
    (F : ∀ (w : World) (mg : Str → Option Value) (fa : Addr) (h : Heap), (K w.params).In h → h.Ns mainGlobals mg → mg d.name = some (.ref fa) →
      ∃ fd : FuncData, (∀ (s : Shared) (u : Value), BindsTo s fd ⟨[u], []⟩ [("_law_script", u)]) ∧ ∀ base : Heap, (K w.params).In base → base.Ns mainGlobals mg → FnOk l.prog w (K w.params) mg base (L2.CX l.prog w) l_law fa fd ["_law_script"] (spC (ct_law (K w.params)))) :
    PySem.W.WalkO q loose XP YP l.row.toRowW d [] (fun f vs => PySem.call f vs) :=
  L2.walk_of (n := 63) (k := l_law) (x := "_law_script") (CX := fun w => L2.CX l.prog w) (sp := fun w => spC (ct_law (K w.params))) hn (by decide) hdf ⟨rfl, by decide, by decide⟩ hY F
    (fun _ _ a ns hl _ hS => ⟨(a, ns), ⟨rfl, hS⟩, fun _ _ q => q, fun _ _ _ q => q.elim⟩)
    fun _ _ _ _ _ z => by
      obtain ⟨_, _, _, _, _, _, _, _, _, _, _, _, z⟩ := z
      exact z.elim
end LW
open PySem PySem.W PyProof.Rows
set_option maxRecDepth 100000 in
set_option maxHeartbeats 0 in
theorem PySem.Challenge.cw_lastside_k34_whole_rules_holds : PySem.Challenge.rw_lastside_k34_whole_rules.Holds := by
  w_on; o_law; k_head; (case hw => w_witness2)
  k_fill
  refine LW.walk (l := PySem.Challenge.rw_lastside_k34_whole_rules) rfl rfl (fun w h Y => PySem.W.kIn_of Y) ?F
  case F =>
    intro w mg fa h KX G hmg
    refine' LW.all_mk KX G hmg ?ac0 ?ac1 ?ac2 ?ac3 ?ac4 ?ac5 ?ac6 ?ac7 ?z_ValueError ?z_all ?z_bool ?z_enumerate ?z_int ?z_isinstance ?z_len ?z_list ?z_min ?z_range ?z_sorted ?z_str ?z_sum ?z_tuple ?t_KINDS ?tl_KINDS ?t_RULES ?tl_RULES ?opg_c7 ?ohd_c7 ?opo_c7 ?osa_c7 ?omk_c7 ?okc_c7 ?ona_c7_bounds ?ona_c7_lefts ?ona_c7_postorder ?ona_c7_preorder ?ona_c7_rights ?ona_c7_root ?ona_c7_spans ?ona_c7_text ?ona_c7_ways ?oco_c7_MOST ?ocg_c7_MOST ?at0 ?l0 ?co0 ?kp0 ?at1 ?l1 ?co1 ?kp1 ?at2 ?l2 ?co2 ?kp2 ?at3 ?l3 ?co3 ?kp3 ?pa4 ?pgt4 ?pt4 ?prc4 ?l4 ?co4 ?kp4 ?at5 ?l5 ?co5 ?kp5 ?at6 ?l6 ?co6 ?kp6 ?at7 ?fn7 ?l7 ?co7 ?kp7 ?at8 ?l8 ?co8 ?kp8 ?at9 ?l9 ?co9 ?kp9 ?at10 ?l10 ?co10 ?kp10 ?at11 ?l11 ?co11 ?kp11 ?at12 ?l12 ?co12 ?kp12 ?at13 ?l13 ?co13 ?kp13 ?at14 ?l14 ?co14 ?kp14 ?at15 ?l15 ?co15 ?kp15 ?at16 ?l16 ?co16 ?kp16 ?at17 ?l17 ?co17 ?kp17 ?at18 ?l18 ?co18 ?kp18 ?at19 ?l19 ?co19 ?kp19 ?at20 ?fn20 ?l20 ?co20 ?kp20 ?at21 ?l21 ?co21 ?kp21 ?at22 ?l22 ?co22 ?kp22 ?at23 ?l23 ?co23 ?kp23 ?at24 ?l24 ?co24 ?kp24 ?at25 ?l25 ?co25 ?kp25 ?at26 ?l26 ?co26 ?kp26 ?at27 ?l27 ?co27 ?kp27 ?at28 ?l28 ?co28 ?kp28 ?at29 ?l29 ?co29 ?kp29 ?at30 ?l30 ?co30 ?kp30 ?at31 ?l31 ?co31 ?kp31 ?at32 ?l32 ?co32 ?kp32 ?at33 ?l33 ?co33 ?kp33 ?at34 ?l34 ?co34 ?kp34 ?at35 ?l35 ?co35 ?kp35 ?at36 ?l36 ?co36 ?kp36 ?at37 ?l37 ?co37 ?kp37 ?at38 ?l38 ?co38 ?kp38 ?at39 ?l39 ?co39 ?kp39 ?at40 ?l40 ?co40 ?kp40 ?at41 ?l41 ?co41 ?kp41 ?at42 ?l42 ?co42 ?kp42 ?x_c2 ?rv_c2 ?sa_c2 ?ex_c2 ?ty_c2 ?kc_c2 ?ga_c2 ?gg_c2 ?hd_c2 ?ha_c2 ?hn_c2 ?ht_c2 ?hm_c2 ?no_c2 ?fi_c2 ?ft_c2 ?fl_c2 ?fc_c2 ?fk_c2 ?x_c3 ?rv_c3 ?sa_c3 ?ex_c3 ?ty_c3 ?kc_c3 ?ga_c3 ?gg_c3 ?hd_c3 ?ha_c3 ?hn_c3 ?ht_c3 ?hm_c3 ?no_c3 ?fi_c3 ?ft_c3 ?fl_c3 ?fc_c3 ?fk_c3 ?x_c4 ?rv_c4 ?sa_c4 ?ex_c4 ?ty_c4 ?kc_c4 ?ga_c4 ?gg_c4 ?hd_c4 ?ha_c4 ?hn_c4 ?ht_c4 ?hm_c4 ?no_c4 ?fi_c4 ?ft_c4 ?fl_c4 ?fc_c4 ?fk_c4 ?x_c1 ?rv_c1 ?sa_c1 ?ex_c1 ?ty_c1 ?kc_c1 ?ga_c1 ?gg_c1 ?hd_c1 ?ha_c1 ?hn_c1 ?ht_c1 ?hm_c1 ?no_c1 ?fi_c1 ?ft_c1 ?fl_c1 ?fc_c1 ?fk_c1 ?kcf ?kcl ?kcr ?kvf ?kvl ?kvr ?kxr ?kxf ?krl ?krr ?khrr ?khfr ?khlr ?khff ?khlf ?khll
    (case ac0 => k_is)
    (case ac1 => k_is)
    (case ac2 => k_is)
    (case ac3 => k_is)
    (case ac4 => k_is)
    (case ac5 => k_is)
    (case ac6 => k_is)
    (case ac7 => k_is)
    (case z_ValueError => k_is)
    (case z_all => k_is)
    (case z_bool => k_is)
    (case z_enumerate => k_is)
    (case z_int => k_is)
    (case z_isinstance => k_is)
    (case z_len => k_is)
    (case z_list => k_is)
    (case z_min => k_is)
    (case z_range => k_is)
    (case z_sorted => k_is)
    (case z_str => k_is)
    (case z_sum => k_is)
    (case z_tuple => k_is)
    (case t_KINDS => k_is)
    (case tl_KINDS => k_is)
    (case t_RULES => k_is)
    (case tl_RULES => k_is)
    (case opg_c7 => k_is)
    (case ohd_c7 => k_is)
    (case opo_c7 => k_is)
    (case osa_c7 => k_is)
    (case omk_c7 => k_is)
    (case okc_c7 => k_is)
    (case ona_c7_bounds => k_is)
    (case ona_c7_lefts => k_is)
    (case ona_c7_postorder => k_is)
    (case ona_c7_preorder => k_is)
    (case ona_c7_rights => k_is)
    (case ona_c7_root => k_is)
    (case ona_c7_spans => k_is)
    (case ona_c7_text => k_is)
    (case ona_c7_ways => k_is)
    (case oco_c7_MOST => k_is)
    (case ocg_c7_MOST => k_is)
    (case at0 => k_is)
    (case l0 => k_is)
    (case co0 => k_is)
    (case kp0 => k_is)
    (case at1 => k_is)
    (case l1 => k_is)
    (case co1 => k_is)
    (case kp1 => k_is)
    (case at2 => k_is)
    (case l2 => k_is)
    (case co2 => k_is)
    (case kp2 => k_is)
    (case at3 => k_is)
    (case l3 => k_is)
    (case co3 => k_is)
    (case kp3 => k_is)
    (case pa4 => k_is)
    (case pgt4 => k_is)
    (case pt4 => k_is)
    (case prc4 => k_is)
    (case l4 => k_is)
    (case co4 => k_is)
    (case kp4 => k_is)
    (case at5 => k_is)
    (case l5 => k_is)
    (case co5 => k_is)
    (case kp5 => k_is)
    (case at6 => k_is)
    (case l6 => k_is)
    (case co6 => k_is)
    (case kp6 => k_is)
    (case at7 => k_is)
    (case fn7 => k_is)
    (case l7 => k_is)
    (case co7 => k_is)
    (case kp7 => k_is)
    (case at8 => k_is)
    (case l8 => k_is)
    (case co8 => k_is)
    (case kp8 => k_is)
    (case at9 => k_is)
    (case l9 => k_is)
    (case co9 => k_is)
    (case kp9 => k_is)
    (case at10 => k_is)
    (case l10 => k_is)
    (case co10 => k_is)
    (case kp10 => k_is)
    (case at11 => k_is)
    (case l11 => k_is)
    (case co11 => k_is)
    (case kp11 => k_is)
    (case at12 => k_is)
    (case l12 => k_is)
    (case co12 => k_is)
    (case kp12 => k_is)
    (case at13 => k_is)
    (case l13 => k_is)
    (case co13 => k_is)
    (case kp13 => k_is)
    (case at14 => k_is)
    (case l14 => k_is)
    (case co14 => k_is)
    (case kp14 => k_is)
    (case at15 => k_is)
    (case l15 => k_is)
    (case co15 => k_is)
    (case kp15 => k_is)
    (case at16 => k_is)
    (case l16 => k_is)
    (case co16 => k_is)
    (case kp16 => k_is)
    (case at17 => k_is)
    (case l17 => k_is)
    (case co17 => k_is)
    (case kp17 => k_is)
    (case at18 => k_is)
    (case l18 => k_is)
    (case co18 => k_is)
    (case kp18 => k_is)
    (case at19 => k_is)
    (case l19 => k_is)
    (case co19 => k_is)
    (case kp19 => k_is)
    (case at20 => k_is)
    (case fn20 => k_is)
    (case l20 => k_is)
    (case co20 => k_is)
    (case kp20 => k_is)
    (case at21 => k_is)
    (case l21 => k_is)
    (case co21 => k_is)
    (case kp21 => k_is)
    (case at22 => k_is)
    (case l22 => k_is)
    (case co22 => k_is)
    (case kp22 => k_is)
    (case at23 => k_is)
    (case l23 => k_is)
    (case co23 => k_is)
    (case kp23 => k_is)
    (case at24 => k_is)
    (case l24 => k_is)
    (case co24 => k_is)
    (case kp24 => k_is)
    (case at25 => k_is)
    (case l25 => k_is)
    (case co25 => k_is)
    (case kp25 => k_is)
    (case at26 => k_is)
    (case l26 => k_is)
    (case co26 => k_is)
    (case kp26 => k_is)
    (case at27 => k_is)
    (case l27 => k_is)
    (case co27 => k_is)
    (case kp27 => k_is)
    (case at28 => k_is)
    (case l28 => k_is)
    (case co28 => k_is)
    (case kp28 => k_is)
    (case at29 => k_is)
    (case l29 => k_is)
    (case co29 => k_is)
    (case kp29 => k_is)
    (case at30 => k_is)
    (case l30 => k_is)
    (case co30 => k_is)
    (case kp30 => k_is)
    (case at31 => k_is)
    (case l31 => k_is)
    (case co31 => k_is)
    (case kp31 => k_is)
    (case at32 => k_is)
    (case l32 => k_is)
    (case co32 => k_is)
    (case kp32 => k_is)
    (case at33 => k_is)
    (case l33 => k_is)
    (case co33 => k_is)
    (case kp33 => k_is)
    (case at34 => k_is)
    (case l34 => k_is)
    (case co34 => k_is)
    (case kp34 => k_is)
    (case at35 => k_is)
    (case l35 => k_is)
    (case co35 => k_is)
    (case kp35 => k_is)
    (case at36 => k_is)
    (case l36 => k_is)
    (case co36 => k_is)
    (case kp36 => k_is)
    (case at37 => k_is)
    (case l37 => k_is)
    (case co37 => k_is)
    (case kp37 => k_is)
    (case at38 => k_is)
    (case l38 => k_is)
    (case co38 => k_is)
    (case kp38 => k_is)
    (case at39 => k_is)
    (case l39 => k_is)
    (case co39 => k_is)
    (case kp39 => k_is)
    (case at40 => k_is)
    (case l40 => k_is)
    (case co40 => k_is)
    (case kp40 => k_is)
    (case at41 => k_is)
    (case l41 => k_is)
    (case co41 => k_is)
    (case kp41 => k_is)
    (case at42 => k_is)
    (case l42 => k_is)
    (case co42 => k_is)
    (case kp42 => k_is)
    (case x_c2 => k_is)
    (case rv_c2 => decide +kernel)
    (case sa_c2 => k_is)
    (case ex_c2 => k_is)
    (case ty_c2 => k_is)
    (case kc_c2 => k_is)
    (case ga_c2 => k_is)
    (case gg_c2 => k_is)
    (case hd_c2 => k_is)
    (case ha_c2 => k_is)
    (case hn_c2 => k_is)
    (case ht_c2 => k_is)
    (case hm_c2 => k_is)
    (case no_c2 => k_is)
    (case fi_c2 => k_is)
    (case ft_c2 => k_is)
    (case fl_c2 => k_is)
    (case fc_c2 => k_is)
    (case fk_c2 => k_is)
    (case x_c3 => k_is)
    (case rv_c3 => decide +kernel)
    (case sa_c3 => k_is)
    (case ex_c3 => k_is)
    (case ty_c3 => k_is)
    (case kc_c3 => k_is)
    (case ga_c3 => k_is)
    (case gg_c3 => k_is)
    (case hd_c3 => k_is)
    (case ha_c3 => k_is)
    (case hn_c3 => k_is)
    (case ht_c3 => k_is)
    (case hm_c3 => k_is)
    (case no_c3 => k_is)
    (case fi_c3 => k_is)
    (case ft_c3 => k_is)
    (case fl_c3 => k_is)
    (case fc_c3 => k_is)
    (case fk_c3 => k_is)
    (case x_c4 => k_is)
    (case rv_c4 => decide +kernel)
    (case sa_c4 => k_is)
    (case ex_c4 => k_is)
    (case ty_c4 => k_is)
    (case kc_c4 => k_is)
    (case ga_c4 => k_is)
    (case gg_c4 => k_is)
    (case hd_c4 => k_is)
    (case ha_c4 => k_is)
    (case hn_c4 => k_is)
    (case ht_c4 => k_is)
    (case hm_c4 => k_is)
    (case no_c4 => k_is)
    (case fi_c4 => k_is)
    (case ft_c4 => k_is)
    (case fl_c4 => k_is)
    (case fc_c4 => k_is)
    (case fk_c4 => k_is)
    (case x_c1 => k_is)
    (case rv_c1 => decide +kernel)
    (case sa_c1 => k_is)
    (case ex_c1 => k_is)
    (case ty_c1 => k_is)
    (case kc_c1 => k_is)
    (case ga_c1 => k_is)
    (case gg_c1 => k_is)
    (case hd_c1 => k_is)
    (case ha_c1 => k_is)
    (case hn_c1 => k_is)
    (case ht_c1 => k_is)
    (case hm_c1 => k_is)
    (case no_c1 => k_is)
    (case fi_c1 => k_is)
    (case ft_c1 => k_is)
    (case fl_c1 => k_is)
    (case fc_c1 => k_is)
    (case fk_c1 => k_is)
    (case kcf => kernel_rfl)
    (case kcl => kernel_rfl)
    (case kcr => kernel_rfl)
    (case kvf => kernel_rfl)
    (case kvl => kernel_rfl)
    (case kvr => kernel_rfl)
    (case kxr => kernel_rfl)
    (case kxf => kernel_rfl)
    (case krl => kernel_rfl)
    (case krr => kernel_rfl)
    (case khrr => kernel_rfl)
    (case khfr => kernel_rfl)
    (case khlr => kernel_rfl)
    (case khff => kernel_rfl)
    (case khlf => kernel_rfl)
    (case khll => kernel_rfl)
