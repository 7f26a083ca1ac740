import PyProof.Rows.All
import Wide.All
import OpenK.AllK
import Wide.FinOn
import HandS.ForMost
import HandS.Flow
import HandS.Style
import HandS.Zip
import HandS.IsInst
import HandS.Deep
import HandS.Walk
import KE.KDictKeyed
import KE.KDictDisplayH
import HandS.Conv
import HandS.DictComp
import KE.SortData
import HandS.TupSets
import KE.KDictSum
import HandS.TupAny
import PyProof.DictTable
import HandS.Small
import KE.KDictCopyH
import HandS.ExcInit
import HandS.ExcField
import HandS.WordsExc
import HandS.Lambda
import HandS.TryMany
import KE.KStateDown
import Lean
import HandS.Head0
import HandS.Head1
import HandS.Head2
import HandS.HeadEnd
import HandS.HeadHook1
import HandS.HeadHook2
import HandS.HeadHook3
import HandS.HeadHook4
import PySem.Challenge.RW_slideinto_k40_whole_least_plans
set_option Elab.async false
set_option linter.all false
set_option maxRecDepth 100000
set_option maxHeartbeats 4000000
/-! G1: a store of slots and of owned objects over a frozen heap. -/
namespace G
open PySem PySem.Spec PyProof.Rows L2
abbrev Stt := L2.St
theorem sameT {K : PySem.W.Frag} {H H' : Hp} {a : Addr} {xs : List V} (e : Same H H') (h : SqT K H a xs) : SqT K H' a xs := by
  rcases h with (h | ⟨o, h⟩) | h
  · exact .inl (.inl (e _ _ h))
  · exact .inl (.inr ⟨o, e _ _ h⟩)
  · exact .inr h
mutual
theorem dpS {K : PySem.W.Frag} {H H' : Hp} (e : Same H H') : ∀ {v : V} {d : PyData}, Dp K H v d → Dp K H' v d
  | _, _, .non => .non
  | _, _, .bl b => .bl b
  | _, _, .int i => .int i
  | _, _, .str x => .str x
  | _, _, .lst h a => .lst (e.seq h) (dpAllS e a)
  | _, _, .tup h a => .tup (sameT e h) (dpAllS e a)
theorem dpAllS {K : PySem.W.Frag} {H H' : Hp} (e : Same H H') : ∀ {vs : List V} {ds : List PyData}, DpAll K H vs ds → DpAll K H' vs ds
  | _, _, .nil => .nil
  | _, _, .cons h t => .cons (dpS e h) (dpAllS e t)
end
/-! ### hiding -/
def hid (O : List Addr) (H : Hp) : Hp := fun a => if a ∈ O then none else H a
theorem hid_in {O : List Addr} {H : Hp} {a : Addr} (h : a ∈ O) : hid O H a = none := if_pos h
theorem hid_out {O : List Addr} {H : Hp} {a : Addr} (h : a ∉ O) : hid O H a = H a := if_neg h
theorem hid_sub {O : List Addr} {H : Hp} : Same (hid O H) H := fun a o e => by
  by_cases h : a ∈ O
  · rw [hid_in h] at e; cases e
  · rwa [hid_out h] at e
theorem hid_same {O : List Addr} {H H' : Hp} (e : Same H H') : Same (hid O H) (hid O H') := fun a o q => by
  by_cases h : a ∈ O
  · rw [hid_in h] at q; cases q
  · rw [hid_out h] at q ⊢; exact e _ _ q
theorem hid_anti {O O' : List Addr} {H : Hp} (h : ∀ a, a ∈ O' → a ∈ O) : Same (hid O H) (hid O' H) := fun a o q => by
  by_cases z : a ∈ O
  · rw [hid_in z] at q; cases q
  · rw [hid_out z] at q; rw [hid_out fun y => z (h a y)]; exact q
theorem hid_congr {O O' : List Addr} {H : Hp} (h : ∀ a, a ∈ O' ↔ a ∈ O) : hid O H = hid O' H := funext fun a => by
  by_cases z : a ∈ O
  · rw [hid_in z, hid_in ((h a).mpr z)]
  · rw [hid_out z, hid_out fun y => z ((h a).mp y)]
theorem hid_upd {O : List Addr} {H : Hp} {p : Addr} {o : HO} (h : p ∈ O) : hid O (upd H p o) = hid O H := funext fun a => by
  by_cases z : a ∈ O
  · rw [hid_in z, hid_in z]
  · rw [hid_out z, hid_out z, upd_ne (b := a) fun e => z (by rw [e]; exact h)]
/-! ### predicates that stay -/
structure MP where
  p : Hp → V → Prop
  mono : ∀ {F F' : Hp} {v : V}, Same F F' → p F v → p F' v
structure MO where
  p : Hp → HO → Prop
  mono : ∀ {F F' : Hp} {o : HO}, Same F F' → p F o → p F' o
def isD (K : PySem.W.Frag) (d : PyData) : MP := ⟨fun F v => Dp K F v d, fun e h => dpS e h⟩
def isV (v : V) : MP := ⟨fun _ u => u = v, fun _ h => h⟩
def lstO (K : PySem.W.Frag) (ds : List PyData) : MO := ⟨fun F o => ∃ xs, o = .lst xs ∧ DpAll K F xs ds, fun e h => let ⟨xs, a, b⟩ := h; ⟨xs, a, dpAllS e b⟩⟩
/-- an object that stands for good, by what is true of it -/
def frz (ψ : MO) : MP := ⟨fun F v => ∃ p o, v = .ref p ∧ F p = some o ∧ ψ.p F o, fun e h => let ⟨p, o, a, b, c⟩ := h; ⟨p, o, a, e _ _ b, ψ.mono e c⟩⟩
abbrev Ga := List (Option MP)
abbrev Om := List (Addr × MO)
inductive Sl (F : Hp) : Ga → Stt → Prop
  | nil : Sl F [] []
  | any {Γ : Ga} {σ : Stt} {o : Option V} : Sl F Γ σ → Sl F (none :: Γ) (o :: σ)
  | pr {Γ : Ga} {σ : Stt} {φ : MP} {v : V} : φ.p F v → Sl F Γ σ → Sl F (some φ :: Γ) (some v :: σ)
theorem Sl.mono {F F' : Hp} (e : Same F F') : ∀ {Γ : Ga} {σ : Stt}, Sl F Γ σ → Sl F' Γ σ
  | _, _, .nil => .nil
  | _, _, .any h => .any (h.mono e)
  | _, _, .pr p h => .pr (MP.mono _ e p) (h.mono e)
theorem Sl.get {F : Hp} {φ : MP} : ∀ {Γ : Ga} {σ : Stt} {i : Nat}, Sl F Γ σ → Γ[i]? = some (some φ) → ∃ v, σ[i]? = some (some v) ∧ φ.p F v
  | _, _, i, .nil, e => by simp at e
  | _, _, 0, .any h, e => by simp at e
  | _, _, i + 1, .any h, e => by
    obtain ⟨v, a, b⟩ := h.get (i := i) (by simpa using e)
    exact ⟨v, by simpa using a, b⟩
  | _, _, 0, .pr p h, e => by simp at e; subst e; exact ⟨_, rfl, p⟩
  | _, _, i + 1, .pr p h, e => by
    obtain ⟨v, a, b⟩ := h.get (i := i) (by simpa using e)
    exact ⟨v, by simpa using a, b⟩
theorem Sl.set {F : Hp} {φ : MP} {v : V} (p : φ.p F v) : ∀ {Γ : Ga} {σ : Stt} (i : Nat), Sl F Γ σ → Sl F (Γ.set i (some φ)) (σ.set i (some v))
  | _, _, _, .nil => .nil
  | _, _, 0, .any h => .pr p h
  | _, _, i + 1, .any h => .any (h.set p i)
  | _, _, 0, .pr _ h => .pr p h
  | _, _, i + 1, .pr q h => .pr q (h.set p i)
theorem Sl.drop {F : Hp} {o : Option V} : ∀ {Γ : Ga} {σ : Stt} (i : Nat), Sl F Γ σ → Sl F (Γ.set i none) (σ.set i o)
  | _, _, _, .nil => .nil
  | _, _, 0, .any h => .any h
  | _, _, i + 1, .any h => .any (h.drop i)
  | _, _, 0, .pr _ h => .any h
  | _, _, i + 1, .pr q h => .pr q (h.drop i)
/-- weaken slots -/
theorem Sl.forget {F : Hp} : ∀ {Γ : Ga} {σ : Stt} (i : Nat), Sl F Γ σ → Sl F (Γ.set i none) σ
  | _, _, _, .nil => .nil
  | _, _, 0, .any h => .any h
  | _, _, i + 1, .any h => .any (h.forget i)
  | _, _, 0, .pr _ h => .any h
  | _, _, i + 1, .pr q h => .pr q (h.forget i)
theorem nd_ix {α : Type} : ∀ {l : List α} {i j : Nat} {x : α}, l.Nodup → l[i]? = some x → l[j]? = some x → i = j
  | [], i, _, _, _, h, _ => by simp at h
  | a :: l, 0, 0, _, _, _, _ => rfl
  | a :: l, 0, j + 1, x, n, h, q => by
    have e : a = x := by simpa using h
    have m : x ∈ l := List.mem_of_getElem? (by simpa using q)
    exact absurd (e ▸ m) (List.nodup_cons.mp n).1
  | a :: l, i + 1, 0, x, n, h, q => by
    have e : a = x := by simpa using q
    have m : x ∈ l := List.mem_of_getElem? (by simpa using h)
    exact absurd (e ▸ m) (List.nodup_cons.mp n).1
  | a :: l, i + 1, j + 1, x, n, h, q => congrArg (· + 1) (nd_ix (List.nodup_cons.mp n).2 (by simpa using h) (by simpa using q))
theorem map_erase {α β : Type} (f : α → β) : ∀ (l : List α) (j : Nat), (l.map f).eraseIdx j = (l.eraseIdx j).map f
  | [], _ => rfl
  | _ :: _, 0 => rfl
  | a :: l, j + 1 => congrArg (f a :: ·) (map_erase f l j)
/-! ### worlds -/
structure Wd where
  H0 : Hp
  O0 : List Addr
  σ : Stt
  H : Hp
abbrev own (Ω : Om) : List Addr := Ω.map Prod.fst
def Wd.F (W : Wd) (Ω : Om) : Hp := hid (own Ω ++ W.O0) W.H
abbrev Wd.up (W : Wd) (H' : Hp) : Wd := { W with H := H' }
abbrev Wd.st (W : Wd) (σ' : Stt) (H' : Hp) : Wd := { W with σ := σ', H := H' }
structure Wd.Ok (W : Wd) (Γ : Ga) (Ω : Om) : Prop where
  sl : Sl (W.F Ω) Γ W.σ
  ow : ∀ q ∈ Ω, ∃ o, W.H q.1 = some o ∧ q.2.p (W.F Ω) o
  nd : (own Ω).Nodup
  nw : ∀ q ∈ Ω, W.H0 q.1 = none
  sm : Same W.H0 W.H
  tr : ∀ a ∈ W.O0, W.H0 a ≠ none
section
variable {W : Wd} {Γ : Ga} {Ω : Om} {H' : Hp} {p : Addr} {o : HO} {ψ ψ' : MO} {j : Nat}
theorem Wd.Ok.tr1 (k : W.Ok Γ Ω) {a : Addr} (h : a ∈ W.O0) : W.H a ≠ none := by
  have q := k.tr a h
  cases e : W.H0 a with
  | none => exact absurd e q
  | some u => rw [k.sm _ _ e]; intro z; cases z
theorem Wd.Ok.out (k : W.Ok Γ Ω) (hp : W.H p = none) : p ∉ own Ω ++ W.O0 := fun z => by
  rcases List.mem_append.mp z with z | z
  · obtain ⟨q, hq, rfl⟩ := List.mem_map.mp z
    obtain ⟨o, e, _⟩ := k.ow q hq
    rw [hp] at e; cases e
  · exact k.tr1 z hp
theorem Wd.Ok.out2 (k : W.Ok Γ Ω) {q : Addr × MO} (h : q ∈ Ω) : q.1 ∉ W.O0 := fun z => k.tr _ z (k.nw q h)
/-- all that is tracked stands -/
theorem Wd.Ok.same (k : W.Ok Γ Ω) (e : Same W.H H') : (W.up H').Ok Γ Ω ∧ Same (W.F Ω) ((W.up H').F Ω) := by
  have s : Same (W.F Ω) ((W.up H').F Ω) := hid_same e
  exact ⟨⟨k.sl.mono s, fun q hq => let ⟨o, a, b⟩ := k.ow q hq; ⟨o, e _ _ a, q.2.mono s b⟩, k.nd, k.nw, k.sm.trans e, k.tr⟩, s⟩
theorem new_same {H : Hp} (hp : H p = none) : Same H (upd H p o) := fun a u e => by
  rw [upd_ne (ne_of_none e hp)]; exact e
theorem Wd.Ok.pure (k : W.Ok Γ Ω) (hp : W.H p = none) : (W.up (upd W.H p o)).Ok Γ Ω ∧ Same (W.F Ω) ((W.up (upd W.H p o)).F Ω) ∧ (W.up (upd W.H p o)).F Ω p = some o :=
  ⟨(k.same (new_same hp)).1, (k.same (new_same hp)).2, by
    show hid _ _ p = _
    rw [hid_out (k.out hp)]; exact upd_same⟩
/-- a new owned object -/
theorem Wd.Ok.new (k : W.Ok Γ Ω) (hp : W.H p = none) (h : ψ.p (W.F Ω) o) : (W.up (upd W.H p o)).Ok Γ (Ω ++ [(p, ψ)]) ∧ Same (W.F Ω) ((W.up (upd W.H p o)).F (Ω ++ [(p, ψ)])) := by
  have s : Same (W.F Ω) ((W.up (upd W.H p o)).F (Ω ++ [(p, ψ)])) := fun a u e => by
    have hn : a ≠ p := fun z => by
      have q : W.H a = some u := hid_sub _ _ e
      rw [z, hp] at q; cases q
    have ho : a ∉ own Ω ++ W.O0 := fun z => by
      have e' : hid (own Ω ++ W.O0) W.H a = some u := e
      rw [hid_in z] at e'; cases e'
    have e' : hid (own Ω ++ W.O0) W.H a = some u := e
    rw [hid_out ho] at e'
    show hid (own (Ω ++ [(p, ψ)]) ++ W.O0) (upd W.H p o) a = some u
    rw [hid_out, upd_ne hn, e']
    simp only [own, List.map_append, List.map_cons, List.map_nil, List.mem_append, List.mem_cons, List.not_mem_nil, or_false, not_or] at ho ⊢
    exact ⟨⟨ho.1, hn⟩, ho.2⟩
  refine ⟨⟨k.sl.mono s, fun q hq => ?_, ?_, fun q hq => ?_, k.sm.trans (new_same hp), k.tr⟩, s⟩
  · rcases List.mem_append.mp hq with z | z
    · obtain ⟨u, a, b⟩ := k.ow q z
      exact ⟨u, (new_same hp _ _ a : upd W.H p o q.1 = some u), q.2.mono s b⟩
    · have e : q = (p, ψ) := by simpa using z
      subst e
      exact ⟨o, (upd_same : upd W.H p o p = some o), ψ.mono s h⟩
  · have q := k.out hp
    simp only [own, List.map_append, List.map_cons, List.map_nil]
    refine List.nodup_append.mpr ⟨k.nd, by simp, ?_⟩
    intro a ha b hb e
    have hb' : b = p := by simpa using hb
    exact q (List.mem_append_left _ (by rw [← hb', ← e]; exact ha))
  · rcases List.mem_append.mp hq with z | z
    · exact k.nw q z
    · have e : q = (p, ψ) := by simpa using z
      subst e
      exact k.sm.free hp
theorem own_set (h : Ω[j]? = some (p, ψ)) : own (Ω.set j (p, ψ')) = own Ω := by
  unfold own
  rw [List.map_set]
  refine List.ext_getElem? fun i => ?_
  by_cases e : j = i
  · subst e
    have hl : j < (Ω.map Prod.fst).length := by
      rw [List.length_map]
      exact (List.getElem?_eq_some_iff.mp h).1
    rw [List.getElem?_set_self hl, List.getElem?_map, h]; rfl
  · rw [List.getElem?_set_ne e]
/-- an owned object changes -/
theorem Wd.Ok.put (k : W.Ok Γ Ω) (hj : Ω[j]? = some (p, ψ)) (h : ψ'.p (W.F Ω) o) : (W.up (upd W.H p o)).Ok Γ (Ω.set j (p, ψ')) ∧ (W.up (upd W.H p o)).F (Ω.set j (p, ψ')) = W.F Ω := by
  have hm : (p, ψ) ∈ Ω := List.mem_of_getElem? hj
  have e : (W.up (upd W.H p o)).F (Ω.set j (p, ψ')) = W.F Ω := by
    show hid (own (Ω.set j (p, ψ')) ++ W.O0) (upd W.H p o) = hid (own Ω ++ W.O0) W.H
    rw [own_set hj]
    exact hid_upd (List.mem_append_left _ (List.mem_map.mpr ⟨_, hm, rfl⟩))
  have hH0 := k.nw _ hm
  refine ⟨⟨by rw [e]; exact k.sl, fun q hq => ?_, by rw [own_set hj]; exact k.nd, fun q hq => ?_, fun a u z => ?_, k.tr⟩, e⟩
  · rw [e]
    obtain ⟨i, hi⟩ := List.mem_iff_getElem?.mp hq
    by_cases z : j = i
    · subst z
      rw [List.getElem?_set_self (List.getElem?_eq_some_iff.mp hj).1] at hi
      cases hi
      exact ⟨o, (upd_same : upd W.H p o p = some o), h⟩
    · rw [List.getElem?_set_ne z] at hi
      obtain ⟨u, a, b⟩ := k.ow q (List.mem_of_getElem? hi)
      have hne : q.1 ≠ p := fun y => by
        have n1 : (own Ω)[i]? = some q.1 := by unfold own; rw [List.getElem?_map, hi]; rfl
        have n2 : (own Ω)[j]? = some p := by unfold own; rw [List.getElem?_map, hj]; rfl
        exact z (nd_ix k.nd n2 (by rw [n1, y]))
      exact ⟨u, by show upd W.H p o q.1 = _; rw [upd_ne hne]; exact a, b⟩
  · obtain ⟨i, hi⟩ := List.mem_iff_getElem?.mp hq
    by_cases z : j = i
    · subst z
      rw [List.getElem?_set_self (List.getElem?_eq_some_iff.mp hj).1] at hi
      cases hi
      exact hH0
    · rw [List.getElem?_set_ne z] at hi
      exact k.nw q (List.mem_of_getElem? hi)
  · show upd W.H p o a = some u
    rw [upd_ne (ne_of_none z hH0)]
    exact k.sm _ _ z
/-- an owned object stands for good from here on -/
theorem Wd.Ok.fz (k : W.Ok Γ Ω) (hj : Ω[j]? = some (p, ψ)) : W.Ok Γ (Ω.eraseIdx j) ∧ Same (W.F Ω) (W.F (Ω.eraseIdx j)) ∧ ∃ o, W.F (Ω.eraseIdx j) p = some o ∧ ψ.p (W.F (Ω.eraseIdx j)) o := by
  have hm : (p, ψ) ∈ Ω := List.mem_of_getElem? hj
  have sub : ∀ q, q ∈ Ω.eraseIdx j → q ∈ Ω := fun q h => List.mem_of_mem_eraseIdx h
  have s : Same (W.F Ω) (W.F (Ω.eraseIdx j)) := hid_anti fun a h => by
    rcases List.mem_append.mp h with z | z
    · obtain ⟨q, hq, rfl⟩ := List.mem_map.mp z
      exact List.mem_append_left _ (List.mem_map.mpr ⟨q, sub q hq, rfl⟩)
    · exact List.mem_append_right _ z
  have e : own (Ω.eraseIdx j) = (own Ω).eraseIdx j := (map_erase _ _ _).symm
  refine ⟨⟨k.sl.mono s, fun q hq => let ⟨o, a, b⟩ := k.ow q (sub q hq); ⟨o, a, q.2.mono s b⟩, ?_, fun q hq => k.nw q (sub q hq), k.sm, k.tr⟩, s, ?_⟩
  · rw [e]; exact List.Nodup.sublist (List.eraseIdx_sublist _ _) k.nd
  · obtain ⟨o, a, b⟩ := k.ow _ hm
    refine ⟨o, ?_, ψ.mono s b⟩
    show hid (own (Ω.eraseIdx j) ++ W.O0) W.H p = some o
    rw [hid_out, a]
    intro z
    rcases List.mem_append.mp z with z | z
    · rw [e] at z
      obtain ⟨i, hi⟩ := List.mem_iff_getElem?.mp z
      have n2 : (own Ω)[j]? = some p := by unfold own; rw [List.getElem?_map, hj]; rfl
      rw [List.getElem?_eraseIdx] at hi
      split at hi
      · (have y := nd_ix k.nd hi n2; omega)
      · (have y := nd_ix k.nd hi n2; omega)
    · exact k.out2 hm z
/-- what is owned is let go -/
theorem Wd.Ok.less (k : W.Ok Γ Ω) {Ω' : Om} (h : Ω'.Sublist Ω) : W.Ok Γ Ω' ∧ Same (W.F Ω) (W.F Ω') := by
  have s : Same (W.F Ω) (W.F Ω') := hid_anti fun a z => by
    rcases List.mem_append.mp z with z | z
    · exact List.mem_append_left _ ((h.map Prod.fst).subset z)
    · exact List.mem_append_right _ z
  exact ⟨⟨k.sl.mono s, fun q hq => let ⟨o, a, b⟩ := k.ow q (h.subset hq); ⟨o, a, q.2.mono s b⟩, List.Nodup.sublist (h.map Prod.fst) k.nd, fun q hq => k.nw q (h.subset hq), k.sm, k.tr⟩, s⟩
end
end G
set_option Elab.async false
set_option linter.all false
set_option maxRecDepth 100000
set_option maxHeartbeats 4000000
/-! G2: expressions, from the left; what follows is the last premise. -/
namespace G
open PySem PySem.Spec PyProof.Rows L2
def wpE (X : Cx) (e : Expr) : TE := fun σ H Q => ∀ (pins : List (Addr × Obj)) (s : Shared), Inv X pins σ H s → wpAny (model X.prog X.w) X.A (eval e X.env) (EP X pins σ Q) X.xe s
def wpT (X : Cx) (e : Expr) : TT := fun σ H Q => ∀ (pins : List (Addr × Obj)) (s : Shared), Inv X pins σ H s → wpAny (model X.prog X.w) X.A (isTrue e X.env (eval e X.env)) (TP X pins σ Q) X.xe s
def wpW (X : Cx) (e : Expr) : TT := fun σ H Q => ∀ (whole : Sem Value) (pins : List (Addr × Obj)) (s : Shared), Inv X pins σ H s → wpAny (model X.prog X.w) X.A (isTrue e X.env whole) (TP X pins σ Q) X.xe s
def wpA (X : Cx) (es : List Expr) : TA := fun σ H Q => ∀ (pos : Pos) (pins : List (Addr × Obj)) (s : Shared), Inv X pins σ H s → wpAny (model X.prog X.w) X.A (spliced (backTo pos (starEach es X.env))) (AP X pins σ Q) X.xe s
section
variable {X : Cx} {e : Expr} {es : List Expr} {σ : Stt} {H : Hp}
theorem peE : PE X e (wpE X e) := ⟨fun pins s _ _ _ I h => h pins s I⟩
theorem ptT : PT X e (wpT X e) := ⟨fun pins s _ _ _ I h => h pins s I⟩
theorem pwW : PW X e (wpW X e) := ⟨fun wh pins s _ _ _ I h => h wh pins s I⟩
theorem paA : PA X es (wpA X es) := ⟨fun pos pins s _ _ _ I h => h pos pins s I⟩
theorem wpE_of {t : TE} {Q : VK} (h : PE X e t) (q : t σ H Q) : wpE X e σ H Q := fun pins s I => h.run pins s σ H Q I q
theorem wpT_of {t : TT} {Q : Bool → Hp → Prop} (h : PT X e t) (q : t σ H Q) : wpT X e σ H Q := fun pins s I => h.run pins s σ H Q I q
theorem wpW_of {t : TT} {Q : Bool → Hp → Prop} (h : PW X e t) (q : t σ H Q) : wpW X e σ H Q := fun wh pins s I => h.run wh pins s σ H Q I q
theorem wpA_of {t : TA} {Q : List V → Hp → Prop} (h : PA X es t) (q : t σ H Q) : wpA X es σ H Q := fun pos pins s I => h.run pos pins s σ H Q I q
theorem wpE_mono {Q Q' : VK} (h : wpE X e σ H Q) (m : ∀ v H', Q v H' → Q' v H') : wpE X e σ H Q' := fun pins s I => thn (h pins s I) fun _ _ ⟨v, H', a, b, c⟩ => ⟨v, H', a, b, m v H' c⟩
theorem wpT_mono {Q Q' : Bool → Hp → Prop} (h : wpT X e σ H Q) (m : ∀ v H', Q v H' → Q' v H') : wpT X e σ H Q' := fun pins s I => thn (h pins s I) fun _ _ ⟨H', a, c⟩ => ⟨H', a, m _ H' c⟩
theorem wpW_mono {Q Q' : Bool → Hp → Prop} (h : wpW X e σ H Q) (m : ∀ v H', Q v H' → Q' v H') : wpW X e σ H Q' := fun wh pins s I => thn (h wh pins s I) fun _ _ ⟨H', a, c⟩ => ⟨H', a, m _ H' c⟩
theorem wpA_mono {Q Q' : List V → Hp → Prop} (h : wpA X es σ H Q) (m : ∀ v H', Q v H' → Q' v H') : wpA X es σ H Q' := fun pos pins s I => thn (h pos pins s I) fun _ _ ⟨vs, H', a, b, c⟩ => ⟨vs, H', a, b, m vs H' c⟩
theorem wpE_inv {Q : VK} (h : (∃ pins s, Inv X pins σ H s) → wpE X e σ H Q) : wpE X e σ H Q := fun pins s I => h ⟨pins, s, I⟩ pins s I
end
structure Nor (X : Cx) : Prop where
  calm : X.calm = true
  nd : X.N.Nodup
  pas : PassesOwn (model X.prog X.w) X.A X.env X.xe
  room : Room 4 X.A
def Post (W : Wd) (Γ : Ga) (Ω : Om) (k : Om → MP → Prop) : VK := fun v H' => ∃ Ω' φ, k Ω' φ ∧ (W.up H').Ok Γ Ω' ∧ Same (W.F Ω) ((W.up H').F Ω') ∧ φ.p ((W.up H').F Ω') v
def PostT (W : Wd) (Γ : Ga) (Ω : Om) (k : Om → Bool → Prop) : Bool → Hp → Prop := fun b H' => ∃ Ω', k Ω' b ∧ (W.up H').Ok Γ Ω' ∧ Same (W.F Ω) ((W.up H').F Ω')
inductive Al (F : Hp) : List MP → List V → Prop
  | nil : Al F [] []
  | cons {φ : MP} {φs : List MP} {v : V} {vs : List V} : φ.p F v → Al F φs vs → Al F (φ :: φs) (v :: vs)
theorem Al.mono {F F' : Hp} (e : Same F F') : ∀ {φs : List MP} {vs : List V}, Al F φs vs → Al F' φs vs
  | _, _, .nil => .nil
  | _, _, .cons h t => .cons (MP.mono _ e h) (t.mono e)
def PostA (W : Wd) (Γ : Ga) (Ω : Om) (k : Om → List MP → Prop) : List V → Hp → Prop := fun vs H' => ∃ Ω' φs, k Ω' φs ∧ (W.up H').Ok Γ Ω' ∧ Same (W.F Ω) ((W.up H').F Ω') ∧ Al ((W.up H').F Ω') φs vs
def ev (X : Cx) (e : Expr) (Γ : Ga) (Ω : Om) (k : Om → MP → Prop) : Prop := ∀ W : Wd, W.Ok Γ Ω → wpE X e W.σ W.H (Post W Γ Ω k)
def evT (X : Cx) (e : Expr) (Γ : Ga) (Ω : Om) (k : Om → Bool → Prop) : Prop := ∀ W : Wd, W.Ok Γ Ω → wpT X e W.σ W.H (PostT W Γ Ω k)
def evW (X : Cx) (e : Expr) (Γ : Ga) (Ω : Om) (k : Om → Bool → Prop) : Prop := ∀ W : Wd, W.Ok Γ Ω → wpW X e W.σ W.H (PostT W Γ Ω k)
def evA (X : Cx) (es : List Expr) (Γ : Ga) (Ω : Om) (k : Om → List MP → Prop) : Prop := ∀ W : Wd, W.Ok Γ Ω → wpA X es W.σ W.H (PostA W Γ Ω k)
section
variable {W : Wd} {Γ : Ga} {Ω Ω2 : Om} {k : Om → MP → Prop} {kT : Om → Bool → Prop} {H2 : Hp} {v : V} {φ : MP} {p : Addr} {o : HO} {ψ : MO}
theorem post_chain (s : Same (W.F Ω) ((W.up H2).F Ω2)) {H' : Hp} (h : Post (W.up H2) Γ Ω2 k v H') : Post W Γ Ω k v H' :=
  let ⟨Ω', φ, a, b, c, d⟩ := h; ⟨Ω', φ, a, b, s.trans c, d⟩
theorem postT_chain (s : Same (W.F Ω) ((W.up H2).F Ω2)) {b : Bool} {H' : Hp} (h : PostT (W.up H2) Γ Ω2 kT b H') : PostT W Γ Ω kT b H' :=
  let ⟨Ω', a, b, c⟩ := h; ⟨Ω', a, b, s.trans c⟩
theorem post_pure (w : W.Ok Γ Ω) (h : k Ω φ) (hv : φ.p (W.F Ω) v) : Post W Γ Ω k v W.H := ⟨Ω, φ, h, w, Same.refl _, hv⟩
theorem postT_pure (w : W.Ok Γ Ω) {b : Bool} (h : kT Ω b) : PostT W Γ Ω kT b W.H := ⟨Ω, h, w, Same.refl _⟩
theorem post_same (w : W.Ok Γ Ω) {H' : Hp} (e : Same W.H H') (h : k Ω φ) (hv : φ.p ((W.up H').F Ω) v) : Post W Γ Ω k v H' := ⟨Ω, φ, h, (w.same e).1, (w.same e).2, hv⟩
/-- a new object, for good -/
theorem post_new (w : W.Ok Γ Ω) (hp : W.H p = none) (h : k Ω φ) (hv : ∀ F, Same (W.F Ω) F → F p = some o → φ.p F v) : Post W Γ Ω k v (upd W.H p o) :=
  let ⟨a, b, c⟩ := w.pure (o := o) hp; ⟨Ω, φ, h, a, b, hv _ b c⟩
/-- a new object, owned -/
theorem post_own (w : W.Ok Γ Ω) (hp : W.H p = none) (hψ : ψ.p (W.F Ω) o) (h : k (Ω ++ [(p, ψ)]) (isV (.ref p))) : Post W Γ Ω k (.ref p) (upd W.H p o) :=
  let ⟨a, b⟩ := w.new (ψ := ψ) (o := o) hp hψ; ⟨_, _, h, a, b, rfl⟩
end
section
variable {X : Cx} {a b c e : Expr} {es rest : List Expr} {Γ : Ga} {Ω : Om} {k : Om → MP → Prop} {kT : Om → Bool → Prop} {kA : Om → List MP → Prop} {pos : Pos}
theorem ev_imp {k' : Om → MP → Prop} (h : ev X e Γ Ω k) (m : ∀ Ω φ, k Ω φ → k' Ω φ) : ev X e Γ Ω k' := fun W w => wpE_mono (h W w) fun _ _ ⟨Ω', φ, a, b, c, d⟩ => ⟨Ω', φ, m _ _ a, b, c, d⟩
theorem ev_name {i : Nat} {x : Str} {φ : MP} (hN : X.N[i]? = some x) (hΓ : Γ[i]? = some (some φ)) (h : k Ω φ) (hv : Vis X.env.scope x := by first | exact Or.inl rfl | exact Or.inr (Or.inl rfl) | exact Or.inr (Or.inr rfl))
    (hd : (x == ("__debug__" : Str)) = false := by decide) (hcd : (x == ("__classdict__" : Str)) = false := by decide) : ev X (.Name x pos) Γ Ω k := fun W w => by
  obtain ⟨v, e, p⟩ := w.sl.get hΓ
  exact wpE_of (pe_var hN hv hd hcd) ⟨v, e, post_pure w h p⟩
theorem ev_int {i : Int} {j : Nat} (h : k Ω (isD X.K (.int i))) : ev X (.Constant (.int i) j pos) Γ Ω k := fun W w => wpE_of pe_int (post_pure w h (.int i))
theorem ev_bool {i : Bool} {j : Nat} (h : k Ω (isD X.K (.bool i))) : ev X (.Constant (.bool i) j pos) Γ Ω k := fun W w => wpE_of pe_bl (post_pure w h (.bl i))
theorem ev_none {j : Nat} (h : k Ω (isD X.K .none)) : ev X (.Constant .none j pos) Γ Ω k := fun W w => wpE_of pe_non (post_pure w h .non)
theorem ev_str {i : Str} {j : Nat} (h : k Ω (isD X.K (.str i))) : ev X (.Constant (.str i) j pos) Γ Ω k := fun W w => wpE_of pe_str (post_pure w h (.str i))
/-- a constant of the module -/
theorem ev_glob {x : Str} {v : V} {u : Value} {φ : MP} (hm : X.mg x = some u) (r : RelV v u) (hφ : ∀ F, φ.p F v) (h : k Ω φ) (hg : Gl X x := by rfl) (hd : (x == ("__debug__" : Str)) = false := by decide) : ev X (.Name x pos) Γ Ω k :=
  fun W w => wpE_of (pe_glob hg hm r hd) (post_pure w h (hφ _))
/-! ### two places -/
def Bi (X : Cx) (r : R2) (φ ψ : MP) (Γ : Ga) (Ω : Om) (k : Om → MP → Prop) : Prop :=
  ∀ (W : Wd) (x y : V) (Q : VK), (∃ pins s, Inv X pins W.σ W.H s) → W.Ok Γ Ω → φ.p (W.F Ω) x → ψ.p (W.F Ω) y → (∀ v H', Post W Γ Ω k v H' → Q v H') → r x y W.H Q
theorem two (h : ev X a Γ Ω fun Ω1 φ => ev X b Γ Ω1 fun Ω2 ψ => Bi X r φ ψ Γ Ω2 k) (W : Wd) (w : W.Ok Γ Ω) : tOp r (wpE X a) (wpE X b) W.σ W.H (Post W Γ Ω k) := by
  show wpE X a W.σ W.H fun x H1 => wpE X b W.σ H1 fun y H2 => r x y H2 (Post W Γ Ω k)
  refine wpE_mono (h W w) ?_
  rintro x H1 ⟨Ω1, φ, h1, k1, s1, p1⟩
  have g := h1 (W.up H1) k1
  intro pins s I
  refine thn (g pins s I) ?_
  rintro u s' ⟨y, H2, I2, ru, Ω2, ψ, h2, k2, s2, p2⟩
  exact ⟨y, H2, I2, ru, h2 (W.up H2) x y _ ⟨_, _, I2⟩ k2 (φ.mono s2 p1) p2 fun v H' q => post_chain (s1.trans s2) q⟩
theorem ev_bin {op : Operator} {r : R2} (ho : OpR X (binaryOp op) r) (h : ev X a Γ Ω fun Ω1 φ => ev X b Γ Ω1 fun Ω2 ψ => Bi X r φ ψ Γ Ω2 k) : ev X (.BinOp a op b pos) Γ Ω k :=
  fun W w => wpE_of (pe_op ho peE peE) (two h W w)
theorem ev_cmpN {op : CmpOp} {r : R2} (ho : OpR X (compareOp op) r) (hm : behindInMarks op b = false) (h : ev X a Γ Ω fun Ω1 φ => ev X b Γ Ω1 fun Ω2 ψ => Bi X r φ ψ Γ Ω2 k) : ev X (.Compare a [op] [b] pos) Γ Ω k :=
  fun W w => wpE_of (pe_cmpR ho peE peE hm) (two h W w)
/-- a value, nothing made -/
theorem bi_val {r : R2} {φ ψ χ : MP} (h : k Ω χ) (hr : ∀ (F H : Hp) (x y : V) (Q : VK), Same F H → φ.p F x → ψ.p F y → (∀ v, χ.p F v → Q v H) → r x y H Q) : Bi X r φ ψ Γ Ω k := fun W x y Q _ w p q z =>
  hr (W.F Ω) W.H x y Q hid_sub p q fun v hv => z v _ (post_pure w h hv)
theorem dp_int {K : PySem.W.Frag} {F : Hp} {v : V} {i : Int} (h : Dp K F v (.int i)) : v = .int i := by cases h; rfl
theorem dp_bool {K : PySem.W.Frag} {F : Hp} {v : V} {i : Bool} (h : Dp K F v (.bool i)) : v = .bl i := by cases h; rfl
theorem dp_str {K : PySem.W.Frag} {F : Hp} {v : V} {i : Str} (h : Dp K F v (.str i)) : v = .str i := by cases h; rfl
theorem dp_none {K : PySem.W.Frag} {F : Hp} {v : V} (h : Dp K F v .none) : v = .non := by cases h; rfl
theorem bi_I0 {g : Int → Int → V} {i j : Int} {d : PyData} (h : k Ω (isD X.K d)) (hg : ∀ F, Dp X.K F (g i j) d) : Bi X (rI0 g) (isD X.K (.int i)) (isD X.K (.int j)) Γ Ω k :=
  bi_val h fun F H x y Q _ p q z => ⟨i, j, dp_int p, dp_int q, z _ (hg F)⟩
theorem bi_I {C : Int → Int → Prop} {g : Int → Int → V} {i j : Int} {d : PyData} (hc : C i j) (h : k Ω (isD X.K d)) (hg : ∀ F, Dp X.K F (g i j) d) : Bi X (rI C g) (isD X.K (.int i)) (isD X.K (.int j)) Γ Ω k :=
  bi_val h fun F H x y Q _ p q z => ⟨i, j, dp_int p, dp_int q, hc, z _ (hg F)⟩
theorem ev_addI (h : ev X a Γ Ω fun Ω1 φ => ev X b Γ Ω1 fun Ω2 ψ => ∃ i j, φ = isD X.K (.int i) ∧ ψ = isD X.K (.int j) ∧ k Ω2 (isD X.K (.int (i + j)))) : ev X (.BinOp a .Add b pos) Γ Ω k :=
  ev_bin op_add (ev_imp h fun Ω1 φ h => ev_imp h fun Ω2 ψ ⟨i, j, e1, e2, g⟩ => by subst e1 e2; exact bi_I0 g fun _ => .int _)
theorem ev_subI (h : ev X a Γ Ω fun Ω1 φ => ev X b Γ Ω1 fun Ω2 ψ => ∃ i j, φ = isD X.K (.int i) ∧ ψ = isD X.K (.int j) ∧ k Ω2 (isD X.K (.int (i - j)))) : ev X (.BinOp a .Sub b pos) Γ Ω k :=
  ev_bin op_sub (ev_imp h fun Ω1 φ h => ev_imp h fun Ω2 ψ ⟨i, j, e1, e2, g⟩ => by subst e1 e2; exact bi_I0 g fun _ => .int _)
theorem ev_mulI (h : ev X a Γ Ω fun Ω1 φ => ev X b Γ Ω1 fun Ω2 ψ => ∃ i j, φ = isD X.K (.int i) ∧ ψ = isD X.K (.int j) ∧ CMul i j ∧ k Ω2 (isD X.K (.int (i * j)))) : ev X (.BinOp a .Mult b pos) Γ Ω k :=
  ev_bin op_mul (ev_imp h fun Ω1 φ h => ev_imp h fun Ω2 ψ ⟨i, j, e1, e2, hc, g⟩ => by subst e1 e2; exact bi_I hc g fun _ => .int _)
theorem ev_modI (h : ev X a Γ Ω fun Ω1 φ => ev X b Γ Ω1 fun Ω2 ψ => ∃ i j, φ = isD X.K (.int i) ∧ ψ = isD X.K (.int j) ∧ 0 < j ∧ k Ω2 (isD X.K (.int (i % j)))) : ev X (.BinOp a .Mod b pos) Γ Ω k :=
  ev_bin op_mod (ev_imp h fun Ω1 φ h => ev_imp h fun Ω2 ψ ⟨i, j, e1, e2, hc, g⟩ => by subst e1 e2; exact bi_I hc g fun _ => .int _)
theorem ev_divI (h : ev X a Γ Ω fun Ω1 φ => ev X b Γ Ω1 fun Ω2 ψ => ∃ i j, φ = isD X.K (.int i) ∧ ψ = isD X.K (.int j) ∧ CDiv i j ∧ k Ω2 (isD X.K (.int (i / j)))) : ev X (.BinOp a .FloorDiv b pos) Γ Ω k :=
  ev_bin op_fdiv (ev_imp h fun Ω1 φ h => ev_imp h fun Ω2 ψ ⟨i, j, e1, e2, hc, g⟩ => by subst e1 e2; exact bi_I hc g fun _ => .int _)
theorem ev_powI (h : ev X a Γ Ω fun Ω1 φ => ev X b Γ Ω1 fun Ω2 ψ => ∃ i j, φ = isD X.K (.int i) ∧ ψ = isD X.K (.int j) ∧ CPow i j ∧ k Ω2 (isD X.K (.int (i ^ j.toNat)))) : ev X (.BinOp a .Pow b pos) Γ Ω k :=
  ev_bin op_pow (ev_imp h fun Ω1 φ h => ev_imp h fun Ω2 ψ ⟨i, j, e1, e2, hc, g⟩ => by subst e1 e2; exact bi_I hc g fun _ => .int _)
theorem ev_cmpI {op : CmpOp} {f : Int → Int → Bool} (ho : OpR X (compareOp op) (rI0 fun i j => .bl (f i j))) (hm : behindInMarks op b = false)
    (h : ev X a Γ Ω fun Ω1 φ => ev X b Γ Ω1 fun Ω2 ψ => ∃ i j, φ = isD X.K (.int i) ∧ ψ = isD X.K (.int j) ∧ k Ω2 (isD X.K (.bool (f i j)))) : ev X (.Compare a [op] [b] pos) Γ Ω k :=
  ev_cmpN ho hm (ev_imp h fun Ω1 φ h => ev_imp h fun Ω2 ψ ⟨i, j, e1, e2, g⟩ => by subst e1 e2; exact bi_I0 g fun _ => .bl _)
theorem ev_ltI (h : ev X a Γ Ω fun Ω1 φ => ev X b Γ Ω1 fun Ω2 ψ => ∃ i j, φ = isD X.K (.int i) ∧ ψ = isD X.K (.int j) ∧ k Ω2 (isD X.K (.bool (decide (i < j))))) : ev X (.Compare a [.Lt] [b] pos) Γ Ω k := ev_cmpI op_lt (nomark _) h
theorem ev_gtI (h : ev X a Γ Ω fun Ω1 φ => ev X b Γ Ω1 fun Ω2 ψ => ∃ i j, φ = isD X.K (.int i) ∧ ψ = isD X.K (.int j) ∧ k Ω2 (isD X.K (.bool (decide (j < i))))) : ev X (.Compare a [.Gt] [b] pos) Γ Ω k := ev_cmpI op_gt (nomark _) h
theorem ev_geI (h : ev X a Γ Ω fun Ω1 φ => ev X b Γ Ω1 fun Ω2 ψ => ∃ i j, φ = isD X.K (.int i) ∧ ψ = isD X.K (.int j) ∧ k Ω2 (isD X.K (.bool (decide (j ≤ i))))) : ev X (.Compare a [.GtE] [b] pos) Γ Ω k := ev_cmpI op_ge (nomark _) h
/-- == of ints, texts, bools as they are -/
def flatD : PyData → PyData → Bool
  | .int _, .int _ => true
  | .str _, .str _ => true
  | .bool _, .bool _ => true
  | _, _ => false
/-! ### one place -/
theorem ev_negI (h : ev X a Γ Ω fun Ω1 φ => ∃ i, φ = isD X.K (.int i) ∧ k Ω1 (isD X.K (.int (-i)))) : ev X (.UnaryOp .USub a pos) Γ Ω k := fun W w => by
  refine wpE_of (pe_un un_neg peE) ?_
  refine wpE_mono (h W w) ?_
  rintro x H1 ⟨Ω1, φ, ⟨i, rfl, h1⟩, k1, s1, p1⟩
  exact ⟨i, dp_int p1, _, _, h1, k1, s1, .int _⟩
theorem ev_not (h : evT X a Γ Ω fun Ω1 b => k Ω1 (isD X.K (.bool (!b)))) (hn : PE X (.UnaryOp .Not a pos) (fun σ H Q => wpT X a σ H fun c H1 => Q (.bl (!c)) H1)) : ev X (.UnaryOp .Not a pos) Γ Ω k := fun W w => by
  refine wpE_of hn (wpT_mono (h W w) ?_)
  rintro b H1 ⟨Ω1, h1, k1, s1⟩
  exact ⟨_, _, h1, k1, s1, .bl _⟩
/-! ### tests -/
theorem evT_imp {k' : Om → Bool → Prop} (h : evT X e Γ Ω kT) (m : ∀ Ω b, kT Ω b → k' Ω b) : evT X e Γ Ω k' := fun W w => wpT_mono (h W w) fun _ _ ⟨Ω', a, b, c⟩ => ⟨Ω', m _ _ a, b, c⟩
theorem evT_val (h : ev X e Γ Ω fun Ω1 φ => ∃ b, φ = isD X.K (.bool b) ∧ kT Ω1 b) (he : ∀ whole, isTrue e X.env whole = (do let v ← whole; standAt e.pos; holding [v] (truthy v)) := by intro _; rfl) : evT X e Γ Ω kT := fun W w => by
  refine wpT_of (pt_val peE he) (wpE_mono (h W w) ?_)
  rintro x H1 ⟨Ω1, φ, ⟨b, rfl, h1⟩, k1, s1, p1⟩
  exact ⟨b, dp_bool p1, Ω1, h1, k1, s1⟩
theorem twoT {r : R2} (h : ev X a Γ Ω fun Ω1 φ => ev X b Γ Ω1 fun Ω2 ψ => Bi X r φ ψ Γ Ω2 fun Ω3 χ => ∃ b, χ = isD X.K (.bool b) ∧ kT Ω3 b) (W : Wd) (w : W.Ok Γ Ω) : tTest (tOp r (wpE X a) (wpE X b)) W.σ W.H (PostT W Γ Ω kT) := by
  show wpE X a W.σ W.H fun x H1 => wpE X b W.σ H1 fun y H2 => r x y H2 fun z H3 => ∃ k, z = .bl k ∧ PostT W Γ Ω kT k H3
  refine wpE_mono (h W w) ?_
  rintro x H1 ⟨Ω1, φ, h1, k1, s1, p1⟩
  have g := h1 (W.up H1) k1
  intro pins s I
  refine thn (g pins s I) ?_
  rintro u s' ⟨y, H2, I2, ru, Ω2, ψ, h2, k2, s2, p2⟩
  refine ⟨y, H2, I2, ru, h2 (W.up H2) x y _ ⟨_, _, I2⟩ k2 (φ.mono s2 p1) p2 ?_⟩
  rintro v H' ⟨Ω3, χ, ⟨b, rfl, h3⟩, k3, s3, p3⟩
  exact ⟨b, dp_bool p3, Ω3, h3, k3, (s1.trans s2).trans s3⟩
theorem evT_cmpN {op : CmpOp} {r : R2} (ho : OpR X (compareOp op) r) (hm : behindInMarks op b = false)
    (h : ev X a Γ Ω fun Ω1 φ => ev X b Γ Ω1 fun Ω2 ψ => Bi X r φ ψ Γ Ω2 fun Ω3 χ => ∃ b, χ = isD X.K (.bool b) ∧ kT Ω3 b) : evT X (.Compare a [op] [b] pos) Γ Ω kT :=
  fun W w => wpT_of (pt_cmpR ho peE peE hm) (twoT h W w)
theorem evT_cmpI {op : CmpOp} {f : Int → Int → Bool} (ho : OpR X (compareOp op) (rI0 fun i j => .bl (f i j))) (hm : behindInMarks op b = false)
    (h : ev X a Γ Ω fun Ω1 φ => ev X b Γ Ω1 fun Ω2 ψ => ∃ i j, φ = isD X.K (.int i) ∧ ψ = isD X.K (.int j) ∧ kT Ω2 (f i j)) : evT X (.Compare a [op] [b] pos) Γ Ω kT :=
  evT_cmpN ho hm (ev_imp h fun Ω1 φ h => ev_imp h fun Ω2 ψ ⟨i, j, e1, e2, g⟩ => by subst e1 e2; exact bi_I0 ⟨_, rfl, g⟩ fun _ => .bl _)
theorem evT_ltI (h : ev X a Γ Ω fun Ω1 φ => ev X b Γ Ω1 fun Ω2 ψ => ∃ i j, φ = isD X.K (.int i) ∧ ψ = isD X.K (.int j) ∧ kT Ω2 (decide (i < j))) : evT X (.Compare a [.Lt] [b] pos) Γ Ω kT := evT_cmpI op_lt (nomark _) h
theorem evT_gtI (h : ev X a Γ Ω fun Ω1 φ => ev X b Γ Ω1 fun Ω2 ψ => ∃ i j, φ = isD X.K (.int i) ∧ ψ = isD X.K (.int j) ∧ kT Ω2 (decide (j < i))) : evT X (.Compare a [.Gt] [b] pos) Γ Ω kT := evT_cmpI op_gt (nomark _) h
theorem evT_geI (h : ev X a Γ Ω fun Ω1 φ => ev X b Γ Ω1 fun Ω2 ψ => ∃ i j, φ = isD X.K (.int i) ∧ ψ = isD X.K (.int j) ∧ kT Ω2 (decide (j ≤ i))) : evT X (.Compare a [.GtE] [b] pos) Γ Ω kT := evT_cmpI op_ge (nomark _) h
theorem evT_not (h : evT X a Γ Ω fun Ω1 b => kT Ω1 (!b)) : evT X (.UnaryOp .Not a pos) Γ Ω kT := fun W w => by
  refine wpT_of (pt_not ptT) (wpT_mono (h W w) ?_)
  rintro b H1 ⟨Ω1, h1, k1, s1⟩
  exact ⟨Ω1, h1, k1, s1⟩
theorem evW_pt (h : evW X e Γ Ω kT) : evT X e Γ Ω kT := fun W w => wpT_of (pwW (X := X)).pt (h W w)
theorem evW_and1 (h : evT X a Γ Ω kT) : evW X (.BoolOp .And [a] pos) Γ Ω kT := fun W w => wpW_of (pw_and1 ptT) (h W w)
theorem evW_or1 (h : evT X a Γ Ω kT) : evW X (.BoolOp .Or [a] pos) Γ Ω kT := fun W w => wpW_of (pw_or1 ptT) (h W w)
theorem evW_and (h : evT X a Γ Ω fun Ω1 x => if x = true then evW X (.BoolOp .And (b :: rest) pos) Γ Ω1 kT else kT Ω1 false) : evW X (.BoolOp .And (a :: b :: rest) pos) Γ Ω kT := fun W w => by
  refine wpW_of (pw_and ptT pwW) (wpT_mono (h W w) ?_)
  rintro x H1 ⟨Ω1, h1, k1, s1⟩
  cases x with
  | true =>
    rw [if_pos rfl] at h1 ⊢
    exact wpW_mono (h1 (W.up H1) k1) fun b H' q => postT_chain s1 q
  | false =>
    rw [if_neg Bool.false_ne_true] at h1 ⊢
    exact ⟨Ω1, h1, k1, s1⟩
theorem evW_or (h : evT X a Γ Ω fun Ω1 x => if x = true then kT Ω1 true else evW X (.BoolOp .Or (b :: rest) pos) Γ Ω1 kT) : evW X (.BoolOp .Or (a :: b :: rest) pos) Γ Ω kT := fun W w => by
  refine wpW_of (pw_or ptT pwW) (wpT_mono (h W w) ?_)
  rintro x H1 ⟨Ω1, h1, k1, s1⟩
  cases x with
  | true =>
    rw [if_pos rfl] at h1 ⊢
    exact ⟨Ω1, h1, k1, s1⟩
  | false =>
    rw [if_neg Bool.false_ne_true] at h1 ⊢
    exact wpW_mono (h1 (W.up H1) k1) fun b H' q => postT_chain s1 q
/-- and, or as values (truth values) -/
theorem ev_one {op : BoolOp} (h : ev X a Γ Ω k) : ev X (.BoolOp op [a] pos) Γ Ω k := fun W w => wpE_of (pe_one peE) (h W w)
end
end G
set_option Elab.async false
set_option linter.all false
set_option maxRecDepth 100000
set_option maxHeartbeats 4000000
/-! G3: displays, items, slices, calls, methods. -/
namespace G
open PySem PySem.Spec PyProof.Rows L2
abbrev isL (K : PySem.W.Frag) (ds : List PyData) : MP := frz (lstO K ds)
/-- what is known of a value gives this data -/
def Dat (K : PySem.W.Frag) (φ : MP) (d : PyData) : Prop := ∀ F v, φ.p F v → Dp K F v d
theorem dat_d {K : PySem.W.Frag} {d : PyData} : Dat K (isD K d) d := fun _ _ h => h
theorem dat_l {K : PySem.W.Frag} {ds : List PyData} : Dat K (isL K ds) (.list ds) := fun F v ⟨p, o, e, h, xs, eo, a⟩ => by
  subst e eo
  exact .lst (SqL.of h) a
inductive Dats (K : PySem.W.Frag) : List MP → List PyData → Prop
  | nil : Dats K [] []
  | cons {φ : MP} {φs : List MP} {d : PyData} {ds : List PyData} : Dat K φ d → Dats K φs ds → Dats K (φ :: φs) (d :: ds)
theorem Dats.al {K : PySem.W.Frag} {F : Hp} : ∀ {φs : List MP} {ds : List PyData} {vs : List V}, Dats K φs ds → Al F φs vs → DpAll K F vs ds
  | _, _, _, .nil, .nil => .nil
  | _, _, _, .cons h t, .cons p q => .cons (h _ _ p) (t.al q)
def Sub (φ ψ : MP) : Prop := ∀ F v, φ.p F v → ψ.p F v
theorem Sub.rfl {φ : MP} : Sub φ φ := fun _ _ h => h
inductive Subs : List MP → List MP → Prop
  | nil : Subs [] []
  | cons {φ ψ : MP} {φs ψs : List MP} : Sub φ ψ → Subs φs ψs → Subs (φ :: φs) (ψ :: ψs)
theorem Subs.al {F : Hp} : ∀ {φs ψs : List MP} {vs : List V}, Subs φs ψs → Al F φs vs → Al F ψs vs
  | _, _, _, .nil, .nil => .nil
  | _, _, _, .cons h t, .cons p q => .cons (h _ _ p) (t.al q)
theorem Subs.rfl : ∀ {φs : List MP}, Subs φs φs
  | [] => .nil
  | _ :: _ => .cons Sub.rfl Subs.rfl
theorem dpAll_length {K : PySem.W.Frag} {F : Hp} : ∀ {vs : List V} {ds : List PyData}, DpAll K F vs ds → vs.length = ds.length
  | _, _, .nil => Eq.refl 0
  | _, _, .cons _ t => congrArg (· + 1) (dpAll_length t)
theorem dpAll_get {K : PySem.W.Frag} {F : Hp} : ∀ {vs : List V} {ds : List PyData} {i : Nat} {d : PyData}, DpAll K F vs ds → ds[i]? = some d → ∃ v, vs[i]? = some v ∧ Dp K F v d
  | _, _, i, _, .nil, e => by simp at e
  | _, _, 0, _, .cons h _, e => by simp at e; subst e; exact ⟨_, Eq.refl _, h⟩
  | _, _, i + 1, _, .cons _ t, e => by
    obtain ⟨v, a, b⟩ := dpAll_get (i := i) t (by simpa using e)
    exact ⟨v, by simpa using a, b⟩
theorem dpAll_get' {K : PySem.W.Frag} {F : Hp} : ∀ {vs : List V} {ds : List PyData} {i : Nat} {v : V}, DpAll K F vs ds → vs[i]? = some v → ∃ d, ds[i]? = some d ∧ Dp K F v d
  | _, _, i, _, .nil, e => by simp at e
  | _, _, 0, _, .cons h _, e => by simp at e; subst e; exact ⟨_, Eq.refl _, h⟩
  | _, _, i + 1, _, .cons _ t, e => by
    obtain ⟨v, a, b⟩ := dpAll_get' (i := i) t (by simpa using e)
    exact ⟨v, by simpa using a, b⟩
theorem dpAll_append {K : PySem.W.Frag} {F : Hp} : ∀ {vs ws : List V} {ds es : List PyData}, DpAll K F vs ds → DpAll K F ws es → DpAll K F (vs ++ ws) (ds ++ es)
  | _, _, _, _, .nil, b => b
  | _, _, _, _, .cons h t, b => .cons h (dpAll_append t b)
theorem dpAll_drop {K : PySem.W.Frag} {F : Hp} : ∀ {vs : List V} {ds : List PyData} (n : Nat), DpAll K F vs ds → DpAll K F (vs.drop n) (ds.drop n)
  | _, _, 0, h => h
  | _, _, _ + 1, .nil => .nil
  | _, _, n + 1, .cons _ t => dpAll_drop n t
theorem dpAll_take {K : PySem.W.Frag} {F : Hp} : ∀ {vs : List V} {ds : List PyData} (n : Nat), DpAll K F vs ds → DpAll K F (vs.take n) (ds.take n)
  | _, _, 0, _ => .nil
  | _, _, _ + 1, .nil => .nil
  | _, _, n + 1, .cons h t => .cons h (dpAll_take n t)
theorem dpAll_rev {K : PySem.W.Frag} {F : Hp} : ∀ {vs : List V} {ds : List PyData}, DpAll K F vs ds → DpAll K F vs.reverse ds.reverse
  | _, _, .nil => .nil
  | _, _, .cons h t => by
    rw [List.reverse_cons, List.reverse_cons]
    exact dpAll_append (dpAll_rev t) (.cons h .nil)
theorem atI_dp {K : PySem.W.Frag} {F : Hp} {vs : List V} {ds : List PyData} {i : Int} {d : PyData} (a : DpAll K F vs ds) (h : atI ds i = some d) : ∃ v, atI vs i = some v ∧ Dp K F v d := by
  unfold atI at h ⊢
  rw [dpAll_length a]
  cases q : ixN ds.length i with
  | none => rw [q] at h; cases h
  | some j =>
    rw [q] at h
    exact dpAll_get a h
theorem size100 {n : Nat} (h : n ≤ 1000) : n ≤ sizeLine := Nat.le_trans h (by decide)
/-- a list that may be read: data, an object that stands, an owned one -/
inductive Ls (K : PySem.W.Frag) (Ω : Om) : MP → List PyData → Prop
  | d {ds : List PyData} : Ls K Ω (isD K (.list ds)) ds
  | l {ds : List PyData} : Ls K Ω (isL K ds) ds
  | o {j : Nat} {p : Addr} {ds : List PyData} : Ω[j]? = some (p, lstO K ds) → Ls K Ω (isV (.ref p)) ds
theorem Ls.at_ {K : PySem.W.Frag} {Ω : Om} {φ : MP} {ds : List PyData} {W : Wd} {Γ : Ga} {v : V} (l : Ls K Ω φ ds) (w : W.Ok Γ Ω) (p : φ.p (W.F Ω) v) : ∃ a xs, v = .ref a ∧ SqL K W.H a xs ∧ DpAll K (W.F Ω) xs ds := by
  cases l with
  | d => cases p with
    | lst h a => exact ⟨_, _, rfl, hid_sub.seq h, a⟩
  | l =>
    obtain ⟨q, o, rfl, e, xs, rfl, a⟩ := p
    exact ⟨q, xs, rfl, SqL.of (hid_sub _ _ e), a⟩
  | o hj =>
    obtain ⟨o, e, xs, rfl, a⟩ := w.ow _ (List.mem_of_getElem? hj)
    exact ⟨_, xs, p, SqL.of e, a⟩
/-- .. one that is tracked -/
inductive Lt (K : PySem.W.Frag) (Ω : Om) : MP → List PyData → Prop
  | l {ds : List PyData} : Lt K Ω (isL K ds) ds
  | o {j : Nat} {p : Addr} {ds : List PyData} : Ω[j]? = some (p, lstO K ds) → Lt K Ω (isV (.ref p)) ds
theorem Lt.at_ {K : PySem.W.Frag} {Ω : Om} {φ : MP} {ds : List PyData} {W : Wd} {Γ : Ga} {v : V} (l : Lt K Ω φ ds) (w : W.Ok Γ Ω) (p : φ.p (W.F Ω) v) : ∃ a xs, v = .ref a ∧ W.H a = some (.lst xs) ∧ DpAll K (W.F Ω) xs ds := by
  cases l with
  | l =>
    obtain ⟨q, o, rfl, e, xs, rfl, a⟩ := p
    exact ⟨q, xs, rfl, hid_sub _ _ e, a⟩
  | o hj =>
    obtain ⟨o, e, xs, rfl, a⟩ := w.ow _ (List.mem_of_getElem? hj)
    exact ⟨_, xs, p, e, a⟩
theorem dp_tup {K : PySem.W.Frag} {F : Hp} {v : V} {ds : List PyData} (h : Dp K F v (.tuple ds)) : ∃ a xs, v = .ref a ∧ SqT K F a xs ∧ DpAll K F xs ds := by
  cases h with
  | tup h a => exact ⟨_, _, rfl, h, a⟩
section
variable {X : Cx} {a b c e o : Expr} {es rest : List Expr} {Γ : Ga} {Ω : Om} {k : Om → MP → Prop} {kT : Om → Bool → Prop} {kA : Om → List MP → Prop} {pos cpos apos p2 : Pos}
theorem evA_nil (h : kA Ω []) : evA X [] Γ Ω kA := fun W w => wpA_of pa_nil ⟨Ω, [], h, w, Same.refl _, .nil⟩
theorem evA_cons (h : ev X e Γ Ω fun Ω1 φ => evA X es Γ Ω1 fun Ω2 φs => kA Ω2 (φ :: φs)) (hs : starEach (e :: es) X.env = (false, eval e X.env) :: starEach es X.env := by rfl) : evA X (e :: es) Γ Ω kA := fun W w => by
  refine wpA_of (pa_cons peE paA hs) ?_
  show wpE X e W.σ W.H fun x H1 => wpA X es W.σ H1 fun xs H2 => PostA W Γ Ω kA (x :: xs) H2
  refine wpE_mono (h W w) ?_
  rintro x H1 ⟨Ω1, φ, h1, k1, s1, p1⟩
  refine wpA_mono (h1 (W.up H1) k1) ?_
  rintro xs H2 ⟨Ω2, φs, h2, k2, s2, p2⟩
  exact ⟨Ω2, _, h2, k2, s1.trans s2, .cons (φ.mono s2 p1) p2⟩
theorem ev_tup {n : Nat} (h : evA X es Γ Ω fun Ω1 φs => ∃ ds, Dats X.K φs ds ∧ ds.length ≤ 1000 ∧ k Ω1 (isD X.K (.tuple ds))) : ev X (.Tuple es n pos) Γ Ω k := fun W w => by
  refine wpE_of (pe_tup paA) (wpA_mono (h W w) ?_)
  rintro xs H1 ⟨Ω1, φs, ⟨ds, hd, hl, h1⟩, k1, s1, p1⟩
  have al := hd.al p1
  refine ⟨size100 (by rw [dpAll_length al]; exact hl), fun p hp => post_chain s1 (post_new k1 hp h1 fun F e q => ?_)⟩
  exact .tup (SqT.of q) (dpAllS e al)
/-- a list that stands for good -/
theorem ev_lst (h : evA X es Γ Ω fun Ω1 φs => ∃ ds, Dats X.K φs ds ∧ ds.length ≤ 1000 ∧ k Ω1 (isL X.K ds)) : ev X (.List es pos) Γ Ω k := fun W w => by
  refine wpE_of (pe_lst paA) (wpA_mono (h W w) ?_)
  rintro xs H1 ⟨Ω1, φs, ⟨ds, hd, hl, h1⟩, k1, s1, p1⟩
  have al := hd.al p1
  refine ⟨size100 (by rw [dpAll_length al]; exact hl), fun p hp => post_chain s1 (post_new k1 hp h1 fun F e q => ?_)⟩
  exact ⟨p, _, rfl, q, xs, rfl, dpAllS e al⟩
/-- .. an owned one -/
theorem ev_lstO (h : evA X es Γ Ω fun Ω1 φs => ∃ ds, Dats X.K φs ds ∧ ds.length ≤ 1000 ∧ ∀ p, k (Ω1 ++ [(p, lstO X.K ds)]) (isV (.ref p))) : ev X (.List es pos) Γ Ω k := fun W w => by
  refine wpE_of (pe_lst paA) (wpA_mono (h W w) ?_)
  rintro xs H1 ⟨Ω1, φs, ⟨ds, hd, hl, h1⟩, k1, s1, p1⟩
  have al := hd.al p1
  exact ⟨size100 (by rw [dpAll_length al]; exact hl), fun p hp => post_chain s1 (post_own (ψ := lstO X.K ds) k1 hp ⟨xs, rfl, al⟩ (h1 p))⟩
/-- from here on it stands for good -/
theorem ev_fz (h : ev X e Γ Ω fun Ω1 φ => ∃ j p ψ, φ = isV (.ref p) ∧ Ω1[j]? = some (p, ψ) ∧ k (Ω1.eraseIdx j) (frz ψ)) : ev X e Γ Ω k := fun W w => wpE_mono (h W w) (by
  rintro x H1 ⟨Ω1, φ, ⟨j, p, ψ, rfl, hj, h1⟩, k1, s1, p1⟩
  obtain ⟨k2, s2, o, e, q⟩ := k1.fz hj
  exact ⟨_, _, h1, k2, s1.trans s2, p, o, p1, e, q⟩)
/-! ### + -/
theorem ev_catL (h : ev X a Γ Ω fun Ω1 φ => ev X b Γ Ω1 fun Ω2 ψ => ∃ xs ys, Lt X.K Ω2 φ xs ∧ Lt X.K Ω2 ψ ys ∧ xs.length + ys.length ≤ sizeLine ∧ k Ω2 (isL X.K (xs ++ ys))) : ev X (.BinOp a .Add b pos) Γ Ω k :=
  ev_bin op_cat (ev_imp h fun Ω1 φ h => ev_imp h fun Ω2 ψ ⟨xs, ys, l1, l2, hz, g⟩ => fun W x y Q _ w p q z => by
    obtain ⟨a1, x1, rfl, e1, d1⟩ := l1.at_ w p
    obtain ⟨a2, x2, rfl, e2, d2⟩ := l2.at_ w q
    refine ⟨a1, a2, x1, x2, rfl, rfl, e1, e2, by rw [dpAll_length d1, dpAll_length d2]; exact hz, fun p hp => z _ _ (post_new w hp g fun F e q => ?_)⟩
    exact ⟨p, _, rfl, q, _, rfl, dpAllS e (dpAll_append d1 d2)⟩)
/-! ### items -/
theorem ev_ix {r : R2} (hr : IxR X r) (hs : PlainIx b) (h : ev X a Γ Ω fun Ω1 φ => ev X b Γ Ω1 fun Ω2 ψ => Bi X r φ ψ Γ Ω2 k) : ev X (.Subscript a b pos) Γ Ω k := fun W w => wpE_of (pe_ix hr peE peE hs) (two h W w)
theorem ev_ixT (h : ev X a Γ Ω fun Ω1 φ => ev X b Γ Ω1 fun Ω2 ψ => ∃ ds i d, φ = isD X.K (.tuple ds) ∧ ψ = isD X.K (.int i) ∧ atI ds i = some d ∧ k Ω2 (isD X.K d)) (hs : PlainIx b := by intro _ _; rfl) : ev X (.Subscript a b pos) Γ Ω k :=
  ev_ix ix_tup hs (ev_imp h fun Ω1 φ h => ev_imp h fun Ω2 ψ ⟨ds, i, d, e1, e2, hi, g⟩ => fun W x y Q _ w p q z => by
    subst e1 e2
    obtain ⟨a1, x1, rfl, e1, d1⟩ := dp_tup p
    obtain ⟨v, hv, dv⟩ := atI_dp d1 hi
    exact ⟨a1, x1, i, v, rfl, dp_int q, sameT hid_sub e1, hv, z _ _ (post_pure w g dv)⟩)
theorem ev_ixL (h : ev X a Γ Ω fun Ω1 φ => ev X b Γ Ω1 fun Ω2 ψ => ∃ ds i d, Ls X.K Ω2 φ ds ∧ ψ = isD X.K (.int i) ∧ atI ds i = some d ∧ k Ω2 (isD X.K d)) (hs : PlainIx b := by intro _ _; rfl) : ev X (.Subscript a b pos) Γ Ω k :=
  ev_ix ix_list hs (ev_imp h fun Ω1 φ h => ev_imp h fun Ω2 ψ ⟨ds, i, d, l, e2, hi, g⟩ => fun W x y Q _ w p q z => by
    subst e2
    obtain ⟨a1, x1, rfl, e1, d1⟩ := l.at_ w p
    obtain ⟨v, hv, dv⟩ := atI_dp d1 hi
    exact ⟨a1, x1, i, v, rfl, dp_int q, e1, hv, z _ _ (post_pure w g dv)⟩)
/-! ### slices -/
def cutD {α : Type} (xs : List α) (lo hi : Option Int) : List α := (xs.drop (HT.sIx xs.length 0 lo)).take (HT.sIx xs.length xs.length hi - HT.sIx xs.length 0 lo)
theorem cut_dp {K : PySem.W.Frag} {F : Hp} {vs : List V} {ds : List PyData} (a : DpAll K F vs ds) (lo hi : Option Int) : DpAll K F (cutV vs lo hi) (cutD ds lo hi) := by
  unfold cutV cutD
  rw [dpAll_length a]
  exact dpAll_take _ (dpAll_drop _ a)
/-- a slice's written part -/
def PoC (X : Cx) (e : Option Expr) (i : Option Int) : Prop := PO X e (fun _ H Q => Q i H)
theorem po_n : PoC X none none := po_none
theorem po_i {i : Int} {j : Nat} {q : Pos} : PoC X (some (.Constant (.int i) j q)) (some i) := ⟨fun pins s σ H Q I h => (po_some pe_int).run pins s σ H Q I ⟨i, rfl, h⟩⟩
theorem po_m {i : Int} {j : Nat} {q q2 : Pos} : PoC X (some (.UnaryOp .USub (.Constant (.int i) j q) q2)) (some (-i)) := ⟨fun pins s σ H Q I h => (po_some (pe_un un_neg pe_int)).run pins s σ H Q I ⟨i, rfl, -i, rfl, h⟩⟩
theorem ev_cutL {lo hi : Option Expr} {i j : Option Int} (h1 : PoC X lo i) (h2 : PoC X hi j) (h : ev X a Γ Ω fun Ω1 φ => ∃ ds, Ls X.K Ω1 φ ds ∧ k Ω1 (isL X.K (cutD ds i j))) : ev X (.Subscript a (.Slice lo hi none p2) pos) Γ Ω k := fun W w => by
  refine wpE_of (pe_slice sl_list peE h1 h2) (wpE_mono (h W w) ?_)
  rintro x H1 ⟨Ω1, φ, ⟨ds, l, g⟩, k1, s1, p1⟩
  obtain ⟨a1, x1, rfl, e1, d1⟩ := l.at_ k1 p1
  refine ⟨a1, x1, rfl, e1, fun p hp => post_chain s1 (post_new k1 hp g fun F e q => ?_)⟩
  exact ⟨p, _, rfl, q, _, rfl, dpAllS e (cut_dp d1 i j)⟩
theorem ev_revL {n : Nat} {q1 q2 q3 : Pos} (h : ev X a Γ Ω fun Ω1 φ => ∃ ds, Ls X.K Ω1 φ ds ∧ k Ω1 (isL X.K ds.reverse)) : ev X (.Subscript a (.Slice none none (some (.UnaryOp .USub (.Constant (.int 1) n q1) q2)) q3) pos) Γ Ω k := fun W w => by
  refine wpE_of (pe_revL peE) (wpE_mono (h W w) ?_)
  rintro x H1 ⟨Ω1, φ, ⟨ds, l, g⟩, k1, s1, p1⟩
  obtain ⟨a1, x1, rfl, e1, d1⟩ := l.at_ k1 p1
  refine ⟨a1, x1, rfl, e1, fun p hp => post_chain s1 (post_new k1 hp g fun F e q => ?_)⟩
  exact ⟨p, _, rfl, q, _, rfl, dpAllS e (dpAll_rev d1)⟩
/-! ### built-ins by their names -/
def Ci (X : Cx) (r : List V → Hp → VK → Prop) (φs : List MP) (Γ : Ga) (Ω : Om) (k : Om → MP → Prop) : Prop :=
  ∀ (W : Wd) (vs : List V) (Q : VK), (∃ pins s, Inv X pins W.σ W.H s) → W.Ok Γ Ω → Al (W.F Ω) φs vs → (∀ v H', Post W Γ Ω k v H' → Q v H') → r vs W.H Q
theorem many {r : List V → Hp → VK → Prop} (h : evA X es Γ Ω fun Ω1 φs => Ci X r φs Γ Ω1 k) (W : Wd) (w : W.Ok Γ Ω) : tCB r (wpA X es) W.σ W.H (Post W Γ Ω k) := by
  show wpA X es W.σ W.H fun vs H1 => r vs H1 (Post W Γ Ω k)
  have g := h W w
  intro pos pins s I
  refine thn (g pos pins s I) ?_
  rintro us s' ⟨vs, H1, I1, ru, Ω1, φs, h1, k1, s1, p1⟩
  exact ⟨vs, H1, I1, ru, h1 (W.up H1) vs _ ⟨_, _, I1⟩ k1 p1 fun v H' q => post_chain s1 q⟩
theorem ev_callB {x : Str} {id : String} {r : List V → Hp → VK → Prop} (hc : CallR X (.builtin id) r) (hm : X.mg x = none) (hv : bootBuiltins x = some (.builtin id)) (h : evA X (e :: es) Γ Ω fun Ω1 φs => Ci X r φs Γ Ω1 k)
    (hg : Gl X x := by rfl) (hn : x ≠ "__name__" := by decide) (hdb : (x == ("__debug__" : Str)) = false := by decide)
    (he : starEach (e :: es) X.env = (false, eval e X.env) :: starEach es X.env := by rfl) (hpl : (backTo pos (starEach es X.env)).any (·.1) = false := by rfl) : ev X (.Call (.Name x p2) (e :: es) [] pos) Γ Ω k :=
  fun W w => wpE_of (pe_callB hc hg hm hv paA hn hdb he hpl) (many h W w)
theorem ev_callTy {x : Str} {id : String} {r : List V → Hp → VK → Prop} (hc : CallR X (.type id) r) (hm : X.mg x = none) (hv : bootBuiltins x = some (.type id)) (h : evA X (e :: es) Γ Ω fun Ω1 φs => Ci X r φs Γ Ω1 k)
    (hg : Gl X x := by rfl) (hn : x ≠ "__name__" := by decide) (hdb : (x == ("__debug__" : Str)) = false := by decide)
    (he : starEach (e :: es) X.env = (false, eval e X.env) :: starEach es X.env := by rfl) (hpl : (backTo pos (starEach es X.env)).any (·.1) = false := by rfl) : ev X (.Call (.Name x p2) (e :: es) [] pos) Γ Ω k :=
  fun W w => wpE_of (pe_callTy hc hg hm hv paA hn hdb he hpl) (many h W w)
theorem al1 {F : Hp} {φ : MP} {vs : List V} (h : Al F [φ] vs) : ∃ v, vs = [v] ∧ φ.p F v := by
  cases h with
  | cons p q => cases q; exact ⟨_, rfl, p⟩
theorem al2 {F : Hp} {φ ψ : MP} {vs : List V} (h : Al F [φ, ψ] vs) : ∃ v u, vs = [v, u] ∧ φ.p F v ∧ ψ.p F u := by
  cases h with
  | cons p q => obtain ⟨u, rfl, z⟩ := al1 q; exact ⟨_, _, rfl, p, z⟩
/-- len of a list, a tuple -/
inductive Sq (K : PySem.W.Frag) (Ω : Om) : MP → List PyData → Prop
  | l {φ : MP} {ds : List PyData} : Ls K Ω φ ds → Sq K Ω φ ds
  | t {ds : List PyData} : Sq K Ω (isD K (.tuple ds)) ds
theorem Sq.at_ {K : PySem.W.Frag} {Ω : Om} {φ : MP} {ds : List PyData} {W : Wd} {Γ : Ga} {v : V} (l : Sq K Ω φ ds) (w : W.Ok Γ Ω) (p : φ.p (W.F Ω) v) : ∃ a xs, v = .ref a ∧ (SqL K W.H a xs ∨ SqT K W.H a xs) ∧ DpAll K (W.F Ω) xs ds := by
  cases l with
  | l h => obtain ⟨a, xs, e, q, z⟩ := h.at_ w p; exact ⟨a, xs, e, .inl q, z⟩
  | t => obtain ⟨a, xs, e, q, z⟩ := dp_tup p; exact ⟨a, xs, e, .inr (sameT hid_sub q), z⟩
theorem ci_len (h : ∃ ds, Sq X.K Ω φ ds ∧ k Ω (isD X.K (.int (ds.length : Nat)))) : Ci X (fun xs H Q => ∃ p ys, xs = [.ref p] ∧ (SqL X.K H p ys ∨ SqT X.K H p ys) ∧ Q (.int ys.length) H) [φ] Γ Ω k := fun W vs Q _ w al z => by
  obtain ⟨ds, l, g⟩ := h
  obtain ⟨v, rfl, p⟩ := al1 al
  obtain ⟨a, xs, rfl, q, d⟩ := l.at_ w p
  exact ⟨a, xs, rfl, q, z _ _ (post_pure w g (by rw [dpAll_length d]; exact .int _))⟩
theorem ev_len (hm : X.mg "len" = none) (h : ev X e Γ Ω fun Ω1 φ => ∃ ds, Sq X.K Ω1 φ ds ∧ k Ω1 (isD X.K (.int (ds.length : Nat)))) (hg : Gl X "len" := by rfl)
    (he : starEach [e] X.env = (false, eval e X.env) :: starEach [] X.env := by rfl) : ev X (.Call (.Name "len" p2) [e] [] pos) Γ Ω k :=
  ev_callB call_len_seq hm boot_len (evA_cons (ev_imp h fun Ω1 φ g => evA_nil (ci_len g)) he) hg (he := he)
theorem ev_abs (hm : X.mg "abs" = none) (hv : bootBuiltins "abs" = some (.builtin "abs")) (h : ev X e Γ Ω fun Ω1 φ => ∃ i, φ = isD X.K (.int i) ∧ k Ω1 (isD X.K (.int (if i < 0 then -i else i)))) (hg : Gl X "abs" := by rfl)
    (he : starEach [e] X.env = (false, eval e X.env) :: starEach [] X.env := by rfl) : ev X (.Call (.Name "abs" p2) [e] [] pos) Γ Ω k :=
  ev_callB call_abs hm hv (evA_cons (ev_imp h fun Ω1 φ g => evA_nil fun W vs Q _ w al z => by
    obtain ⟨i, rfl, g⟩ := g
    obtain ⟨v, rfl, p⟩ := al1 al
    exact ⟨i, by rw [dp_int p], z _ _ (post_pure w g (.int _))⟩) he) hg (he := he)
theorem ev_intI (hm : X.mg "int" = none) (hv : bootBuiltins "int" = some (.type "int")) (h : ev X e Γ Ω fun Ω1 φ => ∃ i, φ = isD X.K (.int i) ∧ k Ω1 (isD X.K (.int i))) (hg : Gl X "int" := by rfl)
    (he : starEach [e] X.env = (false, eval e X.env) :: starEach [] X.env := by rfl) : ev X (.Call (.Name "int" p2) [e] [] pos) Γ Ω k :=
  ev_callTy call_int1 hm hv (evA_cons (ev_imp h fun Ω1 φ g => evA_nil fun W vs Q _ w al z => by
    obtain ⟨i, rfl, g⟩ := g
    obtain ⟨v, rfl, p⟩ := al1 al
    exact .inl ⟨i, by rw [dp_int p], z _ _ (post_pure w g (.int _))⟩) he) hg (he := he)
/-- list(x): a new list that stands -/
theorem ev_listOf (hm : X.mg "list" = none) (hv : bootBuiltins "list" = some (.type "list")) (h : ev X e Γ Ω fun Ω1 φ => ∃ ds, Sq X.K Ω1 φ ds ∧ k Ω1 (isL X.K ds)) (hg : Gl X "list" := by rfl)
    (he : starEach [e] X.env = (false, eval e X.env) :: starEach [] X.env := by rfl) : ev X (.Call (.Name "list" p2) [e] [] pos) Γ Ω k :=
  ev_callTy call_list_of hm hv (evA_cons (ev_imp h fun Ω1 φ g => evA_nil fun W vs Q _ w al z => by
    obtain ⟨ds, l, g⟩ := g
    obtain ⟨v, rfl, p⟩ := al1 al
    obtain ⟨a, xs, rfl, q, d⟩ := l.at_ w p
    exact ⟨a, xs, rfl, q, fun l hl => z _ _ (post_new w hl g fun F e q => ⟨l, _, rfl, q, xs, rfl, dpAllS e d⟩)⟩) he) hg (he := he)
theorem ev_tupL (hm : X.mg "tuple" = none) (hv : bootBuiltins "tuple" = some (.type "tuple")) (h : ev X e Γ Ω fun Ω1 φ => ∃ ds, Ls X.K Ω1 φ ds ∧ k Ω1 (isD X.K (.tuple ds))) (hg : Gl X "tuple" := by rfl)
    (he : starEach [e] X.env = (false, eval e X.env) :: starEach [] X.env := by rfl) : ev X (.Call (.Name "tuple" p2) [e] [] pos) Γ Ω k :=
  ev_callTy call_tuple_of hm hv (evA_cons (ev_imp h fun Ω1 φ g => evA_nil fun W vs Q _ w al z => by
    obtain ⟨ds, l, g⟩ := g
    obtain ⟨v, rfl, p⟩ := al1 al
    obtain ⟨a, xs, rfl, q, d⟩ := l.at_ w p
    exact ⟨a, xs, rfl, .inl ⟨q, fun l hl => z _ _ (post_new w hl g fun F e q => .tup (SqT.of q) (dpAllS e d))⟩⟩) he) hg (he := he)
/-! ### defs by their promises -/
/-- nothing owned is handed over -/
def spP {ι : Type} (P : ι → Prop) (ar : ι → List MP) (res : ι → MP → Prop) : Sp := fun vs H Q _ => ∃ (x : ι) (O : List Addr), P x ∧ Al (hid O H) (ar x) vs ∧ (∀ a ∈ O, H a ≠ none) ∧ ∀ v H' φ, res x φ → Same H H' → φ.p (hid O H') v → Q v H'
/-- the first argument is owned -/
def spM {ι : Type} (P : ι → Prop) (ow : ι → Addr → MO) (ar : ι → List MP) (res : ι → Addr → MO → MP → Prop) : Sp := fun vs H Q _ => ∃ (x : ι) (p : Addr) (ws : List V) (O : List Addr) (o : HO), vs = .ref p :: ws ∧ P x ∧ p ∉ O ∧ H p = some o ∧ (ow x p).p (hid (p :: O) H) o ∧
  Al (hid (p :: O) H) (ar x) ws ∧ (∀ a ∈ O, H a ≠ none) ∧ ∀ v H' ψ φ o', res x p ψ φ → Same (hid [p] H) H' → H' p = some o' → ψ.p (hid (p :: O) H') o' → φ.p (hid (p :: O) H') v → Q v H'
structure Cal (P : Program) (w : World) (K : PySem.W.Frag) (mg : Str → Option Value) (base : Heap) (A : Around) (x : Str) (sp : Sp) : Prop where
  ex : ∃ k f fd ps, FnOk P w K mg base CX0 k f fd ps sp ∧ Room k A ∧ mg x = some (.ref f) ∧ PySem.W.keepIn K (.ref f) = true ∧ Binds K fd ps []
abbrev CalX (X : Cx) (x : Str) (sp : Sp) : Prop := Cal X.prog X.w X.K X.mg X.base X.A x sp
theorem own_mem {Ω : Om} {j : Nat} {p : Addr} {ψ : MO} (h : Ω[j]? = some (p, ψ)) : p ∈ own Ω := List.mem_map.mpr ⟨_, List.mem_of_getElem? h, rfl⟩
theorem wpE_call {x : Str} {sp : Sp} {σ : Stt} {H : Hp} {Q : VK} (C : CalX X x sp) (h : wpA X (e :: es) σ H fun vs H1 => sp vs H1 Q E0) (hg : Gl X x) (hdb : (x == ("__debug__" : Str)) = false)
    (he : starEach (e :: es) X.env = (false, eval e X.env) :: starEach es X.env) (hpl : (backTo pos (starEach es X.env)).any (·.1) = false) : wpE X (.Call (.Name x p2) (e :: es) [] pos) σ H Q := by
  obtain ⟨kk, f, fd, ps, F, hr, hm, hk, hb⟩ := C.ex
  refine wpE_of (pe_call F hr hg hm hk hb .nil pass0 paA hdb he hpl) ?_
  show wpA X (e :: es) σ H fun vs H1 => sp (vs ++ []) H1 Q E0
  exact wpA_mono h fun vs H1 q => by rw [List.append_nil]; exact q
theorem ev_call {ι : Type} {P : ι → Prop} {ar : ι → List MP} {res : ι → MP → Prop} {x : Str} (C : CalX X x (spP P ar res)) (h : evA X (e :: es) Γ Ω fun Ω1 φs => ∃ a, P a ∧ Subs φs (ar a) ∧ ∀ φ, res a φ → k Ω1 φ)
    (hg : Gl X x := by rfl) (hdb : (x == ("__debug__" : Str)) = false := by decide)
    (he : starEach (e :: es) X.env = (false, eval e X.env) :: starEach es X.env := by rfl) (hpl : (backTo pos (starEach es X.env)).any (·.1) = false := by rfl) : ev X (.Call (.Name x p2) (e :: es) [] pos) Γ Ω k := fun W w => by
  refine wpE_call C (wpA_mono (h W w) ?_) hg hdb he hpl
  rintro vs H1 ⟨Ω1, φs, ⟨a, ha, sb, g⟩, k1, s1, p1⟩
  refine ⟨a, own Ω1 ++ W.O0, ha, sb.al p1, fun q hq => ?_, fun v H' φ hr hs hv => ?_⟩
  · rcases List.mem_append.mp hq with z | z
    · obtain ⟨y, hy, rfl⟩ := List.mem_map.mp z
      obtain ⟨o, e1, _⟩ := k1.ow y hy
      intro n
      rw [show H1 y.1 = some o from e1] at n
      cases n
    · exact k1.tr1 z
  · exact post_chain s1 (post_same k1 hs (g φ hr) hv)
theorem ev_callM {ι : Type} {P : ι → Prop} {ow : ι → Addr → MO} {ar : ι → List MP} {res : ι → Addr → MO → MP → Prop} {x : Str} (C : CalX X x (spM P ow ar res))
    (h : evA X (e :: es) Γ Ω fun Ω1 φs => ∃ a j p φr, φs = isV (.ref p) :: φr ∧ Ω1[j]? = some (p, ow a p) ∧ P a ∧ Subs φr (ar a) ∧ ∀ ψ φ, res a p ψ φ → k (Ω1.set j (p, ψ)) φ)
    (hg : Gl X x := by rfl) (hdb : (x == ("__debug__" : Str)) = false := by decide)
    (he : starEach (e :: es) X.env = (false, eval e X.env) :: starEach es X.env := by rfl) (hpl : (backTo pos (starEach es X.env)).any (·.1) = false := by rfl) : ev X (.Call (.Name x p2) (e :: es) [] pos) Γ Ω k := fun W w => by
  refine wpE_call C (wpA_mono (h W w) ?_) hg hdb he hpl
  rintro vs H1 ⟨Ω1, φs, ⟨a, j, p, φr, rfl, hj, ha, sb, g⟩, k1, s1, p1⟩
  cases p1 with
  | cons pv pr =>
    obtain rfl := pv
    obtain ⟨o, eo, po⟩ := k1.ow _ (List.mem_of_getElem? hj)
    have hp := own_mem hj
    -- the other owned ones are the caller's
    have cg : ∀ H2 : Hp, hid (p :: ((own Ω1).filter (· ≠ p) ++ W.O0)) H2 = hid (own Ω1 ++ W.O0) H2 := fun H2 => hid_congr fun q => by
      simp only [List.mem_append, List.mem_cons, List.mem_filter, decide_eq_true_eq]
      constructor
      · rintro (z | z)
        · by_cases y : q = p
          · exact .inl y
          · exact .inr (.inl ⟨z, y⟩)
        · exact .inr (.inr z)
      · rintro (z | z | z)
        · rw [z]; exact .inl hp
        · exact .inl z.1
        · exact .inr z
    have ef : (W.up H1).F Ω1 = hid (own Ω1 ++ W.O0) H1 := rfl
    refine ⟨a, p, _, (own Ω1).filter (· ≠ p) ++ W.O0, o, rfl, ha, ?_, eo, by rw [cg]; exact po, by rw [cg]; exact sb.al pr, fun q hq => ?_, fun v H' ψ φ o' hr hs hp' hψ hv => ?_⟩
    · intro z
      rcases List.mem_append.mp z with z | z
      · have := (List.mem_filter.mp z).2
        simp at this
      · exact k1.out2 (List.mem_of_getElem? hj : (p, ow a p) ∈ Ω1) z
    · rcases List.mem_append.mp hq with z | z
      · obtain ⟨y, hy, rfl⟩ := List.mem_map.mp (List.mem_filter.mp z).1
        obtain ⟨o2, e1, _⟩ := k1.ow y hy
        intro n
        rw [show H1 y.1 = some o2 from e1] at n
        cases n
      · exact k1.tr1 z
    · rw [cg] at hψ hv
      -- the heap behind is the one ahead with p changed, and more
      have hs1 : Same (upd H1 p o') H' := fun q u e1 => by
        by_cases z : q = p
        · rw [z, upd_same] at e1; cases e1; rw [z]; exact hp'
        · rw [upd_ne z] at e1
          refine hs q u ?_
          rw [hid_out (by simpa using z)]
          exact e1
      have eF : hid (own Ω1 ++ W.O0) (upd H1 p o') = hid (own Ω1 ++ W.O0) H1 := hid_upd (List.mem_append_left _ hp)
      have sF : Same (hid (own Ω1 ++ W.O0) H1) (hid (own Ω1 ++ W.O0) H') := by rw [← eF]; exact hid_same hs1
      have eo2 : own (Ω1.set j (p, ψ)) = own Ω1 := own_set hj
      have eF2 : (W.up H').F (Ω1.set j (p, ψ)) = hid (own Ω1 ++ W.O0) H' := by
        show hid (own (Ω1.set j (p, ψ)) ++ W.O0) H' = _
        rw [eo2]
      refine ⟨_, φ, g ψ φ hr, ⟨by rw [eF2]; exact k1.sl.mono sF, fun q hq => ?_, by rw [eo2]; exact k1.nd, fun q hq => ?_, fun q u e1 => ?_, k1.tr⟩, ?_, by rw [eF2]; exact hv⟩
      · rw [eF2]
        obtain ⟨i, hi⟩ := List.mem_iff_getElem?.mp hq
        by_cases z : j = i
        · subst z
          rw [List.getElem?_set_self (List.getElem?_eq_some_iff.mp hj).1] at hi
          cases hi
          exact ⟨o', hp', hψ⟩
        · rw [List.getElem?_set_ne z] at hi
          obtain ⟨u, e1, e2⟩ := k1.ow q (List.mem_of_getElem? hi)
          have hne : q.1 ≠ p := fun y => by
            have n1 : (own Ω1)[i]? = some q.1 := by unfold own; rw [List.getElem?_map, hi]; rfl
            have n2 : (own Ω1)[j]? = some p := by unfold own; rw [List.getElem?_map, hj]; rfl
            exact z (nd_ix k1.nd n2 (by rw [n1, y]))
          exact ⟨u, hs1 _ _ (by rw [upd_ne hne]; exact e1), q.2.mono sF e2⟩
      · obtain ⟨i, hi⟩ := List.mem_iff_getElem?.mp hq
        by_cases z : j = i
        · subst z
          rw [List.getElem?_set_self (List.getElem?_eq_some_iff.mp hj).1] at hi
          cases hi
          exact k1.nw (p, ow a p) (List.mem_of_getElem? hj)
        · rw [List.getElem?_set_ne z] at hi
          exact k1.nw q (List.mem_of_getElem? hi)
      · have hne : q ≠ p := ne_of_none e1 (k1.nw _ (List.mem_of_getElem? hj))
        exact hs1 _ _ (by rw [upd_ne hne]; exact k1.sm _ _ e1)
      · rw [eF2]
        exact s1.trans sF
/-! ### methods of owned lists -/
theorem ev_append (h : ev X o Γ Ω fun Ω1 φ => ∃ (j : Nat) (p : Addr) (xs : List PyData), φ = isV (.ref p) ∧ Ω1[j]? = some (p, lstO X.K xs) ∧ ev X e Γ Ω1 fun Ω2 χ => ∃ (j : Nat) (ds : List PyData) (d : PyData), Ω2[j]? = some (p, lstO X.K ds) ∧ Dat X.K χ d ∧ ds.length < sizeLine ∧ k (Ω2.set j (p, lstO X.K (ds ++ [d]))) (isD X.K .none))
    (hbase : attributeBase o "append" X.env (eval o X.env) = eval o X.env := by rfl)
    (hfew : ((backTo cpos (starEach [e] X.env)).all (fun x => !x.1) && (backToKw cpos (keywordEach [] X.env)).all (fun x => x.1.isSome)
      && decide ([e].length + ([] : List Keyword).length + (if ([] : List Keyword).isEmpty then 0 else 1) < 30)) = true := by rfl)
    (hline : (apos.endLine == cpos.line) = true := by rfl) (hs : starEach [e] X.env = (false, eval e X.env) :: starEach [] X.env := by rfl) (hplain : (backTo cpos (starEach [] X.env)).any (·.1) = false := by rfl) : ev X (.Call (.Attribute o "append" apos) [e] [] cpos) Γ Ω k := fun W w => by
  refine wpE_of (pe_bm PySem.F.plainAttrs_list PySem.F.slot_list_append PySem.F.type_list_append mt_append peE (pa_cons peE pa_nil hs) hbase hfew hline hs hplain) ?_
  show wpE X o W.σ W.H fun x H1 => tyV X.K "list" x H1 ∧ wpE X e W.σ H1 fun y H2 => rAppend x [y] H2 (Post W Γ Ω k)
  refine wpE_mono (h W w) ?_
  rintro x H1 ⟨Ω1, φ, ⟨j, p, xs, rfl, hj, h1⟩, k1, s1, p1⟩
  obtain rfl := p1
  obtain ⟨o1, e1, ys, rfl, a1⟩ := k1.ow _ (List.mem_of_getElem? hj)
  refine ⟨.inl ⟨rfl, ys, SqL.of e1⟩, wpE_mono (h1 (W.up H1) k1) ?_⟩
  rintro y H2 ⟨Ω2, χ, ⟨j2, ds, d, hj2, hd, hz, g⟩, k2, s2, p2⟩
  obtain ⟨o2, e2, zs, rfl, a2⟩ := k2.ow _ (List.mem_of_getElem? hj2)
  refine ⟨p, zs, y, rfl, rfl, e2, by rw [dpAll_length a2]; exact hz, ?_⟩
  obtain ⟨k3, e3⟩ := k2.put (o := .lst (zs ++ [y])) (ψ' := lstO X.K (ds ++ [d])) hj2 ⟨_, rfl, dpAll_append a2 (.cons (hd _ _ p2) .nil)⟩
  exact ⟨_, _, g, k3, (s1.trans s2).trans (by rw [e3]; exact Same.refl _), .non⟩
theorem ev_pop (h : ev X o Γ Ω fun Ω1 φ => ∃ (j : Nat) (p : Addr) (ds : List PyData) (d : PyData), φ = isV (.ref p) ∧ Ω1[j]? = some (p, lstO X.K (ds ++ [d])) ∧ k (Ω1.set j (p, lstO X.K ds)) (isD X.K d))
    (hbase : attributeBase o "pop" X.env (eval o X.env) = eval o X.env := by rfl) (hline : (apos.endLine == cpos.line) = true := by rfl) : ev X (.Call (.Attribute o "pop" apos) [] [] cpos) Γ Ω k := fun W w => by
  refine wpE_of (pe_bm0 PySem.F.plainAttrs_list PySem.F.slot_list_pop PySem.F.type_list_pop mt_pop peE hbase hline) ?_
  show wpE X o W.σ W.H fun x H1 => tyV X.K "list" x H1 ∧ rPop x [] H1 (Post W Γ Ω k)
  refine wpE_mono (h W w) ?_
  rintro x H1 ⟨Ω1, φ, ⟨j, p, ds, d, rfl, hj, g⟩, k1, s1, p1⟩
  obtain rfl := p1
  obtain ⟨o1, e1, ys, rfl, a1⟩ := k1.ow _ (List.mem_of_getElem? hj)
  have hl := dpAll_length a1
  rw [List.length_append, List.length_singleton] at hl
  obtain ⟨y, hy, dy⟩ := dpAll_get (i := ds.length) (d := d) a1 (by simp)
  have hy' : ys[ys.length - 1]? = some y := by rw [hl]; simpa using hy
  refine ⟨.inl ⟨rfl, ys, SqL.of e1⟩, p, ys, y, rfl, rfl, e1, hy', ?_⟩
  have hdl : DpAll X.K ((W.up H1).F Ω1) ys.dropLast ds := by
    have q := dpAll_take ds.length a1
    rw [List.take_left] at q
    rw [List.dropLast_eq_take, hl]
    simpa using q
  obtain ⟨k3, e3⟩ := k1.put (o := .lst ys.dropLast) (ψ' := lstO X.K ds) hj ⟨_, rfl, hdl⟩
  refine ⟨_, _, g, k3, s1.trans (by rw [e3]; exact Same.refl _), ?_⟩
  rw [e3]
  exact dy
end
end G
set_option Elab.async false
set_option linter.all false
set_option maxRecDepth 100000
set_option maxHeartbeats 4000000
/-! G4: statements, loops, a def by its body. -/
namespace G
open PySem PySem.Spec PyProof.Rows L2
def wpS (X : Cx) (s : Stmt) : TS := fun D σ H => ∀ (pins : List (Addr × Obj)) (s' : Shared), Inv X pins σ H s' → wpAny (model X.prog X.w) X.A (exec s X.env) (SP X pins D) X.xe s'
def wpB (X : Cx) (ss : List Stmt) : TS := fun D σ H => ∀ (pins : List (Addr × Obj)) (s' : Shared), Inv X pins σ H s' → wpAny (model X.prog X.w) X.A (execs ss X.env) (SP X pins D) X.xe s'
def wpG (X : Cx) (tg : Expr) : TG := fun v σ H Q => ∀ (pins : List (Addr × Obj)) (s : Shared) (u : Value), Inv X pins σ H s → RelV v u →
  wpAny (model X.prog X.w) X.A (assign tg X.env u) (fun _ s' => ∃ σ' H', Inv X pins σ' H' s' ∧ Q σ' H') X.xe s
structure EndsLe (D D' : Ends) : Prop where
  nx : ∀ σ H, D.nx σ H → D'.nx σ H
  rt : ∀ v H, D.rt v H → D'.rt v H
  bk : ∀ σ H, D.bk σ H → D'.bk σ H
  ct : ∀ σ H, D.ct σ H → D'.ct σ H
section
variable {X : Cx} {s : Stmt} {ss : List Stmt} {tg : Expr} {σ : Stt} {H : Hp} {D D' : Ends}
theorem psS : PS X s (wpS X s) := ⟨fun pins s' _ _ _ I h => h pins s' I⟩
theorem pssB : PSs X ss (wpB X ss) := ⟨fun pins s' _ _ _ I h => h pins s' I⟩
theorem pgG : PG X tg (wpG X tg) := ⟨fun pins s _ _ _ u _ I r h => h pins s u I r⟩
theorem wpS_of {t : TS} (h : PS X s t) (q : t D σ H) : wpS X s D σ H := fun pins s' I => h.run pins s' σ H D I q
theorem wpB_of {t : TS} (h : PSs X ss t) (q : t D σ H) : wpB X ss D σ H := fun pins s' I => h.run pins s' σ H D I q
theorem wpG_of {t : TG} {v : V} {Q : Stt → Hp → Prop} (h : PG X tg t) (q : t v σ H Q) : wpG X tg v σ H Q := fun pins s u I r => h.run pins s σ H v u Q I r q
theorem wpG_mono {v : V} {Q Q' : Stt → Hp → Prop} (h : wpG X tg v σ H Q) (m : ∀ σ H, Q σ H → Q' σ H) : wpG X tg v σ H Q' := fun pins s u I r => thn (h pins s u I r) fun _ _ ⟨σ', H', a, b⟩ => ⟨σ', H', a, m _ _ b⟩
theorem sp_mono {pins : List (Addr × Obj)} {f : Flow} {s' : Shared} (h : SP X pins D f s') (m : EndsLe D D') : SP X pins D' f s' := by
  cases f with
  | next => obtain ⟨a, b, c, d⟩ := h; exact ⟨a, b, c, m.nx _ _ d⟩
  | brk => obtain ⟨a, b, c, d⟩ := h; exact ⟨a, b, c, m.bk _ _ d⟩
  | cont => obtain ⟨a, b, c, d⟩ := h; exact ⟨a, b, c, m.ct _ _ d⟩
  | ret u => obtain ⟨v, a, b, c, r, d⟩ := h; exact ⟨v, a, b, c, r, m.rt _ _ d⟩
theorem wpS_mono (h : wpS X s D σ H) (m : EndsLe D D') : wpS X s D' σ H := fun pins s' I => thn (h pins s' I) fun _ _ q => sp_mono q m
theorem wpB_mono (h : wpB X ss D σ H) (m : EndsLe D D') : wpB X ss D' σ H := fun pins s' I => thn (h pins s' I) fun _ _ q => sp_mono q m
end
structure SEnd where
  nx : Ga → Om → Prop
  rt : Om → MP → Prop
  bk : Ga → Om → Prop := fun _ _ => False
  ct : Ga → Om → Prop := fun _ _ => False
def go (W : Wd) (Ω : Om) (k : Ga → Om → Prop) : Stt → Hp → Prop := fun σ' H' => ∃ Γ' Ω', k Γ' Ω' ∧ (W.st σ' H').Ok Γ' Ω' ∧ Same (W.F Ω) ((W.st σ' H').F Ω')
def back (W : Wd) (Ω : Om) (k : Om → MP → Prop) : VK := fun v H' => ∃ Ω' φ, k Ω' φ ∧ (W.st [] H').Ok [] Ω' ∧ Same (W.F Ω) ((W.st [] H').F Ω') ∧ φ.p ((W.st [] H').F Ω') v
def SEnd.e (D : SEnd) (W : Wd) (Ω : Om) : Ends where
  nx := go W Ω D.nx
  rt := back W Ω D.rt
  bk := go W Ω D.bk
  ct := go W Ω D.ct
theorem go_chain {W : Wd} {Ω Ω1 : Om} {σ1 : Stt} {H1 : Hp} {k : Ga → Om → Prop} (s : Same (W.F Ω) ((W.st σ1 H1).F Ω1)) {σ' : Stt} {H' : Hp} (h : go (W.st σ1 H1) Ω1 k σ' H') : go W Ω k σ' H' :=
  let ⟨Γ', Ω', a, b, c⟩ := h; ⟨Γ', Ω', a, b, s.trans c⟩
theorem back_chain {W : Wd} {Ω Ω1 : Om} {σ1 : Stt} {H1 : Hp} {k : Om → MP → Prop} (s : Same (W.F Ω) ((W.st σ1 H1).F Ω1)) {v : V} {H' : Hp} (h : back (W.st σ1 H1) Ω1 k v H') : back W Ω k v H' :=
  let ⟨Ω', φ, a, b, c, d⟩ := h; ⟨Ω', φ, a, b, s.trans c, d⟩
theorem e_chain {D : SEnd} {W : Wd} {Ω Ω1 : Om} {σ1 : Stt} {H1 : Hp} (s : Same (W.F Ω) ((W.st σ1 H1).F Ω1)) : EndsLe (D.e (W.st σ1 H1) Ω1) (D.e W Ω) :=
  ⟨fun _ _ h => go_chain s h, fun _ _ h => back_chain s h, fun _ _ h => go_chain s h, fun _ _ h => go_chain s h⟩
def st (X : Cx) (s : Stmt) (Γ : Ga) (Ω : Om) (D : SEnd) : Prop := ∀ W : Wd, W.Ok Γ Ω → wpS X s (D.e W Ω) W.σ W.H
def stB (X : Cx) (ss : List Stmt) (Γ : Ga) (Ω : Om) (D : SEnd) : Prop := ∀ W : Wd, W.Ok Γ Ω → wpB X ss (D.e W Ω) W.σ W.H
def tgt (X : Cx) (tg : Expr) (φ : MP) (Γ : Ga) (Ω : Om) (k : Ga → Om → Prop) : Prop := ∀ (W : Wd) (v : V), W.Ok Γ Ω → φ.p (W.F Ω) v → wpG X tg v W.σ W.H (go W Ω k)
/-! ### weakening -/
inductive WkG : Ga → Ga → Prop
  | nil : WkG [] []
  | no {Γ Γ' : Ga} {o : Option MP} : WkG Γ Γ' → WkG (o :: Γ) (none :: Γ')
  | yes {Γ Γ' : Ga} {φ ψ : MP} : Sub φ ψ → WkG Γ Γ' → WkG (some φ :: Γ) (some ψ :: Γ')
theorem WkG.sl {F : Hp} : ∀ {Γ Γ' : Ga} {σ : Stt}, WkG Γ Γ' → Sl F Γ σ → Sl F Γ' σ
  | _, _, _, .nil, .nil => .nil
  | _, _, _, .no h, .any q => .any (h.sl q)
  | _, _, _, .no h, .pr _ q => .any (h.sl q)
  | _, _, _, .yes s h, .pr p q => .pr (s _ _ p) (h.sl q)
theorem WkG.rfl : ∀ {Γ : Ga}, WkG Γ Γ
  | [] => .nil
  | none :: _ => .no WkG.rfl
  | some _ :: _ => .yes Sub.rfl WkG.rfl
def Wkn (I : Ga → Om → Prop) : Ga → Om → Prop := fun Γ Ω => ∃ Γ' Ω', WkG Γ Γ' ∧ Ω'.Sublist Ω ∧ I Γ' Ω'
theorem Wkn.ok {I : Ga → Om → Prop} {Γ : Ga} {Ω : Om} (h : Wkn I Γ Ω) {W : Wd} (w : W.Ok Γ Ω) : ∃ Γ' Ω', I Γ' Ω' ∧ W.Ok Γ' Ω' ∧ Same (W.F Ω) (W.F Ω') := by
  obtain ⟨Γ', Ω', a, b, c⟩ := h
  obtain ⟨w1, s1⟩ := w.less b
  exact ⟨Γ', Ω', c, ⟨a.sl w1.sl, w1.ow, w1.nd, w1.nw, w1.sm, w1.tr⟩, s1⟩
theorem Wkn.go {I : Ga → Om → Prop} {W : Wd} {Ω : Om} {σ : Stt} {H : Hp} (h : go W Ω (Wkn I) σ H) : go W Ω I σ H := by
  obtain ⟨Γ', Ω', a, b, c⟩ := h
  obtain ⟨Γ2, Ω2, x, y, z⟩ := a.ok b
  exact ⟨Γ2, Ω2, x, y, c.trans z⟩
theorem Wkn.now {I : Ga → Om → Prop} {Γ : Ga} {Ω : Om} (h : I Γ Ω) : Wkn I Γ Ω := ⟨Γ, Ω, WkG.rfl, List.Sublist.refl _, h⟩
section
variable {X : Cx} {s : Stmt} {ss body : List Stmt} {a b c e tg iter : Expr} {Γ : Ga} {Ω : Om} {D : SEnd} {pos pos' px py pz pt : Pos}
theorem stB_nil (h : D.nx Γ Ω) : stB X [] Γ Ω D := fun W w => wpB_of pss_nil ⟨Γ, Ω, h, w, Same.refl _⟩
theorem stB_cons (h : st X s Γ Ω { D with nx := fun Γ' Ω' => stB X ss Γ' Ω' D }) : stB X (s :: ss) Γ Ω D := fun W w => by
  refine wpB_of (pss_cons psS pssB) ?_
  show wpS X s { (D.e W Ω) with nx := wpB X ss (D.e W Ω) } W.σ W.H
  refine wpS_mono (h W w) ⟨?_, fun _ _ q => q, fun _ _ q => q, fun _ _ q => q⟩
  rintro σ' H' ⟨Γ', Ω', g, k1, s1⟩
  exact wpB_mono (g (W.st σ' H') k1) (e_chain s1)
theorem stB_wk {Γ' : Ga} {Ω' : Om} (h1 : WkG Γ Γ') (h2 : Ω'.Sublist Ω) (h : stB X ss Γ' Ω' D) : stB X ss Γ Ω D := fun W w => by
  obtain ⟨w1, s1⟩ := w.less h2
  exact wpB_mono (h W ⟨h1.sl w1.sl, w1.ow, w1.nd, w1.nw, w1.sm, w1.tr⟩) (e_chain (σ1 := W.σ) (H1 := W.H) s1)
theorem stB_one (h : st X s Γ Ω D) : stB X [s] Γ Ω D := stB_cons fun W w => by
  have g := h W w
  refine wpS_mono g ⟨?_, fun _ _ q => q, fun _ _ q => q, fun _ _ q => q⟩
  rintro σ' H' ⟨Γ', Ω', q, k1, s1⟩
  exact ⟨Γ', Ω', stB_nil q, k1, s1⟩
/-- behind an expression the slots are as they were -/
theorem post_go {W : Wd} {k : Om → MP → Prop} {D : SEnd} {v : V} {H' : Hp} (h : Post W Γ Ω k v H') (m : ∀ Ω' φ, k Ω' φ → D.nx Γ Ω') : (D.e W Ω).nx W.σ H' :=
  let ⟨Ω', φ, a, b, c, _⟩ := h; ⟨Γ, Ω', m _ _ a, b, c⟩
theorem Wd.Ok.set {W : Wd} (w : W.Ok Γ Ω) {φ : MP} {v : V} (p : φ.p (W.F Ω) v) (i : Nat) : (W.st (W.σ.set i (some v)) W.H).Ok (Γ.set i (some φ)) Ω := ⟨w.sl.set p i, w.ow, w.nd, w.nw, w.sm, w.tr⟩
theorem st_set {i : Nat} {x : Str} (hX : Nor X) (hi : X.N[i]? = some x) (h : ev X e Γ Ω fun Ω1 φ => D.nx (Γ.set i (some φ)) Ω1) (hx : Loc X.env.scope x := by first | exact Or.inl rfl | exact Or.inr rfl)
    (hs : swapsWith e (some (.Name x pos')) pos.line X.env = pure false := by rfl) (hf : X.fn x = true ∨ X.env.scope.names.lookup x = some .local := by first | exact .inl rfl | exact .inr rfl) : st X (.Assign [.Name x pos'] e pos) Γ Ω D := fun W w => by
  refine wpS_of (ps_set hX.nd hi hx peE hs hf) ?_
  show wpE X e W.σ W.H fun v H1 => (D.e W Ω).nx (W.σ.set i (some v)) H1
  refine wpE_mono (h W w) ?_
  rintro v H1 ⟨Ω1, φ, g, k1, s1, p1⟩
  exact ⟨_, Ω1, g, k1.set p1 i, s1⟩
theorem st_expr (h : ev X e Γ Ω fun Ω1 _ => D.nx Γ Ω1) (hs : swapsWith e none pos.line X.env = pure false := by rfl) : st X (.Expr e pos) Γ Ω D := fun W w => by
  refine wpS_of (ps_expr peE hs) (wpE_mono (h W w) ?_)
  rintro v H1 q
  exact post_go q fun _ _ g => g
theorem st_ret (h : ev X e Γ Ω D.rt) : st X (.Return (some e) pos) Γ Ω D := fun W w => by
  refine wpS_of (ps_ret peE) (wpE_mono (h W w) ?_)
  rintro v H1 ⟨Ω1, φ, g, k1, s1, p1⟩
  exact ⟨Ω1, φ, g, ⟨.nil, k1.ow, k1.nd, k1.nw, k1.sm, k1.tr⟩, s1, p1⟩
theorem st_if {ss' : List Stmt} (h : evT X c Γ Ω fun Ω1 b => if b = true then stB X ss Γ Ω1 D else stB X ss' Γ Ω1 D) : st X (.If c ss ss' pos) Γ Ω D := fun W w => by
  refine wpS_of (ps_if ptT pssB pssB) (wpT_mono (h W w) ?_)
  rintro b H1 ⟨Ω1, g, k1, s1⟩
  cases b with
  | true =>
    rw [if_pos rfl] at g ⊢
    exact wpB_mono (g (W.up H1) k1) (e_chain (σ1 := W.σ) s1)
  | false =>
    rw [if_neg Bool.false_ne_true] at g ⊢
    exact wpB_mono (g (W.up H1) k1) (e_chain (σ1 := W.σ) s1)
theorem st_pass (h : D.nx Γ Ω) : st X (.Pass pos) Γ Ω D := fun W w => wpS_of ps_pass ⟨Γ, Ω, h, w, Same.refl _⟩
theorem st_cont (h : D.ct Γ Ω) : st X (.Continue pos) Γ Ω D := fun W w => wpS_of ps_continue ⟨Γ, Ω, h, w, Same.refl _⟩
/-! ### targets -/
theorem tgt_name {i : Nat} {x : Str} {φ : MP} {k : Ga → Om → Prop} (hN : X.N.Nodup) (hi : X.N[i]? = some x) (h : k (Γ.set i (some φ)) Ω) (hx : Loc X.env.scope x := by first | exact Or.inl rfl | exact Or.inr rfl)
    (hf : X.fn x = true ∨ X.env.scope.names.lookup x = some .local := by first | exact .inl rfl | exact .inr rfl) : tgt X (.Name x pos) φ Γ Ω k := fun W v w p =>
  wpG_of (pg_name hN hi hx hf) ⟨_, Ω, h, w.set p i, Same.refl _⟩
theorem tgt_pair {i j : Nat} {x y : Str} {d1 d2 : PyData} {n : Nat} {k : Ga → Om → Prop} (hc : X.calm = true) (hN : X.N.Nodup) (hi : X.N[i]? = some x) (hj : X.N[j]? = some y) (h : k ((Γ.set i (some (isD X.K d1))).set j (some (isD X.K d2))) Ω)
    (hx : Loc X.env.scope x := by first | exact Or.inl rfl | exact Or.inr rfl) (hy : Loc X.env.scope y := by first | exact Or.inl rfl | exact Or.inr rfl)
    (hf : X.fn x = true ∨ X.env.scope.names.lookup x = some .local := by first | exact .inl rfl | exact .inr rfl) (hg : X.fn y = true ∨ X.env.scope.names.lookup y = some .local := by first | exact .inl rfl | exact .inr rfl)
    (h1 : (assignEach [.Name x px, .Name y py] X.env).map (·.2) = assign (.Name x px) X.env :: (assignEach [.Name y py] X.env).map (·.2) := by rfl) (h2 : (assignEach [.Name y py] X.env).map (·.2) = assign (.Name y py) X.env :: (assignEach [] X.env).map (·.2) := by rfl)
    (hn : (assignEach [.Name x px, .Name y py] X.env).length = 2 := by rfl) (hst : (assignEach [.Name x px, .Name y py] X.env).findIdx? (·.1) = none := by rfl) :
    tgt X (.Tuple [.Name x px, .Name y py] n pos) (isD X.K (.tuple [d1, d2])) Γ Ω k := fun W v w p => by
  refine wpG_of (pg_tup hc (pgs_cons (pg_name hN hi hx hf) (pgs_cons (pg_name hN hj hy hg) pgs_nil h2) h1) hn hst) ?_
  obtain ⟨a, xs, rfl, e, al⟩ := dp_tup p
  cases al with
  | cons q1 al =>
    cases al with
    | cons q2 al =>
      cases al
      refine ⟨a, _, rfl, sameT hid_sub e, rfl, _, _, rfl, _, _, rfl, rfl, ?_⟩
      exact ⟨_, Ω, h, (w.set q1 i).set (W := W.st _ W.H) q2 j, Same.refl _⟩
/-- target = value, one target -/
theorem st_asg (h : ev X e Γ Ω fun Ω1 φ => tgt X tg φ Γ Ω1 D.nx) (hs : swapsWithSole [tg] e pos.line X.env = pure false := by rfl) (hw : swappedStores [tg] e X.env = pure none := by rfl)
    (h1 : (assignEach [tg] X.env).map (·.2) = [assign tg X.env] := by rfl) : st X (.Assign [tg] e pos) Γ Ω D := fun W w => by
  refine wpS_of (ps_asg peE pgG hs hw h1) ?_
  show wpE X e W.σ W.H fun v H1 => wpG X tg v W.σ H1 (D.e W Ω).nx
  refine wpE_mono (h W w) ?_
  rintro v H1 ⟨Ω1, φ, g, k1, s1, p1⟩
  exact wpG_mono (g (W.up H1) v k1 p1) fun _ _ q => go_chain (σ1 := W.σ) s1 q
theorem st_par2 {i j : Nat} {x y : Str} {n m : Nat} {p2 : Pos} (hX : Nor X) (hi : X.N[i]? = some x) (hj : X.N[j]? = some y) (hij : i ≠ j) (h : evA X [a, b] Γ Ω fun Ω1 φs => ∃ φ ψ, φs = [φ, ψ] ∧ D.nx ((Γ.set i (some φ)).set j (some ψ)) Ω1)
    (hx : X.env.scope.names.lookup x = some .local := by rfl) (hy : X.env.scope.names.lookup y = some .local := by rfl)
    (hw : swappedStores [.Tuple [.Name x px, .Name y py] n pt] (.Tuple [a, b] m p2) X.env = pure (some [x, y]) := by rfl)
    (hs : swapsWithSole [.Tuple [.Name x px, .Name y py] n pt] (.Tuple [a, b] m p2) pos.line X.env = pure false := by rfl) : st X (.Assign [.Tuple [.Name x px, .Name y py] n pt] (.Tuple [a, b] m p2) pos) Γ Ω D := fun W w => by
  refine wpS_of (ps_par hX.calm hX.nd hi hj hij hx hy paA hw hs) ?_
  show wpA X [a, b] W.σ W.H fun vs H1 => ∃ v w, vs = [v, w] ∧ (D.e W Ω).nx ((W.σ.set i (some v)).set j (some w)) H1
  refine wpA_mono (h W w) ?_
  rintro vs H1 ⟨Ω1, φs, ⟨φ, ψ, rfl, g⟩, k1, s1, p1⟩
  obtain ⟨v, u, rfl, q1, q2⟩ := al2 p1
  exact ⟨v, u, rfl, _, Ω1, g, (k1.set q1 i).set (W := (W.up H1).st _ H1) q2 j, s1⟩
theorem st_par3 {i j l : Nat} {x y z : Str} {n m : Nat} {p2 : Pos} (hX : Nor X) (hi : X.N[i]? = some x) (hj : X.N[j]? = some y) (hl : X.N[l]? = some z) (hij : i ≠ j) (hil : i ≠ l) (hjl : j ≠ l)
    (h : evA X [a, b, c] Γ Ω fun Ω1 φs => ∃ φ ψ χ, φs = [φ, ψ, χ] ∧ D.nx (((Γ.set i (some φ)).set j (some ψ)).set l (some χ)) Ω1)
    (hx : X.env.scope.names.lookup x = some .local := by rfl) (hy : X.env.scope.names.lookup y = some .local := by rfl) (hz : X.env.scope.names.lookup z = some .local := by rfl)
    (hw : swappedStores [.Tuple [.Name x px, .Name y py, .Name z pz] n pt] (.Tuple [a, b, c] m p2) X.env = pure (some [x, y, z]) := by rfl)
    (hs : swapsWithSole [.Tuple [.Name x px, .Name y py, .Name z pz] n pt] (.Tuple [a, b, c] m p2) pos.line X.env = pure false := by rfl) : st X (.Assign [.Tuple [.Name x px, .Name y py, .Name z pz] n pt] (.Tuple [a, b, c] m p2) pos) Γ Ω D := fun W w => by
  refine wpS_of (ps_par3 hX.calm hX.nd hi hj hl hij hil hjl hx hy hz paA hw hs) ?_
  show wpA X [a, b, c] W.σ W.H fun vs H1 => ∃ u v w, vs = [u, v, w] ∧ (D.e W Ω).nx (((W.σ.set i (some u)).set j (some v)).set l (some w)) H1
  refine wpA_mono (h W w) ?_
  rintro vs H1 ⟨Ω1, φs, ⟨φ, ψ, χ, rfl, g⟩, k1, s1, p1⟩
  cases p1 with
  | cons q0 p1 =>
    obtain ⟨v, u, rfl, q1, q2⟩ := al2 p1
    exact ⟨_, v, u, rfl, _, Ω1, g, ((k1.set q0 i).set (W := (W.up H1).st _ H1) q1 j).set (W := (W.up H1).st _ H1) q2 l, s1⟩
/-! ### loops -/
/-- a list that stands for good -/
inductive Lf (K : PySem.W.Frag) : MP → List PyData → Prop
  | d {ds : List PyData} : Lf K (isD K (.list ds)) ds
  | l {ds : List PyData} : Lf K (isL K ds) ds
theorem Lf.at_ {K : PySem.W.Frag} {φ : MP} {ds : List PyData} {F : Hp} {v : V} (l : Lf K φ ds) (p : φ.p F v) : ∃ a xs, v = .ref a ∧ SqL K F a xs ∧ DpAll K F xs ds := by
  cases l with
  | d => cases p with
    | lst h a => exact ⟨_, _, rfl, h, a⟩
  | l =>
    obtain ⟨q, o, rfl, e, xs, rfl, a⟩ := p
    exact ⟨q, xs, rfl, SqL.of e, a⟩
theorem st_forL (hX : Nor X) (h : ev X iter Γ Ω fun Ω1 φ => ∃ ds, Lf X.K φ ds ∧ ∃ I : Nat → Ga → Om → Prop, I 0 Γ Ω1 ∧
      (∀ i d Γ' Ω', ds[i]? = some d → I i Γ' Ω' → tgt X tg (isD X.K d) Γ' Ω' fun Γ2 Ω2 => stB X body Γ2 Ω2 { D with nx := Wkn (I (i + 1)), ct := Wkn (I (i + 1)), bk := D.nx }) ∧ ∀ Γ' Ω', I ds.length Γ' Ω' → D.nx Γ' Ω')
    (hs : ∀ x, foldedSetIterable iter X.env x = pure x := by intro _; rfl) : st X (.For tg iter body [] pos) Γ Ω D := fun W w => by
  refine wpS_of (ps_for hX.pas hX.calm (pi_list peE) pgG pssB hs) ?_
  refine wpE_mono (h W w) ?_
  rintro v H1 ⟨Ω1, φ, ⟨ds, l, I, h0, ht, hd⟩, k1, s1, p1⟩
  obtain ⟨a, xs, rfl, ea, al⟩ := l.at_ p1
  have hlen := dpAll_length al
  refine ⟨a, rfl, ⟨xs, hid_sub.seq ea⟩, for_list (K := X.K) (a := a) (xs := xs) (fun i => go (W.up H1) Ω1 (I i)) ⟨Γ, Ω1, h0, k1, Same.refl _⟩ ?_ ?_ ?_⟩
  · rintro i σ' H' _ ⟨Γ', Ω', _, k2, s2⟩
    exact hid_sub.seq (s2.seq ea)
  · rintro i x σ' H' hi ⟨Γ', Ω', hI, k2, s2⟩
    obtain ⟨d, hd', dx⟩ := dpAll_get' al hi
    refine wpG_mono (ht i d Γ' Ω' hd' hI (W.st σ' H') x k2 (dpS s2 dx)) ?_
    rintro σ2 H2 ⟨Γ2, Ω2, g, k3, s3⟩
    have m1 := e_chain (D := { D with nx := Wkn (I (i + 1)), ct := Wkn (I (i + 1)), bk := D.nx }) (s2.trans s3 : Same ((W.up H1).F Ω1) (((W.up H1).st σ2 H2).F Ω2))
    have m2 := e_chain (D := { D with nx := Wkn (I (i + 1)), ct := Wkn (I (i + 1)), bk := D.nx }) (s1.trans (s2.trans s3) : Same (W.F Ω) ((W.st σ2 H2).F Ω2))
    refine wpB_mono (g (W.st σ2 H2) k3) ⟨fun σ3 H3 q => ?_, fun v H3 q => m2.rt v H3 q, fun σ3 H3 q => m2.bk σ3 H3 q, fun σ3 H3 q => ?_⟩
    · exact (m1.nx σ3 H3 q : go _ _ _ _ _) |> Wkn.go
    · exact (m1.ct σ3 H3 q : go _ _ _ _ _) |> Wkn.go
  · rintro σ' H' ⟨Γ', Ω', hI, k2, s2⟩
    rw [hlen] at hI
    exact ⟨Γ', Ω', hd _ _ hI, k2, s1.trans s2⟩
theorem st_forT (hX : Nor X) (h : ev X iter Γ Ω fun Ω1 φ => ∃ ds, φ = isD X.K (.tuple ds) ∧ ∃ I : Nat → Ga → Om → Prop, I 0 Γ Ω1 ∧
      (∀ i d Γ' Ω', ds[i]? = some d → I i Γ' Ω' → tgt X tg (isD X.K d) Γ' Ω' fun Γ2 Ω2 => stB X body Γ2 Ω2 { D with nx := Wkn (I (i + 1)), ct := Wkn (I (i + 1)), bk := D.nx }) ∧ ∀ Γ' Ω', I ds.length Γ' Ω' → D.nx Γ' Ω')
    (hs : ∀ x, foldedSetIterable iter X.env x = pure x := by intro _; rfl) : st X (.For tg iter body [] pos) Γ Ω D := fun W w => by
  refine wpS_of (ps_for hX.pas hX.calm (pi_tup peE) pgG pssB hs) ?_
  refine wpE_mono (h W w) ?_
  rintro v H1 ⟨Ω1, φ, ⟨ds, rfl, I, h0, ht, hd⟩, k1, s1, p1⟩
  obtain ⟨a, xs, rfl, ea, al⟩ := dp_tup p1
  have hlen := dpAll_length al
  refine ⟨a, rfl, ⟨xs, sameT hid_sub ea⟩, for_tup (K := X.K) (a := a) (xs := xs) (fun i => go (W.up H1) Ω1 (I i)) ⟨Γ, Ω1, h0, k1, Same.refl _⟩ ?_ ?_ ?_⟩
  · rintro i σ' H' _ ⟨Γ', Ω', _, k2, s2⟩
    exact sameT hid_sub (sameT s2 ea)
  · rintro i x σ' H' hi ⟨Γ', Ω', hI, k2, s2⟩
    obtain ⟨d, hd', dx⟩ := dpAll_get' al hi
    refine wpG_mono (ht i d Γ' Ω' hd' hI (W.st σ' H') x k2 (dpS s2 dx)) ?_
    rintro σ2 H2 ⟨Γ2, Ω2, g, k3, s3⟩
    have m1 := e_chain (D := { D with nx := Wkn (I (i + 1)), ct := Wkn (I (i + 1)), bk := D.nx }) (s2.trans s3 : Same ((W.up H1).F Ω1) (((W.up H1).st σ2 H2).F Ω2))
    have m2 := e_chain (D := { D with nx := Wkn (I (i + 1)), ct := Wkn (I (i + 1)), bk := D.nx }) (s1.trans (s2.trans s3) : Same (W.F Ω) ((W.st σ2 H2).F Ω2))
    refine wpB_mono (g (W.st σ2 H2) k3) ⟨fun σ3 H3 q => ?_, fun v H3 q => m2.rt v H3 q, fun σ3 H3 q => m2.bk σ3 H3 q, fun σ3 H3 q => ?_⟩
    · exact (m1.nx σ3 H3 q : go _ _ _ _ _) |> Wkn.go
    · exact (m1.ct σ3 H3 q : go _ _ _ _ _) |> Wkn.go
  · rintro σ' H' ⟨Γ', Ω', hI, k2, s2⟩
    rw [hlen] at hI
    exact ⟨Γ', Ω', hd _ _ hI, k2, s1.trans s2⟩
/-- a while by a word that falls -/
theorem st_while (hX : Nor X) (I : Nat → Ga → Om → Prop) (m0 : Nat) (h0 : I m0 Γ Ω)
    (h : ∀ m Γ' Ω', I m Γ' Ω' → evT X c Γ' Ω' fun Ω1 b => if b = true then stB X body Γ' Ω1 { D with nx := Wkn fun Γ2 Ω2 => ∃ m', m' < m ∧ I m' Γ2 Ω2, ct := Wkn fun Γ2 Ω2 => ∃ m', m' < m ∧ I m' Γ2 Ω2, bk := D.nx } else D.nx Γ' Ω1) : st X (.While c body [] pos) Γ Ω D := fun W w => by
  refine wpS_of (ps_while hX.pas ptT pssB) ?_
  refine ⟨fun m => go W Ω (I m), ⟨m0, Γ, Ω, h0, w, Same.refl _⟩, ?_⟩
  rintro m σ' H' ⟨Γ', Ω', hI, k1, s1⟩
  refine wpT_mono (h m Γ' Ω' hI (W.st σ' H') k1) ?_
  rintro b H1 ⟨Ω1, g, k2, s2⟩
  have s12 : Same (W.F Ω) ((W.st σ' H1).F Ω1) := s1.trans s2
  cases b with
  | true =>
    rw [if_pos rfl] at g ⊢
    refine ⟨go W Ω fun Γ2 Ω2 => ∃ m', m' < m ∧ I m' Γ2 Ω2, ?_, ?_⟩
    · rintro σ2 H2 ⟨Γ2, Ω2, ⟨m', hm, q⟩, k3, s3⟩
      exact ⟨m', hm, Γ2, Ω2, q, k3, s3⟩
    · have m2 := e_chain (D := { D with nx := Wkn fun Γ2 Ω2 => ∃ m', m' < m ∧ I m' Γ2 Ω2, ct := Wkn fun Γ2 Ω2 => ∃ m', m' < m ∧ I m' Γ2 Ω2, bk := D.nx }) s12
      refine wpB_mono (g (W.st σ' H1) k2) ⟨fun σ3 H3 q => ?_, fun v H3 q => m2.rt v H3 q, fun σ3 H3 q => m2.bk σ3 H3 q, fun σ3 H3 q => ?_⟩
      · exact (m2.nx σ3 H3 q : go _ _ _ _ _) |> Wkn.go
      · exact (m2.ct σ3 H3 q : go _ _ _ _ _) |> Wkn.go
  | false =>
    rw [if_neg Bool.false_ne_true] at g ⊢
    exact ⟨Γ', Ω1, g, k2, s12⟩
end
/-! ### a def by its body -/
/-- the slots at the entry -/
def ent (φs : List MP) (n : Nat) : Ga := φs.map some ++ List.replicate n none
theorem sl_ent {F : Hp} : ∀ {φs : List MP} {vs : List V} (n : Nat), Al F φs vs → Sl F (ent φs n) (vs.map some ++ List.replicate n none)
  | _, _, n, .nil => by
    show Sl F ([] ++ List.replicate n none) ([] ++ List.replicate n none)
    rw [List.nil_append, List.nil_append]
    induction n with
    | zero => exact .nil
    | succ n ih => exact .any ih
  | _, _, n, .cons p t => .pr p (sl_ent n t)
section
variable {P : Program} {w : World} {K : PySem.W.Frag} {mg : Str → Option Value} {base : Heap}
theorem al_length {F : Hp} : ∀ {φs : List MP} {vs : List V}, Al F φs vs → φs.length = vs.length
  | _, _, .nil => rfl
  | _, _, .cons _ t => congrArg (· + 1) (al_length t)
theorem nor_of {CX : CXT} {N : List Str} {qual : Str} {sc : Scope} {f : Addr} {cdv : Value} {A : Around} {outer : List Env} {s : Shared} {H : Hp} {E : XK} {kk : Nat} (nd : N.Nodup) (hr : Room kk (A.deeper (envOfC qual sc s.heap.objs.size f cdv))) (hk : 4 ≤ kk) :
    Nor (cxOf CX P w K mg base N qual sc f cdv A outer s H E).nox := ⟨rfl, nd, PassesOwn.never, hr.mono hk⟩
/-- a def that is handed nothing owned -/
theorem defP {ι : Type} {Pr : ι → Prop} {ar : ι → List MP} {res : ι → MP → Prop} {x qual : Str} {sd : Stmt} {f : Addr} {fd : FuncData} {N ps : List Str} {kk : Nat} (F : Fun K x qual sd f fd) (S : FnScope N ps (defScope sd)) (hk : 4 ≤ kk) (hl : ∀ a, (ar a).length = ps.length)
    (hb : ∀ (cdv : Value) (A : Around) (outer : List Env) (s : Shared) (H : Hp) (E : XK), Room kk (A.deeper (envOfC qual (defScope sd) s.heap.objs.size f cdv)) → ∀ a, Pr a →
      stB (cxOf CX0 P w K mg base N qual (defScope sd) f cdv A outer s H E).nox (defBody sd) (ent (ar a) (N.length - ps.length)) [] { nx := fun _ _ => res a (isD K .none), rt := fun _ φ => res a φ }) :
    FnOk P w K mg base CX0 (kk + 1) f fd ps (spP Pr ar res) := by
  refine F.ok S (fun vs H Q E h => ?_) fun cdv A outer s H vs Q E hr h => ?_
  · obtain ⟨a, O, _, al, _⟩ := h
    rw [← al_length al, hl]
  · obtain ⟨a, O, ha, al, ho, kq⟩ := h
    refine ⟨_, pssB, ?_⟩
    have hvl : vs.length = ps.length := by rw [← al_length al, hl]
    have hst : L2.start N vs = vs.map some ++ List.replicate (N.length - ps.length) none := by unfold L2.start; rw [hvl]
    have w0 : (⟨H, O, L2.start N vs, H⟩ : Wd).Ok (ent (ar a) (N.length - ps.length)) [] :=
      ⟨by rw [hst]; exact sl_ent _ al, fun _ z => (nomatch z), List.nodup_nil, fun _ z => (nomatch z), Same.refl _, ho⟩
    refine wpB_mono (hb cdv A outer s H E hr a ha _ w0) ⟨?_, ?_, ?_, ?_⟩
    · rintro σ' H' ⟨Γ', Ω', g, k1, s1⟩
      exact kq .non H' _ g k1.sm .non
    · rintro v H' ⟨Ω', φ, g, k1, s1, p1⟩
      exact kq v H' φ g k1.sm (φ.mono (hid_anti fun q hq => List.mem_append_right _ hq) p1)
    · rintro σ' H' ⟨_, _, g, _⟩; exact g.elim
    · rintro σ' H' ⟨_, _, g, _⟩; exact g.elim
/-- a def whose first argument is owned -/
theorem defM {ι : Type} {Pr : ι → Prop} {ow : ι → Addr → MO} {ar : ι → List MP} {res : ι → Addr → MO → MP → Prop} {x qual : Str} {sd : Stmt} {f : Addr} {fd : FuncData} {N ps : List Str} {kk : Nat} (F : Fun K x qual sd f fd) (S : FnScope N ps (defScope sd)) (hk : 4 ≤ kk) (hl : ∀ a, (ar a).length + 1 = ps.length)
    (hb : ∀ (cdv : Value) (A : Around) (outer : List Env) (s : Shared) (H : Hp) (E : XK), Room kk (A.deeper (envOfC qual (defScope sd) s.heap.objs.size f cdv)) → ∀ a p, Pr a →
      stB (cxOf CX0 P w K mg base N qual (defScope sd) f cdv A outer s H E).nox (defBody sd) (ent (isV (.ref p) :: ar a) (N.length - ps.length)) [(p, ow a p)]
        { nx := fun _ Ω' => ∃ ψ, (p, ψ) ∈ Ω' ∧ res a p ψ (isD K .none), rt := fun Ω' φ => ∃ ψ, (p, ψ) ∈ Ω' ∧ res a p ψ φ }) :
    FnOk P w K mg base CX0 (kk + 1) f fd ps (spM Pr ow ar res) := by
  refine F.ok S (fun vs H Q E h => ?_) fun cdv A outer s H vs Q E hr h => ?_
  · obtain ⟨a, p, ws, O, o, rfl, _, _, _, _, al, _⟩ := h
    rw [List.length_cons, ← al_length al, hl]
  · obtain ⟨a, p, ws, O, o, rfl, ha, hpO, hp, po, al, ho, kq⟩ := h
    refine ⟨_, pssB, ?_⟩
    have hvl : (V.ref p :: ws).length = ps.length := by rw [List.length_cons, ← al_length al, hl]
    have hst : L2.start N (V.ref p :: ws) = (V.ref p :: ws).map some ++ List.replicate (N.length - ps.length) none := by unfold L2.start; rw [hvl]
    have w0 : (⟨hid [p] H, O, L2.start N (V.ref p :: ws), H⟩ : Wd).Ok (ent (isV (.ref p) :: ar a) (N.length - ps.length)) [(p, ow a p)] := by
      refine ⟨?_, fun q hq => ?_, by simp, fun q hq => ?_, hid_sub, fun q hq => ?_⟩
      · rw [hst]
        exact sl_ent _ (.cons rfl al)
      · have e : q = (p, ow a p) := by simpa using hq
        subst e
        exact ⟨o, hp, po⟩
      · have e : q = (p, ow a p) := by simpa using hq
        subst e
        exact hid_in (by simp)
      · show hid [p] H q ≠ none
        have hne : q ∉ [p] := fun z => hpO (by rw [← List.mem_singleton.mp z]; exact hq)
        rw [hid_out hne]
        exact ho q hq
    refine wpB_mono (hb cdv A outer s H E hr a p ha _ w0) ⟨?_, ?_, ?_, ?_⟩
    · rintro σ' H' ⟨Γ', Ω', ⟨ψ, hm, g⟩, k1, s1⟩
      obtain ⟨o', e1, q1⟩ := k1.ow _ hm
      have sub : Same (((⟨hid [p] H, O, L2.start N (V.ref p :: ws), H⟩ : Wd).st σ' H').F Ω') (hid (p :: O) H') := hid_anti fun q hq => by
        rcases List.mem_cons.mp hq with z | z
        · rw [z]; exact List.mem_append_left _ (List.mem_map.mpr ⟨_, hm, rfl⟩)
        · exact List.mem_append_right _ z
      exact kq .non H' ψ _ o' g k1.sm e1 (ψ.mono sub q1) .non
    · rintro v H' ⟨Ω', φ, ⟨ψ, hm, g⟩, k1, s1, p1⟩
      obtain ⟨o', e1, q1⟩ := k1.ow _ hm
      have sub : Same (((⟨hid [p] H, O, L2.start N (V.ref p :: ws), H⟩ : Wd).st [] H').F Ω') (hid (p :: O) H') := hid_anti fun q hq => by
        rcases List.mem_cons.mp hq with z | z
        · rw [z]; exact List.mem_append_left _ (List.mem_map.mpr ⟨_, hm, rfl⟩)
        · exact List.mem_append_right _ z
      exact kq v H' ψ φ o' g k1.sm e1 (ψ.mono sub q1) (φ.mono sub p1)
    · rintro σ' H' ⟨_, _, g, _⟩; exact g.elim
    · rintro σ' H' ⟨_, _, g, _⟩; exact g.elim
end
end G
set_option Elab.async false
set_option linter.all false
set_option maxRecDepth 100000
set_option maxHeartbeats 4000000
/-! G5: isinstance, ==, in, <, and, or as values. -/
namespace G
open PySem PySem.Spec PyProof.Rows L2
def tyD : PyData → String
  | .none => "NoneType"
  | .bool _ => "bool"
  | .int _ => "int"
  | .str _ => "str"
  | .list _ => "list"
  | .tuple _ => "tuple"
  | .dict _ => "dict"
theorem tyX_dp {K : PySem.W.Frag} {F H : Hp} {v : V} {d : PyData} (s : Same F H) (h : Dp K F v d) : TyX K H v (.type (tyD d)) := by
  cases h with
  | non => exact .base .non
  | bl b => exact .base (.bl b)
  | int i => exact .base (.int i)
  | str x => exact .base (.str x)
  | lst h a =>
    rcases h with (h | ⟨o, h⟩) | ⟨o, its, n, hk, hc, _⟩
    · exact .base (.lst (s _ _ h))
    · exact .base (.frz (s _ _ h))
    · exact .kList hk hc
  | tup h a =>
    rcases h with (h | ⟨o, h⟩) | ⟨o, its, n, hk, hc, _⟩
    · exact .base (.tup (s _ _ h))
    · exact .fTuple (s _ _ h)
    · exact .kTuple hk hc
/-- what is known of a value gives this data in the heap as it is -/
def Dq (K : PySem.W.Frag) (Ω : Om) (φ : MP) (d : PyData) : Prop := ∀ (W : Wd) (Γ : Ga) (v : V), W.Ok Γ Ω → φ.p (W.F Ω) v → Dp K W.H v d
theorem dq_of {K : PySem.W.Frag} {Ω : Om} {φ : MP} {d : PyData} (h : Dat K φ d) : Dq K Ω φ d := fun W Γ v w p => dpS hid_sub (h _ _ p)
theorem dq_d {K : PySem.W.Frag} {Ω : Om} {d : PyData} : Dq K Ω (isD K d) d := dq_of dat_d
theorem dq_l {K : PySem.W.Frag} {Ω : Om} {ds : List PyData} : Dq K Ω (isL K ds) (.list ds) := dq_of dat_l
theorem dq_o {K : PySem.W.Frag} {Ω : Om} {j : Nat} {p : Addr} {ds : List PyData} (h : Ω[j]? = some (p, lstO K ds)) : Dq K Ω (isV (.ref p)) (.list ds) := fun W Γ v w q => by
  obtain rfl := q
  obtain ⟨o, e, xs, rfl, a⟩ := w.ow _ (List.mem_of_getElem? h)
  exact .lst (SqL.of e) (dpAllS hid_sub a)
section
variable {X : Cx} {a b c e : Expr} {es rest : List Expr} {Γ : Ga} {Ω : Om} {k : Om → MP → Prop} {kT : Om → Bool → Prop} {pos p1 p2 p3 : Pos}
/-- a built-in class as a value -/
theorem ev_ty {x : Str} {T : String} (hm : X.mg x = none) (hv : bootBuiltins x = some (.type T)) (h : k Ω (isV (.ty T))) (hg : Gl X x := by rfl) (hn : x ≠ "__name__" := by decide) (hd : (x == ("__debug__" : Str)) = false := by decide) : ev X (.Name x pos) Γ Ω k :=
  fun W w => wpE_of (pe_bltn (v := .ty T) hg hm hv rfl hn hd) (post_pure w h rfl)
theorem ev_isi {x : Str} {T : String} (hm : X.mg "isinstance" = none) (hx : X.mg x = none) (hv : bootBuiltins x = some (.type T)) (h : ev X e Γ Ω fun Ω1 φ => ∃ d b, φ = isD X.K d ∧ kitB (tyD d) T = some b ∧ k Ω1 (isD X.K (.bool b)))
    (hg : Gl X "isinstance" := by rfl) (hgx : Gl X x := by rfl) (hn : x ≠ "__name__" := by decide) (hd : (x == ("__debug__" : Str)) = false := by decide)
    (he : starEach [e, .Name x p1] X.env = (false, eval e X.env) :: starEach [.Name x p1] X.env := by rfl) (he2 : starEach [.Name x p1] X.env = (false, eval (.Name x p1) X.env) :: starEach [] X.env := by rfl)
    (hpl : (backTo pos (starEach [.Name x p1] X.env)).any (·.1) = false := by rfl) : ev X (.Call (.Name "isinstance" p2) [e, .Name x p1] [] pos) Γ Ω k :=
  ev_callB call_isi hm boot_isinstance (evA_cons (ev_imp h fun Ω1 φ g => evA_cons (ev_ty hx hv (evA_nil fun W vs Q _ w al z => by
    obtain ⟨d, b, rfl, hk, g⟩ := g
    obtain ⟨v, u, rfl, q1, q2⟩ := al2 al
    obtain rfl := q2
    exact ⟨v, .ty T, _, _, b, rfl, .ty T, tyX_dp hid_sub q1, kit_ty hk, z _ _ (post_pure w g (.bl b))⟩) hgx hn hd) he2) he) hg (he := he) (hpl := hpl)
/-! ### and, or, not as values -/
theorem ev_and (h : ev X a Γ Ω fun Ω1 φ => ∃ x, φ = isD X.K (.bool x) ∧ if x = true then ev X (.BoolOp .And (b :: rest) pos) Γ Ω1 k else k Ω1 (isD X.K (.bool false))) : ev X (.BoolOp .And (a :: b :: rest) pos) Γ Ω k := fun W w => by
  refine wpE_of (pe_and peE peE) (wpE_mono (h W w) ?_)
  rintro v H1 ⟨Ω1, φ, ⟨x, rfl, g⟩, k1, s1, q1⟩
  refine ⟨x, dp_bool q1, ?_⟩
  cases x with
  | true =>
    rw [if_pos rfl] at g ⊢
    exact wpE_mono (g (W.up H1) k1) fun _ _ q => post_chain s1 q
  | false =>
    rw [if_neg Bool.false_ne_true] at g ⊢
    exact ⟨Ω1, _, g, k1, s1, .bl _⟩
theorem ev_or (h : ev X a Γ Ω fun Ω1 φ => ∃ x, φ = isD X.K (.bool x) ∧ if x = true then k Ω1 (isD X.K (.bool true)) else ev X (.BoolOp .Or (b :: rest) pos) Γ Ω1 k) : ev X (.BoolOp .Or (a :: b :: rest) pos) Γ Ω k := fun W w => by
  refine wpE_of (pe_or peE peE) (wpE_mono (h W w) ?_)
  rintro v H1 ⟨Ω1, φ, ⟨x, rfl, g⟩, k1, s1, q1⟩
  refine ⟨x, dp_bool q1, ?_⟩
  cases x with
  | true =>
    rw [if_pos rfl] at g ⊢
    exact ⟨Ω1, _, g, k1, s1, .bl _⟩
  | false =>
    rw [if_neg Bool.false_ne_true] at g ⊢
    exact wpE_mono (g (W.up H1) k1) fun _ _ q => post_chain s1 q
theorem ev_notV (h : ev X a Γ Ω fun Ω1 φ => ∃ x, φ = isD X.K (.bool x) ∧ k Ω1 (isD X.K (.bool (!x)))) : ev X (.UnaryOp .Not a pos) Γ Ω k := fun W w => by
  refine wpE_of (pe_not peE) (wpE_mono (h W w) ?_)
  rintro v H1 ⟨Ω1, φ, ⟨x, rfl, g⟩, k1, s1, q1⟩
  exact ⟨x, dp_bool q1, Ω1, _, g, k1, s1, .bl _⟩
theorem ev_ifx (h : evT X c Γ Ω fun Ω1 x => if x = true then ev X a Γ Ω1 k else ev X b Γ Ω1 k) : ev X (.IfExp c a b pos) Γ Ω k := fun W w => by
  refine wpE_of (pe_ifExp ptT peE peE) (wpT_mono (h W w) ?_)
  rintro x H1 ⟨Ω1, g, k1, s1⟩
  cases x with
  | true =>
    rw [if_pos rfl] at g ⊢
    exact wpE_mono (g (W.up H1) k1) fun _ _ q => post_chain s1 q
  | false =>
    rw [if_neg Bool.false_ne_true] at g ⊢
    exact wpE_mono (g (W.up H1) k1) fun _ _ q => post_chain s1 q
/-- lo <= x <= hi -/
theorem ev_leLe (h : ev X a Γ Ω fun Ω1 φ => ev X b Γ Ω1 fun Ω2 ψ => ∃ i j, φ = isD X.K (.int i) ∧ ψ = isD X.K (.int j) ∧ if i ≤ j then (ev X c Γ Ω2 fun Ω3 χ => ∃ l, χ = isD X.K (.int l) ∧ k Ω3 (isD X.K (.bool (decide (j ≤ l))))) else k Ω2 (isD X.K (.bool false)))
    (h1 : lastMarks [.LtE, .LtE] [b, c] = false := by with_unfolding_all rfl) : ev X (.Compare a [.LtE, .LtE] [b, c] pos) Γ Ω k := fun W w => by
  refine wpE_of (pe_chain op_le op_le peE peE peE h1) ?_
  refine wpE_mono (h W w) ?_
  rintro v H1 ⟨Ω1, φ, h1, k1, s1, q1⟩
  refine wpE_mono (h1 (W.up H1) k1) ?_
  rintro u H2 ⟨Ω2, ψ, ⟨i, j, rfl, rfl, g⟩, k2, s2, q2⟩
  refine ⟨i, j, dp_int q1, dp_int q2, decide (i ≤ j), rfl, ?_⟩
  by_cases hij : i ≤ j
  · rw [if_pos hij] at g
    rw [decide_eq_true hij, if_pos rfl]
    refine wpE_mono (g (W.up H2) k2) ?_
    rintro z H3 ⟨Ω3, χ, ⟨l, rfl, g⟩, k3, s3, q3⟩
    exact ⟨j, l, dp_int q2, dp_int q3, Ω3, _, g, k3, (s1.trans s2).trans s3, .bl _⟩
  · rw [if_neg hij] at g
    rw [decide_eq_false hij, if_neg Bool.false_ne_true]
    exact ⟨Ω2, _, g, k2, s1.trans s2, .bl _⟩
/-! ### == and in of data -/
theorem bi_val2 {r : R2} {φ ψ χ : MP} (h : k Ω χ) (hr : ∀ (W : Wd) (x y : V) (Q : VK), W.Ok Γ Ω → φ.p (W.F Ω) x → ψ.p (W.F Ω) y → (∀ v, χ.p (W.F Ω) v → Q v W.H) → r x y W.H Q) : Bi X r φ ψ Γ Ω k := fun W x y Q _ w p q z =>
  hr W x y Q w p q fun v hv => z v _ (post_pure w h hv)
theorem bi_eqD {φ ψ : MP} {d1 d2 : PyData} (h1 : Dq X.K Ω φ d1) (h2 : Dq X.K Ω ψ d2) (s1 : SeqAt.shaped d1 = true) (s2 : SeqAt.shaped d2 = true) (h : k Ω (isD X.K (.bool (PyData.eqv d1 d2)))) : Bi X (rEqD X.K) φ ψ Γ Ω k :=
  bi_val2 h fun W x y Q w p q z => ⟨d1, d2, h1 W Γ x w p, h2 W Γ y w q, s1, s2, z _ (.bl _)⟩
theorem bi_neD {φ ψ : MP} {d1 d2 : PyData} (h1 : Dq X.K Ω φ d1) (h2 : Dq X.K Ω ψ d2) (s1 : SeqAt.shaped d1 = true) (s2 : SeqAt.shaped d2 = true) (h : k Ω (isD X.K (.bool (!PyData.eqv d1 d2)))) : Bi X (rNeD X.K) φ ψ Γ Ω k :=
  bi_val2 h fun W x y Q w p q z => ⟨d1, d2, h1 W Γ x w p, h2 W Γ y w q, s1, s2, z _ (.bl _)⟩
theorem nor_u (hX : Nor X) : X.A.units + 65 < cLine := by have := hX.room.un; omega
theorem ev_eqD (hX : Nor X) (h : ev X a Γ Ω fun Ω1 φ => ev X b Γ Ω1 fun Ω2 ψ => ∃ d1 d2 x, Dq X.K Ω2 φ d1 ∧ Dq X.K Ω2 ψ d2 ∧ SeqAt.shaped d1 = true ∧ SeqAt.shaped d2 = true ∧ PyData.eqv d1 d2 = x ∧ k Ω2 (isD X.K (.bool x))) : ev X (.Compare a [.Eq] [b] pos) Γ Ω k :=
  ev_cmpN (op_eqD (by have := nor_u hX; omega)) (nomark _) (ev_imp h fun Ω1 φ g => ev_imp g fun Ω2 ψ ⟨d1, d2, x, h1, h2, s1, s2, e, g⟩ => bi_eqD h1 h2 s1 s2 (by rw [e]; exact g))
theorem ev_neD (hX : Nor X) (h : ev X a Γ Ω fun Ω1 φ => ev X b Γ Ω1 fun Ω2 ψ => ∃ d1 d2 x, Dq X.K Ω2 φ d1 ∧ Dq X.K Ω2 ψ d2 ∧ SeqAt.shaped d1 = true ∧ SeqAt.shaped d2 = true ∧ PyData.eqv d1 d2 = x ∧ k Ω2 (isD X.K (.bool (!x)))) : ev X (.Compare a [.NotEq] [b] pos) Γ Ω k :=
  ev_cmpN (op_neD (by have := nor_u hX; omega)) (nomark _) (ev_imp h fun Ω1 φ g => ev_imp g fun Ω2 ψ ⟨d1, d2, x, h1, h2, s1, s2, e, g⟩ => bi_neD h1 h2 s1 s2 (by rw [e]; exact g))
theorem evT_eqD (hX : Nor X) (h : ev X a Γ Ω fun Ω1 φ => ev X b Γ Ω1 fun Ω2 ψ => ∃ d1 d2 x, Dq X.K Ω2 φ d1 ∧ Dq X.K Ω2 ψ d2 ∧ SeqAt.shaped d1 = true ∧ SeqAt.shaped d2 = true ∧ PyData.eqv d1 d2 = x ∧ kT Ω2 x) : evT X (.Compare a [.Eq] [b] pos) Γ Ω kT :=
  evT_cmpN (op_eqD (by have := nor_u hX; omega)) (nomark _) (ev_imp h fun Ω1 φ g => ev_imp g fun Ω2 ψ ⟨d1, d2, x, h1, h2, s1, s2, e, g⟩ => bi_eqD h1 h2 s1 s2 ⟨_, rfl, by rw [e]; exact g⟩)
theorem evT_neD (hX : Nor X) (h : ev X a Γ Ω fun Ω1 φ => ev X b Γ Ω1 fun Ω2 ψ => ∃ d1 d2 x, Dq X.K Ω2 φ d1 ∧ Dq X.K Ω2 ψ d2 ∧ SeqAt.shaped d1 = true ∧ SeqAt.shaped d2 = true ∧ PyData.eqv d1 d2 = x ∧ kT Ω2 (!x)) : evT X (.Compare a [.NotEq] [b] pos) Γ Ω kT :=
  evT_cmpN (op_neD (by have := nor_u hX; omega)) (nomark _) (ev_imp h fun Ω1 φ g => ev_imp g fun Ω2 ψ ⟨d1, d2, x, h1, h2, s1, s2, e, g⟩ => bi_neD h1 h2 s1 s2 ⟨_, rfl, by rw [e]; exact g⟩)
/-- in a tuple -/
def rInT (K : PySem.W.Frag) (neg : Bool) : R2 := fun x y H Q => ∃ d ds, Dp K H x d ∧ Dp K H y (.tuple ds) ∧ SeqAt.shaped d = true ∧ SeqAt.shaped (.tuple ds) = true ∧ Q (.bl (if neg = true then !ds.any fun z => PyData.eqv z d else ds.any fun z => PyData.eqv z d)) H
theorem op_inT (hu : X.A.units + 65 < cLine) : OpR X (compareOp .In) (rInT X.K false) := by
  intro pins s σ H x y v u Q I rx ry h
  obtain ⟨d, ds, hd, he, sd, se, q⟩ := h
  obtain ⟨as, r1⟩ := Dp.reads I d x v hd rx
  obtain ⟨bs, r2⟩ := Dp.reads I (.tuple ds) y u he ry
  exact SeqAt.in_tuple_reads r2 r1 (SeqAt.canLay_of_shaped se) (SeqAt.canLay_of_shaped sd) (room_in_shaped sd hu) ⟨.bl _, H, I, rfl, q⟩
theorem op_niT (hu : X.A.units + 65 < cLine) : OpR X (compareOp .NotIn) (rInT X.K true) := by
  intro pins s σ H x y v u Q I rx ry h
  obtain ⟨d, ds, hd, he, sd, se, q⟩ := h
  obtain ⟨as, r1⟩ := Dp.reads I d x v hd rx
  obtain ⟨bs, r2⟩ := Dp.reads I (.tuple ds) y u he ry
  exact SeqAt.notIn_tuple_reads r2 r1 (SeqAt.canLay_of_shaped se) (SeqAt.canLay_of_shaped sd) (room_in_shaped sd hu) ⟨.bl _, H, I, rfl, q⟩
/-- the sides of x in c: what is asked of both, the answer -/
def InS (K : PySem.W.Frag) (Ω : Om) (φ ψ : MP) (mk : List PyData → PyData) (x : Bool) : Prop := ∃ d ds, Dq K Ω φ d ∧ Dq K Ω ψ (mk ds) ∧ SeqAt.shaped d = true ∧ SeqAt.shaped (mk ds) = true ∧ (ds.any fun z => PyData.eqv z d) = x
theorem ev_inL (hX : Nor X) (h : ev X a Γ Ω fun Ω1 φ => ev X b Γ Ω1 fun Ω2 ψ => ∃ x, InS X.K Ω2 φ ψ .list x ∧ k Ω2 (isD X.K (.bool x))) (hm : behindInMarks .In b = false := by rfl) : ev X (.Compare a [.In] [b] pos) Γ Ω k :=
  ev_cmpN (op_inD (nor_u hX)) hm (ev_imp h fun Ω1 φ g => ev_imp g fun Ω2 ψ ⟨x, ⟨d, ds, h1, h2, s1, s2, e⟩, g⟩ => bi_val2 (χ := isD X.K (.bool x)) g fun W x' y Q w p q z => ⟨d, ds, h1 W Γ x' w p, h2 W Γ y w q, s1, s2, z _ (by rw [e]; exact .bl _)⟩)
theorem evT_inL (hX : Nor X) (h : ev X a Γ Ω fun Ω1 φ => ev X b Γ Ω1 fun Ω2 ψ => ∃ x, InS X.K Ω2 φ ψ .list x ∧ kT Ω2 x) (hm : behindInMarks .In b = false := by rfl) : evT X (.Compare a [.In] [b] pos) Γ Ω kT :=
  evT_cmpN (op_inD (nor_u hX)) hm (ev_imp h fun Ω1 φ g => ev_imp g fun Ω2 ψ ⟨x, ⟨d, ds, h1, h2, s1, s2, e⟩, g⟩ => bi_val2 (χ := isD X.K (.bool x)) ⟨_, rfl, g⟩ fun W x' y Q w p q z => ⟨d, ds, h1 W Γ x' w p, h2 W Γ y w q, s1, s2, z _ (by rw [e]; exact .bl _)⟩)
theorem evT_niL (hX : Nor X) (h : ev X a Γ Ω fun Ω1 φ => ev X b Γ Ω1 fun Ω2 ψ => ∃ x, InS X.K Ω2 φ ψ .list x ∧ kT Ω2 (!x)) (hm : behindInMarks .NotIn b = false := by rfl) : evT X (.Compare a [.NotIn] [b] pos) Γ Ω kT :=
  evT_cmpN (op_notInD (nor_u hX)) hm (ev_imp h fun Ω1 φ g => ev_imp g fun Ω2 ψ ⟨x, ⟨d, ds, h1, h2, s1, s2, e⟩, g⟩ => bi_val2 (χ := isD X.K (.bool (!x))) ⟨_, rfl, g⟩ fun W x' y Q w p q z => ⟨d, ds, h1 W Γ x' w p, h2 W Γ y w q, s1, s2, z _ (by rw [e]; exact .bl _)⟩)
theorem evT_niT (hX : Nor X) (h : ev X a Γ Ω fun Ω1 φ => ev X b Γ Ω1 fun Ω2 ψ => ∃ x, InS X.K Ω2 φ ψ .tuple x ∧ kT Ω2 (!x)) (hm : behindInMarks .NotIn b = false := by rfl) : evT X (.Compare a [.NotIn] [b] pos) Γ Ω kT :=
  evT_cmpN (op_niT (nor_u hX)) hm (ev_imp h fun Ω1 φ g => ev_imp g fun Ω2 ψ ⟨x, ⟨d, ds, h1, h2, s1, s2, e⟩, g⟩ => bi_val2 (χ := isD X.K (.bool (!x))) ⟨_, rfl, g⟩ fun W x' y Q w p q z => ⟨d, ds, h1 W Γ x' w p, h2 W Γ y w q, s1, s2, z _ (by rw [e]; exact .bl _)⟩)
/-- is None -/
def isNone : PyData → Bool
  | .none => true
  | _ => false
theorem dec_none {K : PySem.W.Frag} {F : Hp} {v : V} {d : PyData} (h : Dp K F v d) : decide (v = .non) = isNone d := by
  cases h <;> first | rfl | exact decide_eq_false (fun z => nomatch z)
theorem evT_isNot {j : Nat} (h : ev X a Γ Ω fun Ω1 φ => ∃ d, φ = isD X.K d ∧ kT Ω1 (!isNone d)) : evT X (.Compare a [.IsNot] [.Constant .none j p1] pos) Γ Ω kT :=
  evT_cmpN op_notN (nomark _) (ev_imp h fun Ω1 φ ⟨d, e, g⟩ => ev_none (bi_val (χ := isD X.K (.bool (!isNone d))) ⟨_, rfl, g⟩ fun F H x y Q _ p q z => by
    subst e
    exact ⟨dp_none q, z _ (by rw [dec_none p]; exact .bl _)⟩))
theorem evT_isN {j : Nat} (h : ev X a Γ Ω fun Ω1 φ => ∃ d, φ = isD X.K d ∧ kT Ω1 (isNone d)) : evT X (.Compare a [.Is] [.Constant .none j p1] pos) Γ Ω kT :=
  evT_cmpN op_isN (nomark _) (ev_imp h fun Ω1 φ ⟨d, e, g⟩ => ev_none (bi_val (χ := isD X.K (.bool (isNone d))) ⟨_, rfl, g⟩ fun F H x y Q _ p q z => by
    subst e
    exact ⟨dp_none q, z _ (by rw [dec_none p]; exact .bl _)⟩))
/-- < of tuples of ints -/
theorem dpAll_ints {K : PySem.W.Frag} {F : Hp} : ∀ {ns : List Int} {vs : List V}, DpAll K F vs (ns.map .int) → vs = ns.map V.int
  | [], _, .nil => rfl
  | n :: ns, _, .cons h t => by rw [dp_int h, dpAll_ints t]; rfl
theorem dp_ints {K : PySem.W.Frag} {F : Hp} {v : V} {ns : List Int} (h : Dp K F v (.tuple (ns.map .int))) : ∃ a, v = .ref a ∧ SqT K F a (ns.map V.int) := by
  obtain ⟨a, xs, rfl, e, al⟩ := dp_tup h
  rw [dpAll_ints al] at e
  exact ⟨a, rfl, e⟩
theorem ev_ltT (hX : Nor X) (h : ev X a Γ Ω fun Ω1 φ => ev X b Γ Ω1 fun Ω2 ψ => ∃ ns ms : List Int, φ = isD X.K (.tuple (ns.map .int)) ∧ ψ = isD X.K (.tuple (ms.map .int)) ∧ k Ω2 (isD X.K (.bool (HT.lexLt ns ms)))) : ev X (.Compare a [.Lt] [b] pos) Γ Ω k :=
  ev_cmpN (op_ltT (by have := nor_u hX; omega)) (nomark _) (ev_imp h fun Ω1 φ g => ev_imp g fun Ω2 ψ ⟨ns, ms, e1, e2, g⟩ => bi_val g fun F H x y Q s p q z => by
    subst e1 e2
    obtain ⟨a1, rfl, c1⟩ := dp_ints p
    obtain ⟨a2, rfl, c2⟩ := dp_ints q
    exact ⟨a1, a2, ns, ms, rfl, rfl, sameT s c1, sameT s c2, z _ (.bl _)⟩)
end
end G
set_option Elab.async false
set_option linter.all false
set_option maxRecDepth 100000
set_option maxHeartbeats 4000000
/-! T0: what the top leaves, by names. -/
namespace G
open PySem PySem.Spec PyProof.Rows L2
def top (i : Nat) : Stmt := PySem.Challenge.pw_slideinto_k40_whole_least_plans.main.body.getD i (.Pass ⟨0, 0, 0, 0⟩)
def Df (K : PySem.W.Frag) (mg : Str → Option Value) (x : Str) (i : Nat) : Prop := ∃ f fd, Fun K x x (top i) f fd ∧ mg x = some (.ref f)
structure Txt (K : PySem.W.Frag) (mg : Str → Option Value) : Prop where
  is_whole : Df K mg "is_whole" 7
  is_between : Df K mg "is_between" 8
  is_cell : Df K mg "is_cell" 9
  check_cell : Df K mg "check_cell" 11
  beside : Df K mg "beside" 12
  taken_part : Df K mg "taken_part" 13
  parts_of : Df K mg "parts_of" 14
  hangs : Df K mg "hangs" 15
  is_body : Df K mg "is_body" 16
  is_free : Df K mg "is_free" 17
  free_squares : Df K mg "free_squares" 18
  frame_of : Df K mg "frame_of" 19
  moved : Df K mg "moved" 20
  shape_of : Df K mg "shape_of" 21
  check_body : Df K mg "check_body" 23
  supports_of : Df K mg "supports_of" 26
  squares_of : Df K mg "squares_of" 27
  kind_of : Df K mg "kind_of" 28
  moves_of : Df K mg "moves_of" 29
  done : Df K mg "done" 30
  corner_of : Df K mg "corner_of" 34
  check_number : Df K mg "check_number" 35
  followers : Df K mg "followers" 36
  spread : Df K mg "spread" 37
  least_plan : Df K mg "least_plan" 38
  law_pen : Df K mg "_law_pen" 40
  law_draw : Df K mg "_law_draw" 41
  law_pick : Df K mg "_law_pick" 42
  law_nb_beside : Df K mg "_law_nb_beside" 43
  law_nb_lots : Df K mg "_law_nb_lots" 44
  law_nb_free : Df K mg "_law_nb_free" 45
  law_nb_steps : Df K mg "_law_nb_steps" 46
  law_nb_both : Df K mg "_law_nb_both" 47
  law_nb_grown : Df K mg "_law_nb_grown" 48
  law_nb_crosses : Df K mg "_law_nb_crosses" 49
  law_nb_odd : Df K mg "_law_nb_odd" 50
  law_nb_shape : Df K mg "_law_nb_shape" 51
  law_nb_moves : Df K mg "_law_nb_moves" 52
  law_nb_layers : Df K mg "_law_nb_layers" 53
  law_refused : Df K mg "_law_refused" 54
  law_end : Df K mg "_law_end" 55
  law_drawn : Df K mg "_law_drawn" 56
  n_len : mg "len" = none
  n_isinstance : mg "isinstance" = none
  n_int : mg "int" = none
  n_bool : mg "bool" = none
  n_tuple : mg "tuple" = none
  n_list : mg "list" = none
  n_sorted : mg "sorted" = none
  n_all : mg "all" = none
  n_zip : mg "zip" = none
  n_abs : mg "abs" = none
  n_min : mg "min" = none
  n_max : mg "max" = none
  n_dict : mg "dict" = none
  n_set : mg "set" = none
  n_repr : mg "repr" = none
  most : ∃ t, mg "MOST" = some (.int 7 t)
structure Has (P : Program) (w : World) (K : PySem.W.Frag) (mg : Str → Option Value) (base : Heap) (n : Nat) (x : Str) (sp : Sp) : Prop where
  ex : ∃ f fd ps, FnOk P w K mg base CX0 n f fd ps sp ∧ mg x = some (.ref f) ∧ PySem.W.keepIn K (.ref f) = true ∧ Binds K fd ps []
theorem Has.cal {P : Program} {w : World} {K : PySem.W.Frag} {mg : Str → Option Value} {base : Heap} {n : Nat} {x : Str} {sp : Sp} {A : Around} (h : Has P w K mg base n x sp) {m : Nat} (hr : Room m A) (hn : n ≤ m := by decide) : Cal P w K mg base A x sp := by
  obtain ⟨f, fd, ps, a, b, c, d⟩ := h.ex
  exact ⟨n, f, fd, ps, a, hr.mono hn, b, c, d⟩
/-! ### data -/
abbrev Cell := Int × Int
abbrev cD (c : Cell) : PyData := .tuple [.int c.1, .int c.2]
abbrev bD (cs : List Cell) : PyData := .tuple (cs.map cD)
end G
set_option Elab.async false
set_option linter.all false
set_option maxRecDepth 100000
set_option maxHeartbeats 4000000
/-! G6: what is walked; list comprehensions. -/
namespace G
open PySem PySem.Spec PyProof.Rows L2 RZ
def wpI (X : Cx) (tg iter : Expr) : TI := fun σ H R => ∀ (pins : List (Addr × Obj)) (s : Shared), Inv X pins σ H s →
  wpAny (model X.prog X.w) X.A (eval iter X.env) (fun v s1 => wpAny (model X.prog X.w) X.A (pyIter v) (PIE X pins σ tg R) X.xe s1) X.xe s
def wpE2 (X : Cx) (e : Expr) : TE := fun σ H Q => wpE X e σ H fun v H' => (∃ pins s, Inv X pins σ H' s) → Q v H'
def wpA2 (X : Cx) (es : List Expr) : TA := fun σ H Q => wpA X es σ H fun v H' => (∃ pins s, Inv X pins σ H' s) → Q v H'
section
variable {X : Cx} {tg iter e : Expr} {es : List Expr} {σ : Stt} {H : Hp}
theorem piI : PI X tg iter (wpI X tg iter) := ⟨fun pins s _ _ _ I h => h pins s I⟩
theorem wpI_of {wi : TI} {R : It → Hp → Prop} (h : PI X tg iter wi) (q : wi σ H R) : wpI X tg iter σ H R := fun pins s I => h.run pins s σ H R I q
theorem peE2 : PE X e (wpE2 X e) := ⟨fun pins s σ H Q I h => thn (h pins s I) fun _ _ ⟨v, H', I', r, q⟩ => ⟨v, H', I', r, q ⟨_, _, I'⟩⟩⟩
theorem paA2 : PA X es (wpA2 X es) := ⟨fun pos pins s σ H Q I h => thn (h pos pins s I) fun _ _ ⟨v, H', I', r, q⟩ => ⟨v, H', I', r, q ⟨_, _, I'⟩⟩⟩
end
/-- what J yields: the data ds, one by one -/
def Feed (K : PySem.W.Frag) (J : It) (ds : List PyData) (F : Hp) : Prop := ∃ (G : Hp → Prop) (Y : Nat → Hp → V → Hp → Prop), Walk J ds.length G Y ∧ (∀ H, Same F H → G H) ∧
  ∀ j H x H', Same F H → Y j H x H' → ∃ d, ds[j]? = some d ∧ Same H H' ∧ ∀ O : List Addr, Same F (hid O H) → (∀ a ∈ O, H a ≠ none) → Dp K (hid O H') x d
def evI (X : Cx) (tg iter : Expr) (Γ : Ga) (Ω : Om) (k : Om → List PyData → Prop) : Prop := ∀ W : Wd, W.Ok Γ Ω → wpI X tg iter W.σ W.H fun J H1 =>
  ∃ Ω1 ds, k Ω1 ds ∧ (W.up H1).Ok Γ Ω1 ∧ Same (W.F Ω) ((W.up H1).F Ω1) ∧ ds.length ≤ sizeLine ∧ Feed X.K J ds ((W.up H1).F Ω1)
section
variable {X : Cx} {tg iter a b e : Expr} {es : List Expr} {Γ : Ga} {Ω : Om} {kI : Om → List PyData → Prop} {pos p1 p2 : Pos}
theorem evI_list (h : ev X iter Γ Ω fun Ω1 φ => ∃ ds, Lf X.K φ ds ∧ kI Ω1 ds) : evI X tg iter Γ Ω kI := fun W w => by
  refine wpI_of (pi_list peE2) ?_
  show wpE X iter W.σ W.H fun x H1 => (∃ pins s, Inv X pins W.σ H1 s) → _
  refine wpE_mono (h W w) ?_
  rintro v H1 ⟨Ω1, φ, ⟨ds, l, g⟩, k1, s1, p1⟩ ⟨pins, s, I⟩
  obtain ⟨a, xs, rfl, ea, al⟩ := l.at_ p1
  have hlen := dpAll_length al
  have eh : SqL X.K H1 a xs := hid_sub.seq ea
  obtain ⟨_, _, _, hz⟩ := I.list eh
  refine ⟨a, rfl, ⟨xs, eh⟩, Ω1, ds, g, k1, s1, by rw [← hlen]; exact hz, fun H => SqL X.K H a xs, YAt xs, ?_, fun H e => e.seq ea, ?_⟩
  · rw [← hlen]; exact walk_list
  · rintro j H x H' e ⟨rfl, hx⟩
    obtain ⟨d, hd, dx⟩ := dpAll_get' al hx
    exact ⟨d, hd, Same.refl _, fun O s _ => dpS s dx⟩
theorem evI_tup (h : ev X iter Γ Ω fun Ω1 φ => ∃ ds, φ = isD X.K (.tuple ds) ∧ kI Ω1 ds) : evI X tg iter Γ Ω kI := fun W w => by
  refine wpI_of (pi_tup peE2) ?_
  show wpE X iter W.σ W.H fun x H1 => (∃ pins s, Inv X pins W.σ H1 s) → _
  refine wpE_mono (h W w) ?_
  rintro v H1 ⟨Ω1, φ, ⟨ds, rfl, g⟩, k1, s1, p1⟩ ⟨pins, s, I⟩
  obtain ⟨a, xs, rfl, ea, al⟩ := dp_tup p1
  have hlen := dpAll_length al
  have eh : SqT X.K H1 a xs := sameT hid_sub ea
  obtain ⟨_, _, _, hz⟩ := I.tuple eh
  refine ⟨a, rfl, ⟨xs, eh⟩, Ω1, ds, g, k1, s1, by rw [← hlen]; exact hz, fun H => SqT X.K H a xs, YAt xs, ?_, fun H e => sameT e ea, ?_⟩
  · rw [← hlen]; exact walk_tup
  · rintro j H x H' e ⟨rfl, hx⟩
    obtain ⟨d, hd, dx⟩ := dpAll_get' al hx
    exact ⟨d, hd, Same.refl _, fun O s _ => dpS s dx⟩
theorem walk_zipT {K : PySem.W.Frag} {a b : Addr} {xs ys : List V} {n : Nat} (hn : n = min xs.length ys.length) : Walk (ItzT K a b) n (fun H => SqT K H a xs ∧ SqT K H b ys) (YPair (fun i => xs[i]?) (fun i => ys[i]?)) := by
  subst hn
  refine ⟨fun i _ hi q => ?_, fun _ q => ⟨xs, ys, q.1, q.2, by omega⟩, fun i H v H' _ q y => ?_⟩
  · have h1 : i < xs.length := by omega
    have h2 : i < ys.length := by omega
    exact ⟨xs, ys, xs[i], ys[i], q.1, q.2, by simp [h1], by simp [h2]⟩
  · obtain ⟨T, x, z, h1, h2, h3, h4, h5⟩ := y
    exact ⟨T, x, z, h1, h2, h3, h4 xs q.1, h5 ys q.2⟩
def pairs2 (d1 d2 : List PyData) : List PyData := List.zipWith (fun x y => .tuple [x, y]) d1 d2
theorem evI_zipT {elts : List Expr} {kk : Nat} (hm : X.mg "zip" = none) (h : evA X [a, b] Γ Ω fun Ω1 φs => ∃ d1 d2, φs = [isD X.K (.tuple d1), isD X.K (.tuple d2)] ∧ kI Ω1 (pairs2 d1 d2)) (hg : Gl X "zip" := by rfl)
    (hs : starEach [a, b] X.env = (false, eval a X.env) :: starEach [b] X.env := by rfl) (hpl : (backTo pos (starEach [b] X.env)).any (·.1) = false := by rfl) : evI X (.Tuple elts kk p1) (.Call (.Name "zip" p2) [a, b] [] pos) Γ Ω kI := fun W w => by
  refine wpI_of (pi_zipA hg hm paA2 hs hpl) ?_
  show wpA X [a, b] W.σ W.H fun x H1 => (∃ pins s, Inv X pins W.σ H1 s) → _
  refine wpA_mono (h W w) ?_
  rintro vs H1 ⟨Ω1, φs, ⟨d1, d2, rfl, g⟩, k1, s1, q1⟩ ⟨pins, s, I⟩
  obtain ⟨v, u, rfl, q1, q2⟩ := al2 q1
  obtain ⟨a1, xs, rfl, e1, al1⟩ := dp_tup q1
  obtain ⟨a2, ys, rfl, e2, al2⟩ := dp_tup q2
  have l1 := dpAll_length al1
  have l2 := dpAll_length al2
  have h1 : SqT X.K H1 a1 xs := sameT hid_sub e1
  have h2 : SqT X.K H1 a2 ys := sameT hid_sub e2
  obtain ⟨_, _, _, hz⟩ := I.tuple h1
  have hn : (pairs2 d1 d2).length = min xs.length ys.length := by unfold pairs2; rw [List.length_zipWith, l1, l2]
  refine ⟨a1, a2, xs, ys, rfl, .inr ⟨h1, h2, Ω1, _, g, k1, s1, by rw [hn]; omega, _, _, walk_zipT hn, fun H e => ⟨sameT e e1, sameT e e2⟩, ?_⟩⟩
  rintro j H x H' e ⟨T, x1, y1, rfl, hT, rfl, hx, hy⟩
  obtain ⟨c1, hc1, dx⟩ := dpAll_get' al1 hx
  obtain ⟨c2, hc2, dy⟩ := dpAll_get' al2 hy
  refine ⟨.tuple [c1, c2], ?_, new_same hT, fun O s hO => ?_⟩
  · unfold pairs2
    rw [List.getElem?_zipWith, hc1, hc2]
  · have hTO : T ∉ O := fun z => hO _ z hT
    have sN : Same (hid O H) (hid O (upd H T (.tup [x1, y1]))) := hid_same (new_same hT)
    exact .tup (SqT.of (by rw [hid_out hTO]; exact upd_same)) (.cons (dpS sN (dpS s dx)) (.cons (dpS sN (dpS s dy)) .nil))
end
/-! ### list comprehensions -/
def wipeG (Γ : Ga) : List Nat → Ga
  | [] => Γ
  | v :: vs => (wipeG Γ vs).set v none
theorem sl_wipe {F : Hp} {Γ : Ga} {σ : Stt} (h : Sl F Γ σ) : ∀ vs : List Nat, Sl F (wipeG Γ vs) (wipe σ vs)
  | [] => h
  | v :: vs => (sl_wipe h vs).drop v
/-- a comprehension's target, its tests, its element: the same in every block -/
def wpTs (X : Cx) (ifs : List Expr) : TT := fun σ H Q => ∀ (pins : List (Addr × Obj)) (s : Shared), Inv X pins σ H s →
  wpAny (model X.prog X.w) X.A (forIn ifs true fun c r => if r = true then do let ok ← isTrue c X.env (eval c X.env); pure (ForInStep.yield ok) else pure (ForInStep.yield r)) (TP X pins σ Q) X.xe s
theorem ptsT {X : Cx} {ifs : List Expr} : PTs X ifs (wpTs X ifs) := ⟨fun pins s _ _ _ I h => h pins s I⟩
theorem wpTs_of {X : Cx} {ifs : List Expr} {t : TT} {σ : Stt} {H : Hp} {Q : Bool → Hp → Prop} (h : PTs X ifs t) (q : t σ H Q) : wpTs X ifs σ H Q := fun pins s I => h.run pins s σ H Q I q
def evTs (X : Cx) (ifs : List Expr) (Γ : Ga) (Ω : Om) (k : Om → Bool → Prop) : Prop := ∀ W : Wd, W.Ok Γ Ω → wpTs X ifs W.σ W.H (PostT W Γ Ω k)
theorem evTs_nil {X : Cx} {Γ : Ga} {Ω : Om} {k : Om → Bool → Prop} (h : k Ω true) : evTs X [] Γ Ω k := fun W w => wpTs_of pts_nil (postT_pure w h)
theorem evTs_one {X : Cx} {c : Expr} {Γ : Ga} {Ω : Om} {k : Om → Bool → Prop} (h : evT X c Γ Ω k) : evTs X [c] Γ Ω k := fun W w => wpTs_of (pts_one ptT) (h W w)
abbrev Blk (X : Cx) (scope : Scope) (s : Shared) (H : Hp) (C : Addr) (cl : List (Str × Addr)) (fp : List Addr) : Cx := X.blk s H scope (compEnvC scope cl C X.env) fp
theorem Nor.blk {X : Cx} (h : Nor X) (scope : Scope) (s : Shared) (H : Hp) (C : Addr) (cl : List (Str × Addr)) (fp : List Addr) : Nor (Blk X scope s H C cl fp) := ⟨h.calm, h.nd, PassesOwn.never, h.room⟩
/-- a target in a block: from the slots Γ to the slots Γ' -/
def tgB (X : Cx) (tg : Expr) (vs : List Nat) (d : PyData) (Γ Γ' : Ga) : Prop := ∀ (F H : Hp) (x : V) (σ : Stt), Same F H → Dp X.K F x d → Sl F Γ σ → wpG X tg x σ H fun σ2 H2 => H2 = H ∧ (wipe σ vs = σ → wipe σ2 vs = σ) ∧ Sl F Γ' σ2
theorem wipe_set {σ : Stt} {i : Nat} {v : V} (h : wipe σ [i] = σ) : wipe (σ.set i (some v)) [i] = σ := by
  show (σ.set i (some v)).set i none = σ
  rw [List.set_set]
  exact h
theorem tgB_name {X : Cx} {i : Nat} {x : Str} {d : PyData} {Γ : Ga} {pos : Pos} (hN : X.N.Nodup) (hi : X.N[i]? = some x) (hx : Loc X.env.scope x := by first | exact Or.inl rfl | exact Or.inr rfl)
    (hf : X.fn x = true ∨ X.env.scope.names.lookup x = some .local := by first | exact .inr rfl | exact .inl rfl) : tgB X (.Name x pos) [i] d Γ (Γ.set i (some (isD X.K d))) := fun F H v σ s p l =>
  wpG_of (pg_name hN hi hx hf) ⟨rfl, wipe_set, l.set (φ := isD X.K d) p i⟩
theorem tgB_pair {X : Cx} {i j : Nat} {x y : Str} {d1 d2 : PyData} {Γ : Ga} {pos px py : Pos} {n : Nat} (hc : X.calm = true) (hN : X.N.Nodup) (hi : X.N[i]? = some x) (hj : X.N[j]? = some y) (hij : i ≠ j)
    (hx : Loc X.env.scope x := by first | exact Or.inl rfl | exact Or.inr rfl) (hy : Loc X.env.scope y := by first | exact Or.inl rfl | exact Or.inr rfl)
    (hf : X.fn x = true ∨ X.env.scope.names.lookup x = some .local := by first | exact .inr rfl | exact .inl rfl) (hg : X.fn y = true ∨ X.env.scope.names.lookup y = some .local := by first | exact .inr rfl | exact .inl rfl)
    (h1 : (assignEach [.Name x px, .Name y py] X.env).map (·.2) = assign (.Name x px) X.env :: (assignEach [.Name y py] X.env).map (·.2) := by rfl) (h2 : (assignEach [.Name y py] X.env).map (·.2) = assign (.Name y py) X.env :: (assignEach [] X.env).map (·.2) := by rfl)
    (hn : (assignEach [.Name x px, .Name y py] X.env).length = 2 := by rfl) (hst : (assignEach [.Name x px, .Name y py] X.env).findIdx? (·.1) = none := by rfl) :
    tgB X (.Tuple [.Name x px, .Name y py] n pos) [i, j] (.tuple [d1, d2]) Γ ((Γ.set i (some (isD X.K d1))).set j (some (isD X.K d2))) := fun F H v σ s p l => by
  refine wpG_of (pg_tup hc (pgs_cons (pg_name hN hi hx hf) (pgs_cons (pg_name hN hj hy hg) pgs_nil h2) h1) hn hst) ?_
  obtain ⟨a, xs, rfl, e, al⟩ := dp_tup p
  cases al with
  | cons q1 al =>
    cases al with
    | cons q2 al =>
      cases al
      refine ⟨a, _, rfl, sameT s e, rfl, _, _, rfl, _, _, rfl, rfl, rfl, fun hw => ?_, (l.set (φ := isD X.K d1) q1 i).set (φ := isD X.K d2) q2 j⟩
      have hw' : (σ.set j none).set i none = σ := hw
      show ((((σ.set i (some _)).set j (some _)).set j none).set i none) = σ
      rw [List.set_set, List.set_comm _ _ (Ne.symm hij), List.set_set]
      first
        | exact hw'
        | (rw [List.set_comm _ _ hij]; exact hw')
        | (rw [List.set_comm _ _ (Ne.symm hij)]; exact hw')
theorem wipe_wipe1 (σ : Stt) (i : Nat) : wipe (wipe σ [i]) [i] = wipe σ [i] := by
  show (σ.set i none).set i none = σ.set i none
  rw [List.set_set]
theorem wipe_wipe2 (σ : Stt) (i j : Nat) : wipe (wipe σ [i, j]) [i, j] = wipe σ [i, j] := by
  show ((((σ.set j none).set i none).set j none).set i none) = (σ.set j none).set i none
  by_cases h : i = j
  · subst h; rw [List.set_set, List.set_set, List.set_set]
  · have e1 : ((σ.set j none).set i none).set j none = ((σ.set j none).set j none).set i none := List.set_comm none none h
    rw [e1, List.set_set, List.set_set]
/-- what the block's three parts do with an item -/
structure Part {α : Type} (X : Cx) (scope : Scope) (tg : Expr) (ifs : List Expr) (elt : Expr) (vs : List Nat) (Γ : Ga) (Ω : Om) (enc f : α → PyData) (t : α → Bool) (Γt : α → Ga) (a : α) (X' : Cx) : Prop where
  tg : tgB X' tg vs (enc a) (wipeG Γ vs) (Γt a)
  ts : evTs X' ifs (Γt a) Ω fun Ω2 b => Ω2 = Ω ∧ b = t a
  el : t a = true → ev X' elt (Γt a) Ω fun Ω3 φ => Ω3 = Ω ∧ Dat X.K φ (f a)
def outp {α : Type} (as : List α) (t : α → Bool) (f : α → PyData) : List PyData := (as.filter t).map f
theorem outp_yes {α : Type} {as : List α} {t : α → Bool} {f : α → PyData} {j : Nat} {a : α} (h : as[j]? = some a) (ht : t a = true) : outp (as.take (j + 1)) t f = outp (as.take j) t f ++ [f a] := by
  unfold outp
  rw [List.take_add_one, h, Option.toList_some, List.filter_append, List.map_append, List.filter_cons, if_pos ht]; rfl
theorem outp_no {α : Type} {as : List α} {t : α → Bool} {f : α → PyData} {j : Nat} {a : α} (h : as[j]? = some a) (ht : t a = false) : outp (as.take (j + 1)) t f = outp (as.take j) t f := by
  unfold outp
  rw [List.take_add_one, h, Option.toList_some, List.filter_append, List.map_append, List.filter_cons, if_neg (by rw [ht]; decide), List.filter_nil, List.map_nil, List.append_nil]
theorem outp_len {α : Type} (as : List α) (t : α → Bool) (f : α → PyData) (j : Nat) : (outp (as.take j) t f).length ≤ j := by
  unfold outp
  rw [List.length_map]
  exact Nat.le_trans (List.length_filter_le _ _) (by rw [List.length_take]; omega)
section
variable {X : Cx} {tg iter elt : Expr} {ifs : List Expr} {scope : Scope} {Γ : Ga} {Ω : Om} {pos pos' spos py : Pos} {vs : List Nat}
def tgU (X : Cx) (scope : Scope) (tg : Expr) : TG := fun v σ H Q => ∀ s H0 C cl fp, wpG (Blk X scope s H0 C cl fp) tg v σ H Q
def ttU (X : Cx) (scope : Scope) (ifs : List Expr) : TT := fun σ H Q => ∀ s H0 C cl fp, wpTs (Blk X scope s H0 C cl fp) ifs σ H Q
def teU (X : Cx) (scope : Scope) (e : Expr) : TE := fun σ H Q => ∀ s H0 C cl fp, wpE (Blk X scope s H0 C cl fp) e σ H Q
theorem pgU (s : Shared) (H0 : Hp) (C : Addr) (cl : List (Str × Addr)) (fp : List Addr) : PG (Blk X scope s H0 C cl fp) tg (tgU X scope tg) := ⟨fun pins s' _ _ _ u _ I r h => h s H0 C cl fp pins s' u I r⟩
theorem ptU (s : Shared) (H0 : Hp) (C : Addr) (cl : List (Str × Addr)) (fp : List Addr) : PTs (Blk X scope s H0 C cl fp) ifs (ttU X scope ifs) := ⟨fun pins s' _ _ _ I h => h s H0 C cl fp pins s' I⟩
theorem peU (s : Shared) (H0 : Hp) (C : Addr) (cl : List (Str × Addr)) (fp : List Addr) : PE (Blk X scope s H0 C cl fp) elt (teU X scope elt) := ⟨fun pins s' _ _ _ I h => h s H0 C cl fp pins s' I⟩
/-- the world of a block's turn -/
def bw (W : Wd) (Ω : Om) (D : Addr) (σ : Stt) (H : Hp) : Wd := ⟨hid (own Ω) H, D :: W.O0, σ, H⟩
theorem hid_none {O : List Addr} {H : Hp} {a : Addr} (h : H a = none) : hid O H a = none := by
  by_cases z : a ∈ O
  · exact hid_in z
  · rw [hid_out z, h]
/-- what holds between two turns -/
structure Mid (W : Wd) (Ω : Om) (D : Addr) (K : PySem.W.Frag) (ds : List PyData) (H : Hp) : Prop where
  acc : ∃ xs, H D = some (.lst xs) ∧ DpAll K (hid (own Ω ++ D :: W.O0) H) xs ds
  fr : Same (W.F Ω) (hid (own Ω ++ D :: W.O0) H)
  ow : ∀ q ∈ Ω, ∃ o, H q.1 = some o ∧ q.2.p (hid (own Ω ++ D :: W.O0) H) o
  sm : Same W.H0 H
theorem Mid.ok {W : Wd} {D : Addr} {K : PySem.W.Frag} {ds : List PyData} {H : Hp} (m : Mid W Ω D K ds H) {Γ' : Ga} {σ : Stt} (w : W.Ok Γ Ω) (hD : D ∉ own Ω) (l : Sl (hid (own Ω ++ D :: W.O0) H) Γ' σ) : (bw W Ω D σ H).Ok Γ' Ω := by
  refine ⟨l, m.ow, w.nd, fun q hq => hid_in (List.mem_map.mpr ⟨q, hq, rfl⟩), hid_sub, fun a ha => ?_⟩
  have ho : a ∉ own Ω ∧ H a ≠ none := by
    rcases List.mem_cons.mp ha with z | z
    · obtain ⟨xs, e, _⟩ := m.acc
      rw [z]
      exact ⟨hD, by rw [e]; intro n; cases n⟩
    · refine ⟨fun y => ?_, ?_⟩
      · obtain ⟨q, hq, rfl⟩ := List.mem_map.mp y
        exact w.out2 hq z
      · have n := w.tr a z
        cases e : W.H0 a with
        | none => exact absurd e n
        | some o => rw [m.sm _ _ e]; intro q; cases q
  show hid (own Ω) H a ≠ none
  rw [hid_out ho.1]
  exact ho.2
theorem Mid.step {W : Wd} {D : Addr} {K : PySem.W.Frag} {ds : List PyData} {H H2 : Hp} (m : Mid W Ω D K ds H) (w : W.Ok Γ Ω) (hD : D ∉ own Ω) (s0 : Same (hid (own Ω) H) H2) (s1 : Same (hid (own Ω ++ D :: W.O0) H) (hid (own Ω ++ D :: W.O0) H2))
    (ow : ∀ q ∈ Ω, ∃ o, H2 q.1 = some o ∧ q.2.p (hid (own Ω ++ D :: W.O0) H2) o) : Mid W Ω D K ds H2 := by
  obtain ⟨xs, e, al⟩ := m.acc
  refine ⟨⟨xs, s0 _ _ (by rw [hid_out hD]; exact e), dpAllS s1 al⟩, m.fr.trans s1, ow, fun a o q => ?_⟩
  have hn : a ∉ own Ω := fun y => by
    obtain ⟨z, hz, rfl⟩ := List.mem_map.mp y
    rw [w.nw z hz] at q; cases q
  exact s0 _ _ (by rw [hid_out hn]; exact m.sm _ _ q)
theorem lc_read {α : Type} (hc : X.calm = true) (as : List α) (enc f : α → PyData) (t : α → Bool) (Γt : α → Ga) {k : Om → MP → Prop} (hv : ∀ σ : Stt, wipe (wipe σ vs) vs = wipe σ vs)
    (h : evI X tg iter Γ Ω fun Ω1 ds => ds = as.map enc ∧ (∀ s H0 C cl fp, ∀ a ∈ as, Part X scope tg ifs elt vs Γ Ω1 enc f t Γt a (Blk X scope s H0 C cl fp)) ∧ k Ω1 (isL X.K (outp as t f))) (W : Wd) (w : W.Ok Γ Ω) {Q : VK} (hq : ∀ v H', Post W Γ Ω k v H' → Q v H') :
    tLc (wpI X tg iter) (tgU X scope tg) (ttU X scope ifs) (teU X scope elt) vs W.σ W.H Q := by
  have g := h W w
  intro pins s I
  refine thn (g pins s I) fun v s1 hv1 => thn hv1 ?_
  rintro itv s2 ⟨it, fp, tn, J, H1, rfl, I1, T, st, ff, Ω1, ds, ⟨rfl, hp, hk⟩, k1, s1, hz, G', Y, wk, hG, hY⟩
  refine ⟨it, fp, tn, J, H1, rfl, I1, T, st, ff, fun D hD => ?_⟩
  have hDo : D ∉ own Ω1 ++ W.O0 := k1.out hD
  have hDw : D ∉ own Ω1 := fun z => hDo (List.mem_append_left _ z)
  have hD0 : W.H0 D = none := k1.sm.free hD
  have sub2 : ∀ H' : Hp, Same (hid (own Ω1 ++ D :: W.O0) H') (hid (own Ω1 ++ W.O0) H') := fun H' => hid_anti fun a ha => by
    rcases List.mem_append.mp ha with z | z
    · exact List.mem_append_left _ z
    · exact List.mem_append_right _ (List.mem_cons_of_mem _ z)
  have m0 : Mid (W.up H1) Ω1 D X.K [] (upd H1 D (.lst [])) := by
    have s0 : Same (hid (own Ω1 ++ W.O0) H1) (hid (own Ω1 ++ D :: W.O0) (upd H1 D (.lst []))) := fun a o e => by
      have hne : a ≠ D := fun z => by rw [z, hid_none hD] at e; cases e
      have hno : a ∉ own Ω1 ++ W.O0 := fun z => by rw [hid_in z] at e; cases e
      rw [hid_out hno] at e
      rw [hid_out, upd_ne hne]
      · exact e
      · intro z
        rcases List.mem_append.mp z with z | z
        · exact hno (List.mem_append_left _ z)
        · rcases List.mem_cons.mp z with z | z
          · exact hne z
          · exact hno (List.mem_append_right _ z)
    exact ⟨⟨[], upd_same, .nil⟩, s0, fun q hq => let ⟨o, e1, e2⟩ := k1.ow q hq; ⟨o, new_same hD _ _ e1, q.2.mono s0 e2⟩, k1.sm.trans (new_same hD)⟩
  have hlen : (as.map enc).length = as.length := List.length_map _
  refine lc_it (n := as.length) (by rw [← hlen]; exact wk) (fun j H' => Mid (W.up H1) Ω1 D X.K (outp (as.take j) t f) H') m0 (fun j H' _ m => hG H' (m.fr.trans hid_sub)) ?_ ?_
  · rintro j x H2 H3 hj m y
    obtain ⟨d, hd, s23, hdp⟩ := hY j H2 x H3 (m.fr.trans hid_sub) y
    have hO : ∀ a ∈ own Ω1 ++ D :: W.O0, H2 a ≠ none := fun a ha n => by
      rcases List.mem_append.mp ha with z | z
      · obtain ⟨q, hq, rfl⟩ := List.mem_map.mp z
        obtain ⟨o, e, _⟩ := m.ow q hq
        rw [n] at e; cases e
      · rcases List.mem_cons.mp z with z | z
        · obtain ⟨xs, e, _⟩ := m.acc
          rw [← z, n] at e; cases e
        · have q := k1.tr a z
          cases e : W.H0 a with
          | none => exact q e
          | some o => rw [m.sm _ _ e] at n; cases n
    have dx := hdp _ m.fr hO
    rw [List.getElem?_map] at hd
    obtain ⟨a, ha, rfl⟩ := Option.map_eq_some_iff.mp hd
    have hm : a ∈ as := List.mem_of_getElem? ha
    have m3 : Mid (W.up H1) Ω1 D X.K (outp (as.take j) t f) H3 := m.step k1 hDw (fun b o e => s23 _ _ (hid_sub _ _ e)) (hid_same s23) fun q hq => let ⟨o, e1, e2⟩ := m.ow q hq; ⟨o, s23 _ _ e1, q.2.mono (hid_same s23) e2⟩
    have l0 : Sl (hid (own Ω1 ++ D :: W.O0) H3) (wipeG Γ vs) (wipe W.σ vs) := sl_wipe (k1.sl.mono m3.fr) vs
    show ∀ s H0 C cl fp, wpG (Blk X scope s H0 C cl fp) tg x (wipe W.σ vs) H3 _
    intro s' H0' C' cl' fp'
    refine wpG_mono ((hp s' H0' C' cl' fp' a hm).tg _ H3 x _ hid_sub dx l0) ?_
    rintro σ2 H6 ⟨e6, hw2, l2⟩
    rw [e6]
    refine ⟨hw2 (hv _), ?_⟩
    show ∀ s H0 C cl fp, wpTs (Blk X scope s H0 C cl fp) ifs σ2 H3 _
    intro s'' H0'' C'' cl'' fp''
    have w3 := m3.ok (σ := σ2) k1 hDw l2
    have g2 := (hp s'' H0'' C'' cl'' fp'' a hm).ts _ w3
    intro pins' s4 I4
    refine thn (g2 pins' s4 I4) ?_
    rintro b s5 ⟨H4, I5, Ω2, ⟨rfl, rfl⟩, w4, s34⟩
    refine ⟨H4, I5, ?_⟩
    have m4 : Mid (W.up H1) Ω2 D X.K (outp (as.take j) t f) H4 := m3.step k1 hDw w4.sm s34 w4.ow
    cases hta : t a with
    | false =>
      show Mid (W.up H1) Ω2 D X.K (outp (as.take (j + 1)) t f) H4
      rw [outp_no ha hta]
      exact m4
    | true =>
      show ∀ s H0 C cl fp, wpE (Blk X scope s H0 C cl fp) elt σ2 H4 fun y H5 => ∃ acc, H5 D = some (.lst acc) ∧ acc.length < sizeLine ∧ Mid (W.up H1) Ω2 D X.K (outp (as.take (j + 1)) t f) (upd H5 D (.lst (acc ++ [y])))
      intro s6 H06 C6 cl6 fp6
      have w5 := m4.ok (σ := σ2) k1 hDw (l2.mono s34)
      refine wpE_mono ((hp s6 H06 C6 cl6 fp6 a hm).el hta _ w5) ?_
      rintro y H5 ⟨Ω3, φ, ⟨rfl, hφ⟩, w6, s45, p6⟩
      have m5 : Mid (W.up H1) Ω3 D X.K (outp (as.take j) t f) H5 := m4.step k1 hDw w6.sm s45 w6.ow
      obtain ⟨xs, e5, al5⟩ := m5.acc
      have hl5 : xs.length ≤ j := by rw [dpAll_length al5]; exact outp_len as t f j
      have hjz : j < sizeLine := by rw [hlen] at hz; omega
      refine ⟨xs, e5, by omega, ?_⟩
      have hmem : D ∈ own Ω3 ++ D :: W.O0 := List.mem_append_right _ List.mem_cons_self
      have eF : hid (own Ω3 ++ D :: (W.up H1).O0) (upd H5 D (.lst (xs ++ [y]))) = hid (own Ω3 ++ D :: W.O0) H5 := hid_upd hmem
      rw [outp_yes ha hta]
      refine ⟨⟨_, upd_same, by rw [eF]; exact dpAll_append al5 (.cons (hφ _ _ p6) .nil)⟩, by rw [eF]; exact m5.fr, fun q hq => ?_, fun b o e => ?_⟩
      · obtain ⟨o, e1, e2⟩ := m5.ow q hq
        have hne : q.1 ≠ D := fun z => hDw (List.mem_map.mpr ⟨q, hq, z⟩)
        exact ⟨o, by rw [upd_ne hne]; exact e1, by rw [eF]; exact e2⟩
      · rw [upd_ne (ne_of_none e hD0)]
        exact m5.sm _ _ e
  · rintro H' m
    obtain ⟨xs, e, al⟩ := m.acc
    have s2 : Same ((W.up H1).F Ω1) ((W.up H').F Ω1) := m.fr.trans (sub2 H')
    rw [List.take_length] at al
    refine hq _ _ ⟨Ω1, _, hk, ⟨k1.sl.mono s2, fun q hq => let ⟨o, a, b⟩ := m.ow q hq; ⟨o, a, q.2.mono (sub2 H') b⟩, k1.nd, k1.nw, m.sm, k1.tr⟩, s1.trans s2, D, _, rfl, ?_, xs, rfl, dpAllS (sub2 H') al⟩
    show hid (own Ω1 ++ W.O0) H' D = _
    rw [hid_out hDo]
    exact e
theorem ev_lc {α : Type} (hX : Nor X) (as : List α) (enc f : α → PyData) (t : α → Bool) (Γt : α → Ga) {own : List (Str × Nat)} (hv : ∀ σ : Stt, wipe (wipe σ (own.map (·.2))) (own.map (·.2)) = wipe σ (own.map (·.2))) (ok : BlkOk X.N X.env.scope scope own) {k : Om → MP → Prop}
    (h : evI X tg iter Γ Ω fun Ω1 ds => ds = as.map enc ∧ (∀ s H0 C cl fp, ∀ a ∈ as, Part X scope tg ifs elt (own.map (·.2)) Γ Ω1 enc f t Γt a (Blk X scope s H0 C cl fp)) ∧ k Ω1 (isL X.K (outp as t f)))
    (hs : ∀ x, foldedSetIterable iter X.env x = pure x := by intro _; rfl) : ev X (.ListComp elt [⟨tg, iter, ifs, 0⟩] scope pos) Γ Ω k := fun W w =>
  wpE_of (pe_lc hX.calm hX.nd piI ok pgU ptU peU hs) (lc_read hX.calm as enc f t Γt hv h W w fun _ _ q => q)
/-- name = [..] -/
theorem st_setLc {α : Type} {D : SEnd} {i : Nat} {y : Str} (hX : Nor X) (hi : X.N[i]? = some y) (as : List α) (enc f : α → PyData) (t : α → Bool) (Γt : α → Ga) {own : List (Str × Nat)} (hv : ∀ σ : Stt, wipe (wipe σ (own.map (·.2))) (own.map (·.2)) = wipe σ (own.map (·.2))) (ok : BlkOk X.N X.env.scope scope own)
    (hsw : swapsWith (.ListComp elt [⟨tg, iter, ifs, 0⟩] scope pos) (some (.Name y py)) spos.line X.env = pure true)
    (h : evI X tg iter Γ Ω fun Ω1 ds => ds = as.map enc ∧ (∀ s H0 C cl fp, ∀ a ∈ as, Part X scope tg ifs elt (own.map (·.2)) Γ Ω1 enc f t Γt a (Blk X scope s H0 C cl fp)) ∧ D.nx (Γ.set i (some (isL X.K (outp as t f)))) Ω1)
    (hyl : X.env.scope.names.lookup y = some .local := by rfl) (hs : ∀ x, foldedSetIterable iter X.env x = pure x := by intro _; rfl) : st X (.Assign [.Name y py] (.ListComp elt [⟨tg, iter, ifs, 0⟩] scope pos) spos) Γ Ω D := fun W w => by
  refine wpS_of (ps_setLc hX.calm hX.nd hi hyl hsw piI ok pgU ptU peU hs) ?_
  refine lc_read (k := fun Ω1 φ => D.nx (Γ.set i (some φ)) Ω1) hX.calm as enc f t Γt hv h W w ?_
  rintro v H' ⟨Ω', φ, a, b, c, d⟩
  exact ⟨_, Ω', a, b.set d i, c⟩
end
end G
set_option Elab.async false
set_option linter.all false
set_option maxRecDepth 100000
set_option maxHeartbeats 4000000
/-! G7: dicts whose keys are tuples, nested. -/
namespace G
open PySem PySem.Spec PyProof.Rows L2
abbrev NK := NestedKey
abbrev nkD (P : Program) (w : World) : HeapKind P w NestedKey := nestedKind P w
mutual
theorem nested_of {X : Cx} {pins : List (Addr × Obj)} {σ : Stt} {H : Hp} {s : Shared} (I : Inv X pins σ H s) : ∀ (k : NK) (v : V) (u : Value), Dp X.K H v k.data → RelV v u → NestedIs s.heap k u
  | .none, v, u, h, r => by
    obtain rfl := dp_none (show Dp X.K H v .none from h)
    obtain rfl : u = Value.none := r
    exact .none
  | .num i, v, u, h, r => by
    obtain rfl := dp_int (show Dp X.K H v (.int i) from h)
    obtain ⟨t, rfl⟩ := r
    exact .int i t
  | .text x, v, u, h, r => by
    obtain rfl := dp_str (show Dp X.K H v (.str x) from h)
    obtain ⟨t, rfl⟩ := r
    exact .text x t
  | .tup ks, v, u, h, r => by
    obtain ⟨a, xs, rfl, e, al⟩ := dp_tup (show Dp X.K H v (.tuple (NestedKey.datas ks)) from h)
    obtain rfl : u = Value.ref a := r
    obtain ⟨its, rv, ⟨o, ho, hc, n, hd⟩, _⟩ := I.tuple e
    exact .tup ho hc hd (by simpa using nesteds_of I ks xs its al rv)
theorem nesteds_of {X : Cx} {pins : List (Addr × Obj)} {σ : Stt} {H : Hp} {s : Shared} (I : Inv X pins σ H s) : ∀ (ks : List NK) (vs : List V) (us : List Value), DpAll X.K H vs (NestedKey.datas ks) → Vals vs us → NestedAll s.heap ks us
  | [], vs, us, h, r => by
    have h' : DpAll X.K H vs [] := h
    cases h'
    cases r
    exact .nil
  | k :: ks, vs, us, h, r => by
    have h' : DpAll X.K H vs (k.data :: NestedKey.datas ks) := h
    cases h' with
    | cons h1 h2 =>
      cases r with
      | cons r1 r2 => exact .cons (nested_of I k _ _ h1 r1) (nesteds_of I ks _ _ h2 r2)
end
/-- a key: its address stands for it, and it is not deep -/
structure Key1 (K : PySem.W.Frag) (F : Hp) (k : NK) (a : Addr) : Prop where
  dp : Dp K F (.ref a) k.data
  dep : k.depth ≤ 8
theorem Key1.mono {K : PySem.W.Frag} {F F' : Hp} {k : NK} {a : Addr} (e : Same F F') (h : Key1 K F k a) : Key1 K F' k a := ⟨dpS e h.dp, h.dep⟩
theorem Key1.is {X : Cx} {pins : List (Addr × Obj)} {σ : Stt} {H : Hp} {s : Shared} (I : Inv X pins σ H s) {k : NK} {a : Addr} (h : Key1 X.K H k a) : (nkD X.prog X.w).is s.heap k a := ⟨nested_of I k _ _ h.dp rfl, h.dep⟩
abbrev Ent := NK × Addr × V
abbrev RelE : List Ent → List (NK × Addr × Value) → Prop := Paired fun x y => x.1 = y.1 ∧ x.2.1 = y.2.1 ∧ RelV x.2.2 y.2.2
/-- the dict at p, its entries -/
def DctAt (P : Program) (w : World) (p : Addr) (xs : List Ent) (h : Heap) : Prop :=
  (p == sysModules) = false ∧ xs.length ≤ sizeLine ∧ ∃ vs, RelE xs vs ∧ ∃ o es ep, h.get? p = some o ∧ o.ExactDict ∧ o.data = .dict es ep ∧ es.toList = vs.map (entryOfKey (nkD P w)) ∧ (vs.map (·.1)).Nodup
def dctH (P : Program) (w : World) (p : Addr) (xs : List Ent) : HO := .ext (DctAt P w p xs)
theorem dctH_ok {P : Program} {w : World} {H : Hp} {h : Heap} {p : Addr} {xs : List Ent} (d : DctAt P w p xs h) : ObjOk P w H h p (dctH P w p xs) := by
  refine ⟨d, ?_, fun h1 h2 q k => ?_⟩
  · obtain ⟨_, _, vs, _, o, es, ep, ho, _⟩ := d
    exact ⟨o, ho⟩
  · obtain ⟨a, b, vs, c, o, es, ep, ho, r⟩ := q
    exact ⟨a, b, vs, c, o, es, ep, k o ho, r⟩
/-- entries as what is known of their values -/
inductive KvOk (K : PySem.W.Frag) (F : Hp) : List Ent → List (NK × MP) → Prop
  | nil : KvOk K F [] []
  | cons {k : NK} {a : Addr} {v : V} {φ : MP} {xs : List Ent} {kvs : List (NK × MP)} : Key1 K F k a → φ.p F v → KvOk K F xs kvs → KvOk K F ((k, a, v) :: xs) ((k, φ) :: kvs)
theorem KvOk.mono {K : PySem.W.Frag} {F F' : Hp} (e : Same F F') : ∀ {xs : List Ent} {kvs : List (NK × MP)}, KvOk K F xs kvs → KvOk K F' xs kvs
  | _, _, .nil => .nil
  | _, _, .cons a b c => .cons (a.mono e) (MP.mono _ e b) (c.mono e)
theorem KvOk.length {K : PySem.W.Frag} {F : Hp} : ∀ {xs : List Ent} {kvs : List (NK × MP)}, KvOk K F xs kvs → xs.length = kvs.length
  | _, _, .nil => rfl
  | _, _, .cons _ _ c => congrArg (· + 1) c.length
theorem KvOk.append {K : PySem.W.Frag} {F : Hp} {ys : List Ent} {ks : List (NK × MP)} (h : KvOk K F ys ks) : ∀ {xs : List Ent} {kvs : List (NK × MP)}, KvOk K F xs kvs → KvOk K F (xs ++ ys) (kvs ++ ks)
  | _, _, .nil => h
  | _, _, .cons a b c => .cons a b (KvOk.append h c)
theorem KvOk.key {K : PySem.W.Frag} {F : Hp} : ∀ {xs : List Ent} {kvs : List (NK × MP)}, KvOk K F xs kvs → ∀ x ∈ xs, Key1 K F x.1 x.2.1
  | _, _, .nil, x, h => nomatch h
  | _, _, .cons a _ c, x, h => by
    rcases List.mem_cons.mp h with rfl | h
    · exact a
    · exact c.key x h
def look (kvs : List (NK × MP)) (k : NK) : Option MP := (kvs.find? fun x => decide (x.1 = k)).map (·.2)
def gone (kvs : List (NK × MP)) (k : NK) : List (NK × MP) := kvs.filter fun x => decide (x.1 ≠ k)
theorem KvOk.gone {K : PySem.W.Frag} {F : Hp} (k : NK) : ∀ {xs : List Ent} {kvs : List (NK × MP)}, KvOk K F xs kvs → KvOk K F (xs.filter fun x => decide (x.1 ≠ k)) (gone kvs k)
  | _, _, .nil => .nil
  | _, _, @KvOk.cons _ _ k' a v φ xs kvs h1 h2 h3 => by
    unfold G.gone
    rw [List.filter_cons, List.filter_cons]
    by_cases e : k' = k
    · rw [if_neg (by simpa using e), if_neg (by simpa using e)]
      exact h3.gone k
    · rw [if_pos (by simpa using e), if_pos (by simpa using e)]
      exact .cons h1 h2 (h3.gone k)
theorem KvOk.look {K : PySem.W.Frag} {F : Hp} {k : NK} : ∀ {xs : List Ent} {kvs : List (NK × MP)} {vs : List (NK × Addr × Value)}, KvOk K F xs kvs → RelE xs vs → (∀ φ, look kvs k = some φ → ∃ a v u, atKey vs k = some (a, u) ∧ RelV v u ∧ φ.p F v) ∧ (look kvs k = none → atKey vs k = none)
  | _, _, _, .nil, .nil => ⟨fun _ h => (by cases h), fun _ => rfl⟩
  | _, _, _, @KvOk.cons _ _ k' a v φ xs kvs h1 h2 h3, .cons (b := y) r t => by
    obtain ⟨e1, e2, r3⟩ := r
    have ih := h3.look (k := k) t
    unfold G.look atKey
    rw [List.find?_cons, List.find?_cons]
    by_cases e : k' = k
    · have e' : y.1 = k := e1.symm.trans e
      rw [decide_eq_true e, decide_eq_true e']
      refine ⟨fun ψ q => ?_, fun q => by cases q⟩
      cases q
      exact ⟨y.2.1, v, y.2.2, rfl, r3, h2⟩
    · have e' : ¬ y.1 = k := fun z => e (e1.trans z)
      rw [decide_eq_false e, decide_eq_false e']
      exact ih
theorem relE_gone (k : NK) : ∀ {xs : List Ent} {vs : List (NK × Addr × Value)}, RelE xs vs → RelE (xs.filter fun x => decide (x.1 ≠ k)) (withoutH vs k)
  | _, _, .nil => .nil
  | _, _, .cons (a := x) (b := y) r t => by
    unfold withoutH
    rw [List.filter_cons, List.filter_cons]
    by_cases e : x.1 = k
    · have e' : y.1 = k := r.1.symm.trans e
      rw [if_neg (by simpa using e), if_neg (by simpa using e')]
      exact relE_gone k t
    · have e' : ¬ y.1 = k := fun z => e (r.1.trans z)
      rw [if_pos (by simpa using e), if_pos (by simpa using e')]
      exact .cons r (relE_gone k t)
theorem relE_append : ∀ {xs ys : List Ent} {vs ws : List (NK × Addr × Value)}, RelE xs vs → RelE ys ws → RelE (xs ++ ys) (vs ++ ws)
  | _, _, _, _, .nil, h => h
  | _, _, _, _, .cons r t, h => .cons r (relE_append t h)
def dctO (P : Program) (w : World) (K : PySem.W.Frag) (p : Addr) (kvs : List (NK × MP)) : MO := ⟨fun F o => ∃ xs, o = dctH P w p xs ∧ KvOk K F xs kvs, fun e h => let ⟨xs, a, b⟩ := h; ⟨xs, a, b.mono e⟩⟩
/-- a dict that stands for good -/
def isM (P : Program) (w : World) (K : PySem.W.Frag) (kvs : List (NK × MP)) : MP := ⟨fun F v => ∃ p xs, v = .ref p ∧ F p = some (dctH P w p xs) ∧ KvOk K F xs kvs, fun e h => let ⟨p, xs, a, b, c⟩ := h; ⟨p, xs, a, e _ _ b, c.mono e⟩⟩
theorem frz_isM {P : Program} {w : World} {K : PySem.W.Frag} {p : Addr} {kvs : List (NK × MP)} {F : Hp} {v : V} {o : HO} (h : F p = some o) (e : v = .ref p) (q : (dctO P w K p kvs).p F o) : (isM P w K kvs).p F v := by
  obtain ⟨xs, rfl, z⟩ := q
  exact ⟨p, xs, e, h, z⟩
section
variable {X : Cx} {pins : List (Addr × Obj)} {σ : Stt} {H : Hp} {s : Shared} {p a : Addr} {xs : List Ent} {kvs : List (NK × MP)} {k : NK}
theorem dct_at (I : Inv X pins σ H s) (e : H p = some (dctH X.prog X.w p xs)) (kv : ∀ x ∈ xs, Key1 X.K H x.1 x.2.1) : (p == sysModules) = false ∧ xs.length ≤ sizeLine ∧ ∃ vs, RelE xs vs ∧ s.heap.DictOfH (nkD X.prog X.w) p vs := by
  have d : DctAt X.prog X.w p xs s.heap := (show ObjOk X.prog X.w H s.heap p (.ext _) from I.hok p _ e).1
  obtain ⟨hs, hz, vs, r, o, es, ep, ho, hx, hd, he, hn⟩ := d
  refine ⟨hs, hz, vs, r, o, es, ep, ho, hx, hd, he, fun y hy => ?_, hn⟩
  have key : ∀ {xs : List Ent} {vs : List (NK × Addr × Value)}, RelE xs vs → (∀ x ∈ xs, Key1 X.K H x.1 x.2.1) → ∀ y ∈ vs, (nkD X.prog X.w).is s.heap y.1 y.2.1 := by
    intro xs vs r
    induction r with
    | nil => intro _ y hy; cases hy
    | @cons x y' xs ys h t ih =>
      intro hk y hy
      rcases List.mem_cons.mp hy with rfl | hy
      · rw [← h.1, ← h.2.1]
        exact (hk x List.mem_cons_self).is I
      · exact ih (fun z hz => hk z (List.mem_cons_of_mem _ hz)) y hy
  exact key r kv y hy
theorem dct_of {h' : Heap} {vs : List (NK × Addr × Value)} (hs : (p == sysModules) = false) (hz : xs.length ≤ sizeLine) (r : RelE xs vs) (d : h'.DictOfH (nkD X.prog X.w) p vs) : DctAt X.prog X.w p xs h' := by
  obtain ⟨o, es, ep, ho, hx, hd, he, _, hn⟩ := d
  exact ⟨hs, hz, vs, r, o, es, ep, ho, hx, hd, he, hn⟩
theorem dct_write {h' : Heap} {t' : Nat} {ys : List Ent} (I : Inv X pins σ H s) (e : H p = some (dctH X.prog X.w p xs)) (hs : Heap.SameBut p s.heap h') (d : DctAt X.prog X.w p ys h') :
    Inv X pins σ (upd H p (dctH X.prog X.w p ys)) { s with heap := h', toks := t' } := by
  have he : ∃ q, h'.get? p = some q := by
    obtain ⟨_, _, vs, _, o, es, ep, ho, _⟩ := d
    exact ⟨o, ho⟩
  exact I.write (x := p) (e := p) (by rw [e]; exact True.intro) (.inl rfl) (fun b q hb z => (hs.2 b hb).trans z) he (dctH_ok d)
theorem relE_len : ∀ {xs : List Ent} {vs : List (NK × Addr × Value)}, RelE xs vs → xs.length = vs.length
  | _, _, .nil => rfl
  | _, _, .cons _ t => congrArg (· + 1) (relE_len t)
theorem nk_room (hX : Nor X) : (nkD X.prog X.w).room X.A.in1 := by
  have := hX.room.un
  show X.A.units + 1 + 8 < cLine
  omega
theorem nk_room0 (hX : Nor X) : (nkD X.prog X.w).room X.A := by
  have := hX.room.un
  show X.A.units + 8 < cLine
  omega
/-- what is at a key -/
def rInM (P : Program) (w : World) (K : PySem.W.Frag) (neg : Bool) : R2 := fun x y H Q => ∃ k a p xs kvs, x = .ref a ∧ Key1 K H k a ∧ y = .ref p ∧ H p = some (dctH P w p xs) ∧ KvOk K H xs kvs ∧ Q (.bl (if neg = true then !(look kvs k).isSome else (look kvs k).isSome)) H
theorem look_some {F : Hp} {vs : List (NK × Addr × Value)} (kv : KvOk X.K F xs kvs) (r : RelE xs vs) : (atKey vs k).isSome = (look kvs k).isSome := by
  obtain ⟨h1, h2⟩ := kv.look (k := k) r
  cases e : look kvs k with
  | none => rw [h2 e]; rfl
  | some φ => obtain ⟨_, _, _, z, _⟩ := h1 φ e; rw [z]; rfl
theorem op_inM (hX : Nor X) : OpR X (compareOp .In) (rInM X.prog X.w X.K false) := by
  intro pins s σ H x y v u Q I rx ry h
  obtain ⟨k, a, p, xs, kvs, rfl, hk, rfl, e, kv, q⟩ := h
  obtain rfl : v = Value.ref a := rx
  obtain rfl : u = Value.ref p := ry
  obtain ⟨hs, hz, vs, r, d⟩ := dct_at I e kv.key
  refine wpAny_in_heap (knd := nkD X.prog X.w) (nk_room hX) (hk.is I) hs d ⟨.bl _, H, I.tok _, rfl, ?_⟩
  rw [look_some kv r]
  exact q
theorem op_niM (hX : Nor X) : OpR X (compareOp .NotIn) (rInM X.prog X.w X.K true) := by
  intro pins s σ H x y v u Q I rx ry h
  obtain ⟨k, a, p, xs, kvs, rfl, hk, rfl, e, kv, q⟩ := h
  obtain rfl : v = Value.ref a := rx
  obtain rfl : u = Value.ref p := ry
  obtain ⟨hs, hz, vs, r, d⟩ := dct_at I e kv.key
  show wpAny _ _ (contains (.ref p) (.ref a) >>= _) _ _ _
  refine wpAny_bind (wpAny_contains_heap (knd := nkD X.prog X.w) (nk_room hX) (hk.is I) hs d (wpAny_pure ⟨.bl _, H, I.tok _, rfl, ?_⟩))
  rw [look_some kv r]
  exact q
def rIxM (P : Program) (w : World) (K : PySem.W.Frag) : R2 := fun x y H Q => ∃ F k a p xs kvs φ, Same F H ∧ y = .ref a ∧ Key1 K H k a ∧ x = .ref p ∧ H p = some (dctH P w p xs) ∧ KvOk K F xs kvs ∧ look kvs k = some φ ∧ ∀ v, φ.p F v → Q v H
theorem ix_M (hX : Nor X) : IxR X (rIxM X.prog X.w X.K) := by
  intro value slice pins s σ H x y v u Q I rx ry h hs
  obtain ⟨F, k, a, p, xs, kvs, φ, sF, rfl, hk, rfl, e, kv, hl, q⟩ := h
  obtain rfl : u = Value.ref a := ry
  obtain rfl : v = Value.ref p := rx
  obtain ⟨_, hz, vs, r, d⟩ := dct_at I e (kv.mono sF).key
  obtain ⟨a', v', u', e1, r1, p1⟩ := (kv.look (k := k) r).1 φ hl
  exact tail_any d.typeIs PySem.F.slot_dict_getitem.lookup (wpAny_getItem_heap (knd := nkD X.prog X.w) (nk_room hX) (hk.is I) d e1 ⟨v', H, I.tok _, r1, q v' p1⟩) hs
/-- nothing stands at the key -/
def Fresh (xs : List Ent) (k : NK) : Prop := ∀ x ∈ xs, x.1 ≠ k
theorem fresh_of {F : Hp} (kv : KvOk X.K F xs kvs) (h : look kvs k = none) : Fresh xs k := by
  induction kv with
  | nil => intro x hx; cases hx
  | @cons k' a v φ xs kvs h1 h2 h3 ih =>
    unfold G.look at h
    rw [List.find?_cons] at h
    by_cases e : k' = k
    · rw [decide_eq_true e] at h; cases h
    · rw [decide_eq_false e] at h
      intro x hx
      rcases List.mem_cons.mp hx with rfl | hx
      · exact e
      · exact ih h x hx
theorem atKey_fresh {vs : List (NK × Addr × Value)} (r : RelE xs vs) (h : Fresh xs k) : atKey vs k = none := by
  induction r with
  | nil => rfl
  | @cons x y xs ys a b ih =>
    have e : ¬ y.1 = k := fun z => h x List.mem_cons_self (a.1.trans z)
    unfold atKey
    rw [List.find?_cons, decide_eq_false e]
    exact ih fun z hz => h z (List.mem_cons_of_mem _ hz)
theorem dct_put {v : V} {u : Value} {vs : List (NK × Addr × Value)} (hz : xs.length < sizeLine) (r : RelE xs vs) (rv : RelV v u) (hf : Fresh xs k) (hs : (p == sysModules) = false) {h' : Heap} (d : h'.DictOfH (nkD X.prog X.w) p (storedH vs k a u)) : DctAt X.prog X.w p (xs ++ [(k, a, v)]) h' := by
  refine dct_of hs (by rw [List.length_append, List.length_singleton]; omega) ?_ d
  rw [storedH_new (atKey_fresh r hf)]
  exact relE_append r (.cons ⟨rfl, rfl, rv⟩ .nil)
theorem m_setItem {v : V} {u : Value} {Q : Unit → Shared → Prop} {E : Value → Shared → Prop} (hX : Nor X) (I : Inv X pins σ H s) (e : H p = some (dctH X.prog X.w p xs)) (kv : ∀ x ∈ xs, Key1 X.K H x.1 x.2.1) (hk : Key1 X.K H k a) (rv : RelV v u) (hf : Fresh xs k) (hz : xs.length < sizeLine)
    (h : ∀ s', Inv X pins σ (upd H p (dctH X.prog X.w p (xs ++ [(k, a, v)]))) s' → Q () s') : wpAny (model X.prog X.w) X.A (setItem (.ref p) (.ref a) u) Q E s := by
  obtain ⟨hs, _, vs, r, d⟩ := dct_at I e kv
  exact wpAny_setItem_heap (hsz := by rw [← relE_len r]; omega) (nk_room hX) (hk.is I) d fun h' d' sb => h _ (dct_write I e sb (dct_put hz r rv hf hs d'))
theorem m_dictSet {v : V} {u : Value} {Q : Unit → Shared → Prop} {E : Value → Shared → Prop} (hX : Nor X) (I : Inv X pins σ H s) (e : H p = some (dctH X.prog X.w p xs)) (kv : ∀ x ∈ xs, Key1 X.K H x.1 x.2.1) (hk : Key1 X.K H k a) (rv : RelV v u) (hf : Fresh xs k) (hz : xs.length < sizeLine)
    (h : ∀ s', Inv X pins σ (upd H p (dctH X.prog X.w p (xs ++ [(k, a, v)]))) s' → Q () s') : wpAny (model X.prog X.w) X.A (dictSet p (.ref a) u) Q E s := by
  obtain ⟨hs, _, vs, r, d⟩ := dct_at I e kv
  exact wpAny_dictSet_heap (hsz := by rw [← relE_len r]; omega) (nk_room0 hX) (hk.is I) d fun h' d' sb => h _ (dct_write I e sb (dct_put hz r rv hf hs d'))
theorem m_del {φ : MP} {Q : Unit → Shared → Prop} {E : Value → Shared → Prop} (hX : Nor X) (I : Inv X pins σ H s) (e : H p = some (dctH X.prog X.w p xs)) (kv : KvOk X.K H xs kvs) (hk : Key1 X.K H k a) (hl : look kvs k = some φ)
    (h : ∀ s', Inv X pins σ (upd H p (dctH X.prog X.w p (xs.filter fun x => decide (x.1 ≠ k)))) s' → Q () s') : wpAny (model X.prog X.w) X.A (delItem (.ref p) (.ref a)) Q E s := by
  obtain ⟨hs, hz, vs, r, d⟩ := dct_at I e kv.key
  obtain ⟨a', v', u', e1, _, _⟩ := (kv.look (k := k) r).1 φ hl
  refine wpAny_delItem_heap (hsz := by rw [← relE_len r]; exact hz) (nk_room hX) (hk.is I) hs d e1 fun h' d' sb => h _ (dct_write I e sb (dct_of hs ?_ (relE_gone k r) d'))
  exact Nat.le_trans (List.length_filter_le _ _) hz
theorem dct_new (X : Cx) {H : Hp} (h : Heap) (hb : sysModules < h.objs.size) : ObjOk X.prog X.w H (h.push { cls := .type "dict", data := .dict #[] }) h.objs.size (dctH X.prog X.w h.objs.size []) :=
  dctH_ok (dct_of (X := X) (beq_eq_false_iff_ne.mpr (Ne.symm (Nat.ne_of_lt hb))) (Nat.zero_le _) .nil (Heap.DictOfH.new h))
end
/-- a dict that may be read -/
inductive Ms (P : Program) (w : World) (K : PySem.W.Frag) (Ω : Om) : MP → List (NK × MP) → Prop
  | m {kvs : List (NK × MP)} : Ms P w K Ω (isM P w K kvs) kvs
  | o {j : Nat} {p : Addr} {kvs : List (NK × MP)} : Ω[j]? = some (p, dctO P w K p kvs) → Ms P w K Ω (isV (.ref p)) kvs
theorem Ms.at_ {P : Program} {w : World} {K : PySem.W.Frag} {Ω : Om} {φ : MP} {kvs : List (NK × MP)} {W : Wd} {Γ : Ga} {v : V} (l : Ms P w K Ω φ kvs) (k : W.Ok Γ Ω) (p : φ.p (W.F Ω) v) : ∃ q xs, v = .ref q ∧ W.H q = some (dctH P w q xs) ∧ KvOk K (W.F Ω) xs kvs := by
  cases l with
  | m =>
    obtain ⟨q, xs, rfl, e, a⟩ := p
    exact ⟨q, xs, rfl, hid_sub _ _ e, a⟩
  | o hj =>
    obtain ⟨o, e, xs, rfl, a⟩ := k.ow _ (List.mem_of_getElem? hj)
    exact ⟨_, xs, p, e, a⟩
def tupK : NK → Bool
  | .tup _ => true
  | _ => false
/-- the data of a key -/
structure KeyD (K : PySem.W.Frag) (φ : MP) (k : NK) : Prop where
  e : φ = isD K k.data
  t : tupK k = true
  d : k.depth ≤ 8
theorem KeyD.at_ {K : PySem.W.Frag} {φ : MP} {k : NK} {F : Hp} {v : V} (h : KeyD K φ k) (p : φ.p F v) : ∃ a, v = .ref a ∧ Key1 K F k a := by
  obtain ⟨e, t, d⟩ := h
  subst e
  cases k with
  | tup ks =>
    obtain ⟨a, xs, e, _⟩ := dp_tup (show Dp K F v (.tuple (NestedKey.datas ks)) from p)
    subst e
    exact ⟨a, rfl, p, d⟩
  | none => cases t
  | num i => cases t
  | text x => cases t
section
variable {X : Cx} {a b c e o i : Expr} {es : List Expr} {Γ : Ga} {Ω : Om} {k : Om → MP → Prop} {kT : Om → Bool → Prop} {pos cpos apos tpos p2 pt : Pos} {D : SEnd}
abbrev MsX (X : Cx) (Ω : Om) (φ : MP) (kvs : List (NK × MP)) : Prop := Ms X.prog X.w X.K Ω φ kvs
abbrev dcO (X : Cx) (p : Addr) (kvs : List (NK × MP)) : MO := dctO X.prog X.w X.K p kvs
def InM (X : Cx) (Ω : Om) (φ ψ : MP) (x : Bool) : Prop := ∃ key kvs, KeyD X.K φ key ∧ MsX X Ω ψ kvs ∧ x = (look kvs key).isSome
theorem ev_inM (hX : Nor X) (h : ev X a Γ Ω fun Ω1 φ => ev X b Γ Ω1 fun Ω2 ψ => ∃ x, InM X Ω2 φ ψ x ∧ k Ω2 (isD X.K (.bool x))) (hm : behindInMarks .In b = false := by rfl) : ev X (.Compare a [.In] [b] pos) Γ Ω k :=
  ev_cmpN (op_inM hX) hm (ev_imp h fun Ω1 φ g => ev_imp g fun Ω2 ψ ⟨x, ⟨key, kvs, hk, hm, e⟩, g⟩ => bi_val2 (χ := isD X.K (.bool x)) g fun W x' y Q w p q z => by
    subst e
    obtain ⟨a1, rfl, k1⟩ := hk.at_ p
    obtain ⟨q1, xs, rfl, e1, kv⟩ := hm.at_ w q
    exact ⟨key, a1, q1, xs, kvs, rfl, k1.mono hid_sub, rfl, e1, kv.mono hid_sub, z _ (.bl _)⟩)
theorem evT_inM (hX : Nor X) (h : ev X a Γ Ω fun Ω1 φ => ev X b Γ Ω1 fun Ω2 ψ => ∃ x, InM X Ω2 φ ψ x ∧ kT Ω2 x) (hm : behindInMarks .In b = false := by rfl) : evT X (.Compare a [.In] [b] pos) Γ Ω kT :=
  evT_cmpN (op_inM hX) hm (ev_imp h fun Ω1 φ g => ev_imp g fun Ω2 ψ ⟨x, ⟨key, kvs, hk, hm, e⟩, g⟩ => bi_val2 (χ := isD X.K (.bool x)) ⟨_, rfl, g⟩ fun W x' y Q w p q z => by
    subst e
    obtain ⟨a1, rfl, k1⟩ := hk.at_ p
    obtain ⟨q1, xs, rfl, e1, kv⟩ := hm.at_ w q
    exact ⟨key, a1, q1, xs, kvs, rfl, k1.mono hid_sub, rfl, e1, kv.mono hid_sub, z _ (.bl _)⟩)
theorem evT_niM (hX : Nor X) (h : ev X a Γ Ω fun Ω1 φ => ev X b Γ Ω1 fun Ω2 ψ => ∃ x, InM X Ω2 φ ψ x ∧ kT Ω2 (!x)) (hm : behindInMarks .NotIn b = false := by rfl) : evT X (.Compare a [.NotIn] [b] pos) Γ Ω kT :=
  evT_cmpN (op_niM hX) hm (ev_imp h fun Ω1 φ g => ev_imp g fun Ω2 ψ ⟨x, ⟨key, kvs, hk, hm, e⟩, g⟩ => bi_val2 (χ := isD X.K (.bool (!x))) ⟨_, rfl, g⟩ fun W x' y Q w p q z => by
    subst e
    obtain ⟨a1, rfl, k1⟩ := hk.at_ p
    obtain ⟨q1, xs, rfl, e1, kv⟩ := hm.at_ w q
    exact ⟨key, a1, q1, xs, kvs, rfl, k1.mono hid_sub, rfl, e1, kv.mono hid_sub, z _ (.bl _)⟩)
theorem ev_ixM (hX : Nor X) (h : ev X a Γ Ω fun Ω1 φ => ev X b Γ Ω1 fun Ω2 ψ => ∃ key kvs χ, MsX X Ω2 φ kvs ∧ KeyD X.K ψ key ∧ look kvs key = some χ ∧ k Ω2 χ) (hs : PlainIx b := by intro _ _; rfl) : ev X (.Subscript a b pos) Γ Ω k :=
  ev_ix (ix_M hX) hs (ev_imp h fun Ω1 φ h => ev_imp h fun Ω2 ψ ⟨key, kvs, χ, hm, hk, hl, g⟩ => fun W x y Q _ w p q z => by
    obtain ⟨a1, rfl, k1⟩ := hk.at_ q
    obtain ⟨q1, xs, rfl, e1, kv⟩ := hm.at_ w p
    exact ⟨W.F Ω2, key, a1, q1, xs, kvs, χ, hid_sub, rfl, k1.mono hid_sub, rfl, e1, kv, hl, fun v hv => z _ _ (post_pure w g hv)⟩)
/-- d[key] = v, the key is new -/
def rSetM (P : Program) (w : World) (K : PySem.W.Frag) : TSet := fun o i v H Q => ∃ p a xs k, o = .ref p ∧ i = .ref a ∧ H p = some (dctH P w p xs) ∧ (∀ x ∈ xs, Key1 K H x.1 x.2.1) ∧ Key1 K H k a ∧ Fresh xs k ∧ xs.length < sizeLine ∧ Q (upd H p (dctH P w p (xs ++ [(k, a, v)])))
theorem set_M (hX : Nor X) : PSet X (rSetM X.prog X.w X.K) := by
  intro pins s σ H o i v ov iv u Q I ro ri rv h
  obtain ⟨p, a, xs, k, rfl, rfl, e, kv, hk, hf, hz, q⟩ := h
  obtain rfl : ov = Value.ref p := ro
  obtain rfl : iv = Value.ref a := ri
  exact m_setItem hX I e kv hk rv hf hz fun s' I' => ⟨_, I', q⟩
def SubAt (X : Cx) (φ : MP) (Ω : Om) (ψ χ : MP) (k : Om → Prop) : Prop := ∃ j p kvs key, ψ = isV (.ref p) ∧ KeyD X.K χ key ∧ Ω[j]? = some (p, dcO X p kvs) ∧ look kvs key = none ∧ kvs.length < sizeLine ∧ k (Ω.set j (p, dcO X p (kvs ++ [(key, φ)])))
theorem tgt_subM {φ : MP} {k : Ga → Om → Prop} (hX : Nor X) (h : ev X o Γ Ω fun Ω1 ψ => ev X i Γ Ω1 fun Ω2 χ => SubAt X φ Ω2 ψ χ (k Γ)) (ha : ∀ v, assign (.Subscript o i pos) X.env v = (do
      let ov ← holding [v] (eval o X.env)
      let iv ← holding [v, ov] (eval i X.env)
      standAt pos
      holding [v, ov, iv] (setItem ov iv v)
      release [v, ov, iv] []) := by intro _; rfl) : tgt X (.Subscript o i pos) φ Γ Ω k := fun W v w p => by
  refine wpG_of (pg_sub peE peE (set_M hX) ha) ?_
  show wpE X o W.σ W.H fun x H1 => wpE X i W.σ H1 fun y H2 => rSetM X.prog X.w X.K x y v H2 fun H3 => go W Ω k W.σ H3
  refine wpE_mono (h W w) ?_
  rintro x H1 ⟨Ω1, ψ, h1, k1, s1, p1⟩
  refine wpE_mono (h1 (W.up H1) k1) ?_
  rintro y H2 ⟨Ω2, χ, ⟨j, q, kvs, key, rfl, hk, hj, hl, hz, g⟩, k2, s2, p2⟩
  obtain rfl := p1
  obtain ⟨a1, rfl, ka⟩ := hk.at_ p2
  obtain ⟨ob, e1, xs, rfl, kv⟩ := k2.ow _ (List.mem_of_getElem? hj)
  have pv : φ.p ((W.up H2).F Ω2) v := φ.mono (s1.trans s2) p
  obtain ⟨k3, e3⟩ := k2.put (o := dctH X.prog X.w q (xs ++ [(key, a1, v)])) (ψ' := dcO X q (kvs ++ [(key, φ)])) hj ⟨_, rfl, KvOk.append (.cons ka pv .nil) kv⟩
  exact ⟨q, a1, xs, key, rfl, rfl, e1, (kv.mono hid_sub).key, ka.mono hid_sub, fresh_of kv hl, by rw [kv.length]; exact hz, Γ, _, g, k3, (s1.trans s2).trans (by rw [e3]; exact Same.refl _)⟩
theorem st_setM (hX : Nor X) (h : ev X e Γ Ω fun Ω1 φ => ev X o Γ Ω1 fun Ω2 ψ => ev X i Γ Ω2 fun Ω3 χ => SubAt X φ Ω3 ψ χ (D.nx Γ)) (hs : swapsWithSole [.Subscript o i tpos] e pos.line X.env = pure false := by rfl) (hw : swappedStores [.Subscript o i tpos] e X.env = pure none := by rfl)
    (h1 : (assignEach [.Subscript o i tpos] X.env).map (·.2) = [assign (.Subscript o i tpos) X.env] := by rfl) (ha : ∀ v, assign (.Subscript o i tpos) X.env v = (do
      let ov ← holding [v] (eval o X.env)
      let iv ← holding [v, ov] (eval i X.env)
      standAt tpos
      holding [v, ov, iv] (setItem ov iv v)
      release [v, ov, iv] []) := by intro _; rfl) : st X (.Assign [.Subscript o i tpos] e pos) Γ Ω D :=
  st_asg (ev_imp h fun Ω1 φ g => tgt_subM hX g ha) hs hw h1
/-- d[k], y = a, b -/
theorem st_setPairM {j : Nat} {y : Str} {n m : Nat} {py p3 : Pos} (hX : Nor X) (hj : X.N[j]? = some y)
    (h : evA X [a, b] Γ Ω fun Ω1 φs => ∃ φ ψ, φs = [φ, ψ] ∧ ev X o Γ Ω1 fun Ω2 χ => ev X i Γ Ω2 fun Ω3 ω => SubAt X φ Ω3 χ ω (D.nx (Γ.set j (some ψ))))
    (hs : swapsWithSole [.Tuple [.Subscript o i tpos, .Name y py] n pt] (.Tuple [a, b] m p2) pos.line X.env = pure false := by rfl) (hw : swappedStores [.Tuple [.Subscript o i tpos, .Name y py] n pt] (.Tuple [a, b] m p2) X.env = pure none := by rfl)
    (h1 : (assignEach [.Tuple [.Subscript o i tpos, .Name y py] n pt] X.env).map (·.2) = [assign (.Tuple [.Subscript o i tpos, .Name y py] n pt) X.env] := by rfl)
    (g1 : (assignEach [.Subscript o i tpos, .Name y py] X.env).map (·.2) = assign (.Subscript o i tpos) X.env :: (assignEach [.Name y py] X.env).map (·.2) := by rfl) (g2 : (assignEach [.Name y py] X.env).map (·.2) = assign (.Name y py) X.env :: (assignEach [] X.env).map (·.2) := by rfl)
    (hn : (assignEach [.Subscript o i tpos, .Name y py] X.env).length = 2 := by rfl) (hst : (assignEach [.Subscript o i tpos, .Name y py] X.env).findIdx? (·.1) = none := by rfl)
    (hx : Loc X.env.scope y := by first | exact Or.inl rfl | exact Or.inr rfl) (hf : X.fn y = true ∨ X.env.scope.names.lookup y = some .local := by first | exact .inl rfl | exact .inr rfl)
    (ha : ∀ v, assign (.Subscript o i tpos) X.env v = (do
      let ov ← holding [v] (eval o X.env)
      let iv ← holding [v, ov] (eval i X.env)
      standAt tpos
      holding [v, ov, iv] (setItem ov iv v)
      release [v, ov, iv] []) := by intro _; rfl) : st X (.Assign [.Tuple [.Subscript o i tpos, .Name y py] n pt] (.Tuple [a, b] m p2) pos) Γ Ω D := fun W w => by
  refine wpS_of (ps_asg (pe_tup paA) (pg_tup hX.calm (pgs_cons pgG (pgs_cons (pg_name hX.nd hj hx hf) pgs_nil g2) g1) hn hst) hs hw h1) ?_
  show wpA X [a, b] W.σ W.H fun vs H1 => _
  refine wpA_mono (h W w) ?_
  rintro vs H1 ⟨Ω1, φs, ⟨φ, ψ, rfl, g⟩, k1, s1, p1⟩
  obtain ⟨v, u, rfl, q1, q2⟩ := al2 p1
  refine ⟨size100 (show 2 ≤ 1000 by decide), fun P hP => ⟨P, _, rfl, SqT.of upd_same, rfl, v, _, rfl, ?_⟩⟩
  obtain ⟨k2, s2, _⟩ := k1.pure (o := HO.tup [v, u]) hP
  refine wpG_mono (tgt_subM (k := fun Γ' Ω' => D.nx (Γ'.set j (some ψ)) Ω') hX g ha (W.up (upd H1 P (.tup [v, u]))) v k2 (φ.mono s2 q1)) ?_
  rintro σ2 H2 ⟨Γ2, Ω2, g3, k3, s3⟩
  exact ⟨u, [], rfl, rfl, _, Ω2, g3, k3.set (ψ.mono (s2.trans s3) q2) j, (s1.trans s2).trans s3⟩
/-- del d[key] -/
theorem st_delM (hX : Nor X) (h : ev X o Γ Ω fun Ω1 φ => ev X i Γ Ω1 fun Ω2 ψ => ∃ j p kvs key χ, φ = isV (.ref p) ∧ KeyD X.K ψ key ∧ Ω2[j]? = some (p, dcO X p kvs) ∧ look kvs key = some χ ∧ D.nx Γ (Ω2.set j (p, dcO X p (gone kvs key)))) : st X (.Delete [.Subscript o i tpos] pos) Γ Ω D := fun W w => by
  intro pins s I
  refine wpAny_Delete (wpAny_deleteEach_cons (wpAny_delete_Subscript (thn (h W w pins s I) ?_)))
  rintro u s1 ⟨x, H1, I1, rx, Ω1, φ, h1, k1, s1, p1⟩
  refine thn (h1 (W.up H1) k1 pins _ I1) ?_
  rintro u2 s2 ⟨y, H2, I2, ry, Ω2, ψ, ⟨j, q, kvs, key, χ, rfl, hk, hj, hl, g⟩, k2, s2, p2⟩
  obtain rfl := p1
  obtain ⟨a1, rfl, ka⟩ := hk.at_ p2
  obtain ⟨ob, e1, xs, rfl, kv⟩ := k2.ow _ (List.mem_of_getElem? hj)
  obtain rfl : u = Value.ref q := rx
  obtain rfl : u2 = Value.ref a1 := ry
  obtain ⟨k3, e3⟩ := k2.put (o := dctH X.prog X.w q (xs.filter fun x => decide (x.1 ≠ key))) (ψ' := dcO X q (gone kvs key)) hj ⟨_, rfl, kv.gone key⟩
  exact m_del hX I2 e1 (kv.mono hid_sub) (ka.mono hid_sub) hl fun s3 I3 => wpAny_deleteEach_nil ⟨W.σ, _, I3, Γ, _, g, k3, (s1.trans s2).trans (by rw [e3]; exact Same.refl _)⟩
/-- {} -/
theorem ev_dnew (h : ∀ p, k (Ω ++ [(p, dcO X p [])]) (isV (.ref p))) : ev X (.Dict [] [] pos) Γ Ω k := fun W w => fun pins s I =>
  wpAny_Dict_empty ⟨.ref s.heap.objs.size, _, I.laid (a := s.heap.objs.size) (o := dctH X.prog X.w s.heap.objs.size []) (t' := s.toks) (fun _ _ q => Heap.get?_push_of_some _ q) (Nat.le_refl _) (dct_new X s.heap I.big), rfl,
    post_own (ψ := dcO X s.heap.objs.size []) w (I.hok.fresh (Nat.le_refl _)) ⟨[], rfl, .nil⟩ (h _)⟩
end
end G
set_option Elab.async false
set_option linter.all false
set_option maxRecDepth 100000
set_option maxHeartbeats 4000000
/-! G8: {key: v for x in xs}. -/
namespace G
open PySem PySem.Spec PyProof.Rows L2 RZ
section
variable {X : Cx} {tg iter kx vx : Expr} {scope : Scope} {pos : Pos} {ow : List (Str × Nat)}
/-- the cells of a block's names, behind a heap -/
abbrev clB (X : Cx) (scope : Scope) (h : Heap) : List (Str × Addr) := cellsFrom (h.objs.size + 1) scope.names (cloFrom X.env.cells scope.names [])
theorem wpE_mc {σ : Stt} {H : Hp} {Q : VK} (hX : Nor X) (ok : BlkOk X.N X.env.scope scope ow) (hs : ∀ x, foldedSetIterable iter X.env x = pure x)
    (h : wpI X tg iter σ H fun J H1 => ∀ D, H1 D = none → ∃ (n : Nat) (Gd : Hp → Prop) (Y : Nat → Hp → V → Hp → Prop) (Pv : Nat → Hp → Prop), Walk J n Gd Y ∧ Pv 0 (upd H1 D (dctH X.prog X.w D [])) ∧ (∀ j H, j ≤ n → Pv j H → Gd H) ∧
      (∀ j x H2 H3, j < n → Pv j H2 → Y j H2 x H3 → ∀ (s : Shared) (H0 : Hp) (C : Addr) (cl : List (Str × Addr)) (fp : List Addr), wpG (Blk X scope s H0 C cl fp) tg x (wipe σ (ow.map (·.2))) H3 fun σ2 H4 => wipe σ2 (ow.map (·.2)) = wipe σ (ow.map (·.2)) ∧
        wpE (Blk X scope s H0 C cl fp) kx σ2 H4 fun y H5 => wpE (Blk X scope s H0 C cl fp) vx σ2 H5 fun z H6 => ∃ xs k a, y = .ref a ∧ H6 D = some (dctH X.prog X.w D xs) ∧ (∀ x ∈ xs, Key1 X.K H6 x.1 x.2.1) ∧ Key1 X.K H6 k a ∧ Fresh xs k ∧ xs.length < sizeLine ∧ Pv (j + 1) (upd H6 D (dctH X.prog X.w D (xs ++ [(k, a, z)])))) ∧
      ∀ H, Pv n H → Q (.ref D) H) : wpE X (.DictComp kx vx [⟨tg, iter, [], 0⟩] scope pos) σ H Q := by
  intro pins s I
  rw [arm_eval_DictComp]
  have hfr : ∀ y ∈ scope.names, y.2 = .free → ∃ c, X.env.cells.lookup y.1 = some c := by
    intro y hy e
    rcases ok.free y hy e with z | z
    · exact I.ok.has _ (.inl z)
    · exact I.ok.has _ (.inr z)
  refine wpAny_comprehension_free (use := none) rfl hs (closure_ok hfr) ok.kind (fun y hy e => by rw [ok.uniq y hy, e]) (thn (h pins s I) fun xv s1 hx => thn hx fun itv s2 h2 => ?_)
  obtain ⟨it, fp, tn, J, H2, rfl, I2, T, st2, f2, q⟩ := h2
  refine wpAny_newObj_type (newEnv_comp ?_)
  generalize eD : s2.heap.objs.size = D
  have nD : H2 D = none := I2.hok.fresh (Nat.le_of_eq eD)
  obtain ⟨n, Gd, Y, Pv, wk, p0, pG, turn, fin⟩ := q D nD
  generalize es3 : ({ s2 with heap := s2.heap.push { cls := .type "dict", data := .dict #[] } } : Shared) = s3
  have e3 : s3.heap = s2.heap.push { cls := .type "dict", data := .dict #[] } := by rw [← es3]
  generalize eH3 : upd H2 D (dctH X.prog X.w D []) = H3 at p0
  have I3 : Inv X pins σ H3 s3 := by
    rw [← es3, ← eH3]
    refine I2.laid (t' := s2.toks) (fun b o e => Heap.get?_push_of_some _ e) (Nat.le_of_eq eD) ?_
    rw [← eD]
    exact dct_new X s2.heap I2.big
  have f3 : ∀ b ∈ fp, FpOk X pins H3 b ∧ b < s3.heap.objs.size := by
    intro b hb
    obtain ⟨o, e, _⟩ := T.obj _ _ st2 b hb
    have lt := Heap.lt_size e
    refine ⟨⟨?_, (f2 b hb).2⟩, by rw [e3, Heap.size_push]; exact Nat.lt_succ_of_lt lt⟩
    rw [← eH3, upd_ne (by rw [← eD]; exact Nat.ne_of_lt lt)]
    exact (f2 b hb).1
  have t3 : tn 0 s3.heap := T.keep _ _ _ st2 fun b _ o e => by rw [e3]; exact Heap.get?_push_of_some _ e
  have I4 := block_start I3 ok hX.nd f3
  have turn' := fun j x Ha Hb hj pv y => turn j x Ha Hb hj pv y s3 H3 s3.heap.objs.size (clB X scope s3.heap) fp
  dsimp only [Blk] at turn'
  show codeAny _ _ (.compStart (.DictComp kx vx [⟨tg, iter, [], 0⟩] scope pos) 0 (.ref it) (.ref D) (compEnvC scope (clB X scope s3.heap) s3.heap.objs.size X.env))
    (compPost (model X.prog X.w) X.A X.xe none _ (.ref D) s3.heap.objs.size) { s3 with heap := pushCells (s3.heap.push { cls := .type "dict", data := .dict #[] }) scope.names }
  generalize ece : compEnvC scope (clB X scope s3.heap) s3.heap.objs.size X.env = ce at I4 turn' ⊢
  have cL : ce.locals = s3.heap.objs.size := by rw [← ece]; rfl
  generalize es4 : ({ s3 with heap := pushCells (s3.heap.push { cls := .type "dict", data := .dict #[] }) scope.names } : Shared) = s4 at I4 ⊢
  have t4 : tn 0 s4.heap := T.keep _ _ _ t3 fun b _ o e => by rw [← es4]; exact pushCells_keeps _ _ _ _ (Heap.get?_push_of_some _ e)
  have nf : ∀ b ∈ fp, H3 b = none := fun b hb => (f3 b hb).1.1
  have still : ∀ {σ' : Stt} {H' : Hp} {s' : Shared}, Inv (X.blk s3 H3 scope ce fp) [] σ' H' s' → (∀ b ∈ fp, H' b = none) → ∀ b ∈ fp, FpOk (X.blk s3 H3 scope ce fp) [] H' b := by
    intro σ' H' s' I' hn b hb
    refine ⟨hn b hb, (I'.ok.exf b hb).1, I'.ok.exfs b hb, .inl hb, fun x c e => (I'.ok.exf b hb).2 x c e, fun p hp => ?_⟩
    exact absurd (show p ∈ ([] : List (Addr × Obj)) ++ [] from hp) (by simp)
  have loop : codeAny (model X.prog X.w) X.A (.compLoop (.DictComp kx vx [⟨tg, iter, [], 0⟩] scope pos) 0 (.ref it) (.ref D) ce) (compPost (model X.prog X.w) X.A X.xe none (EP X pins σ Q) (.ref D) s3.heap.objs.size) s4 := by
    refine compLoop_anyD (fun m s' => ∃ i H', Inv (X.blk s3 H3 scope ce fp) [] (wipe σ (ow.map (·.2))) H' s' ∧ tn i s'.heap ∧ (∀ b ∈ fp, H' b = none) ∧ m = n - i ∧ i ≤ n ∧ Pv i H') ?_ n ⟨0, H3, I4, t4, nf, by simp, Nat.zero_le _, p0⟩
    rintro m s5 ⟨i, H5, I5, t5, n5, rfl, hi, p5⟩
    have g5 := pG i H5 hi p5
    by_cases hlt : i < n
    · refine thnF (T.item (X.blk s3 H3 scope ce fp) rfl rfl rfl hX.calm i [] s5 _ H5 (fun _ _ => False) I5 (still I5 n5) t5 (wk.goes i H5 hlt g5)) fun r s6 ⟨u, hr, h6⟩ => ?_
      subst hr
      refine thnF h6 fun _ s7 ⟨x, H7, I7, r7, y7, t7, n7⟩ => ?_
      have I7' := I7.pinned (still I7 n7) (T.obj _ _ t7)
      have step := turn' i x H5 H7 hlt p5 (wk.yields i H5 x H7 hlt g5 y7)
      refine thnF (step _ s7 u I7' r7) fun _ s8 ⟨σ8, H8, I8, hw8, q8⟩ => ?_
      refine thnF (wpAny_tests_nil (Q := fun b s9 => b = true ∧ s9 = s8) ⟨rfl, rfl⟩) fun b s9 ⟨eb, e9⟩ => ?_
      subst eb e9
      simp only [if_true]
      refine thnF (q8 _ _ I8) fun z s10 ⟨yk, H10, I10, r10, q10⟩ => ?_
      refine thnF (q10 _ _ I10) fun z2 s11 ⟨yv, H11, I11, r11, xs, k, a, ek, hD, kk, hk, hf, hz, pv⟩ => ?_
      subst ek
      obtain rfl : z = Value.ref a := r10
      refine m_dictSet (X := X.blk s3 H3 scope ce fp) ⟨hX.calm, hX.nd, PassesOwn.never, hX.room⟩ I11 hD kk hk r11 hf hz fun s12 I12 => ?_
      have pin' : ∀ b ∈ fp, ∀ o, s7.heap.get? b = some o → s12.heap.get? b = some o ∧ upd H11 D (dctH X.prog X.w D (xs ++ [(k, a, yv)])) b = none := by
        intro b hb o e
        have z := I12.pin (b, o) (List.mem_append_right _ (List.mem_append_right _ (mem_pinsAt hb e)))
        exact ⟨z.1, z.2.1⟩
      have hl : (wipe σ (ow.map (·.2))).length = σ8.length := by rw [← hw8, wipe_length]
      refine ⟨n - (i + 1), by omega, i + 1, _, (I12.unpinned (pins := [])).weak hl (fun j v e => ?_), T.keep _ _ _ t7 fun b hb o e => (pin' b hb o e).1, fun b hb => ?_, rfl, hlt, pv⟩
      · rw [← hw8] at e
        exact (wipe_some e).1
      · obtain ⟨o, e, _⟩ := T.obj _ _ t7 b hb
        exact (pin' b hb o e).2
    · obtain rfl : i = n := by omega
      refine thnF (T.done (X.blk s3 H3 scope ce fp) rfl rfl rfl hX.calm i [] s5 _ H5 (fun _ _ => False) I5 (still I5 n5) t5 (wk.stops H5 g5)) fun r s6 ⟨hr, I6⟩ => ?_
      subst hr
      have I7 : Inv X pins σ H5 s6 := I3.call' (ch := fp) I6.os I6.base I6.hok I6.bare fun b hb => ⟨(f3 b hb).1.2.2.2.1, (f3 b hb).1.2.1, (f3 b hb).1.2.2.2.2.1, (f3 b hb).1.2.2.2.2.2⟩
      have nC : H5 s3.heap.objs.size = none := by
        have z : H5 ce.locals = none := I6.free
        rwa [cL] at z
      obtain ⟨m, hn, _⟩ := I6.loc
      have hn : s6.heap.Ns ce.locals m := hn
      rw [cL] at hn
      obtain ⟨f0, f1, f2', f3', f4, f5⟩ := I3.fpOk (Nat.le_refl _) nC
      exact ⟨m, hn, fun h'' sb => ⟨.ref D, H5, I7.turned (t' := s6.toks) (fun b o hb e => (sb.2 b hb).trans e) f0 f1 f3' f4 f5, rfl, fin H5 p5⟩⟩
  exact codeAny_compStart_dict loop (T.self X.A 0 _ _ _ t4 loop)
end
/-- the entries that a comprehension has made -/
def mcE {α : Type} (as : List α) (key : α → NK) (val : α → PyData) (K : PySem.W.Frag) : List (NK × MP) := as.map fun a => (key a, isD K (val a))
structure PartM {α : Type} (X : Cx) (scope : Scope) (tg kx vx : Expr) (vs : List Nat) (Γ : Ga) (Ω : Om) (enc : α → PyData) (key : α → NK) (val : α → PyData) (Γt : α → Ga) (a : α) (X' : Cx) : Prop where
  tg : tgB X' tg vs (enc a) (wipeG Γ vs) (Γt a)
  kx : ev X' kx (Γt a) Ω fun Ω2 φ => Ω2 = Ω ∧ KeyD X.K φ (key a)
  vx : ev X' vx (Γt a) Ω fun Ω2 φ => Ω2 = Ω ∧ φ = isD X.K (val a)
structure MidM (X : Cx) (W : Wd) (Ω : Om) (D : Addr) (kvs : List (NK × MP)) (H : Hp) : Prop where
  acc : ∃ xs, H D = some (dctH X.prog X.w D xs) ∧ KvOk X.K (hid (own Ω ++ D :: W.O0) H) xs kvs
  fr : Same (W.F Ω) (hid (own Ω ++ D :: W.O0) H)
  ow : ∀ q ∈ Ω, ∃ o, H q.1 = some o ∧ q.2.p (hid (own Ω ++ D :: W.O0) H) o
  sm : Same W.H0 H
section
variable {X : Cx} {tg iter kx vx : Expr} {scope : Scope} {pos : Pos} {Γ : Ga} {Ω : Om} {W : Wd} {D : Addr} {kvs : List (NK × MP)}
theorem MidM.ok {H : Hp} (m : MidM X W Ω D kvs H) {Γ' : Ga} {σ : Stt} (w : W.Ok Γ Ω) (hD : D ∉ own Ω) (l : Sl (hid (own Ω ++ D :: W.O0) H) Γ' σ) : (bw W Ω D σ H).Ok Γ' Ω := by
  refine ⟨l, m.ow, w.nd, fun q hq => hid_in (List.mem_map.mpr ⟨q, hq, rfl⟩), hid_sub, fun a ha => ?_⟩
  have ho : a ∉ own Ω ∧ H a ≠ none := by
    rcases List.mem_cons.mp ha with z | z
    · obtain ⟨xs, e, _⟩ := m.acc
      exact ⟨by rw [z]; exact hD, by rw [z, e]; simp⟩
    · refine ⟨fun y => ?_, fun n => ?_⟩
      · obtain ⟨q, hq, e⟩ := List.mem_map.mp y
        exact w.out2 hq (by rw [e]; exact z)
      · have n0 := w.tr a z
        cases e : W.H0 a with
        | none => exact n0 e
        | some o => rw [m.sm _ _ e] at n; cases n
  show hid (own Ω) H a ≠ none
  rw [hid_out ho.1]
  exact ho.2
theorem MidM.step {H H2 : Hp} (m : MidM X W Ω D kvs H) (w : W.Ok Γ Ω) (hD : D ∉ own Ω) (s0 : Same (hid (own Ω) H) H2) (s1 : Same (hid (own Ω ++ D :: W.O0) H) (hid (own Ω ++ D :: W.O0) H2))
    (ow : ∀ q ∈ Ω, ∃ o, H2 q.1 = some o ∧ q.2.p (hid (own Ω ++ D :: W.O0) H2) o) : MidM X W Ω D kvs H2 := by
  obtain ⟨xs, e, al⟩ := m.acc
  refine ⟨⟨xs, s0 _ _ (by rw [hid_out hD]; exact e), al.mono s1⟩, m.fr.trans s1, ow, fun a o q => ?_⟩
  refine s0 _ _ ?_
  rw [hid_out]
  · exact m.sm _ _ q
  · intro y
    obtain ⟨z, hz, rfl⟩ := List.mem_map.mp y
    rw [w.nw z hz] at q; cases q
theorem look_none_of {α : Type} {as : List α} {key : α → NK} {val : α → PyData} {K : PySem.W.Frag} {k : NK} (h : ∀ a ∈ as, key a ≠ k) : look (mcE as key val K) k = none := by
  unfold look mcE
  rw [Option.map_eq_none_iff, List.find?_eq_none]
  intro x hx
  obtain ⟨a, ha, rfl⟩ := List.mem_map.mp hx
  simpa using h a ha
theorem ev_mc {α : Type} (hX : Nor X) (as : List α) (enc : α → PyData) (key : α → NK) (val : α → PyData) (Γt : α → Ga) {ow : List (Str × Nat)} (hv : ∀ σ : Stt, wipe (wipe σ (ow.map (·.2))) (ow.map (·.2)) = wipe σ (ow.map (·.2))) (ok : BlkOk X.N X.env.scope scope ow) {k : Om → MP → Prop}
    (h : evI X tg iter Γ Ω fun Ω1 ds => ds = as.map enc ∧ (as.map key).Nodup ∧ (∀ s H0 C cl fp, ∀ a ∈ as, PartM X scope tg kx vx (ow.map (·.2)) Γ Ω1 enc key val Γt a (Blk X scope s H0 C cl fp)) ∧ ∀ p, k (Ω1 ++ [(p, dcO X p (mcE as key val X.K))]) (isV (.ref p)))
    (hs : ∀ x, foldedSetIterable iter X.env x = pure x := by intro _; rfl) : ev X (.DictComp kx vx [⟨tg, iter, [], 0⟩] scope pos) Γ Ω k := fun W w => by
  refine wpE_mc hX ok hs ?_
  have g := h W w
  intro pins s I
  refine thn (g pins s I) fun v s1 hv1 => thn hv1 ?_
  rintro itv s2 ⟨it, fp, tn, J, H1, rfl, I1, T, tt, ff, Ω1, ds, ⟨rfl, hnd, hp, hk⟩, k1, s1, hz, G', Y, wk, hG, hY⟩
  refine ⟨it, fp, tn, J, H1, rfl, I1, T, tt, ff, fun D hD => ?_⟩
  have hDo : D ∉ own Ω1 ++ W.O0 := k1.out hD
  have hDw : D ∉ own Ω1 := fun z => hDo (List.mem_append_left _ z)
  have hD0 : W.H0 D = none := k1.sm.free hD
  have hlen : (as.map enc).length = as.length := List.length_map _
  have m0 : MidM X (W.up H1) Ω1 D [] (upd H1 D (dctH X.prog X.w D [])) := by
    have s0 : Same (hid (own Ω1 ++ W.O0) H1) (hid (own Ω1 ++ D :: W.O0) (upd H1 D (dctH X.prog X.w D []))) := fun a o e => by
      have hne : a ≠ D := fun z => by rw [z, hid_none hD] at e; cases e
      have hno : a ∉ own Ω1 ++ W.O0 := fun z => by rw [hid_in z] at e; cases e
      rw [hid_out hno] at e
      rw [hid_out, upd_ne hne]
      · exact e
      · intro z
        rcases List.mem_append.mp z with z | z
        · exact hno (List.mem_append_left _ z)
        · rcases List.mem_cons.mp z with z | z
          · exact hne z
          · exact hno (List.mem_append_right _ z)
    exact ⟨⟨[], upd_same, .nil⟩, s0, fun q hq => let ⟨o, e1, e2⟩ := k1.ow q hq; ⟨o, new_same hD _ _ e1, q.2.mono s0 e2⟩, k1.sm.trans (new_same hD)⟩
  refine ⟨as.length, G', Y, fun j H' => MidM X (W.up H1) Ω1 D (mcE (as.take j) key val X.K) H', by rw [← hlen]; exact wk, m0, fun j H' _ m => hG H' (m.fr.trans hid_sub), ?_, ?_⟩
  · rintro j x H2 H3 hj m y s' H0' C' cl' fp'
    obtain ⟨d, hd, s23, hdp⟩ := hY j H2 x H3 (m.fr.trans hid_sub) y
    have hO : ∀ a ∈ own Ω1 ++ D :: W.O0, H2 a ≠ none := fun a ha n => by
      rcases List.mem_append.mp ha with z | z
      · obtain ⟨q, hq, rfl⟩ := List.mem_map.mp z
        obtain ⟨o, e, _⟩ := m.ow q hq
        rw [n] at e; cases e
      · rcases List.mem_cons.mp z with z | z
        · obtain ⟨xs, e, _⟩ := m.acc
          rw [← z, n] at e; cases e
        · have q := k1.tr a z
          cases e : W.H0 a with
          | none => exact q e
          | some o => rw [m.sm _ _ e] at n; cases n
    have dx := hdp _ m.fr hO
    rw [List.getElem?_map] at hd
    obtain ⟨a, ha, rfl⟩ := Option.map_eq_some_iff.mp hd
    have hm : a ∈ as := List.mem_of_getElem? ha
    have pt := hp s' H0' C' cl' fp' a hm
    have m3 : MidM X (W.up H1) Ω1 D (mcE (as.take j) key val X.K) H3 := m.step k1 hDw (fun b o e => s23 _ _ (hid_sub _ _ e)) (hid_same s23) fun q hq => let ⟨o, e1, e2⟩ := m.ow q hq; ⟨o, s23 _ _ e1, q.2.mono (hid_same s23) e2⟩
    have l0 : Sl (hid (own Ω1 ++ D :: W.O0) H3) (wipeG Γ (ow.map (·.2))) (wipe W.σ (ow.map (·.2))) := sl_wipe (k1.sl.mono m3.fr) _
    refine wpG_mono (pt.tg _ H3 x _ hid_sub dx l0) ?_
    rintro σ2 H6 ⟨rfl, hw2, l2⟩
    refine ⟨hw2 (hv _), ?_⟩
    refine wpE_mono (pt.kx _ (m3.ok (σ := σ2) k1 hDw l2)) ?_
    rintro y4 H4 ⟨Ω2, φ, ⟨rfl, hφ⟩, w4, s34, p4⟩
    have m4 : MidM X (W.up H1) Ω2 D (mcE (as.take j) key val X.K) H4 := m3.step k1 hDw w4.sm s34 w4.ow
    refine wpE_mono (pt.vx _ (m4.ok (σ := σ2) k1 hDw (l2.mono s34))) ?_
    rintro y5 H5 ⟨Ω3, χ, ⟨rfl, rfl⟩, w5, s45, p5⟩
    have m5 : MidM X (W.up H1) Ω3 D (mcE (as.take j) key val X.K) H5 := m4.step k1 hDw w5.sm s45 w5.ow
    obtain ⟨a1, rfl, ka⟩ := hφ.at_ (φ.mono s45 p4)
    obtain ⟨xs, e5, al5⟩ := m5.acc
    have hl5 : xs.length ≤ j := by
      rw [al5.length]
      unfold mcE
      rw [List.length_map, List.length_take]
      omega
    have hjz : j < sizeLine := by rw [hlen] at hz; omega
    have hnew : look (mcE (as.take j) key val X.K) (key a) = none := look_none_of fun b hb e => by
      obtain ⟨i, hi⟩ := List.mem_iff_getElem?.mp hb
      have hij : i < j := by
        have z := (List.getElem?_eq_some_iff.mp hi).1
        rw [List.length_take] at z; omega
      rw [List.getElem?_take_of_lt hij] at hi
      have z := nd_ix (i := i) (j := j) (x := key a) hnd (by rw [List.getElem?_map, hi, Option.map_some, e]) (by rw [List.getElem?_map, ha]; rfl)
      omega
    have hmem : D ∈ own Ω3 ++ D :: W.O0 := List.mem_append_right _ List.mem_cons_self
    have eF : ∀ o, hid (own Ω3 ++ D :: (W.up H1).O0) (upd H5 D o) = hid (own Ω3 ++ D :: W.O0) H5 := fun o => hid_upd hmem
    have eT : mcE (as.take (j + 1)) key val X.K = mcE (as.take j) key val X.K ++ [(key a, isD X.K (val a))] := by
      unfold mcE
      rw [List.take_add_one, ha, Option.toList_some, List.map_append]; rfl
    refine ⟨xs, key a, a1, rfl, e5, (al5.mono hid_sub).key, ka.mono hid_sub, fresh_of al5 hnew, by omega, ?_⟩
    show MidM X (W.up H1) Ω3 D (mcE (as.take (j + 1)) key val X.K) _
    rw [eT]
    refine ⟨⟨_, upd_same, by rw [eF]; exact KvOk.append (.cons ka p5 .nil) al5⟩, by rw [eF]; exact m5.fr, fun q hq => ?_, fun b o e => ?_⟩
    · obtain ⟨o, e1, e2⟩ := m5.ow q hq
      have hne : q.1 ≠ D := fun z => hDw (List.mem_map.mpr ⟨q, hq, z⟩)
      exact ⟨o, by rw [upd_ne hne]; exact e1, by rw [eF]; exact e2⟩
    · rw [upd_ne (ne_of_none e hD0)]
      exact m5.sm _ _ e
  · intro H' m
    obtain ⟨xs, e, al⟩ := m.acc
    rw [List.take_length] at al
    have eO : hid (own Ω1 ++ D :: W.O0) H' = (W.up H').F (Ω1 ++ [(D, dcO X D (mcE as key val X.K))]) := hid_congr fun a => by
      simp only [own, List.map_append, List.map_cons, List.map_nil, List.mem_append, List.mem_cons, List.not_mem_nil, or_false]
      constructor
      · rintro ((z | z) | z)
        · exact .inl z
        · exact .inr (.inl z)
        · exact .inr (.inr z)
      · rintro (z | z | z)
        · exact .inl (.inl z)
        · exact .inl (.inr z)
        · exact .inr z
    have s2 : Same ((W.up H1).F Ω1) ((W.up H').F (Ω1 ++ [(D, dcO X D (mcE as key val X.K))])) := by rw [← eO]; exact m.fr
    refine ⟨_, _, hk D, ⟨k1.sl.mono s2, fun q hq => ?_, ?_, fun q hq => ?_, m.sm, k1.tr⟩, s1.trans s2, rfl⟩
    · rw [← eO]
      rcases List.mem_append.mp hq with z | z
      · exact m.ow q z
      · obtain rfl : q = (D, dcO X D (mcE as key val X.K)) := by simpa using z
        exact ⟨_, e, xs, rfl, al⟩
    · unfold own
      rw [List.map_append]
      refine List.nodup_append.mpr ⟨k1.nd, by simp, ?_⟩
      intro a ha b hb e'
      have hb' : b = D := by simpa using hb
      exact hDw (by rw [← hb', ← e']; exact ha)
    · rcases List.mem_append.mp hq with z | z
      · exact k1.nw q z
      · obtain rfl : q = (D, dcO X D (mcE as key val X.K)) := by simpa using z
        exact hD0
end
end G
set_option Elab.async false
set_option linter.all false
set_option maxRecDepth 100000
set_option maxHeartbeats 4000000
/-! G9: sorted, of whatever is walked. -/
namespace G
open PySem PySem.Spec PyProof.Rows L2 RZ PySem.Calls
section
variable {prog : Program} {w : World} {A : Around} {E : Value → Shared → Prop} {s : Shared}
theorem collect_seq {T : String} {l : Addr} {o : Obj} {vs : List Value} {n : Nat} {Q : List Value → Shared → Prop} (hT : T = "list" ∨ T = "tuple") (ho : s.heap.get? l = some o) (hc : o.cls = .type T) (hd : o.data = .seq vs.toArray n)
    (h : Q vs { s with heap := (s.heap.push (seqObj "list" #[] 0)).update s.heap.objs.size (Obj.mapSeq (· ++ vs.toArray)) }) (hz : vs.length ≤ sizeLine) : wpAny (model prog w) A (collect (.ref l)) Q E s := by
  unfold collect
  refine wpAny_bind (wpAny_runValue (codeAny_builtin entry_proto_collect' ?_))
  show wpAny _ _ (do again (.builtin "list.__iadd__" ⟨[← newList [], .ref l], []⟩)) _ _ s
  refine wpAny_bind (wpAny_newList (wpAny_pure ⟨Code.quiet_builtin _ (by decide +kernel), codeAny_builtin entry_list_iadd' ?_⟩))
  generalize es : ({ s with heap := s.heap.push (seqObj "list" ([] : List Value).toArray 0) } : Shared) = s1
  have e1 : s1.heap = s.heap.push (seqObj "list" #[] 0) := by rw [← es]
  show wpAny _ _ (Builtin.List.listExtendWith (.ref s.heap.objs.size) (.ref l) (.ref s.heap.objs.size)) _ _ s1
  have hl : s1.heap.get? l = some o := by rw [e1]; exact Heap.get?_push_of_some _ ho
  have hn : s1.heap.get? s.heap.objs.size = some (seqObj "list" #[] 0) := by rw [e1]; exact Heap.get?_push_size _ rfl
  unfold Builtin.List.listExtendWith
  refine wpAny_bind (wpAny_typeOf (T := T) ⟨o, hl, hc⟩ ?_)
  rw [if_pos (by rcases hT with rfl | rfl <;> simp)]
  refine wpAny_bind (listItems_at hl hd (wpAny_bind (listItems_at (xs := #[]) (n := 0) hn rfl ?_)))
  rw [if_neg (by simp)]
  refine wpAny_bind (listUpdate_at (xs := #[]) (n := 0) hn rfl ?_ (Nat.zero_le _) (by show (#[] ++ vs.toArray).size ≤ sizeLine + 1; simp; omega))
  refine wpAny_pure ?_
  show wpAny (model prog w) A (load s.heap.objs.size >>= _) Q E _
  refine wpAny_bind (wpAny_load (get?_update_seq hn _) ?_)
  refine wpAny_pure ?_
  rw [e1, ← es]
  simpa using h
end
abbrev sortD (ds : List PyData) : List PyData := ds.mergeSort (PySem.W.dataLe false id)
/-- data that may be sorted -/
structure CanS (ds : List PyData) : Prop where
  al : PySem.W.AllAlike ds
  so : PySem.W.Sortable ds
  de : ∀ d ∈ ds, d.depth ≤ 8
section
variable {X : Cx} {pins : List (Addr × Obj)} {σ : Stt} {H : Hp} {s : Shared}
theorem vals_each {F : Hp} : ∀ {out : List Value} {ds : List PyData}, PySem.W.EachIs (fun v d => ∃ x, RelV x v ∧ Dp X.K F x d) out ds → ∃ xs, Vals xs out ∧ DpAll X.K F xs ds
  | _, _, .nil => ⟨[], .nil, .nil⟩
  | _, _, .cons h t => by
    obtain ⟨x, r, p⟩ := h
    obtain ⟨xs, rs, ps⟩ := vals_each t
    exact ⟨x :: xs, .cons r rs, .cons p ps⟩
theorem each_vals {F : Hp} : ∀ {xs : List V} {us : List Value} {ds : List PyData}, Vals xs us → DpAll X.K F xs ds → PySem.W.EachIs (fun v d => ∃ x, RelV x v ∧ Dp X.K F x d) us ds
  | _, _, _, .nil, .nil => .nil
  | _, _, _, .cons r rs, .cons p ps => .cons ⟨_, r, p⟩ (each_vals rs ps)
theorem sorted_gen {x : Value} {F : Hp} {S : List PyData → Prop} {Q : VK} (hX : Nor X) (sF : Same F H) (hS : ∀ ds, S ds → CanS ds ∧ ds.length ≤ sizeLine) (hc : wpAny (model X.prog X.w) X.A.in1 (collect x) (fun vs s1 => ∃ xs ds, Inv X pins σ H s1 ∧ Vals xs vs ∧ DpAll X.K F xs ds ∧ S ds) X.xe s)
    (h : ∀ p xs ds, S ds → H p = none → DpAll X.K F xs (sortD ds) → Q (.ref p) (upd H p (.lst xs))) : wpAny (model X.prog X.w) X.A (call (.builtin "sorted") [x]) (EP X pins σ Q) X.xe s := by
  refine Calls.call_function_entry kind_sorted plain_sorted entry_sorted (args_sorted1 _) ?_
  unfold Builtin.«sorted»
  refine wpAny_bind (m := checkCount "sorted" 1 1 _) (wpAny_pure ?_)
  refine wpAny_bind (thn hc fun vs s1 ⟨xs, ds, I, rv, dp, sd⟩ => ?_)
  obtain ⟨⟨hal, hso, hde⟩, hz⟩ := hS ds sd
  have hl := dpAll_length dp
  have hvl : vs.length = ds.length := by rw [← rv.length, hl]
  refine wpAny_bind (wpAny_newList ?_ (by rw [hvl]; exact hz))
  have hoL : (s1.heap.push (seqObj "list" vs.toArray 0)).get? s1.heap.objs.size = some (seqObj "list" vs.toArray 0) := Heap.get?_push_size _ rfl
  have e := each_vals (X := X) rv dp
  have old : ∀ b o, s1.heap.get? b = some o → (PySem.W.sortingHeap (s1.heap.push (seqObj "list" vs.toArray 0)) s1.heap.objs.size vs).get? b = some o := fun b o q =>
    PySem.W.sortingHeap_old (Nat.ne_of_lt (Heap.lt_size q)) (Heap.get?_push_of_some _ q)
  have er : PySem.W.EachIs (fun v d => ∃ as, Reads (PySem.W.sortingHeap (s1.heap.push (seqObj "list" vs.toArray 0)) s1.heap.objs.size vs) v (id d) as) vs ds := e.mono fun v d ⟨y, r, p⟩ =>
    let ⟨as, z⟩ := Dp.reads I d y v (dpS sF p) r; ⟨as, PyProof.Rows.Reads.keeps (fun b o q => old b o q) z⟩
  have hdep : ∀ d ∈ ds, X.A.in1.in1.units + d.depth < cLine := fun d hd => by
    have h1 := hde d hd
    have h2 := hX.room.un
    show X.A.units + 1 + 1 + d.depth < cLine
    omega
  refine wpAny_bind (wpAny_holding (wpAny_call_entry slot_list_sort ⟨_, hoL, rfl⟩ entry_list_sort (PySem.W.list_sort_vals (κ := PySem.W.dataKind (PySem.W.sortingHeap (s1.heap.push (seqObj "list" vs.toArray 0)) s1.heap.objs.size vs) (ds.map id)) hoL
    (PySem.W.SortsAt.data (s := { s1 with heap := PySem.W.sortingHeap (s1.heap.push (seqObj "list" vs.toArray 0)) s1.heap.objs.size vs }) (PySem.W.each_map id er) (by rw [List.map_id]; exact hal) (by rw [List.map_id]; exact hso) (by rw [List.map_id]; exact hdep)) (by rw [hvl]; exact hz) ⟨.none, rfl, ?_⟩) (args_list_sort _)))
  have out := PySem.W.sortVals_data (enc := id) false e er (by rw [List.map_id]; exact hal)
  obtain ⟨ys, ry, dy⟩ := vals_each (X := X) out
  generalize PySem.W.sortVals (PySem.W.dataKind (PySem.W.sortingHeap (s1.heap.push (seqObj "list" vs.toArray 0)) s1.heap.objs.size vs) (ds.map id)) false vs vs = os at ry
  obtain ⟨c, hcc⟩ := sortedHeap_at (vs := vs) (out := os.toArray) hoL
  refine wpAny_pure ⟨_, rfl, .ref s1.heap.objs.size, upd H s1.heap.objs.size (.lst ys), I.laid (t' := s1.toks) (fun b u q => ?_) (Nat.le_refl _) (show ObjOk X.prog X.w _ _ _ (.lst ys) from ⟨?_, os, c, ry, hcc⟩), rfl, h _ ys ds sd (I.hok.fresh (Nat.le_refl _)) dy⟩
  · have hlt := Heap.lt_size q
    show (sortedHeap (s1.heap.push (seqObj "list" vs.toArray 0)) s1.heap.objs.size vs os.toArray).get? b = some u
    rw [sortedHeap_old (Nat.ne_of_lt hlt) (by rw [size_push']; exact Nat.lt_succ_of_lt hlt)]
    exact Heap.get?_push_of_some _ q
  · rw [dpAll_length dy, List.length_mergeSort]
    exact hz
end
end G
set_option Elab.async false
set_option linter.all false
set_option maxRecDepth 100000
set_option maxHeartbeats 4000000
/-! G10: sorted, set, min, max, all, dict(pairs), {k: v}, setdefault, list(d). -/
namespace G
open PySem PySem.Spec PyProof.Rows L2 RZ PySem.Calls
theorem perm_map {α β : Type} (f : α → β) {l1 l2 : List β} (h : l1.Perm l2) : ∀ L : List α, l2 = L.map f → ∃ L' : List α, L'.Perm L ∧ l1 = L'.map f := by
  induction h with
  | nil =>
    intro L e
    have e' : L = [] := List.map_eq_nil_iff.mp e.symm
    exact ⟨[], by rw [e'], rfl⟩
  | cons x _ ih =>
    intro L e
    cases L with
    | nil => cases e
    | cons a L =>
      rw [List.map_cons] at e
      injection e with e1 e2
      obtain ⟨L', p, q⟩ := ih L e2
      exact ⟨a :: L', p.cons a, by rw [List.map_cons, e1, q]⟩
  | swap x y l =>
    intro L e
    match L, e with
    | a :: b :: L, e =>
      rw [List.map_cons, List.map_cons] at e
      injection e with e1 e2
      injection e2 with e2 e3
      exact ⟨b :: a :: L, .swap a b L, by rw [List.map_cons, List.map_cons, e1, e2, e3]⟩
  | trans _ _ ih1 ih2 =>
    intro L e
    obtain ⟨L1, p1, q1⟩ := ih2 L e
    obtain ⟨L2, p2, q2⟩ := ih1 L1 q1
    exact ⟨L2, p2.trans p1, q2⟩
def intsT (k : List Int) : PyData := .tuple (k.map .int)
theorem dpAll_I {K : PySem.W.Frag} {F : Hp} : ∀ {zs : List V} {k : List Int}, DpAll K F zs (k.map PyData.int) → zs = k.map V.int
  | _, [], h => by
    have h' : DpAll K F _ [] := h
    cases h'; rfl
  | _, i :: k, h => by
    have h' : DpAll K F _ (.int i :: k.map .int) := h
    cases h' with
    | cons a b => rw [dp_int a, dpAll_I b]; rfl
theorem iAll_dp {K : PySem.W.Frag} {F : Hp} : ∀ {k : List Int}, DpAll K F (k.map V.int) (k.map PyData.int)
  | [] => .nil
  | _ :: _ => .cons (.int _) iAll_dp
section
variable {X : Cx}
/-- what may be sorted, as it stands -/
inductive SrcH (X : Cx) (x : V) (F H : Hp) : (List PyData → Prop) → Prop
  | q {a : Addr} {xs : List V} {ds : List PyData} : x = .ref a → (SqL X.K H a xs ∨ SqT X.K H a xs) → DpAll X.K F xs ds → SrcH X x F H (· = ds)
  | m {p : Addr} {xs : List Ent} : x = .ref p → H p = some (dctH X.prog X.w p xs) → (∀ x ∈ xs, Key1 X.K F x.1 x.2.1) → SrcH X x F H (· = xs.map (·.1.data))
  | s {a : Addr} {L : List (Addr × List Int)} : x = .ref a → H a = some (SetTO X.prog X.w a L) → (∀ p ∈ L, SqT X.K F p.1 (p.2.map V.int)) → SrcH X x F H (fun ds => ∃ ks : List (List Int), ks.Perm (L.map (·.2)) ∧ ks.Nodup ∧ ds = ks.map intsT)
def rSort (X : Cx) : List V → Hp → VK → Prop := fun xs H Q => ∃ x F S, xs = [x] ∧ Same F H ∧ SrcH X x F H S ∧ (∀ ds, S ds → CanS ds ∧ ds.length ≤ sizeLine) ∧ ∀ p ys ds, S ds → H p = none → DpAll X.K F ys (sortD ds) → Q (.ref p) (upd H p (.lst ys))
theorem ents_dp {K : PySem.W.Frag} {F : Hp} : ∀ {xs : List Ent}, (∀ x ∈ xs, Key1 K F x.1 x.2.1) → DpAll K F (xs.map fun x => V.ref x.2.1) (xs.map (·.1.data))
  | [], _ => .nil
  | x :: xs, h => .cons (h x List.mem_cons_self).dp (ents_dp fun y hy => h y (List.mem_cons_of_mem _ hy))
theorem relE_addr : ∀ {xs : List Ent} {vs : List (NK × Addr × Value)}, RelE xs vs → (vs.map fun x => x.2.1) = xs.map fun x => x.2.1
  | _, _, .nil => rfl
  | _, _, .cons r t => by rw [List.map_cons, List.map_cons, r.2.1, relE_addr t]
theorem vals_refs : ∀ {as : List Addr}, Vals (as.map V.ref) (as.map Value.ref)
  | [] => .nil
  | _ :: _ => .cons rfl vals_refs
theorem acc_refs {es : Array DictEntry} {as : List Addr} {acc : Array Value} (he : ∀ i, (h : i < es.size) → ∃ a, as[i]? = some a ∧ es[i].key = .ref a) (hs : es.size = as.length)
    (h : ItemsOf (fun i v => ∃ en : DictEntry, es[i]? = some en ∧ v = en.key) acc es.size) : acc.toList = as.map Value.ref := by
  refine List.ext_getElem? fun i => ?_
  by_cases hi : i < es.size
  · obtain ⟨a, ha, hk⟩ := he i hi
    have hia : i < acc.size := by rw [h.1]; exact hi
    obtain ⟨en, e1, e2⟩ := h.2 i acc[i] (by simp [hia])
    rw [Array.getElem?_eq_getElem hi] at e1
    cases e1
    rw [List.getElem?_map, ha, Array.getElem?_toList, Array.getElem?_eq_getElem hia, e2, hk]; rfl
  · rw [List.getElem?_eq_none (by rw [Array.length_toList, h.1]; omega), List.getElem?_eq_none (by rw [List.length_map]; omega)]
theorem dct_ents {p : Addr} {xs : List Ent} {h : Heap} (d : DctAt X.prog X.w p xs h) : ∃ o es ep, h.get? p = some o ∧ o.ExactDict ∧ o.data = .dict es ep ∧ es.size = xs.length ∧ ∀ i, (hi : i < es.size) → ∃ a, (xs.map fun x => x.2.1)[i]? = some a ∧ es[i].key = .ref a := by
  obtain ⟨_, _, vs, r, o, es, ep, ho, hx, hd, he, _⟩ := d
  have hs : es.size = xs.length := by
    have z := congrArg List.length he
    rw [Array.length_toList, List.length_map] at z
    rw [z, relE_len r]
  refine ⟨o, es, ep, ho, hx, hd, hs, fun i hi => ?_⟩
  have hi' : i < vs.length := by rw [← relE_len r, ← hs]; exact hi
  have e1 : es.toList[i]? = some es[i] := by rw [Array.getElem?_toList, Array.getElem?_eq_getElem hi]
  rw [he, List.getElem?_map, List.getElem?_eq_getElem hi', Option.map_some] at e1
  refine ⟨vs[i].2.1, ?_, ?_⟩
  · rw [← relE_addr r, List.getElem?_map, List.getElem?_eq_getElem hi']; rfl
  · rw [← Option.some.inj e1]; rfl
theorem cr_sort (hX : Nor X) : CallR X (.builtin "sorted") (rSort X) := by
  intro pins s σ H xs us Q I r h
  obtain ⟨x, F, S, rfl, sF, src, hS, q⟩ := h
  obtain ⟨u, rfl, rx⟩ := vals1 r
  refine sorted_gen hX sF hS ?_ q
  cases src with
  | @q a xs ds e hq dp =>
    subst e
    obtain rfl : u = Value.ref a := rx
    rcases hq with hq | hq
    · obtain ⟨its, rv, ⟨o, n, ho, hc, hd, hdat⟩, hz⟩ := I.list hq
      refine collect_seq (.inl rfl) ho hc hdat ⟨xs, ds, I.kept (t' := s.toks) (fun b o e => ?_), rv, dp, rfl⟩ (by rw [← rv.length]; exact hz)
      rw [Heap.get?_update_ne _ _ _ _ (Nat.ne_of_lt (Heap.lt_size e))]
      exact Heap.get?_push_of_some _ e
    · obtain ⟨its, rv, ⟨o, ho, hc, n, hd⟩, hz⟩ := I.tuple hq
      refine collect_seq (.inr rfl) ho hc hd ⟨xs, ds, I.kept (t' := s.toks) (fun b o e => ?_), rv, dp, rfl⟩ (by rw [← rv.length]; exact hz)
      rw [Heap.get?_update_ne _ _ _ _ (Nat.ne_of_lt (Heap.lt_size e))]
      exact Heap.get?_push_of_some _ e
  | @m p xs e hp kk =>
    subst e
    obtain rfl : u = Value.ref p := rx
    have d : DctAt X.prog X.w p xs s.heap := (show ObjOk X.prog X.w H s.heap p (.ext _) from I.hok p _ hp).1
    obtain ⟨hs, hz, _⟩ := id d
    obtain ⟨o, es, ep, ho, hx, hd, hn, he⟩ := dct_ents d
    refine PySem.W.kdu_collect (A := X.A.in1) (kdl_raw hs hx hd) (I.ok.hd hX.calm) ho (by rw [hn]; exact hz) fun h' tk acc k hacc => ⟨xs.map fun x => V.ref x.2.1, _, I.kept k, ?_, ents_dp kk, rfl⟩
    rw [acc_refs he (by rw [List.length_map]; exact hn) hacc]
    have z := vals_refs (as := xs.map fun x => x.2.1)
    rwa [List.map_map] at z
  | @s a L e ha kk =>
    subst e
    obtain rfl : u = Value.ref a := rx
    have R0 : SetT0 X.prog X.w s.heap a L := (I.hok a _ ha).1
    obtain ⟨es, ep, t, R⟩ := R0.full fun p hp => I.isT (sameT sF (kk p hp))
    obtain ⟨o, ho, hex, hd⟩ := R.ob
    have hsz := R.size
    have hfew := R.few
    refine collect_set (A := X.A.in1) (I.ok.hd hX.calm) ⟨o, ho, hex.1, hd⟩ R.fits (by unfold scanBound; omega) R.tab.ris R.led fun s1 out k1 hz g1 o1 pm => ?_
    have hes : es.toList.map (·.2) = L.map fun q => Value.ref q.1 := by
      rw [R.rows, rowsOf, List.map_map]; rfl
    rw [hes] at pm
    obtain ⟨L', pl, rfl⟩ := perm_map (fun q : Addr × List Int => Value.ref q.1) pm L rfl
    refine ⟨L'.map fun q => V.ref q.1, L'.map fun q => intsT q.2, I.call' (ch := []) o1 (Un.kept k1) (I.hok.kept k1) (by rw [g1]; exact I.bare) (fun _ z => nomatch z), ?_, ?_, L'.map (·.2), pl.map _, ?_, ?_⟩
    · have z := vals_refs (as := L'.map (·.1))
      rw [List.map_map, List.map_map] at z
      exact z
    · have all : ∀ M : List (Addr × List Int), (∀ p ∈ M, p ∈ L) → DpAll X.K F (M.map fun q => V.ref q.1) (M.map fun q => intsT q.2) := by
        intro M
        induction M with
        | nil => intro _; exact .nil
        | cons q M ih => intro hM; exact .cons (.tup (kk q (hM q List.mem_cons_self)) iAll_dp) (ih fun p hp => hM p (List.mem_cons_of_mem _ hp))
      exact all L' fun p hp => pl.mem_iff.mp hp
    · exact ((pl.map _).nodup_iff).mpr R.nd
    · rw [List.map_map]; rfl
end
/-- a set of tuples of ints that stands -/
def isST (P : Program) (w : World) (K : PySem.W.Frag) (ks : List (List Int)) : MP := ⟨fun F v => ∃ (a : Addr) (L : List (Addr × List Int)), v = .ref a ∧ F a = some (SetTO P w a L) ∧ (∀ p ∈ L, SqT K F p.1 (p.2.map V.int)) ∧ ∀ k : List Int, k ∈ (L.map fun p : Addr × List Int => p.2) ↔ k ∈ ks,
  fun e h => let ⟨a, L, q1, q2, q3, q4⟩ := h; ⟨a, L, q1, e _ _ q2, fun p hp => sameT e (q3 p hp), q4⟩⟩
/-- what may be sorted, by its meaning -/
inductive Srt (X : Cx) (Ω : Om) : MP → (List PyData → Prop) → Prop
  | q {φ : MP} {ds : List PyData} : Sq X.K Ω φ ds → Srt X Ω φ (· = ds)
  | m {φ : MP} {kvs : List (NK × MP)} : MsX X Ω φ kvs → Srt X Ω φ (· = kvs.map (·.1.data))
  | s {ks : List (List Int)} : Srt X Ω (isST X.prog X.w X.K ks) (fun ds => ∃ ks' : List (List Int), ks'.Nodup ∧ (∀ k, k ∈ ks' ↔ k ∈ ks) ∧ ds = ks'.map intsT)
theorem KvOk.keys {K : PySem.W.Frag} {F : Hp} : ∀ {xs : List Ent} {kvs : List (NK × MP)}, KvOk K F xs kvs → xs.map (·.1.data) = kvs.map (·.1.data)
  | _, _, .nil => rfl
  | _, _, .cons _ _ c => by rw [List.map_cons, List.map_cons, c.keys]
section
variable {X : Cx} {a b c e o i f : Expr} {es : List Expr} {Γ : Ga} {Ω : Om} {k : Om → MP → Prop} {kT : Om → Bool → Prop} {pos cpos apos tpos p2 pt : Pos} {D : SEnd}
theorem ev_sorted (hX : Nor X) (hm : X.mg "sorted" = none) (h : ev X e Γ Ω fun Ω1 φ => ∃ S, Srt X Ω1 φ S ∧ (∀ ds, S ds → CanS ds ∧ ds.length ≤ sizeLine) ∧ ∀ ds, S ds → k Ω1 (isL X.K (sortD ds))) (hg : Gl X "sorted" := by rfl)
    (he : starEach [e] X.env = (false, eval e X.env) :: starEach [] X.env := by rfl) : ev X (.Call (.Name "sorted" p2) [e] [] pos) Γ Ω k :=
  ev_callB (cr_sort hX) hm (by rfl) (evA_cons (ev_imp h fun Ω1 φ g => evA_nil fun W vs Q _ w al z => by
    obtain ⟨S, src, hS, g⟩ := g
    obtain ⟨v, rfl, p⟩ := al1 al
    have fin : ∀ (q : Addr) (ys : List V) (ds : List PyData), S ds → W.H q = none → DpAll X.K (W.F Ω1) ys (sortD ds) → Q (.ref q) (upd W.H q (.lst ys)) := fun q ys ds hs hn hd =>
      z _ _ (post_new w hn (g ds hs) fun F e' he' => ⟨q, _, rfl, he', ys, rfl, dpAllS e' hd⟩)
    cases src with
    | q l =>
      obtain ⟨a, xs, rfl, hq, d⟩ := l.at_ w p
      exact ⟨_, W.F Ω1, _, rfl, hid_sub, .q rfl hq d, hS, fun q ys ds hs hn hd => fin q ys ds hs hn hd⟩
    | m l =>
      obtain ⟨q1, xs, rfl, e1, kv⟩ := l.at_ w p
      exact ⟨_, W.F Ω1, _, rfl, hid_sub, .m rfl e1 kv.key, by rw [kv.keys]; exact hS, fun q ys ds hs hn hd => fin q ys ds (by rw [hs, kv.keys]) hn hd⟩
    | s =>
      obtain ⟨a, L, rfl, e1, q3, q4⟩ := p
      have cv : ∀ ds, (∃ ks : List (List Int), ks.Perm (L.map (·.2)) ∧ ks.Nodup ∧ ds = ks.map intsT) → (∃ ks' : List (List Int), ks'.Nodup ∧ (∀ k, k ∈ ks' ↔ k ∈ _) ∧ ds = ks'.map intsT) := fun ds ⟨ks, h1, h2, h3⟩ => ⟨ks, h2, fun k => (h1.mem_iff).trans (q4 k), h3⟩
      exact ⟨_, W.F Ω1, _, rfl, hid_sub, .s rfl (hid_sub _ _ e1) q3, fun ds hs => hS ds (cv ds hs), fun q ys ds hs hn hd => fin q ys ds (cv ds hs) hn hd⟩) he) hg (he := he)
/-- set(xs) of a list of tuples of ints -/
theorem dp_rows {K : PySem.W.Frag} {F : Hp} : ∀ {xs : List V} {ks : List (List Int)}, DpAll K F xs (ks.map intsT) → ∃ L : List (Addr × List Int), xs = L.map (fun p => V.ref p.1) ∧ (∀ p ∈ L, SqT K F p.1 (p.2.map V.int)) ∧ L.map (·.2) = ks
  | _, [], h => by
    have h' : DpAll K F _ [] := h
    cases h'
    exact ⟨[], rfl, (fun _ z => nomatch z), rfl⟩
  | _, k :: ks, h => by
    have h' : DpAll K F _ (intsT k :: ks.map intsT) := h
    cases h' with
    | cons h1 h2 =>
      obtain ⟨a, zs, rfl, e, al⟩ := dp_tup h1
      obtain ⟨L, rfl, q, rfl⟩ := dp_rows h2
      rw [dpAll_I al] at e
      refine ⟨(a, k) :: L, rfl, fun p hp => ?_, rfl⟩
      rcases List.mem_cons.mp hp with rfl | hp
      · exact e
      · exact q p hp
theorem ev_setT (hX : Nor X) (hu : X.A.units + 64 < cLine) (hm : X.mg "set" = none) (h : ev X e Γ Ω fun Ω1 φ => ∃ ks : List (List Int), Ls X.K Ω1 φ (ks.map intsT) ∧ ks.length < 64 ∧ k Ω1 (isST X.prog X.w X.K ks)) (hg : Gl X "set" := by rfl)
    (he : starEach [e] X.env = (false, eval e X.env) :: starEach [] X.env := by rfl) : ev X (.Call (.Name "set" p2) [e] [] pos) Γ Ω k :=
  ev_callTy (cr_setOfT hX.calm hu) hm (by rfl) (evA_cons (ev_imp h fun Ω1 φ g => evA_nil fun W vs Q _ w al z => by
    obtain ⟨ks, l, hn, g⟩ := g
    obtain ⟨v, rfl, p⟩ := al1 al
    obtain ⟨a, xs, rfl, q, d⟩ := l.at_ w p
    obtain ⟨L, rfl, q3, e3⟩ := dp_rows d
    have hl : L.length = ks.length := by rw [← e3, List.length_map]
    refine ⟨a, L, rfl, q, fun p hp => sameT hid_sub (q3 p hp), by rw [hl]; exact hn, fun b M hb h1 h2 => z _ _ (post_new w hb g fun F e' he' => ⟨b, M, rfl, he', fun p hp => sameT e' (q3 p (h1 p hp)), fun k => ?_⟩)⟩
    rw [← e3]
    constructor
    · intro hk
      obtain ⟨p, hp, rfl⟩ := List.mem_map.mp hk
      exact List.mem_map.mpr ⟨p, h1 p hp, rfl⟩
    · intro hk
      obtain ⟨p, hp, rfl⟩ := List.mem_map.mp hk
      exact h2 p hp) he) hg (he := he)
/-! ### min, max, all -/
theorem ev_minL (hX : Nor X) (hm : X.mg "min" = none) (h : ev X e Γ Ω fun Ω1 φ => ∃ ns : List Int, Ls X.K Ω1 φ (ns.map .int) ∧ 0 < ns.length ∧ ∀ m, m ∈ ns → (∀ y, y ∈ ns → m ≤ y) → k Ω1 (isD X.K (.int m))) (hg : Gl X "min" := by rfl)
    (he : starEach [e] X.env = (false, eval e X.env) :: starEach [] X.env := by rfl) : ev X (.Call (.Name "min" p2) [e] [] pos) Γ Ω k :=
  ev_callB (cr_min hX.calm) hm (by rfl) (evA_cons (ev_imp h fun Ω1 φ g => evA_nil fun W vs Q _ w al z => by
    obtain ⟨ns, l, hn, g⟩ := g
    obtain ⟨v, rfl, p⟩ := al1 al
    obtain ⟨a, xs, rfl, q, d⟩ := l.at_ w p
    rw [dpAll_I d] at q
    exact ⟨a, ns, rfl, q, hn, fun m h1 h2 => z _ _ (post_pure w (g m h1 h2) (.int _))⟩) he) hg (he := he)
theorem ev_maxL (hX : Nor X) (hm : X.mg "max" = none) (h : ev X e Γ Ω fun Ω1 φ => ∃ ns : List Int, Ls X.K Ω1 φ (ns.map .int) ∧ 0 < ns.length ∧ ∀ m, m ∈ ns → (∀ y, y ∈ ns → y ≤ m) → k Ω1 (isD X.K (.int m))) (hg : Gl X "max" := by rfl)
    (he : starEach [e] X.env = (false, eval e X.env) :: starEach [] X.env := by rfl) : ev X (.Call (.Name "max" p2) [e] [] pos) Γ Ω k :=
  ev_callB (cr_max hX.calm) hm (by rfl) (evA_cons (ev_imp h fun Ω1 φ g => evA_nil fun W vs Q _ w al z => by
    obtain ⟨ns, l, hn, g⟩ := g
    obtain ⟨v, rfl, p⟩ := al1 al
    obtain ⟨a, xs, rfl, q, d⟩ := l.at_ w p
    rw [dpAll_I d] at q
    exact ⟨a, ns, rfl, q, hn, fun m h1 h2 => z _ _ (post_pure w (g m h1 h2) (.int _))⟩) he) hg (he := he)
theorem dp_bools {K : PySem.W.Frag} {F : Hp} : ∀ {zs : List V} {k : List Bool}, DpAll K F zs (k.map PyData.bool) → zs = k.map V.bl
  | _, [], h => by
    have h' : DpAll K F _ [] := h
    cases h'; rfl
  | _, i :: k, h => by
    have h' : DpAll K F _ (.bool i :: k.map .bool) := h
    cases h' with
    | cons a b => rw [dp_bool a, dp_bools b]; rfl
theorem ev_all (hX : Nor X) (hm : X.mg "all" = none) (h : ev X e Γ Ω fun Ω1 φ => ∃ bs : List Bool, Ls X.K Ω1 φ (bs.map .bool) ∧ k Ω1 (isD X.K (.bool (bs.all id)))) (hg : Gl X "all" := by rfl)
    (he : starEach [e] X.env = (false, eval e X.env) :: starEach [] X.env := by rfl) : ev X (.Call (.Name "all" p2) [e] [] pos) Γ Ω k :=
  ev_callB (cr_all hX.calm) hm (by rfl) (evA_cons (ev_imp h fun Ω1 φ g => evA_nil fun W vs Q _ w al z => by
    obtain ⟨bs, l, g⟩ := g
    obtain ⟨v, rfl, p⟩ := al1 al
    obtain ⟨a, xs, rfl, q, d⟩ := l.at_ w p
    rw [dp_bools d] at q
    exact ⟨a, bs, rfl, q, z _ _ (post_pure w g (.bl _))⟩) he) hg (he := he)
end
end G
set_option Elab.async false
set_option linter.all false
set_option maxRecDepth 100000
set_option maxHeartbeats 4000000
/-! G11: small rules on top. -/
namespace G
open PySem PySem.Spec PyProof.Rows L2 RZ PySem.Calls
theorem le1000 {α : Type} {xs : List α} {n : Nat} (h : xs.length = n) (hn : n ≤ 1000) : xs.length ≤ 1000 := by omega
section
variable {X : Cx} {a b c e o i f : Expr} {es : List Expr} {Γ : Ga} {Ω : Om} {k : Om → MP → Prop} {kT : Om → Bool → Prop} {kA : Om → List MP → Prop} {pos cpos apos tpos p2 pt : Pos} {D : SEnd}
theorem ev_tup2 {n : Nat} (h : ev X a Γ Ω fun Ω1 φ => ev X b Γ Ω1 fun Ω2 ψ => ∃ x y, Dat X.K φ x ∧ Dat X.K ψ y ∧ k Ω2 (isD X.K (.tuple [x, y])))
    (h1 : starEach [a, b] X.env = (false, eval a X.env) :: starEach [b] X.env := by rfl) (h2 : starEach [b] X.env = (false, eval b X.env) :: starEach [] X.env := by rfl) : ev X (.Tuple [a, b] n pos) Γ Ω k :=
  ev_tup (evA_cons (ev_imp h fun Ω1 φ g => evA_cons (ev_imp g fun Ω2 ψ ⟨x, y, p, q, g⟩ => evA_nil ⟨[x, y], .cons p (.cons q .nil), le1000 (n := 2) rfl (by decide), g⟩) h2) h1)
theorem ev_lst1 (h : ev X a Γ Ω fun Ω1 φ => ∃ x, Dat X.K φ x ∧ ∀ p, k (Ω1 ++ [(p, lstO X.K [x])]) (isV (.ref p))) (h1 : starEach [a] X.env = (false, eval a X.env) :: starEach [] X.env := by rfl) : ev X (.List [a] pos) Γ Ω k :=
  ev_lstO (evA_cons (ev_imp h fun Ω1 φ ⟨x, p, g⟩ => evA_nil ⟨[x], .cons p .nil, le1000 (n := 1) rfl (by decide), g⟩) h1)
theorem ev_lst0 (h : ∀ p, k (Ω ++ [(p, lstO X.K [])]) (isV (.ref p))) : ev X (.List [] pos) Γ Ω k :=
  ev_lstO (evA_nil ⟨[], .nil, by decide, h⟩)
theorem empty_dp {K : PySem.W.Frag} {F : Hp} {xs : List V} {ds : List PyData} (h : DpAll K F xs ds) : (!xs.isEmpty) = !ds.isEmpty := by cases h <;> rfl
/-- is something in it -/
theorem evT_some (h : ev X e Γ Ω fun Ω1 φ => ∃ ds, Sq X.K Ω1 φ ds ∧ kT Ω1 (!ds.isEmpty)) (he : ∀ whole, isTrue e X.env whole = (do let v ← whole; standAt e.pos; holding [v] (truthy v)) := by intro _; rfl) : evT X e Γ Ω kT := fun W w => by
  refine wpT_of (pt_truth peE he) (wpE_mono (h W w) ?_)
  rintro v H1 ⟨Ω1, φ, ⟨ds, l, g⟩, k1, s1, p1⟩
  obtain ⟨a, xs, rfl, hq, d⟩ := l.at_ k1 p1
  refine ⟨!ds.isEmpty, ?_, Ω1, g, k1, s1⟩
  rcases hq with hq | hq
  · exact .inl ⟨xs, hq, (empty_dp d).symm⟩
  · exact .inr (.inl ⟨xs, hq, (empty_dp d).symm⟩)
/-- a slice of a tuple -/
theorem ev_cutT {lo hi : Option Expr} {i j : Option Int} (h1 : PoC X lo i) (h2 : PoC X hi j) (h : ev X a Γ Ω fun Ω1 φ => ∃ ds, φ = isD X.K (.tuple ds) ∧ k Ω1 (isD X.K (.tuple (cutD ds i j)))) : ev X (.Subscript a (.Slice lo hi none p2) pos) Γ Ω k := fun W w => by
  refine wpE_of (pe_slice sl_tupA peE h1 h2) (wpE_mono (h W w) ?_)
  rintro x H1 ⟨Ω1, φ, ⟨ds, rfl, g⟩, k1, s1, p1⟩
  obtain ⟨a1, x1, rfl, e1, d1⟩ := dp_tup p1
  have hl := dpAll_length d1
  refine ⟨a1, x1, rfl, sameT hid_sub e1, fun hw => ?_, fun _ p hp => post_chain s1 (post_new k1 hp g fun F e q => .tup (SqT.of q) (dpAllS e (cut_dp d1 i j)))⟩
  have ec : cutD ds i j = ds := by
    unfold cutD
    rw [hl] at hw
    rw [hw.1, hw.2, List.drop_zero, Nat.sub_zero, List.take_length]
  exact post_chain s1 (post_pure k1 g (by rw [ec]; exact p1))
/-- t + u -/
theorem ev_catT (h : ev X a Γ Ω fun Ω1 φ => ev X b Γ Ω1 fun Ω2 ψ => ∃ xs ys, φ = isD X.K (.tuple xs) ∧ ψ = isD X.K (.tuple ys) ∧ xs.length + ys.length ≤ sizeLine ∧ k Ω2 (isD X.K (.tuple (xs ++ ys)))) : ev X (.BinOp a .Add b pos) Γ Ω k :=
  ev_bin op_catA (ev_imp h fun Ω1 φ h => ev_imp h fun Ω2 ψ ⟨xs, ys, e1, e2, hz, g⟩ => fun W x y Q _ w p q z => by
    subst e1 e2
    obtain ⟨a1, x1, rfl, h1, d1⟩ := dp_tup p
    obtain ⟨a2, x2, rfl, h2, d2⟩ := dp_tup q
    refine ⟨a1, a2, x1, x2, rfl, rfl, sameT hid_sub h1, sameT hid_sub h2, by rw [dpAll_length d1, dpAll_length d2]; exact hz, fun e => ?_, fun _ e => ?_, fun _ _ p hp => z _ _ (post_new w hp g fun F e q => .tup (SqT.of q) (dpAllS e (dpAll_append d1 d2)))⟩
    · subst e
      cases d1
      exact z _ _ (post_pure w g (by rw [List.nil_append]; exact q))
    · subst e
      cases d2
      exact z _ _ (post_pure w g (by rw [List.append_nil]; exact p)))
end
end G
set_option Elab.async false
set_option linter.all false
set_option maxRecDepth 100000
set_option maxHeartbeats 4000000
/-! G12: a for over whatever is walked. -/
namespace G
open PySem PySem.Spec PyProof.Rows L2 RZ PySem.Calls
section
variable {X : Cx} {tg iter : Expr} {body : List Stmt} {Γ : Ga} {Ω : Om} {D : SEnd} {pos : Pos}
theorem Wd.Ok.all {W : Wd} {Γ : Ga} {Ω : Om} (k : W.Ok Γ Ω) : ∀ a ∈ own Ω ++ W.O0, W.H a ≠ none := fun a ha => by
  rcases List.mem_append.mp ha with z | z
  · obtain ⟨q, hq, rfl⟩ := List.mem_map.mp z
    obtain ⟨o, e, _⟩ := k.ow q hq
    rw [e]
    simp
  · exact k.tr1 z
theorem st_forI (hX : Nor X) (h : evI X tg iter Γ Ω fun Ω1 ds => ∃ I : Nat → Ga → Om → Prop, I 0 Γ Ω1 ∧
      (∀ i d Γ' Ω', ds[i]? = some d → I i Γ' Ω' → tgt X tg (isD X.K d) Γ' Ω' fun Γ2 Ω2 => stB X body Γ2 Ω2 { D with nx := Wkn (I (i + 1)), ct := Wkn (I (i + 1)), bk := D.nx }) ∧ ∀ Γ' Ω', I ds.length Γ' Ω' → D.nx Γ' Ω')
    (hs : ∀ x, foldedSetIterable iter X.env x = pure x := by intro _; rfl) : st X (.For tg iter body [] pos) Γ Ω D := fun W w => by
  refine wpS_of (ps_for hX.pas hX.calm piI pgG pssB hs) ?_
  have g := h W w
  intro pins s I0
  refine thn (g pins s I0) fun v s1 hv1 => thn hv1 ?_
  rintro itv s2 ⟨it, fp, tn, J, H1, rfl, I1, T, tt, ff, Ω1, ds, ⟨I, i0, step, fin⟩, k1, s1, hz, G', Y, wk, hG, hY⟩
  refine ⟨it, fp, tn, J, H1, rfl, I1, T, tt, ff, ?_⟩
  refine for_it wk (fun i => go (W.up H1) Ω1 (I i)) ⟨Γ, Ω1, i0, k1, Same.refl _⟩ ?_ ?_ ?_
  · rintro i σ' H' _ ⟨Γ', Ω', _, k2, s2⟩
    exact hG H' (s2.trans hid_sub)
  · rintro i x σ' H' H'' hi ⟨Γ', Ω', hI, k2, s2⟩ y
    obtain ⟨d, hd, s23, hdp⟩ := hY i H' x H'' (s2.trans hid_sub) y
    have dx := hdp _ s2 k2.all
    obtain ⟨k3, s3⟩ := k2.same (H' := H'') s23
    have s12 : Same ((W.up H1).F Ω1) ((W.st σ' H'').F Ω') := s2.trans s3
    refine wpG_mono (step i d Γ' Ω' hd hI (W.st σ' H'') x k3 dx) ?_
    rintro σ2 H2 ⟨Γ2, Ω2, gg, k4, s4⟩
    have m1 := e_chain (D := { D with nx := Wkn (I (i + 1)), ct := Wkn (I (i + 1)), bk := D.nx }) (s12.trans s4 : Same ((W.up H1).F Ω1) (((W.up H1).st σ2 H2).F Ω2))
    have m2 := e_chain (D := { D with nx := Wkn (I (i + 1)), ct := Wkn (I (i + 1)), bk := D.nx }) (s1.trans (s12.trans s4) : Same (W.F Ω) ((W.st σ2 H2).F Ω2))
    refine wpB_mono (gg (W.st σ2 H2) k4) ⟨fun σ3 H3 q => ?_, fun v H3 q => m2.rt v H3 q, fun σ3 H3 q => m2.bk σ3 H3 q, fun σ3 H3 q => ?_⟩
    · exact (m1.nx σ3 H3 q : go _ _ _ _ _) |> Wkn.go
    · exact (m1.ct σ3 H3 q : go _ _ _ _ _) |> Wkn.go
  · rintro σ' H' ⟨Γ', Ω', hI, k2, s2⟩
    exact ⟨Γ', Ω', fin _ _ hI, k2, s1.trans s2⟩
/-- a list or a tuple -/
def sqM (K : PySem.W.Frag) (t : Bool) (ds : List PyData) : MP := if t = true then isD K (.tuple ds) else isL K ds
theorem evI_sq {t : Bool} {kI : Om → List PyData → Prop} (h : ev X iter Γ Ω fun Ω1 φ => ∃ ds, φ = sqM X.K t ds ∧ kI Ω1 ds) : evI X tg iter Γ Ω kI := by
  cases t with
  | true => exact evI_tup (ev_imp h fun Ω1 φ ⟨ds, e, g⟩ => ⟨ds, e, g⟩)
  | false => exact evI_list (ev_imp h fun Ω1 φ ⟨ds, e, g⟩ => ⟨ds, by rw [e]; exact .l, g⟩)
end
section
variable {X : Cx} {a b c e o i f : Expr} {es : List Expr} {Γ : Ga} {Ω : Om} {k : Om → MP → Prop} {kT : Om → Bool → Prop} {kA : Om → List MP → Prop} {pos cpos apos tpos p2 pt : Pos} {D : SEnd}
/-- list(d) of a dict -/
theorem cr_listM (hc : X.calm = true) : CallR X (.type "list") (fun us H Q => ∃ (p : Addr) (xs : List Ent), us = [.ref p] ∧ H p = some (dctH X.prog X.w p xs) ∧ ∀ q, H q = none → Q (.ref q) (upd H q (.lst (xs.map fun x => V.ref x.2.1)))) := by
  intro pins s σ H xs us Q I r h
  obtain ⟨p, xs, rfl, e, q⟩ := h
  rw [Vals.ref1 r]
  have d : DctAt X.prog X.w p xs s.heap := (show ObjOk X.prog X.w H s.heap p (.ext _) from I.hok p _ e).1
  obtain ⟨hs, hz, _⟩ := id d
  obtain ⟨o, es, ep, ho, hx, hd, hn, he⟩ := dct_ents d
  refine PySem.W.kdl_call (kdl_raw hs hx hd) (I.ok.hd hc) ho (by rw [hn]; exact hz) fun h' tk acc c' k hS hacc => ?_
  refine ⟨.ref s.heap.objs.size, upd H s.heap.objs.size (.lst (xs.map fun x => V.ref x.2.1)), I.laid k (Nat.le_refl _) (show ObjOk X.prog X.w _ _ _ (.lst _) from ⟨by rw [List.length_map]; exact hz, acc.toList, c', ?_, by rw [Array.toArray_toList]; exact hS⟩), rfl, q _ (I.hok.fresh (Nat.le_refl _))⟩
  rw [acc_refs he (by rw [List.length_map]; exact hn) hacc]
  have z := vals_refs (as := xs.map fun x => x.2.1)
  rwa [List.map_map] at z
theorem ev_listM (hX : Nor X) (hm : X.mg "list" = none) (h : ev X e Γ Ω fun Ω1 φ => ∃ kvs, MsX X Ω1 φ kvs ∧ k Ω1 (isL X.K (kvs.map (·.1.data)))) (hg : Gl X "list" := by rfl)
    (he : starEach [e] X.env = (false, eval e X.env) :: starEach [] X.env := by rfl) : ev X (.Call (.Name "list" p2) [e] [] pos) Γ Ω k :=
  ev_callTy (cr_listM hX.calm) hm boot_list (evA_cons (ev_imp h fun Ω1 φ g => evA_nil fun W vs Q _ w al z => by
    obtain ⟨kvs, l, g⟩ := g
    obtain ⟨v, rfl, p⟩ := al1 al
    obtain ⟨q1, xs, rfl, e1, kv⟩ := l.at_ w p
    exact ⟨q1, xs, rfl, e1, fun q hq => z _ _ (post_new w hq g fun F e' he' => ⟨q, _, rfl, he', _, rfl, by rw [← kv.keys]; exact dpAllS e' (ents_dp kv.key)⟩)⟩) he) hg (he := he)
end
end G
set_option Elab.async false
set_option linter.all false
set_option maxRecDepth 100000
set_option maxHeartbeats 4000000
/-! G13: a made dict that stands; data not too deep. -/
namespace G
open PySem PySem.Spec PyProof.Rows L2 RZ PySem.Calls
section
variable {X : Cx} {a b c e o i f : Expr} {es : List Expr} {Γ : Ga} {Ω : Om} {k : Om → MP → Prop} {kT : Om → Bool → Prop} {kA : Om → List MP → Prop} {pos cpos apos tpos p2 pt : Pos} {D : SEnd}
theorem ev_fzM (h : ev X e Γ Ω fun Ω1 φ => ∃ (j : Nat) (p : Addr) (kvs : List (NK × MP)), φ = isV (.ref p) ∧ Ω1[j]? = some (p, dcO X p kvs) ∧ k (Ω1.eraseIdx j) (isM X.prog X.w X.K kvs)) : ev X e Γ Ω k := fun W w => wpE_mono (h W w) (by
  rintro x H1 ⟨Ω1, φ, ⟨j, p, kvs, rfl, hj, h1⟩, k1, s1, p1⟩
  obtain ⟨k2, s2, o, e, xs, rfl, q⟩ := k1.fz hj
  exact ⟨_, _, h1, k2, s1.trans s2, p, xs, p1, e, q⟩)
end
structure ShD (n : Nat) (d : PyData) : Prop where
  lay : d.canLay0 = true
  dep : d.depth ≤ n
theorem shAll {n : Nat} : ∀ {ds : List PyData}, (∀ d ∈ ds, ShD n d) → PyData.canLayAll0 ds = true ∧ PyData.depthAll ds ≤ n
  | [], _ => ⟨rfl, Nat.zero_le _⟩
  | d :: ds, h => by
    obtain ⟨h1, h2⟩ := h d List.mem_cons_self
    obtain ⟨h3, h4⟩ := shAll fun x hx => h x (List.mem_cons_of_mem _ hx)
    refine ⟨?_, ?_⟩
    · show (PyData.canLay0 d && PyData.canLayAll0 ds) = true
      rw [h1, h3]; rfl
    · show max (PyData.depth d) (PyData.depthAll ds) ≤ n
      omega
theorem ShD.tup {n : Nat} {ds : List PyData} (h : ∀ d ∈ ds, ShD n d) : ShD (n + 1) (.tuple ds) := ⟨(shAll h).1, Nat.succ_le_succ (shAll h).2⟩
theorem ShD.lst {n : Nat} {ds : List PyData} (h : ∀ d ∈ ds, ShD n d) : ShD (n + 1) (.list ds) := ⟨(shAll h).1, Nat.succ_le_succ (shAll h).2⟩
theorem ShD.mono {n m : Nat} {d : PyData} (h : ShD n d) (hm : n ≤ m) : ShD m d := ⟨h.lay, Nat.le_trans h.dep hm⟩
theorem ShD.ok {n : Nat} {d : PyData} (h : ShD n d) (hn : n ≤ 64) : SeqAt.shaped d = true := by
  have h2 := h.dep
  show (d.canLay0 && decide (d.depth ≤ 64)) = true
  rw [h.lay, decide_eq_true (by omega : d.depth ≤ 64)]; rfl
end G
set_option Elab.async false
set_option linter.all false
set_option maxRecDepth 100000
set_option maxHeartbeats 4000000
/-! G14: {k: v}; tuples and lists of anything. -/
namespace G
open PySem PySem.Spec PyProof.Rows L2 RZ PySem.Calls
section
variable {X : Cx} {a b c e o i f kx vx : Expr} {es : List Expr} {Γ : Ga} {Ω : Om} {k : Om → MP → Prop} {kT : Om → Bool → Prop} {kA : Om → List MP → Prop} {pos cpos apos tpos p2 pt : Pos} {D : SEnd}
/-- {key: value} -/
theorem ev_dict1 (hX : Nor X) (h : ∀ p, ev X kx Γ (Ω ++ [(p, dcO X p [])]) fun Ω1 φ => ev X vx Γ Ω1 fun Ω2 ψ => ∃ j key, KeyD X.K φ key ∧ Ω2[j]? = some (p, dcO X p []) ∧ k (Ω2.set j (p, dcO X p [(key, ψ)])) (isV (.ref p))) : ev X (.Dict [some kx] [vx] pos) Γ Ω k := fun W w => by
  intro pins s I
  rw [arm_eval_Dict, zip_pairTrees [some kx] [vx] X.env pos rfl rfl, dictDisplay_pairs (pairTrees [some kx] [vx] X.env pos) (by simp [pairTrees]) (by show 1 < 17; decide)]
  refine wpAny_bind (wpAny_standAt (wpAny_bind (wpAny_subDictH (knd := nkD X.prog X.w) (nk_room0 hX) (by show 1 ≤ 15; decide) ?_)))
  generalize eD : s.heap.objs.size = D
  have I0 : Inv X pins W.σ (upd W.H D (dctH X.prog X.w D [])) { s with heap := s.heap.push { cls := .type "dict", data := .dict #[] } } := by
    refine I.laid (t' := s.toks) (fun b o e => Heap.get?_push_of_some _ e) (Nat.le_of_eq eD) ?_
    rw [← eD]
    exact dct_new X s.heap I.big
  have hD : W.H D = none := I.hok.fresh (Nat.le_of_eq eD)
  obtain ⟨w0, s0⟩ := w.new (ψ := dcO X D []) (o := dctH X.prog X.w D []) hD ⟨[], rfl, .nil⟩
  refine pairTrees_cons_walk (thn (h D (W.up _) w0 pins _ I0) ?_)
  rintro u s1 ⟨x, H1, I1, rx, Ω1, φ, h1, k1, s1', p1⟩
  refine thn (h1 ((W.up _).up H1) k1 pins _ I1) ?_
  rintro v s2 ⟨y, H2, I2, ry, Ω2, ψ, ⟨j, key, hk, hj, g⟩, k2, s2', p2⟩
  refine pairTrees_nil_walk ?_
  obtain ⟨a1, rfl, ka⟩ := hk.at_ (φ.mono s2' p1)
  obtain rfl : u = Value.ref a1 := rx
  obtain ⟨ob, e2, xs, rfl, kv⟩ := k2.ow _ (List.mem_of_getElem? hj)
  cases kv
  have e2 : H2 D = some (dctH X.prog X.w D []) := e2
  obtain ⟨hs, _, vs, r, d⟩ := dct_at I2 e2 (fun x hx => nomatch hx)
  cases r
  have kH : Key1 X.K H2 key a1 := ka.mono hid_sub
  refine ⟨[(key, a1, v)], ⟨rfl, rfl, kH.is I2, trivial⟩, d, fun h' tk d' sb => wpAny_pure ?_⟩
  have d2 : DctAt X.prog X.w D ([] ++ [(key, a1, y)]) h' := dct_put (X := X) (vs := []) (by rw [sizeLine_eq]; decide) .nil ry (fun x hx => nomatch hx) hs d'
  obtain ⟨k3, e3⟩ := k2.put (o := dctH X.prog X.w D [(key, a1, y)]) (ψ' := dcO X D [(key, ψ)]) hj ⟨_, rfl, .cons ka p2 .nil⟩
  exact ⟨.ref D, _, dct_write I2 e2 sb d2, rfl, _, _, g, k3, ((s0.trans s1').trans s2').trans (by
    have q : (W.up (upd H2 D (dctH X.prog X.w D ([] ++ [(key, a1, y)])))).F (Ω2.set j (D, dcO X D [(key, ψ)])) = (((W.up (upd W.H D (dctH X.prog X.w D []))).up H1).up H2).F Ω2 := e3
    rw [q]; exact Same.refl _), rfl⟩
/-! ### a tuple of anything -/
def isTm (φs : List MP) : MP := ⟨fun F v => ∃ a xs, v = .ref a ∧ F a = some (.tup xs) ∧ Al F φs xs, fun e h => let ⟨a, xs, q1, q2, q3⟩ := h; ⟨a, xs, q1, e _ _ q2, q3.mono e⟩⟩
theorem al_len {F : Hp} : ∀ {φs : List MP} {vs : List V}, Al F φs vs → φs.length = vs.length
  | _, _, .nil => rfl
  | _, _, .cons _ t => congrArg (· + 1) (al_len t)
theorem al_get {F : Hp} : ∀ {φs : List MP} {vs : List V} {i : Nat} {φ : MP}, Al F φs vs → φs[i]? = some φ → ∃ v, vs[i]? = some v ∧ φ.p F v
  | _, _, i, _, .nil, h => by simp at h
  | _, _, 0, _, .cons p _, h => by
    obtain rfl := Option.some.inj h
    exact ⟨_, rfl, p⟩
  | _, _, i + 1, _, .cons _ t, h => al_get (i := i) t h
theorem al_atI {F : Hp} {φs : List MP} {vs : List V} {i : Int} {φ : MP} (h : Al F φs vs) (e : atI φs i = some φ) : ∃ v, atI vs i = some v ∧ φ.p F v := by
  unfold atI at e ⊢
  rw [← al_len h]
  cases hx : ixN φs.length i with
  | none => rw [hx] at e; cases e
  | some n =>
    rw [hx] at e
    exact al_get h e
theorem ev_tupM {n : Nat} (h : evA X es Γ Ω fun Ω1 φs => φs.length ≤ 1000 ∧ k Ω1 (isTm φs)) : ev X (.Tuple es n pos) Γ Ω k := fun W w => by
  refine wpE_of (pe_tup paA) (wpA_mono (h W w) ?_)
  rintro xs H1 ⟨Ω1, φs, ⟨hl, h1⟩, k1, s1, p1⟩
  refine ⟨size100 (by rw [← al_len p1]; exact hl), fun p hp => post_chain s1 (post_new k1 hp h1 fun F e q => ⟨p, _, rfl, q, p1.mono e⟩)⟩
theorem ev_ixTm (h : ev X a Γ Ω fun Ω1 φ => ev X b Γ Ω1 fun Ω2 ψ => ∃ φs i χ, φ = isTm φs ∧ ψ = isD X.K (.int i) ∧ atI φs i = some χ ∧ k Ω2 χ) (hs : PlainIx b := by intro _ _; rfl) : ev X (.Subscript a b pos) Γ Ω k :=
  ev_ix ix_tup hs (ev_imp h fun Ω1 φ h => ev_imp h fun Ω2 ψ ⟨φs, i, χ, e1, e2, hi, g⟩ => fun W x y Q _ w p q z => by
    subst e1 e2
    obtain ⟨a1, x1, rfl, e1, d1⟩ := p
    obtain ⟨v, hv, dv⟩ := al_atI d1 hi
    exact ⟨a1, x1, i, v, rfl, dp_int q, SqT.of (hid_sub _ _ e1), hv, z _ _ (post_pure w g dv)⟩)
/-! ### a list of anything that stands -/
def isLm (φs : List MP) : MP := ⟨fun F v => ∃ a xs, v = .ref a ∧ F a = some (.lst xs) ∧ Al F φs xs, fun e h => let ⟨a, xs, q1, q2, q3⟩ := h; ⟨a, xs, q1, e _ _ q2, q3.mono e⟩⟩
theorem ev_ixLm (h : ev X a Γ Ω fun Ω1 φ => ev X b Γ Ω1 fun Ω2 ψ => ∃ φs i χ, φ = isLm φs ∧ ψ = isD X.K (.int i) ∧ atI φs i = some χ ∧ k Ω2 χ) (hs : PlainIx b := by intro _ _; rfl) : ev X (.Subscript a b pos) Γ Ω k :=
  ev_ix ix_list hs (ev_imp h fun Ω1 φ h => ev_imp h fun Ω2 ψ ⟨φs, i, χ, e1, e2, hi, g⟩ => fun W x y Q _ w p q z => by
    subst e1 e2
    obtain ⟨a1, x1, rfl, e1, d1⟩ := p
    obtain ⟨v, hv, dv⟩ := al_atI d1 hi
    exact ⟨a1, x1, i, v, rfl, dp_int q, SqL.of (hid_sub _ _ e1), hv, z _ _ (post_pure w g dv)⟩)
theorem ev_lstM (h : evA X es Γ Ω fun Ω1 φs => φs.length ≤ 1000 ∧ k Ω1 (isLm φs)) : ev X (.List es pos) Γ Ω k := fun W w => by
  refine wpE_of (pe_lst paA) (wpA_mono (h W w) ?_)
  rintro xs H1 ⟨Ω1, φs, ⟨hl, h1⟩, k1, s1, p1⟩
  refine ⟨size100 (by rw [← al_len p1]; exact hl), fun p hp => post_chain s1 (post_new k1 hp h1 fun F e q => ⟨p, _, rfl, q, p1.mono e⟩)⟩
theorem al_append {F : Hp} {φs ψs : List MP} {us : List V} (q : Al F ψs us) : ∀ {φs : List MP} {vs : List V}, Al F φs vs → Al F (φs ++ ψs) (vs ++ us)
  | _, _, .nil => q
  | _, _, .cons p t => .cons p (al_append (φs := φs) q t)
theorem ev_catM (h : ev X a Γ Ω fun Ω1 φ => ev X b Γ Ω1 fun Ω2 ψ => ∃ φs ψs, φ = isLm φs ∧ ψ = isLm ψs ∧ φs.length + ψs.length ≤ sizeLine ∧ k Ω2 (isLm (φs ++ ψs))) : ev X (.BinOp a .Add b pos) Γ Ω k :=
  ev_bin op_cat (ev_imp h fun Ω1 φ h => ev_imp h fun Ω2 ψ ⟨φs, ψs, l1, l2, hz, g⟩ => fun W x y Q _ w p q z => by
    subst l1 l2
    obtain ⟨a1, x1, rfl, e1, d1⟩ := p
    obtain ⟨a2, x2, rfl, e2, d2⟩ := q
    refine ⟨a1, a2, x1, x2, rfl, rfl, hid_sub _ _ e1, hid_sub _ _ e2, by rw [← al_len d1, ← al_len d2]; exact hz, fun p hp => z _ _ (post_new w hp g fun F e q => ?_)⟩
    exact ⟨p, _, rfl, q, (al_append (φs := φs) d2 d1).mono e⟩)
end
end G
set_option Elab.async false
set_option linter.all false
set_option maxRecDepth 100000
set_option maxHeartbeats 4000000
/-! G15: objects of a class with fields. -/
namespace G
open PySem PySem.Spec PyProof.Rows L2 RZ PySem.Calls
structure Flds (F : Hp) (fs : List (Str × MP)) (vs : List (Str × V)) : Prop where
  nm : vs.map (·.1) = fs.map (·.1)
  vl : Al F (fs.map (·.2)) (vs.map (·.2))
theorem Flds.mono {F F' : Hp} {fs : List (Str × MP)} {vs : List (Str × V)} (e : Same F F') (h : Flds F fs vs) : Flds F' fs vs := ⟨h.nm, h.vl.mono e⟩
def insO (C : Addr) (fs : List (Str × MP)) : MO := ⟨fun F o => ∃ dx vs, o = .ins C dx vs ∧ Flds F fs vs, fun e h => let ⟨dx, vs, a, b⟩ := h; ⟨dx, vs, a, b.mono e⟩⟩
def isI (C : Addr) (fs : List (Str × MP)) : MP := ⟨fun F v => ∃ p dx vs, v = .ref p ∧ F p = some (.ins C dx vs) ∧ Flds F fs vs, fun e h => let ⟨p, dx, vs, a, b, c⟩ := h; ⟨p, dx, vs, a, e _ _ b, c.mono e⟩⟩
theorem putF_new {f : Str} {v : V} : ∀ {vs : List (Str × V)}, f ∉ vs.map (·.1) → putF f v vs = vs ++ [(f, v)]
  | [], _ => rfl
  | (g, x) :: vs, h => by
    have hg : ¬ g = f := fun z => h (by rw [List.map_cons, ← z]; exact List.mem_cons_self)
    show (if g = f then (g, v) :: vs else (g, x) :: putF f v vs) = _
    rw [if_neg hg, putF_new fun z => h (List.mem_cons_of_mem _ z)]; rfl
theorem flds_look {F : Hp} {f : Str} {φ : MP} : ∀ {fs : List (Str × MP)} {vs : List (Str × V)}, Flds F fs vs → fs.lookup f = some φ → ∃ v, vs.lookup f = some v ∧ φ.p F v
  | [], _, _, h => by cases h
  | (g, ψ) :: fs, [], h, _ => by have := h.nm; simp at this
  | (g, ψ) :: fs, (g', v) :: vs, h, q => by
    have h1 := h.nm
    rw [List.map_cons, List.map_cons] at h1
    injection h1 with h1 h2
    have h3 := h.vl
    rw [List.map_cons, List.map_cons] at h3
    cases h3 with
    | cons p t =>
      have e : g' = g := h1
      subst e
      rw [List.lookup_cons] at q ⊢
      cases hb : f == g' with
      | true =>
        rw [hb] at q
        obtain rfl := Option.some.inj q
        exact ⟨v, rfl, p⟩
      | false =>
        rw [hb] at q
        exact flds_look ⟨h2, t⟩ q
section
variable {X : Cx} {a b c e o i value : Expr} {es : List Expr} {Γ : Ga} {Ω : Om} {k : Om → MP → Prop} {kT : Om → Bool → Prop} {kA : Om → List MP → Prop} {pos cpos apos tpos p2 pt pos' : Pos} {D : SEnd} {C : Addr} {f : Str}
/-- o.f = value, the field is new -/
theorem st_fld (hC : Cls X.K C) (hn : NoAttr X.K C f) (h : ev X value Γ Ω fun Ω1 φ => ev X o Γ Ω1 fun Ω2 χ => ∃ j p fs, χ = isV (.ref p) ∧ Ω2[j]? = some (p, insO C fs) ∧ f ∉ fs.map (·.1) ∧ fs.length < 1000 ∧ D.nx Γ (Ω2.set j (p, insO C (fs ++ [(f, φ)]))))
    (hs : swapsWith value (some (.Attribute o f pos')) pos.line X.env = pure false := by rfl) : st X (.Assign [.Attribute o f pos'] value pos) Γ Ω D := fun W w => by
  refine wpS_of (ps_fld peE peE hs) ?_
  show wpE X value W.σ W.H fun y H1 => wpE X o W.σ H1 fun x H2 => _
  refine wpE_mono (h W w) ?_
  rintro y H1 ⟨Ω1, φ, h1, k1, s1, p1⟩
  refine wpE_mono (h1 (W.up H1) k1) ?_
  rintro x H2 ⟨Ω2, χ, ⟨j, p, fs, rfl, hj, hf, hl, g⟩, k2, s2, p2⟩
  obtain rfl := p2
  obtain ⟨ob, e1, dx, vs, rfl, fl⟩ := k2.ow _ (List.mem_of_getElem? hj)
  have hlen : vs.length = fs.length := by rw [← List.length_map (f := fun x : Str × V => x.1), fl.nm, List.length_map]
  have fl2 : Flds ((((W.up H1).up H2)).F Ω2) (fs ++ [(f, φ)]) (putF f y vs) := by
    rw [putF_new (by rw [fl.nm]; exact hf)]
    exact ⟨by rw [List.map_append, List.map_append, fl.nm]; rfl, by rw [List.map_append, List.map_append]; exact al_append (φs := fs.map (·.2)) (.cons (φ.mono s2 p1) .nil) fl.vl⟩
  obtain ⟨k3, e3⟩ := k2.put (o := .ins C dx (putF f y vs)) (ψ' := insO C (fs ++ [(f, φ)])) hj ⟨dx, _, rfl, fl2⟩
  exact ⟨p, C, dx, vs, rfl, e1, hC, hn, by rw [hlen]; exact hl, Γ, _, g, k3, (s1.trans s2).trans (by rw [e3]; exact Same.refl _)⟩
/-- e.f -/
theorem ev_fld (hC : Cls X.K C) (hn : NoAttr X.K C f) (h : ev X e Γ Ω fun Ω1 φ => ∃ fs χ, φ = isI C fs ∧ fs.lookup f = some χ ∧ k Ω1 χ) (hb : attributeBase e f X.env (eval e X.env) = eval e X.env := by rfl) : ev X (.Attribute e f pos) Γ Ω k := fun W w => by
  refine wpE_of (pe_fld peE hb) (wpE_mono (h W w) ?_)
  rintro x H1 ⟨Ω1, φ, ⟨fs, χ, rfl, hl, g⟩, k1, s1, p1⟩
  obtain ⟨p, dx, vs, rfl, e1, fl⟩ := p1
  obtain ⟨v, hv, pv⟩ := flds_look fl hl
  exact ⟨p, C, dx, vs, v, rfl, hid_sub _ _ e1, hC, hn, hv, post_chain s1 (post_pure k1 g pv)⟩
/-- C(..) -/
theorem ev_make {ι : Type} {P : ι → Prop} {ar : ι → List MP} {fs : ι → List (Str × MP)} {kk : Nat} {fi : Addr} {fd : FuncData} {ps : List Str} {x : Str} (M : Mk X.K C fi)
    (Fk : FnOk X.prog X.w X.K X.mg X.base CX0 kk fi fd ps (spM P (fun _ _ => insO C []) ar (fun a _ ψ φ => ψ = insO C (fs a) ∧ φ = isD X.K .none))) (hr : Room (kk + 1) X.A) (hm : X.mg x = some (.ref C)) (hb : Binds X.K fd ps [])
    (h : evA X (e :: es) Γ Ω fun Ω1 φs => ∃ a, P a ∧ Subs φs (ar a) ∧ k Ω1 (isI C (fs a))) (hg : Gl X x := by rfl) (hdb : (x == ("__debug__" : Str)) = false := by decide)
    (he : starEach (e :: es) X.env = (false, eval e X.env) :: starEach es X.env := by rfl) (hpl : (backTo pos (starEach es X.env)).any (·.1) = false := by rfl) : ev X (.Call (.Name x p2) (e :: es) [] pos) Γ Ω k := fun W w => by
  refine wpE_of (pe_make M Fk hr hg hm hb .nil pass0 paA hdb he hpl) ?_
  show wpA X (e :: es) W.σ W.H fun vs H1 => _
  refine wpA_mono (h W w) ?_
  rintro vs H1 ⟨Ω1, φs, ⟨a, ha, sb, g⟩, k1, s1, p1⟩ x1 dx hx hd hne
  rw [List.append_nil]
  have hxo : x1 ∉ own Ω1 ++ W.O0 := k1.out hx
  have al0 := sb.al p1
  generalize eH : upd (upd H1 dx (.own x1)) x1 (.ins C dx []) = H'
  have hH : Same H1 H' := by
    rw [← eH]
    exact (new_same hd).trans (new_same (by rw [upd_ne (Ne.symm hne)]; exact hx))
  have hx1 : H' x1 = some (.ins C dx []) := by rw [← eH]; exact upd_same
  have sF : Same (hid (own Ω1 ++ W.O0) H1) (hid (x1 :: (own Ω1 ++ W.O0)) H') := fun q u e1 => by
    have hq : q ∉ own Ω1 ++ W.O0 := fun z => by rw [hid_in z] at e1; cases e1
    rw [hid_out hq] at e1
    have hqx : q ≠ x1 := ne_of_none e1 hx
    rw [hid_out (by simp only [List.mem_cons, not_or]; exact ⟨hqx, hq⟩)]
    exact hH _ _ e1
  refine ⟨a, x1, vs, own Ω1 ++ W.O0, _, rfl, ha, hxo, hx1, ⟨dx, [], rfl, rfl, .nil⟩, al0.mono sF, fun q hq n => ?_, ?_⟩
  · have z := k1.all q hq
    cases e1 : H1 q with
    | none => exact z e1
    | some u => rw [hH _ _ e1] at n; cases n
  · rintro v H'' ψ φ o' ⟨rfl, rfl⟩ hs ho' hψ hv
    refine ⟨dp_none hv, ?_⟩
    have hS : Same H1 H'' := fun q u e1 => by
      have hqx : q ≠ x1 := ne_of_none e1 hx
      refine hs q u ?_
      rw [hid_out (by simpa using hqx)]
      exact hH _ _ e1
    obtain ⟨dx', vs', rfl, fl⟩ := hψ
    refine post_chain s1 (post_same k1 hS g ⟨x1, dx', vs', rfl, ?_, fl.mono (hid_anti fun q hq => List.mem_cons_of_mem _ hq)⟩)
    show hid (own Ω1 ++ W.O0) H'' x1 = _
    rw [hid_out hxo]
    exact ho'
end
end G
set_option Elab.async false
set_option linter.all false
set_option maxRecDepth 100000
set_option maxHeartbeats 4000000
/-! G16: dicts with texts as keys, owned. -/
namespace G
open PySem PySem.Spec PyProof.Rows L2 RZ PySem.Calls
def dkO (fs : List (Str × MP)) : MO := ⟨fun F o => ∃ vs : List (Str × V), o = .dK (vs.map fun x => (.inr x.1, x.2)) ∧ Flds F fs vs, fun e h => let ⟨vs, a, b⟩ := h; ⟨vs, a, b.mono e⟩⟩
def repl (fs : List (Str × MP)) (z : Str) (φ : MP) : List (Str × MP) := fs.map fun x => if x.1 = z then (x.1, φ) else x
theorem valV_look {z : Str} : ∀ {vs : List (Str × V)}, valV (vs.map fun x => ((.inr x.1 : Key), x.2)) (.inr z) = vs.lookup z
  | [] => rfl
  | (g, x) :: vs => by
    rw [List.map_cons, List.lookup_cons]
    by_cases e : g = z
    · subst e
      rw [valV_pos rfl]
      simp
    · rw [valV_neg (fun h => e (by injection h)), valV_look]
      have : (z == g) = false := by rw [beq_eq_false_iff_ne]; exact fun h => e h.symm
      rw [this]
theorem flds_repl {F : Hp} {z : Str} {φ : MP} {v : V} (p : φ.p F v) : ∀ {fs : List (Str × MP)} {vs : List (Str × V)}, Flds F fs vs → Flds F (repl fs z φ) (vs.map fun x => if x.1 = z then (x.1, v) else x)
  | [], [], _ => ⟨rfl, .nil⟩
  | [], _ :: _, h => by have := h.nm; simp at this
  | _ :: _, [], h => by have := h.nm; simp at this
  | (g, ψ) :: fs, (g', y) :: vs, h => by
    have h1 := h.nm
    rw [List.map_cons, List.map_cons] at h1
    injection h1 with h1 h2
    have h3 := h.vl
    rw [List.map_cons, List.map_cons] at h3
    cases h3 with
    | cons q t =>
      have e : g' = g := h1
      subst e
      obtain ⟨i1, i2⟩ := flds_repl (fs := fs) (vs := vs) p ⟨h2, t⟩
      unfold repl at i1 i2 ⊢
      rw [List.map_cons, List.map_cons]
      by_cases e : g' = z
      · rw [if_pos e, if_pos e]
        exact ⟨congrArg (g' :: ·) i1, .cons p i2⟩
      · rw [if_neg e, if_neg e]
        exact ⟨congrArg (g' :: ·) i1, .cons q i2⟩
theorem putK_old {z : Str} {v : V} {vs : List (Str × V)} (h : (vs.lookup z).isSome = true) : putK (vs.map fun x => ((.inr x.1 : Key), x.2)) (.inr z) v = (vs.map fun x => if x.1 = z then (x.1, v) else x).map fun x => ((.inr x.1 : Key), x.2) := by
  unfold putK
  rw [valV_any, valV_look, h, if_pos rfl, List.map_map, List.map_map]
  refine List.map_congr_left fun x _ => ?_
  show (if (Sum.inr x.1 : Key) = .inr z then ((Sum.inr x.1 : Key), v) else (.inr x.1, x.2)) = _
  by_cases e : x.1 = z
  · rw [if_pos (by rw [e])]
    show _ = ((fun x : Str × V => ((.inr x.1 : Key), x.2)) (if x.1 = z then (x.1, v) else x))
    rw [if_pos e]
  · rw [if_neg (fun h => e (by injection h))]
    show _ = ((fun x : Str × V => ((.inr x.1 : Key), x.2)) (if x.1 = z then (x.1, v) else x))
    rw [if_neg e]
section
variable {X : Cx} {a b c e o i value : Expr} {es : List Expr} {Γ : Ga} {Ω : Om} {k : Om → MP → Prop} {kT : Om → Bool → Prop} {kA : Om → List MP → Prop} {pos cpos apos tpos p2 pt pos' : Pos} {D : SEnd}
def rIxK : R2 := fun x y H Q => ∃ (p : Addr) (z : Str) (vs : List (Str × V)) (v : V), x = .ref p ∧ y = .str z ∧ H p = some (.dK (vs.map fun x : Str × V => (.inr x.1, x.2))) ∧ vs.lookup z = some v ∧ Q v H
theorem ix_K (hX : Nor X) : IxR X rIxK := by
  intro value slice pins s σ H x y v u Q I rx ry h hs
  obtain ⟨p, z, vs, v', rfl, rfl, e, hl, q⟩ := h
  obtain rfl : v = Value.ref p := rx
  obtain ⟨_, hd, us, rel, dd⟩ := dk_rd I.hok (.inl e)
  have hu := hX.room.un
  exact tail_any dd.typeIs PySem.F.slot_dict_getitem.lookup (d_getItem (A := X.A) (by omega) I (.inl ⟨_, .inr z, .inl e, rfl, by rw [valV_look]; exact hl.symm⟩) ry fun w' s' I' r => ⟨v', H, I', r, q⟩) hs
theorem ev_ixK (hX : Nor X) (h : ev X a Γ Ω fun Ω1 φ => ev X b Γ Ω1 fun Ω2 ψ => ∃ (j : Nat) (p : Addr) (fs : List (Str × MP)) (z : Str) (χ : MP), φ = isV (.ref p) ∧ ψ = isD X.K (.str z) ∧ Ω2[j]? = some (p, dkO fs) ∧ fs.lookup z = some χ ∧ k Ω2 χ) (hs : PlainIx b := by intro _ _; rfl) : ev X (.Subscript a b pos) Γ Ω k :=
  ev_ix (ix_K hX) hs (ev_imp h fun Ω1 φ h => ev_imp h fun Ω2 ψ ⟨j, p, fs, z, χ, e1, e2, hj, hl, g⟩ => fun W x y Q _ w p1 q z' => by
    subst e1 e2
    obtain rfl := p1
    obtain ⟨ob, e1, vs, rfl, fl⟩ := w.ow _ (List.mem_of_getElem? hj)
    obtain ⟨v, hv, pv⟩ := flds_look fl hl
    exact ⟨p, z, vs, v, rfl, dp_str q, e1, hv, z' _ _ (post_pure w g pv)⟩)
def rSetK : TSet := fun o i v H Q => ∃ (p : Addr) (z : Str) (vs : List (Str × V)), o = .ref p ∧ i = .str z ∧ H p = some (.dK (vs.map fun x : Str × V => (.inr x.1, x.2))) ∧ (vs.lookup z).isSome = true ∧ vs.length < sizeLine ∧ Q (upd H p (.dK ((vs.map fun x => if x.1 = z then (x.1, v) else x).map fun x : Str × V => (.inr x.1, x.2))))
theorem set_K (hX : Nor X) : PSet X rSetK := by
  intro pins s σ H o i v ov iv u Q I ro ri rv h
  obtain ⟨p, z, vs, rfl, rfl, e, hl, hz, q⟩ := h
  have hu := hX.room.un
  refine set_dict (by omega) pins s σ H _ _ v ov iv u Q I ro ri rv ⟨p, _, rfl, .inl ⟨_, .inr z, e, rfl, by rw [List.length_map]; exact hz, rfl⟩, ?_⟩
  rw [putK_old hl]
  exact q
/-- d['..'] = value, the key is there -/
theorem st_setK (hX : Nor X) (h : ev X e Γ Ω fun Ω1 φ => ev X o Γ Ω1 fun Ω2 ψ => ev X i Γ Ω2 fun Ω3 χ => ∃ (j : Nat) (p : Addr) (fs : List (Str × MP)) (z : Str), ψ = isV (.ref p) ∧ χ = isD X.K (.str z) ∧ Ω3[j]? = some (p, dkO fs) ∧ (fs.lookup z).isSome = true ∧ fs.length ≤ 100 ∧ D.nx Γ (Ω3.set j (p, dkO (repl fs z φ))))
    (hs : swapsWithSole [.Subscript o i tpos] e pos.line X.env = pure false := by rfl) (hw : swappedStores [.Subscript o i tpos] e X.env = pure none := by rfl)
    (h1 : (assignEach [.Subscript o i tpos] X.env).map (·.2) = [assign (.Subscript o i tpos) X.env] := by rfl) (ha : ∀ v, assign (.Subscript o i tpos) X.env v = (do
      let ov ← holding [v] (eval o X.env)
      let iv ← holding [v, ov] (eval i X.env)
      standAt tpos
      holding [v, ov, iv] (setItem ov iv v)
      release [v, ov, iv] []) := by intro _; rfl) : st X (.Assign [.Subscript o i tpos] e pos) Γ Ω D := fun W w => by
  refine wpS_of (ps_asg peE (pg_sub peE peE (set_K hX) ha) hs hw h1) ?_
  show wpE X e W.σ W.H fun v H1 => wpE X o W.σ H1 fun x H2 => wpE X i W.σ H2 fun y H3 => rSetK x y v H3 fun H4 => (D.e W Ω).nx W.σ H4
  refine wpE_mono (h W w) ?_
  rintro v H1 ⟨Ω1, φ, h1, k1, s1, p1⟩
  refine wpE_mono (h1 (W.up H1) k1) ?_
  rintro x H2 ⟨Ω2, ψ, h2, k2, s2, p2⟩
  refine wpE_mono (h2 ((W.up H1).up H2) k2) ?_
  rintro y H3 ⟨Ω3, χ, ⟨j, p, fs, z, rfl, rfl, hj, hl, hz, g⟩, k3, s3, p3⟩
  obtain rfl := p2
  obtain ⟨ob, e1, vs, rfl, fl⟩ := k3.ow _ (List.mem_of_getElem? hj)
  have pv : φ.p ((((W.up H1).up H2).up H3).F Ω3) v := φ.mono (s2.trans s3) p1
  have hlen : vs.length = fs.length := by rw [← List.length_map (f := fun x : Str × V => x.1), fl.nm, List.length_map]
  obtain ⟨χ, hχ⟩ := Option.isSome_iff_exists.mp hl
  obtain ⟨v0, hv0, _⟩ := flds_look fl hχ
  obtain ⟨k4, e4⟩ := k3.put (o := .dK ((vs.map fun x => if x.1 = z then (x.1, v) else x).map fun x : Str × V => (.inr x.1, x.2))) (ψ' := dkO (repl fs z φ)) hj ⟨_, rfl, flds_repl pv fl⟩
  exact ⟨p, z, vs, rfl, dp_str p3, e1, by rw [hv0]; rfl, by rw [hlen, sizeLine_eq]; omega, Γ, _, g, k4, ((s1.trans s2).trans s3).trans (by rw [e4]; exact Same.refl _)⟩
end
end G
set_option Elab.async false
set_option linter.all false
set_option maxRecDepth 100000
set_option maxHeartbeats 4000000
/-! G17: a display of texts and values. -/
namespace G
open PySem PySem.Spec PyProof.Rows L2 RZ PySem.Calls
section
variable {X : Cx} {a b c e e1 e2 e3 e4 e5 : Expr} {es : List Expr} {Γ : Ga} {Ω : Om} {k : Om → MP → Prop} {kT : Om → Bool → Prop} {kA : Om → List MP → Prop} {pos q1 q2 q3 q4 q5 : Pos} {z1 z2 z3 z4 z5 : Str} {n1 n2 n3 n4 n5 : Nat}
theorem mergeK_nd : ∀ (more kvs : List (Key × V)), ((kvs ++ more).map (·.1)).Nodup → mergeK kvs more = kvs ++ more
  | [], kvs, _ => (List.append_nil _).symm
  | x :: more, kvs, h => by
    have hx : valV kvs x.1 = none := by
      have h2 : x.1 ∉ kvs.map (·.1) := fun hm => by
        rw [List.map_append, List.map_cons] at h
        exact (List.nodup_append.mp h).2.2 x.1 hm x.1 List.mem_cons_self rfl
      unfold valV
      rw [Option.map_eq_none_iff, List.find?_eq_none]
      intro y hy
      have : y.1 ≠ x.1 := fun e => h2 (List.mem_map.mpr ⟨y, hy, e⟩)
      simpa using this
    show mergeK (putK kvs x.1 x.2) more = _
    rw [putK_new x.2 hx, mergeK_nd more _ (by rw [List.append_assoc]; exact h), List.append_assoc]
    rfl
theorem nd_inr {zs : List Str} (h : zs.Nodup) : (zs.map fun z => (Sum.inr z : Key)).Nodup := List.pairwise_map.mpr (h.imp fun h e => h (by injection e))
theorem ev_disp5 (hz : [z1, z2, z3, z4, z5].Nodup) (h : ∀ p, ev X e1 Γ (Ω ++ [(p, dkO [])]) fun Ω1 φ1 => ev X e2 Γ Ω1 fun Ω2 φ2 => ev X e3 Γ Ω2 fun Ω3 φ3 => ev X e4 Γ Ω3 fun Ω4 φ4 => ev X e5 Γ Ω4 fun Ω5 φ5 => ∃ j, Ω5[j]? = some (p, dkO []) ∧ k (Ω5.set j (p, dkO [(z1, φ1), (z2, φ2), (z3, φ3), (z4, φ4), (z5, φ5)])) (isV (.ref p))) :
    ev X (.Dict [some (.Constant (.str z1) n1 q1), some (.Constant (.str z2) n2 q2), some (.Constant (.str z3) n3 q3), some (.Constant (.str z4) n4 q4), some (.Constant (.str z5) n5 q5)] [e1, e2, e3, e4, e5] pos) Γ Ω k := fun W w => by
  refine wpE_of (pe_disp (pps_cons pe_str peE (pps_cons pe_str peE (pps_cons pe_str peE (pps_cons pe_str peE (pps_cons pe_str peE pps_nil))))) rfl rfl (by simp) (by show 5 ≤ 15; decide)) ?_
  intro p hp
  obtain ⟨w0, s0⟩ := w.new (ψ := dkO []) (o := .dK []) hp ⟨[], rfl, rfl, .nil⟩
  show wpE X e1 W.σ (upd W.H p (.dK [])) fun x1 H1 => wpE X e2 W.σ H1 fun x2 H2 => wpE X e3 W.σ H2 fun x3 H3 => wpE X e4 W.σ H3 fun x4 H4 => wpE X e5 W.σ H4 fun x5 H5 => _
  refine wpE_mono (h p (W.up _) w0) ?_
  rintro x1 H1 ⟨Ω1, φ1, h1, k1, s1, p1⟩
  refine wpE_mono (h1 ((W.up _).up H1) k1) ?_
  rintro x2 H2 ⟨Ω2, φ2, h2, k2, s2, p2⟩
  refine wpE_mono (h2 (((W.up _).up H1).up H2) k2) ?_
  rintro x3 H3 ⟨Ω3, φ3, h3, k3, s3, p3⟩
  refine wpE_mono (h3 ((((W.up _).up H1).up H2).up H3) k3) ?_
  rintro x4 H4 ⟨Ω4, φ4, h4, k4, s4, p4⟩
  refine wpE_mono (h4 (((((W.up _).up H1).up H2).up H3).up H4) k4) ?_
  rintro x5 H5 ⟨Ω5, φ5, ⟨j, hj, g⟩, k5, s5, p5⟩
  obtain ⟨ob, e0, vs, rfl, fl⟩ := k5.ow _ (List.mem_of_getElem? hj)
  have hvs : vs = [] := by have := fl.nm; simpa using this
  subst hvs
  have nd : (([(z1, x1), (z2, x2), (z3, x3), (z4, x4), (z5, x5)] : List (Str × V)).map fun x => ((.inr x.1 : Key))).Nodup := nd_inr hz
  have em : mergeK [] (([(z1, x1), (z2, x2), (z3, x3), (z4, x4), (z5, x5)] : List (Str × V)).map fun x => ((.inr x.1 : Key), x.2)) = ([(z1, x1), (z2, x2), (z3, x3), (z4, x4), (z5, x5)] : List (Str × V)).map fun x => ((.inr x.1 : Key), x.2) := by
    rw [mergeK_nd _ _ (by rw [List.nil_append, List.map_map]; exact nd), List.nil_append]
  refine ⟨e0, ([(z1, x1), (z2, x2), (z3, x3), (z4, x4), (z5, x5)] : List (Str × V)).map fun x => ((.inr x.1 : Key), x.2), rfl, by show 5 ≤ 15; decide, ?_⟩
  rw [em]
  have m1 := φ1.mono (((s2.trans s3).trans s4).trans s5) p1
  have m2 := φ2.mono ((s3.trans s4).trans s5) p2
  have m3 := φ3.mono (s4.trans s5) p3
  have m4 := φ4.mono s5 p4
  obtain ⟨k6, e6⟩ := k5.put (o := .dK (([(z1, x1), (z2, x2), (z3, x3), (z4, x4), (z5, x5)] : List (Str × V)).map fun x => ((.inr x.1 : Key), x.2))) (ψ' := dkO [(z1, φ1), (z2, φ2), (z3, φ3), (z4, φ4), (z5, φ5)]) hj
    ⟨[(z1, x1), (z2, x2), (z3, x3), (z4, x4), (z5, x5)], rfl, rfl, .cons m1 (.cons m2 (.cons m3 (.cons m4 (.cons p5 .nil))))⟩
  exact ⟨_, _, g, k6, (((((s0.trans s1).trans s2).trans s3).trans s4).trans s5).trans (by
    have q : (W.up (upd H5 p (.dK (([(z1, x1), (z2, x2), (z3, x3), (z4, x4), (z5, x5)] : List (Str × V)).map fun x => ((.inr x.1 : Key), x.2))))).F (Ω5.set j (p, dkO [(z1, φ1), (z2, φ2), (z3, φ3), (z4, φ4), (z5, φ5)])) = ((((((W.up (upd W.H p (.dK []))).up H1).up H2).up H3).up H4).up H5).F Ω5 := e6
    rw [q]; exact Same.refl _), rfl⟩
/-- {} that stands, empty -/
def isE : MP := ⟨fun F v => ∃ p, v = .ref p ∧ F p = some (.dK []), fun e h => let ⟨p, a, b⟩ := h; ⟨p, a, e _ _ b⟩⟩
theorem ev_dE (h : k Ω isE) : ev X (.Dict [] [] pos) Γ Ω k := fun W w => wpE_of pe_dnewK fun p hp => post_new w hp h fun F e q => ⟨p, rfl, q⟩
/-! ### a def that makes an object for its caller -/
def spN {ι : Type} (P : ι → Prop) (ar : ι → List MP) (res : ι → Addr → MO → Prop) : Sp := fun vs H Q _ => ∃ (x : ι) (O : List Addr), P x ∧ Al (hid O H) (ar x) vs ∧ (∀ a ∈ O, H a ≠ none) ∧
  ∀ p H' ψ o, res x p ψ → H p = none → Same H H' → H' p = some o → ψ.p (hid (p :: O) H') o → Q (.ref p) H'
theorem ev_callN {ι : Type} {P : ι → Prop} {ar : ι → List MP} {res : ι → Addr → MO → Prop} {x : Str} (C : CalX X x (spN P ar res)) (h : evA X (e :: es) Γ Ω fun Ω1 φs => ∃ a, P a ∧ Subs φs (ar a) ∧ ∀ p ψ, res a p ψ → k (Ω1 ++ [(p, ψ)]) (isV (.ref p)))
    (hg : Gl X x := by rfl) (hdb : (x == ("__debug__" : Str)) = false := by decide)
    (he : starEach (e :: es) X.env = (false, eval e X.env) :: starEach es X.env := by rfl) (hpl : (backTo pos (starEach es X.env)).any (·.1) = false := by rfl) : ev X (.Call (.Name x q1) (e :: es) [] pos) Γ Ω k := fun W w => by
  refine wpE_call C (wpA_mono (h W w) ?_) hg hdb he hpl
  rintro vs H1 ⟨Ω1, φs, ⟨a, ha, sb, g⟩, k1, s1, p1⟩
  refine ⟨a, own Ω1 ++ W.O0, ha, sb.al p1, fun q hq => ?_, fun p H' ψ o hr hp hs ho hψ => ?_⟩
  · rcases List.mem_append.mp hq with z | z
    · obtain ⟨y, hy, rfl⟩ := List.mem_map.mp z
      obtain ⟨o, e1, _⟩ := k1.ow y hy
      intro n
      rw [show H1 y.1 = some o from e1] at n
      cases n
    · exact k1.tr1 z
  · have hpo : p ∉ own Ω1 ++ W.O0 := k1.out hp
    have cg : hid (p :: (own Ω1 ++ W.O0)) H' = (W.up H').F (Ω1 ++ [(p, ψ)]) := hid_congr fun a => by
      simp only [own, List.map_append, List.map_cons, List.map_nil, List.mem_append, List.mem_cons, List.not_mem_nil, or_false]
      constructor
      · rintro ((z | z) | z)
        · exact .inr (.inl z)
        · exact .inl z
        · exact .inr (.inr z)
      · rintro (z | z | z)
        · exact .inl (.inr z)
        · exact .inl (.inl z)
        · exact .inr z
    have sF : Same ((W.up H1).F Ω1) ((W.up H').F (Ω1 ++ [(p, ψ)])) := by
      rw [← cg]
      intro q u e1
      have e1 : hid (own Ω1 ++ W.O0) H1 q = some u := e1
      have hq : q ∉ own Ω1 ++ W.O0 := fun z => by rw [hid_in z] at e1; cases e1
      rw [hid_out hq] at e1
      rw [hid_out (by simp only [List.mem_cons, not_or]; exact ⟨ne_of_none e1 hp, hq⟩)]
      exact hs _ _ e1
    refine ⟨_, _, g p ψ hr, ⟨k1.sl.mono sF, fun q hq => ?_, ?_, fun q hq => ?_, k1.sm.trans hs, k1.tr⟩, s1.trans sF, rfl⟩
    · rcases List.mem_append.mp hq with z | z
      · obtain ⟨o, e1, e2⟩ := k1.ow q z
        exact ⟨o, hs _ _ e1, q.2.mono sF e2⟩
      · obtain rfl : q = (p, ψ) := by simpa using z
        exact ⟨o, ho, by rw [← cg]; exact hψ⟩
    · unfold own
      rw [List.map_append]
      refine List.nodup_append.mpr ⟨k1.nd, by simp, ?_⟩
      intro a ha b hb e'
      have hb' : b = p := by simpa using hb
      exact hpo (List.mem_append_left _ (by rw [← hb', ← e']; exact ha))
    · rcases List.mem_append.mp hq with z | z
      · exact k1.nw q z
      · obtain rfl : q = (p, ψ) := by simpa using z
        exact k1.sm.free hp
end
section
variable {P : Program} {w : World} {K : PySem.W.Frag} {mg : Str → Option Value} {base : Heap}
theorem defN {ι : Type} {Pr : ι → Prop} {ar : ι → List MP} {res : ι → Addr → MO → Prop} {x qual : Str} {sd : Stmt} {f : Addr} {fd : FuncData} {N ps : List Str} {kk : Nat} (F : Fun K x qual sd f fd) (S : FnScope N ps (defScope sd)) (hl : ∀ a, (ar a).length = ps.length)
    (hb : ∀ (cdv : Value) (A : Around) (outer : List Env) (s : Shared) (H : Hp) (E : XK), Room kk (A.deeper (envOfC qual (defScope sd) s.heap.objs.size f cdv)) → ∀ a, Pr a →
      stB (cxOf CX0 P w K mg base N qual (defScope sd) f cdv A outer s H E).nox (defBody sd) (ent (ar a) (N.length - ps.length)) [] { nx := fun _ _ => False, rt := fun Ω φ => ∃ p ψ, φ = isV (.ref p) ∧ (p, ψ) ∈ Ω ∧ res a p ψ }) :
    FnOk P w K mg base CX0 (kk + 1) f fd ps (spN Pr ar res) := by
  refine F.ok S (fun vs H Q E h => ?_) fun cdv A outer s H vs Q E hr h => ?_
  · obtain ⟨a, O, _, al, _⟩ := h
    rw [← al_length al, hl]
  · obtain ⟨a, O, ha, al, ho, kq⟩ := h
    refine ⟨_, pssB, ?_⟩
    have hvl : vs.length = ps.length := by rw [← al_length al, hl]
    have hst : L2.start N vs = vs.map some ++ List.replicate (N.length - ps.length) none := by unfold L2.start; rw [hvl]
    have w0 : (⟨H, O, L2.start N vs, H⟩ : Wd).Ok (ent (ar a) (N.length - ps.length)) [] :=
      ⟨by rw [hst]; exact sl_ent _ al, fun _ z => (nomatch z), List.nodup_nil, fun _ z => (nomatch z), Same.refl _, ho⟩
    refine wpB_mono (hb cdv A outer s H E hr a ha _ w0) ⟨?_, ?_, ?_, ?_⟩
    · rintro σ' H' ⟨_, _, g, _⟩; exact g.elim
    · rintro v H' ⟨Ω', φ, ⟨p, ψ, rfl, hm, g⟩, k1, s1, p1⟩
      obtain rfl := p1
      obtain ⟨o', e1, q1⟩ := k1.ow _ hm
      refine kq p H' ψ o' g (k1.nw _ hm) k1.sm e1 (ψ.mono (hid_anti fun q hq => ?_) q1)
      rcases List.mem_cons.mp hq with z | z
      · rw [z]; exact List.mem_append_left _ (List.mem_map.mpr ⟨_, hm, rfl⟩)
      · exact List.mem_append_right _ z
    · rintro σ' H' ⟨_, _, g, _⟩; exact g.elim
    · rintro σ' H' ⟨_, _, g, _⟩; exact g.elim
end
end G
set_option Elab.async false
set_option linter.all false
set_option maxRecDepth 100000
set_option maxHeartbeats 4000000
/-! G18: small rules. -/
namespace G
open PySem PySem.Spec PyProof.Rows L2 RZ PySem.Calls
section
variable {X : Cx} {a b c e : Expr} {es : List Expr} {Γ : Ga} {Ω : Om} {k : Om → MP → Prop} {kT : Om → Bool → Prop} {kA : Om → List MP → Prop} {pos p1 p2 p3 : Pos} {D : SEnd}
theorem ev_lenM (hm : X.mg "len" = none) (h : ev X e Γ Ω fun Ω1 φ => ∃ φs, φ = isLm φs ∧ k Ω1 (isD X.K (.int (φs.length : Nat)))) (hg : Gl X "len" := by rfl)
    (he : starEach [e] X.env = (false, eval e X.env) :: starEach [] X.env := by rfl) : ev X (.Call (.Name "len" p2) [e] [] pos) Γ Ω k :=
  ev_callB call_len_seq hm boot_len (evA_cons (ev_imp h fun Ω1 φ g => evA_nil fun W vs Q _ w al z => by
    obtain ⟨φs, rfl, g⟩ := g
    obtain ⟨v, rfl, p⟩ := al1 al
    obtain ⟨a, xs, rfl, q, d⟩ := p
    exact ⟨a, xs, rfl, .inl (SqL.of (hid_sub _ _ q)), z _ _ (post_pure w g (by rw [← al_len d]; exact .int _))⟩) he) hg (he := he)
theorem al_dp {K : PySem.W.Frag} {F : Hp} : ∀ {xs : List V} {ds : List PyData}, DpAll K F xs ds → Al F (ds.map (isD K)) xs
  | _, _, .nil => .nil
  | _, _, .cons h t => .cons h (al_dp t)
theorem sub_lm {K : PySem.W.Frag} {ds : List PyData} : Sub (isL K ds) (isLm (ds.map (isD K))) := fun F v ⟨p, o, e, h, xs, eo, al⟩ => by
  subst eo
  exact ⟨p, xs, e, h, al_dp al⟩
theorem ev_sub {φs : List MP} {ds : List PyData} (h : ev X e Γ Ω fun Ω1 φ => ∃ ds, φ = isL X.K ds ∧ k Ω1 (isLm (ds.map (isD X.K)))) : ev X e Γ Ω k := fun W w => wpE_mono (h W w) fun v H' ⟨Ω', φ, ⟨ds, e, g⟩, a, b, c⟩ => ⟨Ω', _, g, a, b, sub_lm _ _ (by rw [e] at c; exact c)⟩
end
end G
set_option Elab.async false
set_option linter.all false
set_option maxRecDepth 100000
set_option maxHeartbeats 4000000
set_option pp.maxSteps 300
/-! G19: dict(pairs), setdefault, a shift of what is known. -/
namespace G
open PySem PySem.Spec PyProof.Rows L2 RZ PySem.Calls
section
variable {X : Cx} {a b c e o f : Expr} {es : List Expr} {ss : List Stmt} {Γ Γ' : Ga} {Ω Ω' : Om} {k : Om → MP → Prop} {kT : Om → Bool → Prop} {kA : Om → List MP → Prop} {pos cpos apos p1 p2 p3 : Pos} {D : SEnd}
/-- .setdefault(k, d) -/
theorem ev_setdef (hX : Nor X) (h : ev X o Γ Ω fun Ω1 φ => (∃ kv0, MsX X Ω1 φ kv0) ∧ ev X e Γ Ω1 fun Ω2 ψ => ev X f Γ Ω2 fun Ω3 χ => ∃ (j : Nat) (p : Addr) (kvs : List (NK × MP)) (key : NK), φ = isV (.ref p) ∧ KeyD X.K ψ key ∧ Ω3[j]? = some (p, dcO X p kvs) ∧ kvs.length < sizeLine ∧
      (∀ ω, look kvs key = some ω → k Ω3 ω) ∧ (look kvs key = none → k (Ω3.set j (p, dcO X p (kvs ++ [(key, χ)]))) χ)) (m : M2 X o "setdefault" apos e f cpos := by exact ⟨rfl, rfl, rfl, rfl⟩) : ev X (.Call (.Attribute o "setdefault" apos) [e, f] [] cpos) Γ Ω k := fun W w => by
  intro pins s I
  refine wpAny_Call_method m.base m.few m.line PySem.F.plainAttrs_dict PySem.F.slot_dict_setdefault PySem.F.type_dict_setdefault (thn (h W w pins s I) ?_)
  rintro u s1 ⟨x, H1, I1, rx, Ω1, φ, ⟨⟨kv0, m0⟩, h1⟩, k1, s1', p1⟩
  obtain ⟨q0, xs0, rfl, e0, kv⟩ := m0.at_ k1 p1
  obtain rfl : u = Value.ref q0 := rx
  obtain ⟨_, _, vs0, r0, d0⟩ := dct_at I1 e0 (kv.mono hid_sub).key
  refine ⟨d0.typeIs, ?_, ?_⟩
  · rintro b eb
    injection eb with eb
    subst eb
    obtain ⟨ob, es0, ep0, ho, hx, _⟩ := d0
    exact ⟨ob, ho, hx.2.1⟩
  rw [m.trees]
  refine Calls.callWith_builtin rfl (Calls.evalArgs_plain (Calls.spliced_cons (thn (h1 (W.up H1) k1 pins _ I1) ?_)))
  rintro u2 s2 ⟨y, H2, I2, ry, Ω2, ψ, h2, k2, s2', p2⟩
  refine Calls.spliced_cons (thn (h2 ((W.up H1).up H2) k2 pins _ I2) ?_)
  rintro u3 s3 ⟨z, H3, I3, rz, Ω3, χ, ⟨j, p, kvs, key, rfl, hk, hj, hz, g1, g2⟩, k3, s3', p3⟩
  refine Calls.spliced_nil ?_
  obtain rfl : q0 = p := by injection p1
  obtain ⟨a1, rfl, ka⟩ := hk.at_ (ψ.mono s3' p2)
  obtain rfl : u2 = Value.ref a1 := ry
  obtain ⟨ob, e3, xs, rfl, kv3⟩ := k3.ow _ (List.mem_of_getElem? hj)
  have e3 : H3 q0 = some (dctH X.prog X.w q0 xs) := e3
  obtain ⟨hs, hzx, vs, r, d⟩ := dct_at I3 e3 (kv3.mono hid_sub).key
  have kH : Key1 X.K H3 key a1 := ka.mono hid_sub
  have hl := kv3.length
  obtain ⟨lk1, lk2⟩ := kv3.look (k := key) r
  cases hlook : look kvs key with
  | some ω =>
    obtain ⟨b, v, w1, e4, rv, pv⟩ := lk1 ω hlook
    refine call_setdefault_heap (hsz := by rw [← relE_len r]; exact hzx) (nk_room hX) (kH.is I3) hs d (fun pp hp => ?_) (fun hn => by rw [e4] at hn; cases hn)
    rw [e4] at hp
    cases hp
    exact ⟨v, H3, I3.tok _, rv, _, _, g1 ω hlook, k3, (s1'.trans s2').trans s3', pv⟩
  | none =>
    have hn := lk2 hlook
    have hf := fresh_of kv3 hlook
    refine call_setdefault_heap (hsz := by rw [← relE_len r]; exact hzx) (nk_room hX) (kH.is I3) hs d (fun pp hp => by rw [hn] at hp; cases hp) (fun _ h' d' sb => ?_)
    have d2 := dct_put (X := X) (a := a1) (k := key) (by rw [hl]; exact hz) r rz hf hs d'
    obtain ⟨k4, e4⟩ := k3.put (o := dctH X.prog X.w q0 (xs ++ [(key, a1, z)])) (ψ' := dcO X q0 (kvs ++ [(key, χ)])) hj ⟨_, rfl, KvOk.append (.cons ka p3 .nil) kv3⟩
    refine ⟨z, _, dct_write I3 e3 sb d2, rz, _, _, g2 hlook, k4, ?_, ?_⟩
    · have q : (W.up (upd H3 q0 (dctH X.prog X.w q0 (xs ++ [(key, a1, z)])))).F (Ω3.set j (q0, dcO X q0 (kvs ++ [(key, χ)]))) = (((W.up H1).up H2).up H3).F Ω3 := e4
      rw [q]
      exact (s1'.trans s2').trans s3'
    · have q : (W.up (upd H3 q0 (dctH X.prog X.w q0 (xs ++ [(key, a1, z)])))).F (Ω3.set j (q0, dcO X q0 (kvs ++ [(key, χ)]))) = (((W.up H1).up H2).up H3).F Ω3 := e4
      rw [q]
      exact p3
/-- what is known may be told in other words -/
theorem stB_shift (hs : ∀ W : Wd, W.Ok Γ Ω → W.Ok Γ' Ω' ∧ Same (W.F Ω) (W.F Ω')) (h : stB X ss Γ' Ω' D) : stB X ss Γ Ω D := fun W w => by
  obtain ⟨w1, s1⟩ := hs W w
  exact wpB_mono (h W w1) (e_chain (σ1 := W.σ) (H1 := W.H) s1)
/-- dict(l) of a list of pairs with new keys -/
theorem cr_dictP (hX : Nor X) : CallR X (.type "dict") (fun us H Q => ∃ (a : Addr) (ts : List Addr) (xs : List Ent), us = [.ref a] ∧ SqL X.K H a (ts.map V.ref) ∧ Paired (fun T (x : Ent) => SqT X.K H T [.ref x.2.1, x.2.2]) ts xs ∧ (∀ x ∈ xs, Key1 X.K H x.1 x.2.1) ∧ (xs.map (·.1)).Nodup ∧
    ∀ p, H p = none → Q (.ref p) (upd H p (dctH X.prog X.w p xs))) := by
  intro pins s σ H us vs Q I r h
  obtain ⟨a, ts, xs, rfl, hl, hp, hk, hn, q⟩ := h
  rw [Vals.ref1 r]
  obtain ⟨its, rv, pl, hz⟩ := I.list hl
  have ei := refs_at rv
  subst ei
  have pairs : ∀ {ts : List Addr} {xs : List Ent}, Paired (fun T (x : Ent) => SqT X.K H T [.ref x.2.1, x.2.2]) ts xs → ∃ us : List Value, RelE xs (List.zipWith (fun (x : Ent) u => (x.1, x.2.1, u)) xs us) ∧ us.length = xs.length ∧ ts.length = xs.length ∧
      ∀ (j : Nat) (T : Addr) (x : Ent) (u : Value), ts[j]? = some T → xs[j]? = some x → us[j]? = some u → s.heap.IsTuple T #[.ref x.2.1, u] := by
    intro ts xs hp
    induction hp with
    | nil => exact ⟨[], .nil, rfl, rfl, fun j T x u h => by simp at h⟩
    | @cons T x ts xs h t ih =>
      obtain ⟨us, h1, h2, h3, h4⟩ := ih
      obtain ⟨its, rv, ht, _⟩ := I.tuple h
      obtain ⟨u1, u2, rfl, r1, r2⟩ := vals2 rv
      obtain rfl : u1 = Value.ref x.2.1 := r1
      refine ⟨u2 :: us, .cons ⟨rfl, rfl, r2⟩ h1, by simp [h2], by simp [h3], fun j T' x' u' e1 e2 e3 => ?_⟩
      cases j with
      | zero =>
        simp at e1 e2 e3
        subst e1 e2 e3
        obtain ⟨o, ho, hc, n, hd⟩ := ht
        exact ⟨o, ho, hc, n, hd⟩
      | succ j => exact h4 j T' x' u' (by simpa using e1) (by simpa using e2) (by simpa using e3)
  obtain ⟨us, rE, hul, htl, htup⟩ := pairs hp
  obtain ⟨o, n, ho, hc, hd, hdat⟩ := pl
  have hzl : (List.zipWith (fun (x : Ent) u => ((Value.ref x.2.1 : Value), u)) xs us).length = xs.length := by rw [List.length_zipWith, hul, Nat.min_self]
  have hzx : xs.length ≤ sizeLine := by rw [List.length_map, htl] at hz; exact hz
  have get : ∀ {β : Type} (g : Ent → Value → β) (j : Nat) (y : β), (List.zipWith g xs us)[j]? = some y → ∃ T x u, ts[j]? = some T ∧ xs[j]? = some x ∧ us[j]? = some u ∧ y = g x u := by
    intro β g j y e
    have hj : j < xs.length := by
      have := (List.getElem?_eq_some_iff.mp e).1
      rw [List.length_zipWith] at this; omega
    rw [List.getElem?_zipWith, List.getElem?_eq_getElem hj, List.getElem?_eq_getElem (by omega : j < us.length)] at e
    exact ⟨ts[j]'(by omega), xs[j], us[j]'(by omega), List.getElem?_eq_getElem _, List.getElem?_eq_getElem _, List.getElem?_eq_getElem _, (Option.some.inj e).symm⟩
  have hn2 : ((List.zipWith (fun (x : Ent) u => (x.1, x.2.1, u)) xs us).map (·.1)) = xs.map (·.1) := by
    refine List.ext_getElem? fun j => ?_
    rw [List.getElem?_map, List.getElem?_map]
    by_cases hj : j < xs.length
    · rw [List.getElem?_zipWith, List.getElem?_eq_getElem hj, List.getElem?_eq_getElem (by omega : j < us.length)]; rfl
    · rw [List.getElem?_eq_none (by rw [List.length_zipWith]; omega), List.getElem?_eq_none (by omega)]; rfl
  have hroom : (nkD X.prog X.w).room X.A.in1.in1 := by
    have := hX.room.un
    show X.A.units + 1 + 1 + 8 < cLine
    omega
  refine call_dict_pairsH (knd := nkD X.prog X.w) (ps := List.zipWith (fun (x : Ent) u => (x.1, x.2.1, u)) xs us) (PairArg.list a (ts.map Value.ref).toArray (fun j => ts.getD j 0) (List.zipWith (fun (x : Ent) u => ((Value.ref x.2.1 : Value), u)) xs us)) (I.ok.hd hX.calm) hroom
    ⟨⟨o, n, ho, hc, hd, hdat⟩, by rw [hzl]; simp [htl], fun j kk v e => ?_⟩ ⟨by rw [hzl, List.length_zipWith, hul, Nat.min_self], fun j kk v e => ?_⟩ (fun h' hkp x hx => ?_) (by rw [hzl]; exact hzx) fun h' tk d' kp => ?_
  · obtain ⟨T, x, u, e1, e2, e3, e4⟩ := get _ j _ e
    simp only [Prod.mk.injEq] at e4
    obtain ⟨rfl, rfl⟩ := e4
    have eT : ts.getD j 0 = T := by simp [List.getD, e1]
    refine ⟨by show (ts.map Value.ref).toArray[j]? = some (.ref (ts.getD j 0)); rw [eT]; simp [e1], .inl ?_⟩
    show s.heap.IsTuple (ts.getD j 0) _
    rw [eT]
    exact htup j T x _ e1 e2 e3
  · obtain ⟨T, x, u, e1, e2, e3, e4⟩ := get _ j _ e
    simp only [Prod.mk.injEq] at e4
    obtain ⟨rfl, rfl⟩ := e4
    exact ⟨x.1, x.2.1, by rw [List.getElem?_zipWith, e2, e3], rfl⟩
  · obtain ⟨j, hj⟩ := List.mem_iff_getElem?.mp hx
    obtain ⟨T, y, u, e1, e2, e3, rfl⟩ := get _ j _ hj
    exact nestedKind_stays.stays (fun b o' _ _ e _ => hkp b o' (Nat.ne_of_lt (Heap.lt_size e)) (by simp) e) ((hk y (List.mem_of_getElem? e2)).is I)
  · rw [storedAllH_nil_of_nodup _ (by rw [hn2]; exact hn)] at d'
    have hm : (s.heap.objs.size == sysModules) = false := beq_eq_false_iff_ne.mpr (Nat.ne_of_gt I.big)
    exact ⟨.ref s.heap.objs.size, _, I.laid (t' := tk) (fun b o' e => kp b o' (by simp) e) (Nat.le_refl _) (dctH_ok (dct_of (X := X) hm hzx rE d')), rfl, q _ (I.hok.fresh (Nat.le_refl _))⟩
theorem ev_dictP (hX : Nor X) (hm : X.mg "dict" = none) (h : ev X e Γ Ω fun Ω1 φ => ∃ (as : List (NK × PyData)), φ = isL X.K (as.map fun x => .tuple [x.1.data, x.2]) ∧ (∀ x ∈ as, tupK x.1 = true ∧ x.1.depth ≤ 8) ∧ (as.map (·.1)).Nodup ∧ ∀ p, k (Ω1 ++ [(p, dcO X p (as.map fun x => (x.1, isD X.K x.2)))]) (isV (.ref p))) (hg : Gl X "dict" := by rfl)
    (he : starEach [e] X.env = (false, eval e X.env) :: starEach [] X.env := by rfl) : ev X (.Call (.Name "dict" p2) [e] [] pos) Γ Ω k :=
  ev_callTy (cr_dictP hX) hm (by rfl) (evA_cons (ev_imp h fun Ω1 φ g => evA_nil fun W vs Q _ w al z => by
    obtain ⟨as, rfl, hk, hn, g⟩ := g
    obtain ⟨v, rfl, p⟩ := al1 al
    obtain ⟨a, o, rfl, e1, ys, rfl, d⟩ := p
    have rows : ∀ {as : List (NK × PyData)} {ys : List V}, (∀ x ∈ as, tupK x.1 = true ∧ x.1.depth ≤ 8) → DpAll X.K (W.F Ω1) ys (as.map fun x => PyData.tuple [x.1.data, x.2]) → ∃ (ts : List Addr) (xs : List Ent), ys = ts.map V.ref ∧ Paired (fun T (x : Ent) => SqT X.K (W.F Ω1) T [.ref x.2.1, x.2.2]) ts xs ∧
        (∀ x ∈ xs, Key1 X.K (W.F Ω1) x.1 x.2.1) ∧ xs.map (·.1) = as.map (·.1) ∧ KvOk X.K (W.F Ω1) xs (as.map fun x => (x.1, isD X.K x.2)) := by
      intro as
      induction as with
      | nil =>
        intro ys _ h
        have h' : DpAll X.K (W.F Ω1) ys [] := h
        cases h'
        exact ⟨[], [], rfl, .nil, (fun _ z => (nomatch z)), rfl, .nil⟩
      | cons x as ih =>
        intro ys hk h
        have h' : DpAll X.K (W.F Ω1) ys (PyData.tuple [x.1.data, x.2] :: as.map fun x => PyData.tuple [x.1.data, x.2]) := h
        cases h' with
        | cons h1 h2 =>
          obtain ⟨ts, xs, rfl, q1, q2, q3, q4⟩ := ih (fun y hy => hk y (List.mem_cons_of_mem _ hy)) h2
          obtain ⟨T, zs, rfl, e2, al2⟩ := dp_tup h1
          cases al2 with
          | cons d1 al2 =>
            cases al2 with
            | cons d2 al2 =>
              cases al2
              obtain ⟨t1, t2⟩ := hk x List.mem_cons_self
              obtain ⟨b, rfl, kb⟩ := (KeyD.mk rfl t1 t2 : KeyD X.K (isD X.K x.1.data) x.1).at_ d1
              refine ⟨T :: ts, (x.1, b, _) :: xs, rfl, .cons e2 q1, fun y hy => ?_, by rw [List.map_cons, List.map_cons, q3], .cons kb d2 q4⟩
              rcases List.mem_cons.mp hy with rfl | hy
              · exact kb
              · exact q2 y hy
    obtain ⟨ts, xs, rfl, q1, q2, q3, q4⟩ := rows hk d
    refine ⟨a, ts, xs, rfl, SqL.of (hid_sub _ _ e1), Paired.mapP q1 fun _ _ z => sameT hid_sub z, fun x hx => (q2 x hx).mono hid_sub, by rw [q3]; exact hn, fun p hp => z _ _ ?_⟩
    exact post_own (ψ := dcO X p (as.map fun x => (x.1, isD X.K x.2))) w hp ⟨xs, rfl, q4⟩ (g p)) he) hg (he := he)
end
end G
set_option Elab.async false
set_option linter.all false
set_option maxRecDepth 100000
set_option maxHeartbeats 4000000
set_option pp.maxSteps 300
/-! G20: x, y = a, b where a block captures one of them. -/
namespace G
open PySem PySem.Spec PyProof.Rows L2 RZ PySem.Calls
section
variable {X : Cx} {a b c e o f : Expr} {es : List Expr} {ss : List Stmt} {Γ Γ' : Ga} {Ω Ω' : Om} {k : Om → MP → Prop} {kT : Om → Bool → Prop} {kA : Om → List MP → Prop} {pos cpos apos p1 p2 p3 px py pt : Pos} {D : SEnd}
theorem tgt_pairM {i j : Nat} {x y : Str} {φ ψ : MP} {n : Nat} {k : Ga → Om → Prop} (hc : X.calm = true) (hN : X.N.Nodup) (hi : X.N[i]? = some x) (hj : X.N[j]? = some y) (h : k ((Γ.set i (some φ)).set j (some ψ)) Ω)
    (hx : Loc X.env.scope x := by first | exact Or.inl rfl | exact Or.inr rfl) (hy : Loc X.env.scope y := by first | exact Or.inl rfl | exact Or.inr rfl)
    (hf : X.fn x = true ∨ X.env.scope.names.lookup x = some .local := by first | exact .inl rfl | exact .inr rfl) (hg : X.fn y = true ∨ X.env.scope.names.lookup y = some .local := by first | exact .inl rfl | exact .inr rfl)
    (h1 : (assignEach [.Name x px, .Name y py] X.env).map (·.2) = assign (.Name x px) X.env :: (assignEach [.Name y py] X.env).map (·.2) := by rfl) (h2 : (assignEach [.Name y py] X.env).map (·.2) = assign (.Name y py) X.env :: (assignEach [] X.env).map (·.2) := by rfl)
    (hn : (assignEach [.Name x px, .Name y py] X.env).length = 2 := by rfl) (hst : (assignEach [.Name x px, .Name y py] X.env).findIdx? (·.1) = none := by rfl) :
    tgt X (.Tuple [.Name x px, .Name y py] n pos) (isTm [φ, ψ]) Γ Ω k := fun W v w p => by
  refine wpG_of (pg_tup hc (pgs_cons (pg_name hN hi hx hf) (pgs_cons (pg_name hN hj hy hg) pgs_nil h2) h1) hn hst) ?_
  obtain ⟨a, xs, rfl, e, al⟩ := p
  obtain ⟨v, u, rfl, q1, q2⟩ := al2 al
  exact ⟨a, _, rfl, SqT.of (hid_sub _ _ e), rfl, _, _, rfl, _, _, rfl, rfl, _, Ω, h, (w.set q1 i).set (W := W.st _ W.H) q2 j, Same.refl _⟩
theorem st_parC {i j : Nat} {x y : Str} {n m : Nat} (hX : Nor X) (hi : X.N[i]? = some x) (hj : X.N[j]? = some y) (h : evA X [a, b] Γ Ω fun Ω1 φs => ∃ φ ψ, φs = [φ, ψ] ∧ D.nx ((Γ.set i (some φ)).set j (some ψ)) Ω1)
    (hx : Loc X.env.scope x := by first | exact Or.inl rfl | exact Or.inr rfl) (hy : Loc X.env.scope y := by first | exact Or.inl rfl | exact Or.inr rfl)
    (hf : X.fn x = true ∨ X.env.scope.names.lookup x = some .local := by first | exact .inl rfl | exact .inr rfl) (hg : X.fn y = true ∨ X.env.scope.names.lookup y = some .local := by first | exact .inl rfl | exact .inr rfl)
    (h1 : (assignEach [.Name x px, .Name y py] X.env).map (·.2) = assign (.Name x px) X.env :: (assignEach [.Name y py] X.env).map (·.2) := by rfl) (h2 : (assignEach [.Name y py] X.env).map (·.2) = assign (.Name y py) X.env :: (assignEach [] X.env).map (·.2) := by rfl)
    (hn : (assignEach [.Name x px, .Name y py] X.env).length = 2 := by rfl) (hst : (assignEach [.Name x px, .Name y py] X.env).findIdx? (·.1) = none := by rfl)
    (hs : swapsWithSole [.Tuple [.Name x px, .Name y py] n pt] (.Tuple [a, b] m p2) pos.line X.env = pure false := by rfl) (hw : swappedStores [.Tuple [.Name x px, .Name y py] n pt] (.Tuple [a, b] m p2) X.env = pure none := by rfl)
    (h3 : (assignEach [.Tuple [.Name x px, .Name y py] n pt] X.env).map (·.2) = [assign (.Tuple [.Name x px, .Name y py] n pt) X.env] := by rfl) : st X (.Assign [.Tuple [.Name x px, .Name y py] n pt] (.Tuple [a, b] m p2) pos) Γ Ω D :=
  st_asg (ev_tupM (fun W w => wpA_mono (h W w) fun vs H' ⟨Ω', φs, ⟨φ, ψ, e, g⟩, k1, s1, q1⟩ => ⟨Ω', φs, ⟨by rw [e]; exact le1000 (n := 2) rfl (by decide), by rw [e]; exact tgt_pairM hX.calm hX.nd hi hj g hx hy hf hg h1 h2 hn hst⟩, k1, s1, q1⟩)) hs hw h3
end
end G
set_option Elab.async false
set_option linter.all false
set_option maxRecDepth 100000
set_option maxHeartbeats 4000000
set_option pp.maxSteps 300
/-! G21: t[::-1]. -/
namespace G
open PySem PySem.Spec PyProof.Rows L2 RZ PySem.Calls
section
variable {prog : Program} {w : World} {A : Around} {E : Value → Shared → Prop} {s : Shared}
theorem adjust_rev (n : Nat) : Builtin.Slice.sliceAdjust none none (-1) (n : Int) = ((n : Int) - 1, -1) := by
  unfold Builtin.Slice.sliceAdjust
  rfl
theorem places_rev (n : Nat) : Builtin.Slice.slicePlaces ((n : Int) - 1) (-1) (-1) = n := by
  unfold Builtin.Slice.slicePlaces
  rw [if_neg (by decide)]
  by_cases h : n = 0
  · subst h; rfl
  · have e : ((n : Int) - 1 - -1 - -1 - 1) / (- -1) = (n : Int) := by
      rw [show (- -1 : Int) = 1 by decide, Int.ediv_one]; omega
    simp
    omega
theorem pick_rev (xs : Array Value) : ((List.range xs.size).filterMap fun (m : Nat) => xs[(((xs.size : Int) - 1) + (m : Int) * (-1)).toNat]?).toArray = xs.toList.reverse.toArray := by
  congr 1
  have key : ∀ l : List Nat, (∀ m ∈ l, m < xs.size) → l.filterMap (fun (m : Nat) => xs[(((xs.size : Int) - 1) + (m : Int) * (-1)).toNat]?) = (l.map fun k => xs.size - 1 - k).filterMap (xs[·]?) := by
    intro l
    induction l with
    | nil => intro _; rfl
    | cons m l ih =>
      intro h
      have hm := h m List.mem_cons_self
      have e : (((xs.size : Int) - 1) + (m : Int) * (-1)).toNat = xs.size - 1 - m := by omega
      rw [List.map_cons, List.filterMap_cons, List.filterMap_cons, e, ih fun k hk => h k (List.mem_cons_of_mem _ hk)]
  rw [key _ fun m hm => List.mem_range.mp hm, PySem.W.krv_range, List.filterMap_reverse, PySem.W.krv_all]
theorem getItem_tuple_rev {t sl : Addr} {items : Array Value} {vl vu vs : Value} {Q : Value → Shared → Prop} (ht : IsTup s.heap t items) (hs : s.heap.IsSliceOf sl vl vu vs) (pl : IsPart vl none) (pu : IsPart vu none) (ps : IsPart vs (some (-1)))
    (h : Q (.ref s.heap.objs.size) { s with heap := s.heap.push { cls := .type "tuple", data := .seq items.toList.reverse.toArray } }) (hsz : items.size ≤ sizeLine) : wpAny (model prog w) A (getItem (.ref t) (.ref sl)) Q E s := by
  have hok : sizeOk (.seq items.toList.reverse.toArray) := by
    show items.toList.reverse.toArray.size ≤ sizeLine
    rw [List.size_toArray, List.length_reverse, Array.length_toList]
    exact hsz
  obtain ⟨os, hos, hcs, hds⟩ := id hs
  have hTs : s.TypeIs (.ref sl) "slice" := ⟨os, hos, hcs⟩
  unfold getItem
  try with_reducible refine wpAny_holding ?_
  first | refine wpAny_bind (wpAny_pure ?_) | skip
  refine wpAny_bind (wpAny_sequenceKey ht.typeIs (by decide) ?_)
  refine wpAny_bind (wpAny_callSpecial?_slot (name := Str.ofString "__getitem__") ht.typeIs PyProof.Rows.slot_tuple_getitem (wpAny_call_entry PyProof.Rows.slot_tuple_getitem ht.typeIs entry_tuple_getitem ?_ (args_tuple_getitem _ _)))
  show wpAny _ _ (Builtin.Tuple.tupleItemsOf (.ref t) >>= _) _ _ s
  refine wpAny_bind (tupleItemsOf_ ht (wpAny_bind (wpAny_typeOf hTs ?_)))
  rw [if_pos (by decide)]
  have ap : ∀ {R : Int × Int × Nat → Shared → Prop} {E' : Value → Shared → Prop}, R ((items.size : Int) - 1, -1, items.size) s → wpAny (model prog w) A.in1 (Builtin.Slice.sliceApplied (.ref sl) (pure (items.size : Int))) R E' s := by
    intro R E' hr
    unfold Builtin.Slice.sliceApplied Builtin.Slice.sliceFields
    refine wpAny_bind (wpAny_bind (wpAny_field hos hds (x := vl) rfl (wpAny_bind (wpAny_field hos hds (x := vu) rfl (wpAny_bind (wpAny_field hos hds (x := vs) rfl (wpAny_pure ?_)))))))
    refine wpAny_bind (HT.slicePart_ ps ?_)
    show wpAny _ _ (if ((-1 : Int) == 0) = true then _ else _) _ _ s
    rw [if_neg (by decide)]
    refine wpAny_bind (HT.slicePart_ pl (wpAny_bind (HT.slicePart_ pu (wpAny_bind (wpAny_pure ?_)))))
    show wpAny _ _ (match Builtin.Slice.sliceAdjust none none (-1) (items.size : Int) with | (lo, hi) => pure (lo, (-1 : Int), Builtin.Slice.slicePlaces lo hi (-1))) _ _ s
    rw [adjust_rev]
    show wpAny _ _ (pure ((items.size : Int) - 1, (-1 : Int), Builtin.Slice.slicePlaces ((items.size : Int) - 1) (-1) (-1))) _ _ s
    rw [places_rev]
    exact wpAny_pure hr
  refine wpAny_bind (ap ?_)
  have hno : ¬ ((((items.size : Int) - 1) == 0 && (-1 : Int) == 1 && items.size == items.size) = true) := by
    intro q
    rw [Bool.and_eq_true, Bool.and_eq_true] at q
    exact absurd q.1.2 (by decide)
  show wpAny _ _ (if (((items.size : Int) - 1) == 0 && (-1 : Int) == 1 && items.size == items.size) = true then _ else _) _ _ s
  rw [if_neg hno, pick_rev]
  first
    | exact wpAny_bind (m := Builtin.Tuple.tupleExact _) (wpAny_newObj_type (wpAny_pure ⟨_, rfl, wpAny_pure h⟩) hok)
    | exact wpAny_bind (m := Builtin.Tuple.tupleExact _) (wpAny_newObj_type (wpAny_bind (wpAny_pure (wpAny_pure ⟨_, rfl, wpAny_pure h⟩))) hok)
    | exact wpAny_bind (wpAny_bind (m := Builtin.Tuple.tupleExact _) (wpAny_newObj_type (wpAny_pure (wpAny_pure ⟨_, rfl, wpAny_pure h⟩)) hok))
    | exact wpAny_bind (wpAny_bind (m := Builtin.Tuple.tupleExact _) (wpAny_newObj_type (wpAny_pure ⟨_, rfl, wpAny_pure h⟩) hok))
end
section
variable {X : Cx} {a e : Expr} {Γ : Ga} {Ω : Om} {k : Om → MP → Prop} {pos p1 p2 p3 : Pos} {n : Nat}
theorem ev_revT (h : ev X e Γ Ω fun Ω1 φ => ∃ ds, φ = isD X.K (.tuple ds) ∧ k Ω1 (isD X.K (.tuple ds.reverse))) : ev X (.Subscript e (.Slice none none (some (.UnaryOp .USub (.Constant (.int 1) n p1) p2)) p3) pos) Γ Ω k := fun W w => by
  intro pins s I0
  refine Subscript_ (thn (h W w pins s I0) fun v s1 ⟨x, H1, I1, r1, Ω1, φ, ⟨ds, eφ, g⟩, k1, sm1, q1⟩ => ?_)
  subst eφ
  obtain ⟨a, xs, rfl, e1, d1⟩ := dp_tup q1
  obtain rfl : v = Value.ref a := r1
  have hst : PO X (some (.UnaryOp .USub (.Constant (.int 1) n p1) p2)) (tPart (tUn (rU fun i => .int (-i)) (tC (.int 1)))) := po_some (pe_un un_neg pe_int)
  refine wpAny_Slice (thn (po_none.run pins s1 W.σ H1 (fun o H2 => o = none ∧ H2 = H1) I1 ⟨rfl, rfl⟩) fun vl s2 ⟨l, H2, I2, pl, el, e2⟩ => ?_)
  subst el e2
  refine thn (po_none.run pins s2 W.σ H2 (fun o H3 => o = none ∧ H3 = H2) I2 ⟨rfl, rfl⟩) fun vu s3 ⟨u, H3, I3, pu, eu, e3⟩ => ?_
  subst eu e3
  refine thn (hst.run pins s3 W.σ H3 (fun o H4 => o = some (-1) ∧ H4 = H3) I3 ⟨1, rfl, -1, rfl, rfl, rfl⟩) fun vs s4 ⟨o, H4, I4, ps, eo, e4⟩ => ?_
  subst eo e4
  have I5 : Inv X pins W.σ H4 { s4 with heap := s4.heap.push { cls := .type "slice", data := .fields #[vl, vu, vs] } } := I4.kept (t' := s4.toks) fun b ob q => Heap.get?_push_of_some _ q
  obtain ⟨its, r, ht, hz⟩ := I5.tuple (sameT hid_sub e1)
  have hlen := r.length
  refine tail_any (ops := [.ref a, .ref s4.heap.objs.size]) ht.typeIs PyProof.Rows.slot_tuple_getitem.lookup ?_ (by with_unfolding_all rfl)
  refine getItem_tuple_rev ht (Heap.IsSliceOf.new _ vl vu vs) pl pu ps ?_ (by rw [List.size_toArray, ← hlen]; exact hz)
  have hn := I5.hok.fresh (Nat.le_refl _)
  exact ⟨.ref _, _, I5.laid (t' := s4.toks) (o := .tup xs.reverse) (fun b ob q => Heap.get?_push_of_some _ q) (Nat.le_refl _) ⟨by rw [List.length_reverse]; exact hz, _, r.reverse, IsTup.new _ _⟩, rfl,
    post_chain sm1 (post_new k1 hn g fun F e q => .tup (SqT.of q) (dpAllS e (dpAll_rev d1)))⟩
end
end G
set_option Elab.async false
set_option linter.all false
set_option maxRecDepth 100000
set_option maxHeartbeats 4000000
namespace G
open PySem PySem.Spec PyProof.Rows L2
variable {P : Program} {w : World} {K : PySem.W.Frag} {mg : Str → Option Value} {base : Heap}
/-! ### is_whole -/
def wholeD : PyData → Bool
  | .int _ => true
  | _ => false
def noDict : PyData → Bool
  | .dict _ => false
  | _ => true
def tyI : PyData → Bool
  | .int _ => true
  | .bool _ => true
  | _ => false
def tyB : PyData → Bool
  | .bool _ => true
  | _ => false
def tyT : PyData → Bool
  | .tuple _ => true
  | _ => false
theorem ki1 : kitB "NoneType" "int" = some false := by decide +kernel
theorem ki2 : kitB "bool" "int" = some true := by decide +kernel
theorem ki3 : kitB "int" "int" = some true := by decide +kernel
theorem ki4 : kitB "str" "int" = some false := by decide +kernel
theorem ki5 : kitB "list" "int" = some false := by decide +kernel
theorem ki6 : kitB "tuple" "int" = some false := by decide +kernel
theorem kb1 : kitB "NoneType" "bool" = some false := by decide +kernel
theorem kb2 : kitB "bool" "bool" = some true := by decide +kernel
theorem kb3 : kitB "int" "bool" = some false := by decide +kernel
theorem kb4 : kitB "str" "bool" = some false := by decide +kernel
theorem kb5 : kitB "list" "bool" = some false := by decide +kernel
theorem kb6 : kitB "tuple" "bool" = some false := by decide +kernel
theorem kt1 : kitB "NoneType" "tuple" = some false := by decide +kernel
theorem kt2 : kitB "bool" "tuple" = some false := by decide +kernel
theorem kt3 : kitB "int" "tuple" = some false := by decide +kernel
theorem kt4 : kitB "str" "tuple" = some false := by decide +kernel
theorem kt5 : kitB "list" "tuple" = some false := by decide +kernel
theorem kt6 : kitB "tuple" "tuple" = some true := by decide +kernel
theorem kit_I : ∀ {d : PyData}, noDict d = true → kitB (tyD d) "int" = some (tyI d)
  | .none, _ => ki1 | .bool _, _ => ki2 | .int _, _ => ki3 | .str _, _ => ki4 | .list _, _ => ki5 | .tuple _, _ => ki6
theorem kit_B : ∀ {d : PyData}, noDict d = true → kitB (tyD d) "bool" = some (tyB d)
  | .none, _ => kb1 | .bool _, _ => kb2 | .int _, _ => kb3 | .str _, _ => kb4 | .list _, _ => kb5 | .tuple _, _ => kb6
theorem kit_T : ∀ {d : PyData}, noDict d = true → kitB (tyD d) "tuple" = some (tyT d)
  | .none, _ => kt1 | .bool _, _ => kt2 | .int _, _ => kt3 | .str _, _ => kt4 | .list _, _ => kt5 | .tuple _, _ => kt6
theorem dp_noDict {K : PySem.W.Frag} {F : Hp} {v : V} {d : PyData} (h : Dp K F v d) : noDict d = true := by cases h <;> rfl
def spWhole (K : PySem.W.Frag) : Sp := spP (fun d : PyData => noDict d = true) (fun d => [isD K d]) (fun d φ => φ = isD K (.bool (wholeD d)))
theorem sc_whole : FnScope ["value"] ["value"] (defScope (top 7)) := ⟨rfl, rfl, rfl, by decide +kernel, rfl, by decide +kernel, by decide +kernel⟩
theorem h_whole (T : Txt K mg) : Has P w K mg base 5 "is_whole" (spWhole K) := by
  obtain ⟨f, fd, F, m⟩ := T.is_whole
  refine ⟨f, fd, ["value"], defP F sc_whole (kk := 4) (by decide) (fun _ => rfl) ?_, m, F.kp, F.binds fun _ _ _ _ _ _ us hl => match us, hl with | [_], _ => rfl⟩
  intro cdv A outer s H E hr d hd
  refine stB_one (st_ret (ev_and (ev_isi T.n_isinstance T.n_int boot_int (ev_name (i := 0) rfl rfl ⟨d, tyI d, rfl, kit_I hd, _, rfl, ite2 (fun q => ?_) (fun q => ?_)⟩))))
  · refine ev_one (ev_notV (ev_isi T.n_isinstance T.n_bool boot_bool (ev_name (i := 0) rfl rfl ⟨d, tyB d, rfl, kit_B hd, _, rfl, ?_⟩)))
    show isD K (.bool (!tyB d)) = isD K (.bool (wholeD d))
    cases d <;> first | rfl | cases q
  · show isD K (.bool false) = isD K (.bool (wholeD d))
    cases d <;> first | rfl | exact absurd rfl q
/-! ### is_between -/
def spBetween (K : PySem.W.Frag) : Sp := spP (fun _ : Int × Int × Int => True) (fun x => [isD K (.int x.1), isD K (.int x.2.1), isD K (.int x.2.2)]) (fun x φ => φ = isD K (.bool (decide (x.2.1 ≤ x.1 ∧ x.1 ≤ x.2.2))))
theorem sc_between : FnScope ["value", "low", "high"] ["value", "low", "high"] (defScope (top 8)) := ⟨rfl, rfl, rfl, by decide +kernel, rfl, by decide +kernel, by decide +kernel⟩
theorem h_between (T : Txt K mg) : Has P w K mg base 6 "is_between" (spBetween K) := by
  obtain ⟨f, fd, F, m⟩ := T.is_between
  refine ⟨f, fd, ["value", "low", "high"], defP F sc_between (kk := 5) (by decide) (fun _ => rfl) ?_, m, F.kp, F.binds fun _ _ _ _ _ _ us hl => match us, hl with | [_, _, _], _ => rfl⟩
  rintro cdv A outer s H E hr ⟨v, lo, hi⟩ -
  refine stB_one (st_ret (ev_and (ev_call ((h_whole T).cal hr) (evA_cons (ev_name (i := 0) rfl rfl (evA_nil ⟨.int v, rfl, Subs.rfl, ?_⟩))))))
  rintro φ rfl
  refine ⟨true, rfl, iteT ?_⟩
  refine ev_one (ev_leLe (ev_name (i := 1) rfl rfl (ev_name (i := 0) rfl rfl ⟨lo, v, rfl, rfl, ite2 (fun q => ?_) (fun q => ?_)⟩)))
  · refine ev_name (i := 2) rfl rfl ⟨hi, rfl, ?_⟩
    show isD K (.bool (decide (v ≤ hi))) = isD K (.bool (decide (lo ≤ v ∧ v ≤ hi)))
    simp [q]
  · show isD K (.bool false) = isD K (.bool (decide (lo ≤ v ∧ v ≤ hi)))
    simp [q]
/-! ### is_cell -/
def cellB : PyData → Bool
  | .tuple [a, b] => wholeD a && wholeD b
  | _ => false
def spIsCell (K : PySem.W.Frag) : Sp := spP (fun d : PyData => noDict d = true ∧ ∀ ds, d = .tuple ds → ∀ x ∈ ds, noDict x = true) (fun d => [isD K d]) (fun d φ => φ = isD K (.bool (cellB d)))
theorem sc_isCell : FnScope ["value"] ["value"] (defScope (top 9)) := ⟨rfl, rfl, rfl, by decide +kernel, rfl, by decide +kernel, by decide +kernel⟩
theorem h_isCell (T : Txt K mg) : Has P w K mg base 6 "is_cell" (spIsCell K) := by
  obtain ⟨f, fd, F, m⟩ := T.is_cell
  refine ⟨f, fd, ["value"], defP F sc_isCell (kk := 5) (by decide) (fun _ => rfl) ?_, m, F.kp, F.binds fun _ _ _ _ _ _ us hl => match us, hl with | [_], _ => rfl⟩
  rintro cdv A outer s H E hr d ⟨hd, hds⟩
  have hX := nor_of (P := P) (w := w) (K := K) (mg := mg) (base := base) (CX := CX0) (outer := outer) (H := H) (E := E) sc_isCell.nd hr (by decide)
  refine stB_one (st_ret (ev_and (ev_isi T.n_isinstance T.n_tuple boot_tuple (ev_name (i := 0) rfl rfl ⟨d, tyT d, rfl, kit_T hd, _, rfl, ite2 (fun q => ?_) (fun q => ?_)⟩))))
  · obtain ⟨ds, rfl⟩ : ∃ ds, d = .tuple ds := by cases d <;> first | exact ⟨_, rfl⟩ | cases q
    refine ev_and (ev_eqD hX (ev_len T.n_len (ev_name (i := 0) rfl rfl ⟨ds, .t, ev_int ⟨.int ds.length, .int 2, decide (ds.length = 2), dq_d, dq_d, rfl, rfl, ?_, ?_⟩⟩)))
    · show ((ds.length : Int) == 2) = decide (ds.length = 2)
      rw [Bool.eq_iff_iff]; simp; omega
    · refine ⟨_, rfl, ite2 (fun q => ?_) (fun q => ?_)⟩
      · obtain ⟨a, b, rfl⟩ : ∃ a b, ds = [a, b] := by
          match ds, of_decide_eq_true q with
          | [a, b], _ => exact ⟨a, b, rfl⟩
        have na : noDict a = true := hds _ rfl a (by simp)
        have nb : noDict b = true := hds _ rfl b (by simp)
        refine ev_and (ev_call ((h_whole T).cal hr) (evA_cons (ev_ixT (ev_name (i := 0) rfl rfl (ev_int ⟨[a, b], 0, a, rfl, rfl, rfl, evA_nil ⟨a, na, Subs.rfl, ?_⟩⟩)))))
        rintro φ rfl
        refine ⟨_, rfl, ite2 (fun q => ?_) (fun q => ?_)⟩
        · refine ev_one (ev_call ((h_whole T).cal hr) (evA_cons (ev_ixT (ev_name (i := 0) rfl rfl (ev_int ⟨[a, b], 1, b, rfl, rfl, rfl, evA_nil ⟨b, nb, Subs.rfl, ?_⟩⟩)))))
          rintro φ rfl
          show isD K (.bool (wholeD b)) = isD K (.bool (wholeD a && wholeD b))
          rw [q]; rfl
        · show isD K (.bool false) = isD K (.bool (wholeD a && wholeD b))
          rw [Bool.eq_false_iff.mpr q]; rfl
      · show isD K (.bool false) = isD K (.bool (cellB (.tuple ds)))
        have q' : ds.length ≠ 2 := fun z => q (decide_eq_true z)
        match ds, q' with
        | [], _ => rfl
        | [_], _ => rfl
        | [_, _], h => exact absurd rfl h
        | _ :: _ :: _ :: _, _ => rfl
  · show isD K (.bool false) = isD K (.bool (cellB d))
    cases d <;> first | rfl | exact absurd rfl q
end G
set_option Elab.async false
set_option linter.all false
set_option maxRecDepth 100000
set_option maxHeartbeats 4000000
namespace G
open PySem PySem.Spec PyProof.Rows L2
variable {P : Program} {w : World} {K : PySem.W.Frag} {mg : Str → Option Value} {base : Heap}
/-! ### check_cell -/
theorem cell_nd (c : Cell) : noDict (cD c) = true ∧ ∀ ds, cD c = .tuple ds → ∀ x ∈ ds, noDict x = true := ⟨rfl, fun ds h x hx => by
  cases h
  rcases List.mem_cons.mp hx with rfl | hx
  · rfl
  · rcases List.mem_cons.mp hx with rfl | hx
    · rfl
    · cases hx⟩
def spCheckCell (K : PySem.W.Frag) : Sp := spP (fun _ : Cell => True) (fun c => [isD K (cD c)]) (fun _ φ => φ = isD K .none)
theorem sc_checkCell : FnScope ["value"] ["value"] (defScope (top 11)) := ⟨rfl, rfl, rfl, by decide +kernel, rfl, by decide +kernel, by decide +kernel⟩
theorem h_checkCell (T : Txt K mg) : Has P w K mg base 7 "check_cell" (spCheckCell K) := by
  obtain ⟨f, fd, F, m⟩ := T.check_cell
  refine ⟨f, fd, ["value"], defP F sc_checkCell (kk := 6) (by decide) (fun _ => rfl) ?_, m, F.kp, F.binds fun _ _ _ _ _ _ us hl => match us, hl with | [_], _ => rfl⟩
  rintro cdv A outer s H E hr c -
  refine stB_one (st_if (evT_not (evT_val (ev_call ((h_isCell T).cal hr) (evA_cons (ev_name (i := 0) rfl rfl (evA_nil ⟨cD c, cell_nd c, Subs.rfl, ?_⟩)))))))
  rintro φ rfl
  exact ⟨true, rfl, stB_nil rfl⟩
/-! ### beside -/
def besL (c : Cell) : List Cell := [(c.1 - 1, c.2), (c.1, c.2 - 1), (c.1 + 1, c.2), (c.1, c.2 + 1)]
def spBeside (K : PySem.W.Frag) : Sp := spP (fun _ : Cell => True) (fun c => [isD K (cD c)]) (fun c φ => φ = isD K (bD (besL c)))
theorem sc_beside : FnScope ["cell", "column", "row"] ["cell"] (defScope (top 12)) := ⟨rfl, rfl, rfl, by decide +kernel, rfl, by decide +kernel, by decide +kernel⟩
theorem h_beside (T : Txt K mg) : Has P w K mg base 8 "beside" (spBeside K) := by
  obtain ⟨f, fd, F, m⟩ := T.beside
  refine ⟨f, fd, ["cell"], defP F sc_beside (kk := 7) (by decide) (fun _ => rfl) ?_, m, F.kp, F.binds fun _ _ _ _ _ _ us hl => match us, hl with | [_], _ => rfl⟩
  rintro cdv A outer s H E hr c -
  have hX := nor_of (P := P) (w := w) (K := K) (mg := mg) (base := base) (CX := CX0) (outer := outer) (H := H) (E := E) sc_beside.nd hr (by decide)
  refine stB_cons (st_expr (ev_call ((h_checkCell T).cal hr) (evA_cons (ev_name (i := 0) rfl rfl (evA_nil ⟨c, trivial, Subs.rfl, ?_⟩)))))
  rintro φ rfl
  refine stB_cons (st_asg (ev_name (i := 0) rfl rfl (tgt_pair (i := 1) (j := 2) hX.calm hX.nd rfl rfl ?_)))
  refine stB_one (st_ret (ev_tup ?_))
  refine evA_cons (ev_tup2 (ev_subI (ev_name (i := 1) rfl rfl (ev_int ⟨_, _, rfl, rfl, ev_name (i := 2) rfl rfl ⟨_, _, dat_d, dat_d, ?_⟩⟩))))
  refine evA_cons (ev_tup2 (ev_name (i := 1) rfl rfl (ev_subI (ev_name (i := 2) rfl rfl (ev_int ⟨_, _, rfl, rfl, _, _, dat_d, dat_d, ?_⟩)))))
  refine evA_cons (ev_tup2 (ev_addI (ev_name (i := 1) rfl rfl (ev_int ⟨_, _, rfl, rfl, ev_name (i := 2) rfl rfl ⟨_, _, dat_d, dat_d, ?_⟩⟩))))
  refine evA_cons (ev_tup2 (ev_name (i := 1) rfl rfl (ev_addI (ev_name (i := 2) rfl rfl (ev_int ⟨_, _, rfl, rfl, _, _, dat_d, dat_d, ?_⟩)))))
  exact evA_nil ⟨_, .cons dat_d (.cons dat_d (.cons dat_d (.cons dat_d .nil))), le1000 (n := 4) rfl (by decide), rfl⟩
end G
set_option Elab.async false
set_option linter.all false
set_option maxRecDepth 100000
set_option maxHeartbeats 4000000
/-! M1: walks through a list of cells. -/
namespace G
inductive Rch (S : List Cell) (a : Cell) : Cell → Prop
  | here : Rch S a a
  | step {b c : Cell} : Rch S a b → c ∈ besL b → c ∈ S → Rch S a c
structure Dfs (L0 : List Cell) (a : Cell) (left found todo rest : List Cell) : Prop where
  sub : ∀ x ∈ left, x ∈ L0
  nd : left.Nodup
  cov : ∀ x ∈ L0, x ∈ left ∨ x ∈ todo ∨ x ∈ found
  got : ∀ x, x ∈ todo ∨ x ∈ found → x ∈ L0 ∧ Rch L0 a x ∧ x ∉ left
  nb : ∀ f ∈ found, ∀ y ∈ besL f, y ∈ left → y ∈ rest
  len : left.length + todo.length + found.length = L0.length
def cut (l : List Cell) (y : Cell) : List Cell := l.filter fun x => decide (x ≠ y)
theorem mem_cut {l : List Cell} {x y : Cell} : x ∈ cut l y ↔ x ∈ l ∧ x ≠ y := by unfold cut; simp
theorem cut_len {l : List Cell} {y : Cell} (n : l.Nodup) (h : y ∈ l) : (cut l y).length + 1 = l.length := by
  induction l with
  | nil => cases h
  | cons x l ih =>
    obtain ⟨n1, n2⟩ := List.nodup_cons.mp n
    unfold cut
    rw [List.filter_cons]
    by_cases e : x = y
    · subst e
      rw [if_neg (by simp)]
      have z : l.filter (fun z => decide (z ≠ x)) = l := List.filter_eq_self.mpr fun a ha => by
        have : a ≠ x := fun q => n1 (q ▸ ha)
        simpa using this
      rw [z]; rfl
    · rw [if_pos (by simpa using e)]
      have hy : y ∈ l := by
        rcases List.mem_cons.mp h with q | q
        · exact absurd q.symm e
        · exact q
      have := ih n2 hy
      unfold cut at this
      rw [List.length_cons, List.length_cons, this]
theorem cut_nd {l : List Cell} {y : Cell} (n : l.Nodup) : (cut l y).Nodup := List.Nodup.sublist List.filter_sublist n
theorem Dfs.start {L0 : List Cell} {a : Cell} (n : L0.Nodup) (h : a ∈ L0) : Dfs L0 a (cut L0 a) [] [a] [] where
  sub := fun x hx => (mem_cut.mp hx).1
  nd := cut_nd n
  cov := fun x hx => by
    by_cases e : x = a
    · exact .inr (.inl (by simp [e]))
    · exact .inl (mem_cut.mpr ⟨hx, e⟩)
  got := fun x hx => by
    have e : x = a := by
      rcases hx with z | z
      · simpa using z
      · cases z
    subst e
    exact ⟨h, .here, fun z => (mem_cut.mp z).2 rfl⟩
  nb := fun f hf => nomatch hf
  len := by
    have := cut_len n h
    simp only [List.length_cons, List.length_nil]
    omega
theorem Dfs.pop {L0 : List Cell} {a one : Cell} {left found todo : List Cell} (d : Dfs L0 a left found (todo ++ [one]) []) : Dfs L0 a left (found ++ [one]) todo (besL one) where
  sub := d.sub
  nd := d.nd
  cov := fun x hx => by
    rcases d.cov x hx with z | z | z
    · exact .inl z
    · rcases List.mem_append.mp z with z | z
      · exact .inr (.inl z)
      · exact .inr (.inr (List.mem_append_right _ z))
    · exact .inr (.inr (List.mem_append_left _ z))
  got := fun x hx => by
    refine d.got x ?_
    rcases hx with z | z
    · exact .inl (List.mem_append_left _ z)
    · rcases List.mem_append.mp z with z | z
      · exact .inr z
      · exact .inl (List.mem_append_right _ z)
  nb := fun f hf y hy hl => by
    rcases List.mem_append.mp hf with z | z
    · exact absurd (d.nb f z y hy hl) (by simp)
    · have e : f = one := by simpa using z
      rw [← e]; exact hy
  len := by
    have := d.len
    simp only [List.length_append, List.length_cons, List.length_nil] at this ⊢
    omega
theorem Dfs.skip {L0 : List Cell} {a y : Cell} {left found todo rest : List Cell} (d : Dfs L0 a left found todo (y :: rest)) (h : y ∉ left) : Dfs L0 a left found todo rest :=
  ⟨d.sub, d.nd, d.cov, d.got, fun f hf z hz hl => (List.mem_cons.mp (d.nb f hf z hz hl)).elim (fun e => absurd (e ▸ hl) h) fun e => e, d.len⟩
theorem Dfs.take {L0 : List Cell} {a y one : Cell} {left found todo rest : List Cell} (d : Dfs L0 a left found todo (y :: rest)) (h : y ∈ left) (ho : one ∈ found) (hb : y ∈ besL one) : Dfs L0 a (cut left y) found (todo ++ [y]) rest where
  sub := fun x hx => d.sub x (mem_cut.mp hx).1
  nd := cut_nd d.nd
  cov := fun x hx => by
    rcases d.cov x hx with z | z | z
    · by_cases e : x = y
      · exact .inr (.inl (by simp [e]))
      · exact .inl (mem_cut.mpr ⟨z, e⟩)
    · exact .inr (.inl (List.mem_append_left _ z))
    · exact .inr (.inr z)
  got := fun x hx => by
    have old : x ∈ todo ∨ x ∈ found → x ∈ L0 ∧ Rch L0 a x ∧ x ∉ cut left y := fun q => let ⟨q1, q2, q3⟩ := d.got x q; ⟨q1, q2, fun z => q3 (mem_cut.mp z).1⟩
    rcases hx with z | z
    · rcases List.mem_append.mp z with z | z
      · exact old (.inl z)
      · have e : x = y := by simpa using z
        subst e
        exact ⟨d.sub _ h, .step (d.got one (.inr ho)).2.1 hb (d.sub _ h), fun z => (mem_cut.mp z).2 rfl⟩
    · exact old (.inr z)
  nb := fun f hf z hz hl => by
    obtain ⟨hl, hne⟩ := mem_cut.mp hl
    rcases List.mem_cons.mp (d.nb f hf z hz hl) with e | e
    · exact absurd e hne
    · exact e
  len := by
    have := d.len
    have := cut_len d.nd h
    simp only [List.length_append, List.length_cons, List.length_nil]
    omega
theorem Dfs.stop {L0 : List Cell} {a : Cell} {left found : List Cell} (d : Dfs L0 a left found [] []) (ha : a ∉ left) (h : a ∈ L0) : ∀ x ∈ L0, x ∈ left ↔ ¬ Rch L0 a x := by
  have key : ∀ x, Rch L0 a x → x ∈ found := by
    intro x r
    induction r with
    | here =>
      rcases d.cov a h with z | z | z
      · exact absurd z ha
      · cases z
      · exact z
    | @step b c r hb hc ih =>
      rcases d.cov c hc with z | z | z
      · exact absurd (d.nb b ih c hb z) (by simp)
      · cases z
      · exact z
  intro x hx
  refine ⟨fun z r => (d.got x (.inr (key x r))).2.2 z, fun z => ?_⟩
  rcases d.cov x hx with q | q | q
  · exact q
  · cases q
  · exact absurd (d.got x (.inr q)).2.1 z
/-! ### squares as a dict -/
abbrev cK (c : Cell) : NK := .tup [.num c.1, .num c.2]
def sqs (K : PySem.W.Frag) (l : List Cell) : List (NK × MP) := l.map fun c => (cK c, isD K (.bool true))
theorem cK_inj {a b : Cell} (h : cK a = cK b) : a = b := by
  injection h with h
  injection h with h1 h2
  injection h2 with h2 _
  injection h1 with h1
  injection h2 with h2
  exact Prod.ext h1 h2
theorem keyC {K : PySem.W.Frag} {c : Cell} : KeyD K (isD K (cD c)) (cK c) := ⟨rfl, rfl, by show (1 : Nat) ≤ 8; decide⟩
section
variable {K : PySem.W.Frag}
theorem look_map {α : Type} (key : α → NK) (val : α → MP) (hi : ∀ a b, key a = key b → a = b) : ∀ (l : List α) (a : α), (a ∈ l → look (l.map fun x => (key x, val x)) (key a) = some (val a)) ∧ (a ∉ l → look (l.map fun x => (key x, val x)) (key a) = none)
  | [], a => And.intro (fun h => (List.not_mem_nil h).elim) (fun _ => rfl)
  | x :: l, a => by
    have ih := look_map key val hi l a
    unfold look at ih ⊢
    rw [List.map_cons, List.find?_cons]
    by_cases e : x = a
    · subst e
      rw [decide_eq_true rfl]
      exact ⟨fun _ => rfl, fun h => absurd List.mem_cons_self h⟩
    · have e' : ¬ (key x = key a) := fun z => e (hi _ _ z)
      rw [decide_eq_false e']
      refine ⟨fun h => ih.1 ?_, fun h => ih.2 fun z => h (List.mem_cons_of_mem _ z)⟩
      rcases List.mem_cons.mp h with z | z
      · exact absurd z.symm e
      · exact z
theorem look_in {l : List Cell} {c : Cell} (h : c ∈ l) : look (sqs K l) (cK c) = some (isD K (.bool true)) := (look_map cK (fun _ => isD K (.bool true)) (fun _ _ => cK_inj) l c).1 h
theorem look_out {l : List Cell} {c : Cell} (h : c ∉ l) : look (sqs K l) (cK c) = none := (look_map cK (fun _ => isD K (.bool true)) (fun _ _ => cK_inj) l c).2 h
theorem look_sqs {l : List Cell} {c : Cell} : (look (sqs K l) (cK c)).isSome = decide (c ∈ l) := by
  by_cases h : c ∈ l
  · rw [look_in h, decide_eq_true h]; rfl
  · rw [look_out h, decide_eq_false h]; rfl
theorem gone_sqs {l : List Cell} {c : Cell} : gone (sqs K l) (cK c) = sqs K (cut l c) := by
  unfold gone sqs cut
  rw [List.filter_map]
  congr 1
  refine List.filter_congr fun x _ => ?_
  show decide (cK x ≠ cK c) = decide (x ≠ c)
  by_cases e : x = c
  · subst e; simp
  · have e' : cK x ≠ cK c := fun z => e (cK_inj z)
    rw [decide_eq_true e, decide_eq_true e']
theorem len_sqs {l : List Cell} : (sqs K l).length = l.length := List.length_map _
end
end G
set_option Elab.async false
set_option linter.all false
set_option maxRecDepth 100000
set_option maxHeartbeats 4000000
namespace G
open PySem PySem.Spec PyProof.Rows L2
variable {P : Program} {w : World} {K : PySem.W.Frag} {mg : Str → Option Value} {base : Heap}
theorem canS_cells (l : List Cell) : CanS (l.map cD) where
  al := PySem.W.AllAlike.of fun _ _ => rfl
  so := PySem.W.Sortable.tuples fun b => ⟨_, _, rfl⟩
  de := fun d hd => by
    obtain ⟨c, _, rfl⟩ := List.mem_map.mp hd
    show (1 : Nat) ≤ 8
    decide
/-! ### taken_part -/
structure TkA where
  p : Addr
  l : List Cell
  c : Cell
def spTaken (P : Program) (w : World) (K : PySem.W.Frag) : Sp := spM (fun x : TkA => x.l.Nodup ∧ x.c ∈ x.l ∧ x.l.length ≤ 1000) (fun x p => dctO P w K p (sqs K x.l)) (fun x => [isD K (cD x.c)])
  (fun x p ψ φ => ∃ l' d, ψ = dctO P w K p (sqs K l') ∧ φ = isD K d ∧ l'.Nodup ∧ ∀ y, y ∈ l' ↔ y ∈ x.l ∧ ¬ Rch x.l x.c y)
theorem sc_taken : FnScope ["left", "cell", "found", "todo", "one", "other"] ["left", "cell"] (defScope (top 13)) := ⟨rfl, rfl, rfl, by decide +kernel, rfl, by decide +kernel, by decide +kernel⟩
theorem h_taken (T : Txt K mg) : Has P w K mg base 9 "taken_part" (spTaken P w K) := by
  obtain ⟨f, fd, F, m⟩ := T.taken_part
  refine ⟨f, fd, ["left", "cell"], defM F sc_taken (kk := 8) (by decide) (fun _ => rfl) ?_, m, F.kp, F.binds fun _ _ _ _ _ _ us hl => match us, hl with | [_, _], _ => rfl⟩
  rintro cdv A outer s H E hr ⟨_, L, c⟩ p ⟨hnd, hc, hlen⟩
  have hlen : L.length ≤ 1000 := hlen
  have hX := nor_of (P := P) (w := w) (K := K) (mg := mg) (base := base) (CX := CX0) (outer := outer) (H := H) (E := E) sc_taken.nd hr (by decide)
  refine stB_cons (st_delM hX (ev_name (i := 0) rfl rfl (ev_name (i := 1) rfl rfl ⟨0, p, sqs K L, cK c, _, rfl, keyC, rfl, look_in hc, ?_⟩)))
  rw [gone_sqs]
  refine stB_cons (st_par2 (i := 2) (j := 3) hX rfl rfl (by decide) (evA_cons (ev_lst0 fun q1 => evA_cons (ev_lst1 (ev_name (i := 1) rfl rfl ⟨cD c, dat_d, fun q2 => evA_nil ⟨_, _, rfl, ?_⟩⟩)))))
  refine stB_cons (st_while hX (fun m Γ Ω => ∃ left found todo, Γ = [some (isV (.ref p)), some (isD K (cD c)), some (isV (.ref q1)), some (isV (.ref q2)), none, none] ∧
    Ω = [(p, dctO P w K p (sqs K left)), (q1, lstO K (found.map cD)), (q2, lstO K (todo.map cD))] ∧ Dfs L c left found todo [] ∧ c ∉ left ∧ m = 2 * left.length + todo.length) _ ⟨cut L c, [], [c], rfl, rfl, Dfs.start hnd hc, fun z => (mem_cut.mp z).2 rfl, rfl⟩ ?_)
  rintro m Γ Ω ⟨left, found, todo, rfl, rfl, hd, hcl, rfl⟩
  refine evT_some (ev_name (i := 3) rfl rfl ⟨todo.map cD, .l (.o (j := 2) rfl), ?_⟩)
  rcases List.eq_nil_or_concat todo with rfl | ⟨todo', one, rfl⟩
  · -- the end
    refine if_neg (by simp) |>.mpr ?_
    refine stB_one (st_ret (ev_tupL T.n_tuple boot_tuple (ev_sorted hX T.n_sorted (ev_name (i := 2) rfl rfl ⟨_, .q (.l (.o (j := 1) rfl)), ?_, ?_⟩))))
    · rintro ds rfl
      have := hd.len
      exact ⟨canS_cells _, by rw [List.length_map, sizeLine_eq]; omega⟩
    · rintro ds rfl
      exact ⟨_, .l, _, List.mem_cons_self, left, _, rfl, rfl, hd.nd, fun y => ⟨fun hy => ⟨hd.sub y hy, (hd.stop hcl hc y (hd.sub y hy)).mp hy⟩, fun ⟨h1, h2⟩ => (hd.stop hcl hc y h1).mpr h2⟩⟩
  · have eT : (todo'.concat one).map cD = todo'.map cD ++ [cD one] := by simp
    rw [List.concat_eq_append] at hd
    have hlo : (todo'.concat one).length = todo'.length + 1 := by simp
    rw [eT, if_pos (by simp)]
    refine stB_cons (st_set (i := 4) hX rfl (ev_pop (ev_name (i := 3) rfl rfl ⟨2, q2, todo'.map cD, cD one, rfl, rfl, ?_⟩)))
    have hd1 := hd.pop
    have hz := hd1.len
    rw [List.length_append, List.length_singleton] at hz
    refine stB_cons (st_expr (ev_append (ev_name (i := 2) rfl rfl ⟨1, q1, _, rfl, rfl, ev_name (i := 4) rfl rfl ⟨1, found.map cD, cD one, rfl, dat_d, by rw [List.length_map, sizeLine_eq]; omega, ?_⟩⟩)))
    refine stB_one (st_forT hX (ev_call ((h_beside T).cal hr) (evA_cons (ev_name (i := 4) rfl rfl (evA_nil ⟨one, trivial, Subs.rfl, ?_⟩)))))
    rintro φ rfl
    refine ⟨(besL one).map cD, rfl, fun j Γ Ω => ∃ left' todo, Γ = [some (isV (.ref p)), some (isD K (cD c)), some (isV (.ref q1)), some (isV (.ref q2)), some (isD K (cD one)), none] ∧
      Ω = [(p, dctO P w K p (sqs K left')), (q1, lstO K (found.map cD ++ [cD one])), (q2, lstO K (todo.map cD))] ∧ Dfs L c left' (found ++ [one]) todo ((besL one).drop j) ∧ c ∉ left' ∧ 2 * left'.length + todo.length ≤ 2 * left.length + todo'.length,
      ⟨left, todo', rfl, rfl, hd1, hcl, Nat.le_refl _⟩, ?_, ?_⟩
    · rintro j d Γ Ω hj ⟨left', todo, rfl, rfl, hd2, hcl2, hm⟩
      rw [List.getElem?_map] at hj
      obtain ⟨y, hy, rfl⟩ := Option.map_eq_some_iff.mp hj
      have hdr : (besL one).drop j = y :: (besL one).drop (j + 1) := by
        obtain ⟨h1, h2⟩ := List.getElem?_eq_some_iff.mp hy
        rw [List.drop_eq_getElem_cons h1, h2]
      rw [hdr] at hd2
      have hyb : y ∈ besL one := List.mem_of_getElem? hy
      refine tgt_name (i := 5) hX.nd rfl (stB_one (st_if (evT_inM hX (ev_name (i := 5) rfl rfl (ev_name (i := 0) rfl rfl ⟨decide (y ∈ left'), ⟨cK y, sqs K left', keyC, .o (j := 0) rfl, look_sqs.symm⟩, ?_⟩)))))
      by_cases hin : y ∈ left'
      · rw [decide_eq_true hin, if_pos rfl]
        refine stB_cons (st_delM hX (ev_name (i := 0) rfl rfl (ev_name (i := 5) rfl rfl ⟨0, p, sqs K left', cK y, _, rfl, keyC, rfl, look_in hin, ?_⟩)))
        rw [gone_sqs]
        have hd3 := hd2.take hin (List.mem_append_right _ List.mem_cons_self) hyb
        have hz3 := hd3.len
        have hz4 := cut_len hd2.nd hin
        rw [List.length_append, List.length_append, List.length_singleton, List.length_singleton] at hz3
        refine stB_one (st_expr (ev_append (ev_name (i := 3) rfl rfl ⟨2, q2, _, rfl, rfl, ev_name (i := 5) rfl rfl ⟨2, todo.map cD, cD y, rfl, dat_d, by rw [List.length_map, sizeLine_eq]; omega, ?_⟩⟩)))
        refine ⟨_, _, .yes Sub.rfl (.yes Sub.rfl (.yes Sub.rfl (.yes Sub.rfl (.yes Sub.rfl (.no .nil))))), List.Sublist.refl _, cut left' y, todo ++ [y], rfl, by rw [List.map_append]; rfl, hd3, fun z => hcl2 (mem_cut.mp z).1, ?_⟩
        rw [List.length_append, List.length_singleton]
        omega
      · rw [decide_eq_false hin, if_neg Bool.false_ne_true]
        exact stB_nil ⟨_, _, .yes Sub.rfl (.yes Sub.rfl (.yes Sub.rfl (.yes Sub.rfl (.yes Sub.rfl (.no .nil))))), List.Sublist.refl _, left', todo, rfl, rfl, hd2.skip hin, hcl2, hm⟩
    · rintro Γ Ω ⟨left', todo, rfl, rfl, hd2, hcl2, hm⟩
      refine ⟨_, _, .yes Sub.rfl (.yes Sub.rfl (.yes Sub.rfl (.yes Sub.rfl (.no (.no .nil))))), List.Sublist.refl _, _, ?_, left', found ++ [one], todo, rfl, by simp, ?_, hcl2, rfl⟩
      · rw [hlo]; omega
      · have e : (besL one).drop ((besL one).map cD).length = [] := by rw [List.length_map]; exact List.drop_length
        rw [e] at hd2
        exact hd2
end G
set_option Elab.async false
set_option linter.all false
set_option maxRecDepth 100000
set_option maxHeartbeats 4000000
namespace G
open PySem PySem.Spec PyProof.Rows L2 RZ
variable {P : Program} {w : World} {K : PySem.W.Frag} {mg : Str → Option Value} {base : Heap}
/-! ### the order of cells -/
def cle (a b : Cell) : Bool := decide (a.1 < b.1 ∨ (a.1 = b.1 ∧ a.2 ≤ b.2))
def sortC (l : List Cell) : List Cell := l.mergeSort cle
theorem cle_d (a b : Cell) : cle a b = PySem.W.dataLe false id (cD a) (cD b) := by
  have h := congrFun (congrFun (PySem.W.dataLe_ii (β := Cell) (fun c => c.1) (fun c => c.2)) a) b
  exact h.symm
theorem sortD_cells (l : List Cell) : sortD (l.map cD) = (sortC l).map cD := (PySem.W.sort_maps cD fun a _ b _ => cle_d a b).symm
theorem cle_trans (a b c : Cell) (h1 : cle a b = true) (h2 : cle b c = true) : cle a c = true := by
  unfold cle at *
  simp only [decide_eq_true_eq] at *
  omega
theorem cle_total (a b : Cell) : (cle a b || cle b a) = true := by
  unfold cle
  simp only [Bool.or_eq_true, decide_eq_true_eq]
  omega
theorem mem_sortC {l : List Cell} {x : Cell} : x ∈ sortC l ↔ x ∈ l := List.mem_mergeSort
theorem sortC_len {l : List Cell} : (sortC l).length = l.length := List.length_mergeSort _
/-! ### hanging together -/
theorem bes_symm {a b : Cell} (h : b ∈ besL a) : a ∈ besL b := by
  obtain ⟨a1, a2⟩ := a
  obtain ⟨b1, b2⟩ := b
  simp only [besL, List.mem_cons, List.not_mem_nil, or_false, Prod.mk.injEq] at h ⊢
  omega
theorem Rch.trans {S : List Cell} {a b c : Cell} (h1 : Rch S a b) (h2 : Rch S b c) : Rch S a c := by
  induction h2 with
  | here => exact h1
  | step _ hb hc ih => exact .step ih hb hc
theorem Rch.mem {S : List Cell} {a b : Cell} (h : Rch S a b) (ha : a ∈ S) : b ∈ S := by
  cases h with
  | here => exact ha
  | step _ _ hc => exact hc
theorem Rch.symm {S : List Cell} {a b : Cell} (h : Rch S a b) (ha : a ∈ S) : Rch S b a := by
  induction h with
  | here => exact .here
  | @step b c h hb hc ih => exact (Rch.step .here (bes_symm hb) (h.mem ha)).trans ih
theorem Rch.congr {S S' : List Cell} (e : ∀ x, x ∈ S → x ∈ S') {a b : Cell} (h : Rch S a b) : Rch S' a b := by
  induction h with
  | here => exact .here
  | step _ hb hc ih => exact .step ih hb (e _ hc)
def Hang (l : List Cell) : Prop := l ≠ [] ∧ ∀ x ∈ l, ∀ y ∈ l, Rch l x y
open Classical in
noncomputable def hangB (l : List Cell) : Bool := decide (Hang l)
open Classical in
theorem hangB_iff {l : List Cell} : hangB l = true ↔ Hang l := by unfold hangB; exact decide_eq_true_iff
theorem hang_from {l : List Cell} {a : Cell} (ha : a ∈ l) : Hang l ↔ ∀ x ∈ l, Rch l a x :=
  ⟨fun h => h.2 a ha, fun h => ⟨fun z => by rw [z] at ha; exact (List.not_mem_nil ha).elim, fun x hx y hy => ((h x hx).symm ha).trans (h y hy)⟩⟩
/-! ### parts_of -/
def spParts (K : PySem.W.Frag) : Sp := spP (fun x : Bool × List Cell => x.2.Nodup ∧ x.2.length ≤ 1000) (fun x => [sqM K x.1 (x.2.map cD)]) (fun x φ => ∃ fs : List PyData, φ = isD K (.tuple fs) ∧ (fs.length = 1 ↔ Hang x.2))
theorem sc_parts : FnScope ["cells", "cell", "left", "found"] ["cells"] (defScope (top 14)) := ⟨rfl, rfl, rfl, by decide +kernel, rfl, by decide +kernel, by decide +kernel⟩
structure PtI (L S : List Cell) (i : Nat) (left : List Cell) (fs : List PyData) : Prop where
  nd : left.Nodup
  sub : ∀ x ∈ left, x ∈ L
  zero : i = 0 → (∀ x ∈ L, x ∈ left) ∧ fs = []
  pos : 0 < i → ∃ c0, S[0]? = some c0 ∧ 1 ≤ fs.length ∧ (fs.length = 1 → (∀ x ∈ L, x ∈ left ↔ ¬ Rch L c0 x) ∧ ∀ k x, k < i → S[k]? = some x → x ∉ left) ∧ (2 ≤ fs.length → ∃ x ∈ L, ¬ Rch L c0 x)
  le : fs.length ≤ i
theorem PtI.skip {L S : List Cell} {i : Nat} {left : List Cell} {fs : List PyData} {c : Cell} (h : PtI L S i left fs) (hc : S[i]? = some c) (hm : c ∈ L) (hn : c ∉ left) : PtI L S (i + 1) left fs where
  nd := h.nd
  sub := h.sub
  zero := fun z => by omega
  pos := fun _ => by
    by_cases hi : i = 0
    · exact absurd ((h.zero hi).1 c hm) hn
    · obtain ⟨c0, h0, h1, h2, h3⟩ := h.pos (by omega)
      refine ⟨c0, h0, h1, fun e => ⟨(h2 e).1, fun k x hk hx => ?_⟩, h3⟩
      by_cases e2 : k = i
      · subst e2
        rw [hc] at hx
        cases hx
        exact hn
      · exact (h2 e).2 k x (by omega) hx
  le := by have := h.le; omega
theorem PtI.take {L S : List Cell} {i : Nat} {left left' : List Cell} {fs : List PyData} {c : Cell} {d : PyData} (h : PtI L S i left fs) (hc : S[i]? = some c) (hm : c ∈ left) (nd : left'.Nodup) (hl : ∀ y, y ∈ left' ↔ y ∈ left ∧ ¬ Rch left c y) : PtI L S (i + 1) left' (fs ++ [d]) where
  nd := nd
  sub := fun x hx => h.sub x ((hl x).mp hx).1
  zero := fun z => by omega
  pos := fun _ => by
    by_cases hi : i = 0
    · subst hi
      obtain ⟨h1, rfl⟩ := h.zero rfl
      have e : ∀ y, Rch left c y ↔ Rch L c y := fun y => ⟨fun r => r.congr h.sub, fun r => r.congr h1⟩
      refine ⟨c, hc, by simp, fun _ => ⟨fun x hx => ?_, fun k x hk hx => ?_⟩, fun z => by simp at z⟩
      · rw [hl, e]
        exact ⟨fun z => z.2, fun z => ⟨h1 x hx, z⟩⟩
      · have : k = 0 := by omega
        subst this
        rw [hc] at hx
        cases hx
        exact fun z => ((hl c).mp z).2 .here
    · obtain ⟨c0, h0, h1, h2, h3⟩ := h.pos (by omega)
      refine ⟨c0, h0, by simp, fun e => ?_, fun _ => ?_⟩
      · rw [List.length_append, List.length_singleton] at e
        omega
      · by_cases e : fs.length = 1
        · exact ⟨c, h.sub c hm, ((h2 e).1 c (h.sub c hm)).mp hm⟩
        · exact h3 (by omega)
  le := by have := h.le; simp; omega
theorem PtI.stop {L S : List Cell} {left : List Cell} {fs : List PyData} (h : PtI L S S.length left fs) (hS : ∀ x, x ∈ S ↔ x ∈ L) : fs.length = 1 ↔ Hang L := by
  by_cases hz : S.length = 0
  · have e : S = [] := List.length_eq_zero_iff.mp hz
    subst e
    have hL : L = [] := List.eq_nil_iff_forall_not_mem.mpr fun x hx => List.not_mem_nil ((hS x).mpr hx)
    obtain ⟨_, rfl⟩ := h.zero rfl
    exact ⟨fun z => by simp at z, fun z => absurd hL z.1⟩
  · obtain ⟨c0, h0, h1, h2, h3⟩ := h.pos (by omega)
    have hc : c0 ∈ L := (hS c0).mp (List.mem_of_getElem? h0)
    rw [hang_from hc]
    constructor
    · intro e x hx
      obtain ⟨k, hk⟩ := List.mem_iff_getElem?.mp ((hS x).mpr hx)
      have hn := (h2 e).2 k x (List.getElem?_eq_some_iff.mp hk).1 hk
      exact Classical.byContradiction fun z => hn (((h2 e).1 x hx).mpr z)
    · intro hall
      by_cases e : fs.length = 1
      · exact e
      · obtain ⟨x, hx, hn⟩ := h3 (by omega)
        exact absurd (hall x hx) hn
theorem key_data (l : List Cell) : (sqs K l).map (·.1.data) = l.map cD := by unfold sqs; rw [List.map_map]; rfl
theorem h_parts (T : Txt K mg) : Has P w K mg base 10 "parts_of" (spParts K) := by
  obtain ⟨f, fd, F, m⟩ := T.parts_of
  refine ⟨f, fd, ["cells"], defP F sc_parts (kk := 9) (by decide) (fun _ => rfl) ?_, m, F.kp, F.binds fun _ _ _ _ _ _ us hl => match us, hl with | [_], _ => rfl⟩
  rintro cdv A outer s H E hr ⟨t, L⟩ ⟨hnd, hlen⟩
  have hnd : L.Nodup := hnd
  have hlen : L.length ≤ 1000 := hlen
  have hX := nor_of (P := P) (w := w) (K := K) (mg := mg) (base := base) (CX := CX0) (outer := outer) (H := H) (E := E) sc_parts.nd hr (by decide)
  refine stB_cons (st_forI hX (evI_sq (t := t) (ev_name (i := 0) rfl rfl ⟨L.map cD, rfl, fun i Γ Ω => Γ = [some (sqM K t (L.map cD)), none, none, none] ∧ Ω = [], ⟨rfl, rfl⟩, ?_, ?_⟩)))
  · rintro i d Γ Ω hd ⟨rfl, rfl⟩
    rw [List.getElem?_map] at hd
    obtain ⟨c, hc, rfl⟩ := Option.map_eq_some_iff.mp hd
    refine tgt_name (i := 1) hX.nd rfl (stB_one (st_expr (ev_call ((h_checkCell T).cal hr) (evA_cons (ev_name (i := 1) rfl rfl (evA_nil ⟨c, trivial, Subs.rfl, ?_⟩))))))
    rintro φ rfl
    exact ⟨_, _, .yes Sub.rfl (.no (.no (.no .nil))), List.Sublist.refl _, rfl, rfl⟩
  rintro Γ Ω ⟨rfl, rfl⟩
  refine stB_cons (st_par2 (i := 2) (j := 3) hX rfl rfl (by decide) (evA_cons (ev_mc hX L cD cK (fun _ => .bool true) (fun c => [some (sqM K t (L.map cD)), some (isD K (cD c)), none, none]) (ow := [("cell", 1)]) (fun σ => wipe_wipe1 σ 1) (show BlkOk ["cells", "cell", "left", "found"] (defScope (top 14)) _ [("cell", 1)] from blkOk_by (by decide +kernel))
    (evI_sq (t := t) (ev_name (i := 0) rfl rfl ⟨L.map cD, rfl, rfl, ?_, ?_, fun p => evA_cons (ev_lst0 fun q => evA_nil ⟨_, _, rfl, ?_⟩)⟩)))))
  · exact List.pairwise_map.mpr (hnd.imp fun h e => h (cK_inj e))
  · intro s' H0 C cl fp c hc
    exact ⟨tgB_name hX.nd rfl, ev_name (i := 1) rfl rfl ⟨rfl, keyC⟩, ev_bool ⟨rfl, rfl⟩⟩
  refine stB_cons (st_forI hX (evI_list (ev_sorted hX T.n_sorted (ev_listM hX T.n_list (ev_name (i := 2) rfl rfl ⟨sqs K L, .o (j := 0) rfl, _, .q (.l .l), ?_, ?_⟩)))))
  · rintro ds rfl
    rw [key_data]
    exact ⟨canS_cells L, by rw [List.length_map, sizeLine_eq]; omega⟩
  rintro ds rfl
  rw [key_data, sortD_cells]
  refine ⟨_, .l, fun i Γ Ω => ∃ left fs, Γ = [some (sqM K t (L.map cD)), none, some (isV (.ref p)), some (isV (.ref q))] ∧ Ω = [(p, dctO P w K p (sqs K left)), (q, lstO K fs)] ∧ PtI L (sortC L) i left fs,
    ⟨L, [], rfl, rfl, hnd, fun _ h => h, fun _ => ⟨fun _ h => h, rfl⟩, fun z => absurd z (Nat.lt_irrefl 0), Nat.le_refl 0⟩, ?_, ?_⟩
  · rintro i d Γ Ω hd ⟨left, fs, rfl, rfl, hp⟩
    rw [List.getElem?_map] at hd
    obtain ⟨c, hc, rfl⟩ := Option.map_eq_some_iff.mp hd
    have hcL : c ∈ L := mem_sortC.mp (List.mem_of_getElem? hc)
    have hi : i < L.length := by rw [← sortC_len]; exact (List.getElem?_eq_some_iff.mp hc).1
    have hll : left.length ≤ 1000 := Nat.le_trans (List.Nodup.length_le_of_subset hp.nd hp.sub) hlen
    refine tgt_name (i := 1) hX.nd rfl (stB_one (st_if (evT_inM hX (ev_name (i := 1) rfl rfl (ev_name (i := 2) rfl rfl ⟨decide (c ∈ left), ⟨cK c, sqs K left, keyC, .o (j := 0) rfl, look_sqs.symm⟩, ?_⟩)))))
    by_cases hin : c ∈ left
    · rw [decide_eq_true hin, if_pos rfl]
      refine stB_one (st_expr (ev_append (ev_name (i := 3) rfl rfl ⟨1, q, fs, rfl, rfl, ev_callM ((h_taken T).cal hr) (evA_cons (ev_name (i := 2) rfl rfl (evA_cons (ev_name (i := 1) rfl rfl (evA_nil ⟨⟨p, left, c⟩, 0, p, _, rfl, rfl, ⟨hp.nd, hin, hll⟩, Subs.rfl, ?_⟩)))))⟩)))
      rintro ψ φ ⟨l', d, rfl, rfl, nd', hl'⟩
      have := hp.le
      refine ⟨1, fs, d, rfl, dat_d, by rw [sizeLine_eq]; omega, ?_⟩
      exact ⟨_, _, .yes Sub.rfl (.no (.yes Sub.rfl (.yes Sub.rfl .nil))), List.Sublist.refl _, l', fs ++ [d], rfl, rfl, hp.take hc hin nd' hl'⟩
    · rw [decide_eq_false hin, if_neg Bool.false_ne_true]
      exact stB_nil ⟨_, _, .yes Sub.rfl (.no (.yes Sub.rfl (.yes Sub.rfl .nil))), List.Sublist.refl _, left, fs, rfl, rfl, hp.skip hc hcL hin⟩
  rintro Γ Ω ⟨left, fs, rfl, rfl, hp⟩
  rw [List.length_map] at hp
  exact stB_one (st_ret (ev_tupL T.n_tuple boot_tuple (ev_name (i := 3) rfl rfl ⟨fs, .o (j := 1) rfl, fs, rfl, hp.stop fun x => mem_sortC⟩)))
/-! ### hangs -/
noncomputable def spHangs (K : PySem.W.Frag) : Sp := spP (fun x : Bool × List Cell => x.2.Nodup ∧ x.2.length ≤ 1000) (fun x => [sqM K x.1 (x.2.map cD)]) (fun x φ => φ = isD K (.bool (hangB x.2)))
theorem sc_hangs : FnScope ["cells"] ["cells"] (defScope (top 15)) := ⟨rfl, rfl, rfl, by decide +kernel, rfl, by decide +kernel, by decide +kernel⟩
theorem h_hangs (T : Txt K mg) : Has P w K mg base 11 "hangs" (spHangs K) := by
  obtain ⟨f, fd, F, m⟩ := T.hangs
  refine ⟨f, fd, ["cells"], defP F sc_hangs (kk := 10) (by decide) (fun _ => rfl) ?_, m, F.kp, F.binds fun _ _ _ _ _ _ us hl => match us, hl with | [_], _ => rfl⟩
  rintro cdv A outer s H E hr x hx
  have hX := nor_of (P := P) (w := w) (K := K) (mg := mg) (base := base) (CX := CX0) (outer := outer) (H := H) (E := E) sc_hangs.nd hr (by decide)
  refine stB_one (st_ret (ev_eqD hX (ev_len T.n_len (ev_call ((h_parts T).cal hr) (evA_cons (ev_name (i := 0) rfl rfl (evA_nil ⟨x, hx, Subs.rfl, ?_⟩)))))))
  rintro φ ⟨fs, rfl, hfs⟩
  refine ⟨fs, .t, ev_int ⟨.int fs.length, .int 1, hangB x.2, dq_d, dq_d, rfl, rfl, ?_, rfl⟩⟩
  show ((fs.length : Int) == 1) = hangB x.2
  rw [Bool.eq_iff_iff, beq_iff_eq, hangB_iff, ← hfs]
  omega
end G
set_option Elab.async false
set_option linter.all false
set_option maxRecDepth 100000
set_option maxHeartbeats 4000000
namespace G
open PySem PySem.Spec PyProof.Rows L2 RZ
variable {P : Program} {w : World} {K : PySem.W.Frag} {mg : Str → Option Value} {base : Heap}
/-! ### a value, or an empty dict -/
def oddM (K : PySem.W.Frag) : Option PyData → MP
  | some d => isD K d
  | none => isE
def tyO : Option PyData → String
  | some d => tyD d
  | none => "dict"
def isTup : Option PyData → Bool
  | some (.tuple _) => true
  | _ => false
theorem kitT_dict : kitB "dict" "tuple" = some false := by decide +kernel
theorem kit_O {o : Option PyData} (h : ∀ d, o = some d → noDict d = true) : kitB (tyO o) "tuple" = some (isTup o) := by
  cases o with
  | none => exact kitT_dict
  | some d =>
    show kitB (tyD d) "tuple" = _
    rw [kit_T (h d rfl)]
    cases d <;> rfl
section
variable {X : Cx} {e : Expr} {Γ : Ga} {Ω : Om} {k : Om → MP → Prop} {pos p1 p2 : Pos}
theorem ev_isiO {x : Str} {T : String} (hm : X.mg "isinstance" = none) (hx : X.mg x = none) (hv : bootBuiltins x = some (.type T)) (h : ev X e Γ Ω fun Ω1 φ => ∃ o b, φ = oddM X.K o ∧ kitB (tyO o) T = some b ∧ k Ω1 (isD X.K (.bool b)))
    (hg : Gl X "isinstance" := by rfl) (hgx : Gl X x := by rfl) (hn : x ≠ "__name__" := by decide) (hd : (x == ("__debug__" : Str)) = false := by decide)
    (he : starEach [e, .Name x p1] X.env = (false, eval e X.env) :: starEach [.Name x p1] X.env := by rfl) (he2 : starEach [.Name x p1] X.env = (false, eval (.Name x p1) X.env) :: starEach [] X.env := by rfl)
    (hpl : (backTo pos (starEach [.Name x p1] X.env)).any (·.1) = false := by rfl) : ev X (.Call (.Name "isinstance" p2) [e, .Name x p1] [] pos) Γ Ω k :=
  ev_callB call_isi hm boot_isinstance (evA_cons (ev_imp h fun Ω1 φ g => evA_cons (ev_ty hx hv (evA_nil fun W vs Q _ w al z => by
    obtain ⟨o, b, rfl, hk, g⟩ := g
    obtain ⟨v, u, rfl, q1, q2⟩ := al2 al
    obtain rfl := q2
    refine ⟨v, .ty T, _, _, b, rfl, .ty T, ?_, kit_ty hk, z _ _ (post_pure w g (.bl b))⟩
    cases o with
    | some d => exact tyX_dp hid_sub q1
    | none =>
      obtain ⟨p, rfl, e1⟩ := q1
      exact .base (.dK (hid_sub _ _ e1))) hgx hn hd) he2) he) hg (he := he) (hpl := hpl)
end
/-! ### is_body -/
def clt (a b : Cell) : Bool := decide (a.1 < b.1 ∨ (a.1 = b.1 ∧ a.2 < b.2))
theorem clt_lex (a b : Cell) : HT.lexLt [a.1, a.2] [b.1, b.2] = clt a b := by
  rw [HT.lexLt_cons, HT.lexLt_cons, HT.lexLt_nil_nil]
  unfold clt
  by_cases h : a.1 = b.1
  · rw [if_pos h]
    by_cases h2 : a.2 = b.2
    · rw [if_pos h2, eq_comm, decide_eq_false_iff_not]; omega
    · rw [if_neg h2]
      congr 1
      exact propext (by omega)
  · rw [if_neg h]
    congr 1
    exact propext (by omega)
def incB (l : List Cell) : Bool := (l.zip (l.drop 1)).all fun p => clt p.1 p.2
def cellC : PyData → Cell
  | .tuple [.int a, .int b] => (a, b)
  | _ => (0, 0)
theorem cellC_D {d : PyData} (h : cellB d = true) : cD (cellC d) = d := by
  unfold cellB at h
  split at h
  · rename_i a b
    cases a <;> first | (cases b <;> first | rfl | cases h) | cases h
  · cases h
theorem cells_D {ds : List PyData} (h : ds.all cellB = true) : (ds.map cellC).map cD = ds := by
  rw [List.map_map]
  conv => rhs; rw [← List.map_id ds]
  refine List.map_congr_left fun d hd => cellC_D (List.all_eq_true.mp h d hd)
noncomputable def bodyB : Option PyData → Bool
  | some (.tuple ds) => ds.all cellB && (incB (ds.map cellC) && hangB (ds.map cellC))
  | _ => false
structure OkO (o : Option PyData) : Prop where
  nd : ∀ d, o = some d → noDict d = true
  it : ∀ ds, o = some (.tuple ds) → ds.length ≤ 1000 ∧ ∀ x ∈ ds, noDict x = true ∧ ∀ es, x = .tuple es → ∀ y ∈ es, noDict y = true
theorem clt_trans {a b c : Cell} (h1 : clt a b = true) (h2 : clt b c = true) : clt a c = true := by
  unfold clt at *
  simp only [decide_eq_true_eq] at *
  omega
theorem inc_pair : ∀ {l : List Cell}, incB l = true → l.Pairwise fun a b => clt a b = true
  | [], _ => .nil
  | [a], _ => List.pairwise_singleton _ _
  | a :: b :: l, h => by
    have h' : clt a b = true ∧ incB (b :: l) = true := by
      have z : (clt a b && incB (b :: l)) = true := h
      simpa using z
    have ih := inc_pair h'.2
    refine List.pairwise_cons.mpr ⟨fun x hx => ?_, ih⟩
    rcases List.mem_cons.mp hx with rfl | hx
    · exact h'.1
    · exact clt_trans h'.1 ((List.pairwise_cons.mp ih).1 x hx)
theorem clt_ne {a b : Cell} (h : clt a b = true) : a ≠ b := fun e => by
  subst e
  unfold clt at h
  simp only [decide_eq_true_eq] at h
  omega
theorem pair_nd {l : List Cell} (h : l.Pairwise fun a b => clt a b = true) : l.Nodup := h.imp clt_ne
theorem pair_inc : ∀ {l : List Cell}, (l.Pairwise fun a b => clt a b = true) → incB l = true
  | [], _ => rfl
  | [a], _ => rfl
  | a :: b :: l, h => by
    show (clt a b && incB (b :: l)) = true
    obtain ⟨h1, h2⟩ := List.pairwise_cons.mp h
    rw [h1 b List.mem_cons_self, pair_inc h2]; rfl
theorem cut1 {α : Type} (ds : List α) : cutD ds (some 1) none = ds.drop 1 := by
  unfold cutD
  rw [show HT.sIx ds.length 0 (some 1) = min 1 ds.length from HT.sIx_nat _ _ 1, HT.sIx_none]
  cases ds with
  | nil => rfl
  | cons a ds =>
    rw [show min 1 (a :: ds).length = 1 by simp]
    exact List.take_of_length_le (by simp)
theorem pairs_zip {a b : List Cell} : pairs2 (a.map cD) (b.map cD) = (a.zip b).map fun p => .tuple [cD p.1, cD p.2] := by
  unfold pairs2
  rw [List.zipWith_map, ← List.map_uncurry_zip_eq_zipWith]
  rfl
theorem outp_all {α : Type} (as : List α) (f : α → PyData) : outp as (fun _ => true) f = as.map f := by
  unfold outp
  rw [List.filter_eq_self.mpr fun _ _ => rfl]
noncomputable def spIsBody (K : PySem.W.Frag) : Sp := spP OkO (fun o => [oddM K o]) (fun o φ => φ = isD K (.bool (bodyB o)))
theorem sc_isBody : FnScope ["value", "cell", "one", "two"] ["value"] (defScope (top 16)) := ⟨rfl, rfl, rfl, by decide +kernel, rfl, by decide +kernel, by decide +kernel⟩
theorem h_isBody (T : Txt K mg) : Has P w K mg base 12 "is_body" (spIsBody K) := by
  obtain ⟨f, fd, F, m⟩ := T.is_body
  refine ⟨f, fd, ["value"], defP F sc_isBody (kk := 11) (by decide) (fun _ => rfl) ?_, m, F.kp, F.binds fun _ _ _ _ _ _ us hl => match us, hl with | [_], _ => rfl⟩
  rintro cdv A outer s H E hr o ⟨hnd, hit⟩
  have hX := nor_of (P := P) (w := w) (K := K) (mg := mg) (base := base) (CX := CX0) (outer := outer) (H := H) (E := E) sc_isBody.nd hr (by decide)
  refine stB_cons (st_if (evW_pt (evW_or (evT_not (evT_val (ev_isiO T.n_isinstance T.n_tuple boot_tuple (ev_name (i := 0) rfl rfl ⟨o, isTup o, rfl, kit_O hnd, _, rfl, ?_⟩)))))))
  cases ho : isTup o with
  | false =>
    have hb : bodyB o = false := by
      match o, ho with
      | none, _ => rfl
      | some .none, _ => rfl
      | some (.bool _), _ => rfl
      | some (.int _), _ => rfl
      | some (.str _), _ => rfl
      | some (.list _), _ => rfl
      | some (.dict _), _ => rfl
    refine stB_one (st_ret (ev_bool ?_))
    rw [hb]
    rfl
  | true =>
    obtain ⟨ds, rfl⟩ : ∃ ds, o = some (.tuple ds) := by
      match o, ho with
      | some (.tuple ds), _ => exact ⟨ds, rfl⟩
    obtain ⟨hlen, hall⟩ := hit ds rfl
    refine evW_or1 (evT_not (evT_val (ev_all hX T.n_all (ev_lc hX ds id (fun d => .bool (cellB d)) (fun _ => true) (fun d => [some (isD K (.tuple ds)), some (isD K d), none, none]) (own := [("cell", 1)]) (fun σ => wipe_wipe1 σ 1)
      (show BlkOk ["value", "cell", "one", "two"] (defScope (top 16)) _ [("cell", 1)] from blkOk_by (by decide +kernel)) (evI_tup (ev_name (i := 0) rfl rfl ⟨ds, rfl, (List.map_id ds).symm, ?_, ?_⟩))))))
    · intro s' H0 C cl fp d hd
      refine ⟨tgB_name hX.nd rfl, evTs_nil ⟨rfl, rfl⟩, fun _ => ev_call ((h_isCell T).cal hr) (evA_cons (ev_name (i := 1) rfl rfl (evA_nil ⟨d, hall d hd, Subs.rfl, ?_⟩)))⟩
      rintro φ rfl
      exact ⟨rfl, dat_d⟩
    rw [outp_all]
    refine ⟨ds.map cellB, by rw [List.map_map]; exact .l, _, rfl, ?_⟩
    rw [List.all_map]
    cases hc : ds.all (id ∘ cellB) with
    | false =>
      refine stB_one (st_ret (ev_bool ?_))
      show isD K (.bool false) = isD K (.bool (ds.all cellB && _))
      rw [show ds.all cellB = false from hc]
      rfl
    | true =>
      have hcb : ds.all cellB = true := hc
      have hL := cells_D hcb
      generalize eL : ds.map cellC = L at hL
      subst hL
      have hlL : L.length ≤ 1000 := by rw [List.length_map] at hlen; exact hlen
      have hB : bodyB (some (.tuple (L.map cD))) = (incB L && hangB L) := by
        show ((L.map cD).all cellB && (incB ((L.map cD).map cellC) && hangB ((L.map cD).map cellC))) = _
        rw [hcb, eL]; rfl
      rw [hB]
      refine stB_nil (stB_one (st_ret (ev_and (ev_all hX T.n_all (ev_lc hX (L.zip (L.drop 1)) (fun p => .tuple [cD p.1, cD p.2]) (fun p => .bool (clt p.1 p.2)) (fun _ => true) (fun p => [some (isD K (bD L)), none, some (isD K (cD p.1)), some (isD K (cD p.2))]) (own := [("one", 2), ("two", 3)]) (fun σ => wipe_wipe2 σ 2 3)
        (show BlkOk ["value", "cell", "one", "two"] (defScope (top 16)) _ [("one", 2), ("two", 3)] from blkOk_by (by decide +kernel))
        (evI_zipT T.n_zip (evA_cons (ev_name (i := 0) rfl rfl (evA_cons (ev_cutT po_i po_n (ev_name (i := 0) rfl rfl ⟨L.map cD, rfl, evA_nil ⟨L.map cD, (L.drop 1).map cD, ?_, ?_, ?_, ?_⟩⟩)))))))))))
      · rw [cut1, List.map_drop]; rfl
      · exact pairs_zip
      · intro s' H0 C cl fp p hp
        refine ⟨tgB_pair (i := 2) (j := 3) hX.calm hX.nd rfl rfl (by decide), evTs_nil ⟨rfl, rfl⟩, fun _ => ev_ltT ⟨hX.calm, hX.nd, PassesOwn.never, hX.room⟩ (ev_name (i := 2) rfl rfl (ev_name (i := 3) rfl rfl ⟨[p.1.1, p.1.2], [p.2.1, p.2.2], rfl, rfl, rfl, ?_⟩))⟩
        rw [clt_lex]
        exact dat_d
      rw [outp_all]
      refine ⟨(L.zip (L.drop 1)).map fun p => clt p.1 p.2, by rw [List.map_map]; exact .l, _, rfl, ?_⟩
      rw [List.all_map]
      cases hi : (L.zip (L.drop 1)).all (id ∘ fun p => clt p.1 p.2) with
      | false =>
        rw [show incB L = false from hi]
        exact if_neg Bool.false_ne_true |>.mpr rfl
      | true =>
        have hi2 : incB L = true := hi
        rw [hi2, if_pos rfl]
        refine ev_one (ev_call ((h_hangs T).cal hr) (evA_cons (ev_name (i := 0) rfl rfl (evA_nil ⟨(true, L), ⟨pair_nd (inc_pair hi2), hlL⟩, Subs.rfl, ?_⟩))))
        rintro φ rfl
        rfl
end G
set_option Elab.async false
set_option linter.all false
set_option maxRecDepth 100000
set_option maxHeartbeats 4000000
namespace G
open PySem PySem.Spec PyProof.Rows L2 RZ
variable {P : Program} {w : World} {K : PySem.W.Frag} {mg : Str → Option Value} {base : Heap}
theorem eqv_cells (a b : Cell) : PyData.eqv (cD a) (cD b) = decide (a = b) := by
  show ((a.1 == b.1) && ((a.2 == b.2) && true)) = _
  obtain ⟨a1, a2⟩ := a
  obtain ⟨b1, b2⟩ := b
  rw [Bool.eq_iff_iff]
  simp
theorem Nor.b {X : Cx} (h : Nor X) {scope : Scope} {s : Shared} {H : Hp} {C : Addr} {cl : List (Str × Addr)} {fp : List Addr} : Nor (Blk X scope s H C cl fp) := h.blk scope s H C cl fp
/-! ### is_free -/
noncomputable def spIsFree (K : PySem.W.Frag) : Sp := spP (fun x : List Cell × Cell => x.1.Nodup ∧ x.1.length ≤ 1000) (fun x => [isD K (bD x.1), isD K (cD x.2)]) (fun x φ => φ = isD K (.bool (hangB (cut x.1 x.2))))
theorem sc_isFree : FnScope ["body", "cell", "one"] ["body", "cell"] (defScope (top 17)) := ⟨rfl, rfl, rfl, by decide +kernel, rfl, by decide +kernel, by decide +kernel⟩
theorem outp_cut (L : List Cell) (c : Cell) : outp L (fun x => decide (x ≠ c)) cD = (cut L c).map cD := rfl
theorem h_isFree (T : Txt K mg) : Has P w K mg base 12 "is_free" (spIsFree K) := by
  obtain ⟨f, fd, F, m⟩ := T.is_free
  refine ⟨f, fd, ["body", "cell"], defP F sc_isFree (kk := 11) (by decide) (fun _ => rfl) ?_, m, F.kp, F.binds fun _ _ _ _ _ _ us hl => match us, hl with | [_, _], _ => rfl⟩
  rintro cdv A outer s H E hr ⟨L, c⟩ ⟨hnd, hlen⟩
  have hX := nor_of (P := P) (w := w) (K := K) (mg := mg) (base := base) (CX := CX0) (outer := outer) (H := H) (E := E) sc_isFree.nd hr (by decide)
  refine stB_one (st_ret (ev_call ((h_hangs T).cal hr) (evA_cons (ev_lc hX L cD cD (fun x => decide (x ≠ c)) (fun x => [some (isD K (bD L)), some (isD K (cD c)), some (isD K (cD x))]) (own := [("one", 2)]) (fun σ => wipe_wipe1 σ 2)
    (show BlkOk ["body", "cell", "one"] (defScope (top 17)) _ [("one", 2)] from blkOk_by (by decide +kernel)) (evI_tup (ev_name (i := 0) rfl rfl ⟨_, rfl, rfl, ?_, evA_nil ⟨(false, cut L c), ⟨cut_nd hnd, Nat.le_trans (List.length_filter_le _ _) hlen⟩, Subs.rfl, ?_⟩⟩))))))
  · intro s' H0 C cl fp x hx
    refine ⟨tgB_name hX.nd rfl, evTs_one (evT_neD hX.b (ev_name (i := 2) rfl rfl (ev_name (i := 1) rfl rfl ⟨_, _, _, dq_d, dq_d, rfl, rfl, eqv_cells x c, rfl, ?_⟩))), fun _ => ev_name (i := 2) rfl rfl ⟨rfl, dat_d⟩⟩
    by_cases e : x = c <;> simp [e]
  · rintro φ rfl
    rfl
/-! ### free_squares -/
noncomputable def freeL (L : List Cell) : List Cell := L.filter fun c => hangB (cut L c)
noncomputable def spFree (K : PySem.W.Frag) : Sp := spP (fun L : List Cell => L.Nodup ∧ L.length ≤ 1000) (fun L => [isD K (bD L)]) (fun L φ => φ = isD K (bD (freeL L)))
theorem sc_free : FnScope ["body", "cell"] ["body"] (defScope (top 18)) := ⟨rfl, rfl, rfl, by decide +kernel, rfl, by decide +kernel, by decide +kernel⟩
theorem h_free (T : Txt K mg) : Has P w K mg base 13 "free_squares" (spFree K) := by
  obtain ⟨f, fd, F, m⟩ := T.free_squares
  refine ⟨f, fd, ["body"], defP F sc_free (kk := 12) (by decide) (fun _ => rfl) ?_, m, F.kp, F.binds fun _ _ _ _ _ _ us hl => match us, hl with | [_], _ => rfl⟩
  rintro cdv A outer s H E hr L hL
  have hX := nor_of (P := P) (w := w) (K := K) (mg := mg) (base := base) (CX := CX0) (outer := outer) (H := H) (E := E) sc_free.nd hr (by decide)
  refine stB_one (st_ret (ev_tupL T.n_tuple boot_tuple (ev_lc hX L cD cD (fun c => hangB (cut L c)) (fun x => [some (isD K (bD L)), some (isD K (cD x))]) (own := [("cell", 1)]) (fun σ => wipe_wipe1 σ 1)
    (show BlkOk ["body", "cell"] (defScope (top 18)) _ [("cell", 1)] from blkOk_by (by decide +kernel)) (evI_tup (ev_name (i := 0) rfl rfl ⟨_, rfl, rfl, ?_, _, .l, rfl⟩)))))
  intro s' H0 C cl fp x hx
  refine ⟨tgB_name hX.nd rfl, evTs_one (evT_val (ev_call ((h_isFree T).cal hr) (evA_cons (ev_name (i := 0) rfl rfl (evA_cons (ev_name (i := 1) rfl rfl (evA_nil ⟨(L, x), hL, Subs.rfl, ?_⟩))))))), fun _ => ev_name (i := 1) rfl rfl ⟨rfl, dat_d⟩⟩
  rintro φ rfl
  exact ⟨_, rfl, rfl, rfl⟩
/-! ### frame_of, moved, shape_of -/
def minI (ns : List Int) : Int := ns.min?.getD 0
def maxI (ns : List Int) : Int := ns.max?.getD 0
theorem minI_eq {ns : List Int} {m : Int} (h1 : m ∈ ns) (h2 : ∀ y ∈ ns, m ≤ y) : m = minI ns := by
  unfold minI
  rw [List.min?_eq_some_iff.mpr ⟨h1, h2⟩]; rfl
theorem maxI_eq {ns : List Int} {m : Int} (h1 : m ∈ ns) (h2 : ∀ y ∈ ns, y ≤ m) : m = maxI ns := by
  unfold maxI
  rw [List.max?_eq_some_iff.mpr ⟨h1, h2⟩]; rfl
def colL (L : List Cell) : List Int := L.map (·.1)
def rowL (L : List Cell) : List Int := L.map (·.2)
def corL (L : List Cell) : Cell := (minI (colL L), minI (rowL L))
def frmD (L : List Cell) : PyData := .tuple [.int (minI (colL L)), .int (minI (rowL L)), .int (maxI (colL L)), .int (maxI (rowL L))]
def spFrame (K : PySem.W.Frag) : Sp := spP (fun L : List Cell => L ≠ []) (fun L => [isD K (bD L)]) (fun L φ => φ = isD K (frmD L))
theorem sc_frame : FnScope ["body", "columns", "rows", "cell"] ["body"] (defScope (top 19)) := ⟨rfl, rfl, rfl, by decide +kernel, rfl, by decide +kernel, by decide +kernel⟩
theorem h_frame (T : Txt K mg) : Has P w K mg base 5 "frame_of" (spFrame K) := by
  obtain ⟨f, fd, F, m⟩ := T.frame_of
  refine ⟨f, fd, ["body"], defP F sc_frame (kk := 4) (by decide) (fun _ => rfl) ?_, m, F.kp, F.binds fun _ _ _ _ _ _ us hl => match us, hl with | [_], _ => rfl⟩
  rintro cdv A outer s H E hr L hL
  have hX := nor_of (P := P) (w := w) (K := K) (mg := mg) (base := base) (CX := CX0) (outer := outer) (H := H) (E := E) sc_frame.nd hr (by decide)
  have hc : 0 < (colL L).length := by unfold colL; rw [List.length_map]; exact List.length_pos_iff.mpr hL
  have hw : 0 < (rowL L).length := by unfold rowL; rw [List.length_map]; exact List.length_pos_iff.mpr hL
  refine stB_cons (st_par2 (i := 1) (j := 2) hX rfl rfl (by decide) (evA_cons (ev_lc hX L cD (fun c => .int c.1) (fun _ => true) (fun x => [some (isD K (bD L)), none, none, some (isD K (cD x))]) (own := [("cell", 3)]) (fun σ => wipe_wipe1 σ 3)
    (show BlkOk ["body", "columns", "rows", "cell"] (defScope (top 19)) _ [("cell", 3)] from blkOk_by (by decide +kernel)) (evI_tup (ev_name (i := 0) rfl rfl ⟨_, rfl, rfl, ?_,
    evA_cons (ev_lc hX L cD (fun c => .int c.2) (fun _ => true) (fun x => [some (isD K (bD L)), none, none, some (isD K (cD x))]) (own := [("cell", 3)]) (fun σ => wipe_wipe1 σ 3)
    (show BlkOk ["body", "columns", "rows", "cell"] (defScope (top 19)) _ [("cell", 3)] from blkOk_by (by decide +kernel)) (evI_tup (ev_name (i := 0) rfl rfl ⟨_, rfl, rfl, ?_, evA_nil ⟨_, _, rfl, ?_⟩⟩)))⟩)))))
  · intro s' H0 C cl fp x hx
    exact ⟨tgB_name hX.nd rfl, evTs_nil ⟨rfl, rfl⟩, fun _ => ev_ixT (ev_name (i := 3) rfl rfl (ev_int ⟨_, 0, _, rfl, rfl, rfl, rfl, dat_d⟩))⟩
  · intro s' H0 C cl fp x hx
    exact ⟨tgB_name hX.nd rfl, evTs_nil ⟨rfl, rfl⟩, fun _ => ev_ixT (ev_name (i := 3) rfl rfl (ev_int ⟨_, 1, _, rfl, rfl, rfl, rfl, dat_d⟩))⟩
  rw [outp_all, outp_all]
  have e1 : (L.map fun c => PyData.int c.1) = (colL L).map .int := by unfold colL; rw [List.map_map]; rfl
  have e2 : (L.map fun c => PyData.int c.2) = (rowL L).map .int := by unfold rowL; rw [List.map_map]; rfl
  rw [e1, e2]
  refine stB_one (st_ret (ev_tup (evA_cons (ev_minL hX T.n_min (ev_name (i := 1) rfl rfl ⟨_, .l, hc, fun m1 a1 b1 => evA_cons (ev_minL hX T.n_min (ev_name (i := 2) rfl rfl ⟨_, .l, hw, fun m2 a2 b2 =>
    evA_cons (ev_maxL hX T.n_max (ev_name (i := 1) rfl rfl ⟨_, .l, hc, fun m3 a3 b3 => evA_cons (ev_maxL hX T.n_max (ev_name (i := 2) rfl rfl ⟨_, .l, hw, fun m4 a4 b4 => evA_nil ⟨_, .cons dat_d (.cons dat_d (.cons dat_d (.cons dat_d .nil))), le1000 (n := 4) rfl (by decide), ?_⟩⟩))⟩))⟩))⟩)))))
  rw [minI_eq a1 b1, minI_eq a2 b2, maxI_eq a3 b3, maxI_eq a4 b4]
  rfl
def movL (L : List Cell) (v : Cell) : List Cell := L.map fun c => (c.1 + v.1, c.2 + v.2)
def spMoved (K : PySem.W.Frag) : Sp := spP (fun _ : List Cell × Cell => True) (fun x => [isD K (bD x.1), isD K (cD x.2)]) (fun x φ => φ = isD K (bD (movL x.1 x.2)))
theorem sc_moved : FnScope ["body", "by", "column", "row"] ["body", "by"] (defScope (top 20)) := ⟨rfl, rfl, rfl, by decide +kernel, rfl, by decide +kernel, by decide +kernel⟩
theorem h_moved (T : Txt K mg) : Has P w K mg base 8 "moved" (spMoved K) := by
  obtain ⟨f, fd, F, m⟩ := T.moved
  refine ⟨f, fd, ["body", "by"], defP F sc_moved (kk := 7) (by decide) (fun _ => rfl) ?_, m, F.kp, F.binds fun _ _ _ _ _ _ us hl => match us, hl with | [_, _], _ => rfl⟩
  rintro cdv A outer s H E hr ⟨L, v⟩ -
  have hX := nor_of (P := P) (w := w) (K := K) (mg := mg) (base := base) (CX := CX0) (outer := outer) (H := H) (E := E) sc_moved.nd hr (by decide)
  refine stB_cons (st_expr (ev_call ((h_checkCell T).cal hr) (evA_cons (ev_name (i := 1) rfl rfl (evA_nil ⟨v, trivial, Subs.rfl, ?_⟩)))))
  rintro φ rfl
  refine stB_one (st_ret (ev_tupL T.n_tuple boot_tuple (ev_lc hX L cD (fun c => cD (c.1 + v.1, c.2 + v.2)) (fun _ => true) (fun x => [some (isD K (bD L)), some (isD K (cD v)), some (isD K (.int x.1)), some (isD K (.int x.2))]) (own := [("column", 2), ("row", 3)]) (fun σ => wipe_wipe2 σ 2 3)
    (show BlkOk ["body", "by", "column", "row"] (defScope (top 20)) _ [("column", 2), ("row", 3)] from blkOk_by (by decide +kernel)) (evI_tup (ev_name (i := 0) rfl rfl ⟨_, rfl, rfl, ?_, _, .l, ?_⟩)))))
  · intro s' H0 C cl fp x hx
    refine ⟨tgB_pair (i := 2) (j := 3) hX.calm hX.nd rfl rfl (by decide), evTs_nil ⟨rfl, rfl⟩, fun _ => ev_tup2 (ev_addI (ev_name (i := 2) rfl rfl (ev_ixT (ev_name (i := 1) rfl rfl (ev_int ⟨_, 0, _, rfl, rfl, rfl, _, _, rfl, rfl,
      ev_addI (ev_name (i := 3) rfl rfl (ev_ixT (ev_name (i := 1) rfl rfl (ev_int ⟨_, 1, _, rfl, rfl, rfl, _, _, rfl, rfl, _, _, dat_d, dat_d, rfl, dat_d⟩))))⟩)))))⟩
  · rw [outp_all]
    show isD K (.tuple _) = isD K (.tuple ((movL L v).map cD))
    unfold movL
    rw [List.map_map]; rfl
def shpL (L : List Cell) : List Cell := movL L (-(corL L).1, -(corL L).2)
def spShape (K : PySem.W.Frag) : Sp := spP (fun L : List Cell => L ≠ []) (fun L => [isD K (bD L)]) (fun L φ => φ = isD K (bD (shpL L)))
theorem sc_shape : FnScope ["body", "frame"] ["body"] (defScope (top 21)) := ⟨rfl, rfl, rfl, by decide +kernel, rfl, by decide +kernel, by decide +kernel⟩
theorem h_shape (T : Txt K mg) : Has P w K mg base 9 "shape_of" (spShape K) := by
  obtain ⟨f, fd, F, m⟩ := T.shape_of
  refine ⟨f, fd, ["body"], defP F sc_shape (kk := 8) (by decide) (fun _ => rfl) ?_, m, F.kp, F.binds fun _ _ _ _ _ _ us hl => match us, hl with | [_], _ => rfl⟩
  rintro cdv A outer s H E hr L hL
  have hX := nor_of (P := P) (w := w) (K := K) (mg := mg) (base := base) (CX := CX0) (outer := outer) (H := H) (E := E) sc_shape.nd hr (by decide)
  refine stB_cons (st_set (i := 1) hX rfl (ev_call ((h_frame T).cal hr) (evA_cons (ev_name (i := 0) rfl rfl (evA_nil ⟨L, hL, Subs.rfl, ?_⟩)))))
  rintro φ rfl
  refine stB_one (st_ret (ev_call ((h_moved T).cal hr) (evA_cons (ev_name (i := 0) rfl rfl (evA_cons (ev_tup2 (ev_negI (ev_ixT (ev_name (i := 1) rfl rfl (ev_int ⟨_, 0, _, rfl, rfl, rfl, _, rfl,
    ev_negI (ev_ixT (ev_name (i := 1) rfl rfl (ev_int ⟨_, 1, _, rfl, rfl, rfl, _, rfl, _, _, dat_d, dat_d, evA_nil ⟨(L, (-(corL L).1, -(corL L).2)), trivial, Subs.rfl, ?_⟩⟩)))⟩))))))))))
  rintro φ rfl
  rfl
end G
set_option Elab.async false
set_option linter.all false
set_option maxRecDepth 100000
set_option maxHeartbeats 4000000
namespace G
open PySem PySem.Spec PyProof.Rows L2 RZ
variable {P : Program} {w : World} {K : PySem.W.Frag} {mg : Str → Option Value} {base : Heap}
theorem key_nd {L : List Cell} (h : L.Nodup) : (L.map cK).Nodup := List.pairwise_map.mpr (h.imp fun h e => h (cK_inj e))
theorem shC (c : Cell) : ShD 1 (cD c) := ⟨rfl, by show (1 : Nat) ≤ 1; decide⟩
theorem shB (L : List Cell) : ShD 2 (bD L) := .tup fun d hd => by
  obtain ⟨c, _, rfl⟩ := List.mem_map.mp hd
  exact shC c
/-! ### squares_of -/
def spSquares (P : Program) (w : World) (K : PySem.W.Frag) : Sp := spP (fun L : List Cell => L.Nodup ∧ L.length ≤ 1000) (fun L => [isD K (bD L)]) (fun L φ => φ = isM P w K (sqs K L))
theorem sc_squares : FnScope ["body", "cell"] ["body"] (defScope (top 27)) := ⟨rfl, rfl, rfl, by decide +kernel, rfl, by decide +kernel, by decide +kernel⟩
theorem h_squares (T : Txt K mg) : Has P w K mg base 5 "squares_of" (spSquares P w K) := by
  obtain ⟨f, fd, F, m⟩ := T.squares_of
  refine ⟨f, fd, ["body"], defP F sc_squares (kk := 4) (by decide) (fun _ => rfl) ?_, m, F.kp, F.binds fun _ _ _ _ _ _ us hl => match us, hl with | [_], _ => rfl⟩
  rintro cdv A outer s H E hr L ⟨hnd, hlen⟩
  have hX := nor_of (P := P) (w := w) (K := K) (mg := mg) (base := base) (CX := CX0) (outer := outer) (H := H) (E := E) sc_squares.nd hr (by decide)
  refine stB_one (st_ret (ev_fzM (ev_mc hX L cD cK (fun _ => .bool true) (fun c => [some (isD K (bD L)), some (isD K (cD c))]) (ow := [("cell", 1)]) (fun σ => wipe_wipe1 σ 1) (show BlkOk ["body", "cell"] (defScope (top 27)) _ [("cell", 1)] from blkOk_by (by decide +kernel))
    (evI_tup (ev_name (i := 0) rfl rfl ⟨_, rfl, rfl, key_nd hnd, ?_, fun p => ⟨0, p, _, rfl, rfl, rfl⟩⟩)))))
  intro s' H0 C cl fp c hc
  exact ⟨tgB_name hX.nd rfl, ev_name (i := 1) rfl rfl ⟨rfl, keyC⟩, ev_bool ⟨rfl, rfl⟩⟩
/-! ### supports_of -/
def absI (i : Int) : Int := if i < 0 then -i else i
def sidesL (s e : Cell) : List (Cell × Cell) := [((s.1 + (e.2 - s.2), s.2 + (e.1 - s.1)), (e.1 + (e.2 - s.2), e.2 + (e.1 - s.1))), ((s.1 + -(e.2 - s.2), s.2 + -(e.1 - s.1)), (e.1 + -(e.2 - s.2), e.2 + -(e.1 - s.1)))]
def cornL (s e : Cell) : List Cell := [(s.1 + (e.1 - s.1), s.2), (s.1, s.2 + (e.2 - s.2))]
def suppB (S : List Cell) (s e : Cell) : Bool :=
  if decide (s ∉ S) || decide (e ∈ S) then false
  else if absI (e.1 - s.1) + absI (e.2 - s.2) = 1 then (sidesL s e).any fun p => decide (p.1 ∈ S) && decide (p.2 ∈ S)
  else if absI (e.1 - s.1) = 1 ∧ absI (e.2 - s.2) = 1 then decide (((cornL s e).filter fun c => decide (c ∈ S)).length = 1)
  else false
theorem eqv_int (i j : Int) : PyData.eqv (.int i) (.int j) = decide (i = j) := rfl
theorem sort2 (a b : Cell) : ∃ x y, sortC [a, b] = [x, y] := by
  match h : sortC [a, b], sortC_len (l := [a, b]) with
  | [x, y], _ => exact ⟨x, y, rfl⟩
def sideD (p : Cell × Cell) : PyData := bD (sortC [p.1, p.2])
theorem canS_sides (l : List (Cell × Cell)) : CanS (l.map sideD) where
  al := PySem.W.AllAlike.of fun p q => by
    obtain ⟨a, b, e1⟩ := sort2 p.1 p.2
    obtain ⟨c, d, e2⟩ := sort2 q.1 q.2
    unfold sideD
    rw [e1, e2]; rfl
  so := PySem.W.Sortable.tuples fun p => by
    obtain ⟨a, b, e1⟩ := sort2 p.1 p.2
    unfold sideD
    rw [e1]
    exact ⟨_, _, rfl⟩
  de := fun d hd => by
    obtain ⟨p, _, rfl⟩ := List.mem_map.mp hd
    have := (shB (sortC [p.1, p.2])).dep
    show (bD (sortC [p.1, p.2])).depth ≤ 8
    omega
theorem emptyS {α : Type} (as : List α) (t : α → Bool) (f : α → PyData) : (sortD (outp as t f)).isEmpty = !as.any t := by
  rw [Bool.eq_iff_iff, List.isEmpty_iff_length_eq_zero, List.length_mergeSort]
  unfold outp
  rw [List.length_map, List.length_eq_zero_iff, List.filter_eq_nil_iff]
  simp
def spSupp (P : Program) (w : World) (K : PySem.W.Frag) : Sp := spP (fun _ : List Cell × Cell × Cell => True) (fun x => [isM P w K (sqs K x.1), isD K (cD x.2.1), isD K (cD x.2.2)])
  (fun x φ => ∃ ds, φ = isD K (.tuple ds) ∧ ds.isEmpty = !suppB x.1 x.2.1 x.2.2 ∧ ∀ d ∈ ds, ShD 2 d)
theorem sc_supp : FnScope ["squares", "start", "end", "across", "up", "sides", "common", "corners", "a", "b", "side", "cell"] ["squares", "start", "end"] (defScope (top 26)) := ⟨rfl, rfl, rfl, by decide +kernel, rfl, by decide +kernel, by decide +kernel⟩
theorem h_supp (T : Txt K mg) : Has P w K mg base 5 "supports_of" (spSupp P w K) := by
  obtain ⟨f, fd, F, m⟩ := T.supports_of
  refine ⟨f, fd, ["squares", "start", "end"], defP F sc_supp (kk := 4) (by decide) (fun _ => rfl) ?_, m, F.kp, F.binds fun _ _ _ _ _ _ us hl => match us, hl with | [_, _, _], _ => rfl⟩
  rintro cdv A outer s0 H E hr ⟨S, s, e⟩ -
  have hX := nor_of (P := P) (w := w) (K := K) (mg := mg) (base := base) (CX := CX0) (outer := outer) (H := H) (E := E) sc_supp.nd hr (by decide)
  refine stB_cons (st_par2 (i := 3) (j := 4) hX rfl rfl (by decide) (evA_cons (ev_subI ?_)))
  refine ev_ixT (ev_name (i := 2) rfl rfl (ev_int ⟨_, 0, _, rfl, rfl, rfl, ?_⟩))
  refine ev_ixT (ev_name (i := 1) rfl rfl (ev_int ⟨_, 0, _, rfl, rfl, rfl, _, _, rfl, rfl, ?_⟩))
  refine evA_cons (ev_subI ?_)
  refine ev_ixT (ev_name (i := 2) rfl rfl (ev_int ⟨_, 1, _, rfl, rfl, rfl, ?_⟩))
  refine ev_ixT (ev_name (i := 1) rfl rfl (ev_int ⟨_, 1, _, rfl, rfl, rfl, _, _, rfl, rfl, evA_nil ⟨_, _, rfl, ?_⟩⟩))
  refine stB_cons (st_if (evW_pt (evW_or (evT_niM hX (ev_name (i := 1) rfl rfl (ev_name (i := 0) rfl rfl ⟨decide (s ∈ S), ⟨cK s, sqs K S, keyC, .m, look_sqs.symm⟩, ?_⟩))))))
  have no : ∀ ds : List PyData, ds = [] → suppB S s e = false → ∃ ds', isD K (.tuple ds) = isD K (.tuple ds') ∧ ds'.isEmpty = !suppB S s e ∧ ∀ d ∈ ds', ShD 2 d := fun ds hd h => ⟨ds, rfl, by rw [h, hd]; rfl, by rw [hd]; exact fun d z => nomatch z⟩
  by_cases hs : s ∈ S
  · rw [decide_eq_true hs]
    refine evW_or1 (evT_inM hX (ev_name (i := 2) rfl rfl (ev_name (i := 0) rfl rfl ⟨decide (e ∈ S), ⟨cK e, sqs K S, keyC, .m, look_sqs.symm⟩, ?_⟩)))
    by_cases he : e ∈ S
    · rw [decide_eq_true he, if_pos rfl]
      refine stB_one (st_ret (ev_tup (evA_nil ⟨[], .nil, by decide, no [] rfl ?_⟩)))
      unfold suppB
      simp [hs, he]
    · rw [decide_eq_false he, if_neg Bool.false_ne_true]
      refine stB_nil ?_
      have hse : (decide (s ∉ S) || decide (e ∈ S)) = false := by simp [hs, he]
      refine stB_cons (st_if (evT_eqD hX (ev_addI (ev_abs T.n_abs (by rfl) (ev_name (i := 3) rfl rfl ⟨_, rfl, ?_⟩)))))
      refine ev_abs T.n_abs (by rfl) (ev_name (i := 4) rfl rfl ⟨_, rfl, _, _, rfl, rfl, ev_int ⟨_, _, _, dq_d, dq_d, rfl, rfl, eqv_int _ _, ?_⟩⟩)
      by_cases h1 : absI (e.1 - s.1) + absI (e.2 - s.2) = 1
      · refine (if_pos (decide_eq_true h1)).mpr ?_
        have hB : suppB S s e = (sidesL s e).any fun p => decide (p.1 ∈ S) && decide (p.2 ∈ S) := by
          unfold suppB
          rw [hse, if_neg Bool.false_ne_true, if_pos h1]
        refine stB_cons (st_setLc (i := 5) hX rfl [((e.2 - s.2), (e.1 - s.1)), (-(e.2 - s.2), -(e.1 - s.1))] cD (fun d => .tuple [cD (s.1 + d.1, s.2 + d.2), cD (e.1 + d.1, e.2 + d.2)]) (fun _ => true)
          (fun d => [some (isM P w K (sqs K S)), some (isD K (cD s)), some (isD K (cD e)), some (isD K (.int (e.1 - s.1))), some (isD K (.int (e.2 - s.2))), none, none, none, some (isD K (.int d.1)), some (isD K (.int d.2)), none, none]) (own := [("a", 8), ("b", 9)]) (fun σ => wipe_wipe2 σ 8 9)
          (show BlkOk ["squares", "start", "end", "across", "up", "sides", "common", "corners", "a", "b", "side", "cell"] (defScope (top 26)) _ [("a", 8), ("b", 9)] from blkOk_by (by decide +kernel)) (sw_true rfl rfl rfl (by decide +kernel)) ?_)
        · refine evI_tup (ev_tup (evA_cons (ev_tup2 (ev_name (i := 4) rfl rfl (ev_name (i := 3) rfl rfl ⟨_, _, dat_d, dat_d, ?_⟩)))))
          refine evA_cons (ev_tup2 (ev_negI (ev_name (i := 4) rfl rfl ⟨_, rfl, ev_negI (ev_name (i := 3) rfl rfl ⟨_, rfl, _, _, dat_d, dat_d, evA_nil ⟨_, .cons dat_d (.cons dat_d .nil), le1000 (n := 2) rfl (by decide), _, rfl, rfl, ?_, ?_⟩⟩)⟩)))
          · intro s' H0 C cl fp d hd
            refine ⟨tgB_pair (i := 8) (j := 9) hX.calm hX.nd rfl rfl (by decide), evTs_nil ⟨rfl, rfl⟩, fun _ => ev_tup2 (ev_tup2 ?_)⟩
            refine ev_addI (ev_ixT (ev_name (i := 1) rfl rfl (ev_int ⟨_, 0, _, rfl, rfl, rfl, ev_name (i := 8) rfl rfl ⟨_, _, rfl, rfl, ?_⟩⟩)))
            refine ev_addI (ev_ixT (ev_name (i := 1) rfl rfl (ev_int ⟨_, 1, _, rfl, rfl, rfl, ev_name (i := 9) rfl rfl ⟨_, _, rfl, rfl, _, _, dat_d, dat_d, ?_⟩⟩)))
            refine ev_tup2 (ev_addI (ev_ixT (ev_name (i := 2) rfl rfl (ev_int ⟨_, 0, _, rfl, rfl, rfl, ev_name (i := 8) rfl rfl ⟨_, _, rfl, rfl, ?_⟩⟩))))
            refine ev_addI (ev_ixT (ev_name (i := 2) rfl rfl (ev_int ⟨_, 1, _, rfl, rfl, rfl, ev_name (i := 9) rfl rfl ⟨_, _, rfl, rfl, _, _, dat_d, dat_d, _, _, dat_d, dat_d, rfl, dat_d⟩⟩)))
          · rw [outp_all]
            refine stB_one (st_ret (ev_tupL T.n_tuple boot_tuple (ev_sorted hX T.n_sorted (ev_lc hX (sidesL s e) (fun p => .tuple [cD p.1, cD p.2]) sideD (fun p => decide (p.1 ∈ S) && decide (p.2 ∈ S))
              (fun p => [some (isM P w K (sqs K S)), some (isD K (cD s)), some (isD K (cD e)), some (isD K (.int (e.1 - s.1))), some (isD K (.int (e.2 - s.2))), some (isL K ((sidesL s e).map fun p => .tuple [cD p.1, cD p.2])), none, none, none, none, some (isD K (.tuple [cD p.1, cD p.2])), none]) (own := [("side", 10)]) (fun σ => wipe_wipe1 σ 10)
              (show BlkOk ["squares", "start", "end", "across", "up", "sides", "common", "corners", "a", "b", "side", "cell"] (defScope (top 26)) _ [("side", 10)] from blkOk_by (by decide +kernel)) ?_))))
            refine evI_list (ev_name (i := 5) rfl rfl ⟨_, .l, rfl, ?_, _, .q (.l .l), ?_, ?_⟩)
            · intro s' H0 C cl fp p hp
              refine ⟨tgB_name hX.nd rfl, evTs_one (evW_pt (evW_and (evT_inM hX.b ?_))), fun _ => ev_tupL T.n_tuple boot_tuple (ev_sorted hX.b T.n_sorted (ev_name (i := 10) rfl rfl ⟨_, .q .t, ?_, ?_⟩))⟩
              · refine ev_ixT (ev_name (i := 10) rfl rfl (ev_int ⟨_, 0, _, rfl, rfl, rfl, ev_name (i := 0) rfl rfl ⟨decide (p.1 ∈ S), ⟨cK p.1, sqs K S, keyC, .m, look_sqs.symm⟩, ?_⟩⟩))
                by_cases ha : p.1 ∈ S
                · rw [if_pos (decide_eq_true ha), decide_eq_true ha]
                  refine evW_and1 (evT_inM hX.b (ev_ixT (ev_name (i := 10) rfl rfl (ev_int ⟨_, 1, _, rfl, rfl, rfl, ev_name (i := 0) rfl rfl ⟨decide (p.2 ∈ S), ⟨cK p.2, sqs K S, keyC, .m, look_sqs.symm⟩, rfl, rfl⟩⟩))))
                · rw [if_neg (fun z => ha (of_decide_eq_true z)), decide_eq_false ha]
                  exact ⟨rfl, rfl⟩
              · rintro ds rfl
                exact ⟨canS_cells [p.1, p.2], by rw [sizeLine_eq]; show 2 ≤ _; decide⟩
              · rintro ds rfl
                exact ⟨_, .l, rfl, by rw [show ([cD p.1, cD p.2] : List PyData) = [p.1, p.2].map cD from rfl, sortD_cells]; exact dat_d⟩
            · rintro ds rfl
              exact ⟨canS_sides _, by rw [sizeLine_eq, outp, List.length_map]; exact Nat.le_trans (List.length_filter_le _ _) (by show 2 ≤ _; decide)⟩
            · rintro ds rfl
              refine ⟨_, .l, _, rfl, ?_, fun d hd => ?_⟩
              · rw [hB]
                exact emptyS _ _ _
              · have hd' := List.mem_mergeSort.mp hd
                obtain ⟨p, _, rfl⟩ := List.mem_map.mp hd'
                exact shB _
      · refine (if_neg (fun z => h1 (of_decide_eq_true z))).mpr ?_
        refine stB_nil (stB_cons (st_if (evW_pt (evW_and (evT_eqD hX (ev_abs T.n_abs (by rfl) (ev_name (i := 3) rfl rfl ⟨_, rfl, ev_int ⟨_, _, _, dq_d, dq_d, rfl, rfl, eqv_int _ _, ?_⟩⟩)))))))
        have fin : suppB S s e = false → ∀ ds : List PyData, ds = [] → ∃ ds', isD K (.tuple ds) = isD K (.tuple ds') ∧ ds'.isEmpty = !suppB S s e ∧ ∀ d ∈ ds', ShD 2 d := fun h ds hd => no ds hd h
        by_cases h2 : absI (e.1 - s.1) = 1
        · refine (if_pos (decide_eq_true h2)).mpr ?_
          refine evW_and1 (evT_eqD hX (ev_abs T.n_abs (by rfl) (ev_name (i := 4) rfl rfl ⟨_, rfl, ev_int ⟨_, _, _, dq_d, dq_d, rfl, rfl, eqv_int _ _, ?_⟩⟩)))
          by_cases h3 : absI (e.2 - s.2) = 1
          · refine (if_pos (decide_eq_true h3)).mpr ?_
            have hB : suppB S s e = decide (((cornL s e).filter fun c => decide (c ∈ S)).length = 1) := by
              unfold suppB
              rw [hse, if_neg Bool.false_ne_true, if_neg h1, if_pos ⟨h2, h3⟩]
            refine stB_cons (st_set (i := 6) hX rfl (ev_lst (evA_cons (ev_tup2 (ev_addI (ev_ixT (ev_name (i := 1) rfl rfl (ev_int ⟨_, 0, _, rfl, rfl, rfl, ev_name (i := 3) rfl rfl ⟨_, _, rfl, rfl, ?_⟩⟩))))))))
            refine ev_ixT (ev_name (i := 1) rfl rfl (ev_int ⟨_, 1, _, rfl, rfl, rfl, _, _, dat_d, dat_d, ?_⟩))
            refine evA_cons (ev_tup2 (ev_ixT (ev_name (i := 1) rfl rfl (ev_int ⟨_, 0, _, rfl, rfl, rfl, ?_⟩))))
            refine ev_addI (ev_ixT (ev_name (i := 1) rfl rfl (ev_int ⟨_, 1, _, rfl, rfl, rfl, ev_name (i := 4) rfl rfl ⟨_, _, rfl, rfl, _, _, dat_d, dat_d, evA_nil ⟨_, .cons dat_d (.cons dat_d .nil), le1000 (n := 2) rfl (by decide), ?_⟩⟩⟩)))
            refine stB_cons (st_setLc (i := 7) hX rfl (cornL s e) cD cD (fun c => decide (c ∈ S))
              (fun c => [some (isM P w K (sqs K S)), some (isD K (cD s)), some (isD K (cD e)), some (isD K (.int (e.1 - s.1))), some (isD K (.int (e.2 - s.2))), none, some (isL K ((cornL s e).map cD)), none, none, none, none, some (isD K (cD c))]) (own := [("cell", 11)]) (fun σ => wipe_wipe1 σ 11)
              (show BlkOk ["squares", "start", "end", "across", "up", "sides", "common", "corners", "a", "b", "side", "cell"] (defScope (top 26)) _ [("cell", 11)] from blkOk_by (by decide +kernel)) (sw_true rfl rfl rfl (by decide +kernel)) ?_)
            refine evI_list (ev_name (i := 6) rfl rfl ⟨_, .l, rfl, ?_, ?_⟩)
            · intro s' H0 C cl fp c hc
              exact ⟨tgB_name hX.nd rfl, evTs_one (evT_inM hX.b (ev_name (i := 11) rfl rfl (ev_name (i := 0) rfl rfl ⟨decide (c ∈ S), ⟨cK c, sqs K S, keyC, .m, look_sqs.symm⟩, rfl, rfl⟩))), fun _ => ev_name (i := 11) rfl rfl ⟨rfl, dat_d⟩⟩
            generalize hcs : (cornL s e).filter (fun c => decide (c ∈ S)) = cs at hB
            have hout : outp (cornL s e) (fun c => decide (c ∈ S)) cD = cs.map cD := by rw [← hcs]; rfl
            rw [hout]
            refine stB_cons (st_if (evT_eqD hX (ev_len T.n_len (ev_name (i := 7) rfl rfl ⟨cs.map cD, .l .l, ev_int ⟨_, _, _, dq_d, dq_d, rfl, rfl, eqv_int _ _, ?_⟩⟩))))
            by_cases h4 : cs.length = 1
            · refine (if_pos (decide_eq_true (by rw [List.length_map, h4]; rfl))).mpr ?_
              obtain ⟨c, rfl⟩ := List.length_eq_one_iff.mp h4
              refine stB_one (st_ret (ev_tup (evA_cons (ev_tup (evA_cons (ev_ixL (ev_name (i := 7) rfl rfl (ev_int ⟨_, 0, cD c, .l, rfl, rfl, evA_nil ⟨_, .cons dat_d .nil, le1000 (n := 1) rfl (by decide), evA_nil ⟨_, .cons dat_d .nil, le1000 (n := 1) rfl (by decide), ?_⟩⟩⟩))))))))
              refine ⟨_, rfl, by rw [hB]; rfl, fun d hd => ?_⟩
              obtain rfl : d = .tuple [cD c] := by simpa using hd
              exact shB [c]
            · refine (if_neg (fun z => h4 ?_)).mpr ?_
              · have z' := of_decide_eq_true z
                rw [List.length_map] at z'
                omega
              refine stB_nil (stB_nil (stB_one (st_ret (ev_tup (evA_nil ⟨[], .nil, by decide, fin ?_ [] rfl⟩)))))
              rw [hB, decide_eq_false h4]
          · refine (if_neg (fun z => h3 (of_decide_eq_true z))).mpr ?_
            refine stB_nil (stB_one (st_ret (ev_tup (evA_nil ⟨[], .nil, by decide, fin ?_ [] rfl⟩))))
            unfold suppB
            rw [hse, if_neg Bool.false_ne_true, if_neg h1, if_neg fun z => h3 z.2]
        · refine (if_neg (fun z => h2 (of_decide_eq_true z))).mpr ?_
          refine stB_nil (stB_one (st_ret (ev_tup (evA_nil ⟨[], .nil, by decide, fin ?_ [] rfl⟩))))
          unfold suppB
          rw [hse, if_neg Bool.false_ne_true, if_neg h1, if_neg fun z => h2 z.1]
  · rw [decide_eq_false hs]
    refine (if_pos rfl).mpr ?_
    refine stB_one (st_ret (ev_tup (evA_nil ⟨[], .nil, by decide, no [] rfl ?_⟩)))
    unfold suppB
    simp [hs]
end G
set_option Elab.async false
set_option linter.all false
set_option maxRecDepth 100000
set_option maxHeartbeats 4000000
namespace G
open PySem PySem.Spec PyProof.Rows L2 RZ
variable {P : Program} {w : World} {K : PySem.W.Frag} {mg : Str → Option Value} {base : Heap}
/-! ### kind_of -/
noncomputable def canB (L : List Cell) (s e : Cell) : Bool := suppB L s e && hangB (cut L s)
noncomputable def spKind (K : PySem.W.Frag) : Sp := spP (fun x : List Cell × Cell × Cell => x.1.Nodup ∧ x.1.length ≤ 1000) (fun x => [isD K (bD x.1), isD K (cD x.2.1), isD K (cD x.2.2)]) (fun x φ => ∃ d, φ = isD K d ∧ isNone d = !canB x.1 x.2.1 x.2.2)
theorem sc_kind : FnScope ["body", "start", "end"] ["body", "start", "end"] (defScope (top 28)) := ⟨rfl, rfl, rfl, by decide +kernel, rfl, by decide +kernel, by decide +kernel⟩
theorem eqv_nil (ds : List PyData) : PyData.eqv (.tuple ds) (.tuple []) = ds.isEmpty := by cases ds <;> rfl
theorem h_kind (T : Txt K mg) : Has P w K mg base 13 "kind_of" (spKind K) := by
  obtain ⟨f, fd, F, m⟩ := T.kind_of
  refine ⟨f, fd, ["body", "start", "end"], defP F sc_kind (kk := 12) (by decide) (fun _ => rfl) ?_, m, F.kp, F.binds fun _ _ _ _ _ _ us hl => match us, hl with | [_, _, _], _ => rfl⟩
  rintro cdv A outer s0 H E hr ⟨L, s, e⟩ hL
  have hX := nor_of (P := P) (w := w) (K := K) (mg := mg) (base := base) (CX := CX0) (outer := outer) (H := H) (E := E) sc_kind.nd hr (by decide)
  refine stB_cons (st_expr (ev_call ((h_checkCell T).cal hr) (evA_cons (ev_name (i := 1) rfl rfl (evA_nil ⟨s, trivial, Subs.rfl, ?_⟩)))))
  rintro φ rfl
  refine stB_cons (st_expr (ev_call ((h_checkCell T).cal hr) (evA_cons (ev_name (i := 2) rfl rfl (evA_nil ⟨e, trivial, Subs.rfl, ?_⟩)))))
  rintro φ rfl
  refine stB_cons (st_if (evW_pt (evW_or (evT_eqD hX (ev_call ((h_supp T).cal hr) (evA_cons (ev_call ((h_squares T).cal hr) (evA_cons (ev_name (i := 0) rfl rfl (evA_nil ⟨L, hL, Subs.rfl, ?_⟩))))))))))
  rintro φ rfl
  refine evA_cons (ev_name (i := 1) rfl rfl (evA_cons (ev_name (i := 2) rfl rfl (evA_nil ⟨(L, s, e), trivial, Subs.rfl, ?_⟩))))
  rintro φ ⟨ds, rfl, hd, hsh⟩
  refine ev_tup (evA_nil ⟨[], .nil, by decide, _, _, _, dq_d, dq_d, (ShD.tup hsh).ok (by decide), rfl, eqv_nil ds, ?_⟩)
  rw [hd]
  cases hs : suppB L s e with
  | false =>
    refine (if_pos rfl).mpr (stB_one (st_ret (ev_none ⟨_, rfl, ?_⟩)))
    show true = !canB L s e
    unfold canB
    rw [hs]; rfl
  | true =>
    refine (if_neg Bool.false_ne_true).mpr (evW_or1 (evT_not (evT_val (ev_call ((h_isFree T).cal hr) (evA_cons (ev_name (i := 0) rfl rfl (evA_cons (ev_name (i := 1) rfl rfl (evA_nil ⟨(L, s), hL, Subs.rfl, ?_⟩)))))))))
    rintro φ rfl
    refine ⟨_, rfl, ?_⟩
    show if (!hangB (cut L s)) = true then _ else _
    cases hh : hangB (cut L s) with
    | false =>
      refine (if_pos rfl).mpr (stB_one (st_ret (ev_none ⟨_, rfl, ?_⟩)))
      show true = !canB L s e
      unfold canB
      rw [hs, hh]; rfl
    | true =>
      refine (if_neg Bool.false_ne_true).mpr (stB_nil (stB_one (st_ret (ev_ifx (evW_pt (evW_or (evT_eqD hX ?_)))))))
      have fin : ∀ x : Str, ∃ d, isD K (.str x) = isD K d ∧ isNone d = !canB L s e := fun x => ⟨_, rfl, by unfold canB; rw [hs, hh]; rfl⟩
      refine ev_ixT (ev_name (i := 1) rfl rfl (ev_int ⟨_, 0, _, rfl, rfl, rfl, ev_ixT (ev_name (i := 2) rfl rfl (ev_int ⟨_, 0, _, rfl, rfl, rfl, _, _, _, dq_d, dq_d, rfl, rfl, eqv_int _ _, ?_⟩))⟩))
      refine ite2 (fun q => (if_pos rfl).mpr (ev_str (fin _))) (fun q => evW_or1 (evT_eqD hX ?_))
      refine ev_ixT (ev_name (i := 1) rfl rfl (ev_int ⟨_, 1, _, rfl, rfl, rfl, ev_ixT (ev_name (i := 2) rfl rfl (ev_int ⟨_, 1, _, rfl, rfl, rfl, _, _, _, dq_d, dq_d, rfl, rfl, eqv_int _ _, ?_⟩))⟩))
      exact ite2 (fun q => ev_str (fin _)) (fun q => ev_str (fin _))
/-! ### moves_of -/
def aroundL : List Cell := [(-1, -1), (-1, 0), (-1, 1), (0, -1), (0, 1), (1, -1), (1, 0), (1, 1)]
def Arnd (K : PySem.W.Frag) (mg : Str → Option Value) : Prop := ∃ a, mg "AROUND" = some (.ref a) ∧ ∀ F, Dp K F (.ref a) (bD aroundL)
abbrev Mv := Cell × Cell
abbrev mD (m : Mv) : PyData := .tuple [cD m.1, cD m.2]
abbrev msD (ms : List Mv) : PyData := .tuple (ms.map mD)
def endsL (L : List Cell) (s : Cell) (as : List Cell) : List Mv := ((as.map fun d => (s.1 + d.1, s.2 + d.2)).filter fun e => suppB L s e).map fun e => (s, e)
noncomputable def movesL (L : List Cell) : List Mv := (freeL L).flatMap fun s => endsL L s aroundL
theorem endsL_snoc (L : List Cell) (s d : Cell) (as : List Cell) : endsL L s (as ++ [d]) = endsL L s as ++ (if suppB L s (s.1 + d.1, s.2 + d.2) = true then [(s, (s.1 + d.1, s.2 + d.2))] else []) := by
  unfold endsL
  rw [List.map_append, List.filter_append, List.map_append]
  congr 1
  rw [List.map_singleton, List.filter_cons]
  split <;> rfl
theorem endsL_le (L : List Cell) (s : Cell) (as : List Cell) : (endsL L s as).length ≤ as.length := by
  unfold endsL
  rw [List.length_map]
  exact Nat.le_trans (List.length_filter_le _ _) (by rw [List.length_map]; exact Nat.le_refl _)
theorem flat_le {α β : Type} (f : α → List β) (n : Nat) (h : ∀ a, (f a).length ≤ n) : ∀ l : List α, (l.flatMap f).length ≤ n * l.length
  | [] => by simp
  | a :: l => by
    rw [List.flatMap_cons, List.length_append, List.length_cons, Nat.mul_succ]
    have := flat_le f n h l
    have := h a
    omega
noncomputable def spMoves (K : PySem.W.Frag) : Sp := spP (fun L : List Cell => L.Nodup ∧ L.length ≤ 1000) (fun L => [isD K (bD L)]) (fun L φ => φ = isD K (msD (movesL L)))
theorem sc_moves : FnScope ["body", "squares", "found", "start", "across", "up", "end"] ["body"] (defScope (top 29)) := ⟨rfl, rfl, rfl, by decide +kernel, rfl, by decide +kernel, by decide +kernel⟩
theorem take_snoc {α : Type} {l : List α} {i : Nat} {a : α} (h : l[i]? = some a) : l.take (i + 1) = l.take i ++ [a] := by
  rw [List.take_add_one, h]; rfl
theorem freeL_sub {L : List Cell} {c : Cell} (h : c ∈ freeL L) : c ∈ L := (List.mem_filter.mp h).1
theorem freeL_len (L : List Cell) : (freeL L).length ≤ L.length := List.length_filter_le _ _
theorem h_moves (T : Txt K mg) (U : Arnd K mg) : Has P w K mg base 14 "moves_of" (spMoves K) := by
  obtain ⟨f, fd, F, m⟩ := T.moves_of
  refine ⟨f, fd, ["body"], defP F sc_moves (kk := 13) (by decide) (fun _ => rfl) ?_, m, F.kp, F.binds fun _ _ _ _ _ _ us hl => match us, hl with | [_], _ => rfl⟩
  rintro cdv A outer s0 H E hr L hL
  have hX := nor_of (P := P) (w := w) (K := K) (mg := mg) (base := base) (CX := CX0) (outer := outer) (H := H) (E := E) sc_moves.nd hr (by decide)
  obtain ⟨aa, ha1, ha2⟩ := U
  refine stB_cons (st_par2 (i := 1) (j := 2) hX rfl rfl (by decide) (evA_cons (ev_call ((h_squares T).cal hr) (evA_cons (ev_name (i := 0) rfl rfl (evA_nil ⟨L, hL, Subs.rfl, ?_⟩))))))
  rintro φ rfl
  refine evA_cons (ev_lst0 fun q => evA_nil ⟨_, _, rfl, ?_⟩)
  refine stB_cons (st_forT hX (ev_call ((h_free T).cal hr) (evA_cons (ev_name (i := 0) rfl rfl (evA_nil ⟨L, hL, Subs.rfl, ?_⟩)))))
  rintro φ rfl
  have big : ∀ (l : List Cell) (n : Nat), l.length ≤ 1000 → n ≤ 8 → (l.flatMap fun s => endsL L s aroundL).length + n < sizeLine := fun l n hl hn => by
    have := flat_le (fun s => endsL L s aroundL) 8 (fun s => endsL_le L s aroundL) l
    rw [sizeLine_eq]
    omega
  refine ⟨_, rfl, fun i Γ Ω => Γ = [some (isD K (bD L)), some (isM P w K (sqs K L)), some (isV (.ref q)), none, none, none, none] ∧ Ω = [(q, lstO K ((((freeL L).take i).flatMap fun s => endsL L s aroundL).map mD))], ⟨rfl, rfl⟩, ?_, ?_⟩
  · rintro i d Γ Ω hd ⟨rfl, rfl⟩
    rw [List.getElem?_map] at hd
    obtain ⟨s, hs, rfl⟩ := Option.map_eq_some_iff.mp hd
    have hlt := Nat.le_trans (freeL_len L) hL.2
    refine tgt_name (i := 3) hX.nd rfl (stB_one (st_forT hX (ev_glob (v := .ref aa) (φ := isD K (bD aroundL)) ha1 rfl (fun F => ha2 F) ⟨_, rfl, fun j Γ Ω => Γ = [some (isD K (bD L)), some (isM P w K (sqs K L)), some (isV (.ref q)), some (isD K (cD s)), none, none, none] ∧
      Ω = [(q, lstO K (((((freeL L).take i).flatMap fun s => endsL L s aroundL) ++ endsL L s (aroundL.take j)).map mD))], ⟨rfl, by rw [show endsL L s (aroundL.take 0) = [] from rfl, List.append_nil]⟩, ?_, ?_⟩)))
    · rintro j d Γ Ω hd ⟨rfl, rfl⟩
      rw [List.getElem?_map] at hd
      obtain ⟨d, hd', rfl⟩ := Option.map_eq_some_iff.mp hd
      refine tgt_pair (i := 4) (j := 5) hX.calm hX.nd rfl rfl (stB_cons (st_set (i := 6) hX rfl (ev_tup2 ?_)))
      refine ev_addI (ev_ixT (ev_name (i := 3) rfl rfl (ev_int ⟨_, 0, _, rfl, rfl, rfl, ev_name (i := 4) rfl rfl ⟨_, _, rfl, rfl, ?_⟩⟩)))
      refine ev_addI (ev_ixT (ev_name (i := 3) rfl rfl (ev_int ⟨_, 1, _, rfl, rfl, rfl, ev_name (i := 5) rfl rfl ⟨_, _, rfl, rfl, _, _, dat_d, dat_d, ?_⟩⟩)))
      refine stB_one (st_if (evT_neD hX (ev_call ((h_supp T).cal hr) (evA_cons (ev_name (i := 1) rfl rfl (evA_cons (ev_name (i := 3) rfl rfl (evA_cons (ev_name (i := 6) rfl rfl (evA_nil ⟨(L, s, (s.1 + d.1, s.2 + d.2)), trivial, Subs.rfl, ?_⟩))))))))))
      rintro φ ⟨ds, rfl, he, hsh⟩
      refine ev_tup (evA_nil ⟨[], .nil, by decide, _, _, _, dq_d, dq_d, (ShD.tup hsh).ok (by decide), rfl, eqv_nil ds, ?_⟩)
      have he : ds.isEmpty = !suppB L s (s.1 + d.1, s.2 + d.2) := he
      have esn := endsL_snoc L s d (aroundL.take j)
      rw [← take_snoc hd'] at esn
      have wk : WkG [some (isD K (bD L)), some (isM P w K (sqs K L)), some (isV (.ref q)), some (isD K (cD s)), some (isD K (.int d.1)), some (isD K (.int d.2)), some (isD K (cD (s.1 + d.1, s.2 + d.2)))] [some (isD K (bD L)), some (isM P w K (sqs K L)), some (isV (.ref q)), some (isD K (cD s)), none, none, none] :=
        .yes Sub.rfl (.yes Sub.rfl (.yes Sub.rfl (.yes Sub.rfl (.no (.no (.no .nil))))))
      rw [he, Bool.not_not]
      cases hs2 : suppB L s (s.1 + d.1, s.2 + d.2) with
      | true =>
        rw [hs2, if_pos rfl] at esn
        refine (if_pos rfl).mpr (stB_one (st_expr (ev_append (ev_name (i := 2) rfl rfl ⟨0, q, _, rfl, rfl, ev_tup2 (ev_name (i := 3) rfl rfl (ev_name (i := 6) rfl rfl ⟨_, _, dat_d, dat_d, 0, _, _, rfl, dat_d, ?_, ?_⟩))⟩))))
        · rw [List.length_map, List.length_append]
          refine Nat.lt_of_le_of_lt ?_ (big ((freeL L).take i) 8 (Nat.le_trans (by rw [List.length_take]; omega) hlt) (by decide))
          have := endsL_le L s (aroundL.take j)
          have h8 : (aroundL.take j).length ≤ 8 := by rw [List.length_take]; show min j 8 ≤ 8; omega
          omega
        · exact ⟨_, _, wk, List.Sublist.refl _, rfl, by rw [esn, ← List.append_assoc, List.map_append (l₂ := [_])]; rfl⟩
      | false =>
        rw [hs2, if_neg Bool.false_ne_true, List.append_nil] at esn
        exact (if_neg Bool.false_ne_true).mpr (stB_nil ⟨_, _, wk, List.Sublist.refl _, rfl, by rw [esn]⟩)
    · rintro Γ Ω ⟨rfl, rfl⟩
      refine ⟨_, _, .yes Sub.rfl (.yes Sub.rfl (.yes Sub.rfl (.no (.no (.no (.no .nil)))))), List.Sublist.refl _, rfl, ?_⟩
      rw [take_snoc hs, List.flatMap_append, List.flatMap_singleton]
      rfl
  rintro Γ Ω ⟨rfl, rfl⟩
  refine stB_one (st_ret (ev_tupL T.n_tuple boot_tuple (ev_name (i := 2) rfl rfl ⟨_, .o (j := 0) rfl, ?_⟩)))
  rw [List.length_map, List.take_length]
  rfl
end G
set_option Elab.async false
set_option linter.all false
set_option maxRecDepth 100000
set_option maxHeartbeats 4000000
namespace G
open PySem PySem.Spec PyProof.Rows L2 RZ
variable {P : Program} {w : World} {K : PySem.W.Frag} {mg : Str → Option Value} {base : Heap}
theorem any_cells (L : List Cell) (c : Cell) : ((L.map cD).any fun z => PyData.eqv z (cD c)) = decide (c ∈ L) := by
  rw [List.any_map, Bool.eq_iff_iff, List.any_eq_true, decide_eq_true_iff]
  constructor
  · rintro ⟨x, hx, h⟩
    have h' : PyData.eqv (cD x) (cD c) = true := h
    rw [eqv_cells, decide_eq_true_iff] at h'
    rw [← h']; exact hx
  · intro h
    exact ⟨c, h, by show PyData.eqv (cD c) (cD c) = true; rw [eqv_cells]; simp⟩
/-! ### done -/
def doneL (L : List Cell) (s e : Cell) : List Cell := sortC (cut L s ++ [e])
noncomputable def spDone (K : PySem.W.Frag) : Sp := spP (fun x : List Cell × Cell × Cell => x.1.Nodup ∧ x.1.length ≤ 1000 ∧ x.2.1 ∈ x.1 ∧ canB x.1 x.2.1 x.2.2 = true) (fun x => [isD K (bD x.1), isD K (cD x.2.1), isD K (cD x.2.2)]) (fun x φ => φ = isD K (bD (doneL x.1 x.2.1 x.2.2)))
theorem sc_done : FnScope ["body", "start", "end", "kind", "cell"] ["body", "start", "end"] (defScope (top 30)) := ⟨rfl, rfl, rfl, by decide +kernel, rfl, by decide +kernel, by decide +kernel⟩
theorem h_done (T : Txt K mg) : Has P w K mg base 14 "done" (spDone K) := by
  obtain ⟨f, fd, F, m⟩ := T.done
  refine ⟨f, fd, ["body", "start", "end"], defP F sc_done (kk := 13) (by decide) (fun _ => rfl) ?_, m, F.kp, F.binds fun _ _ _ _ _ _ us hl => match us, hl with | [_, _, _], _ => rfl⟩
  rintro cdv A outer s0 H E hr ⟨L, s, e⟩ ⟨hnd, hlen, hs, hc⟩
  have hnd : L.Nodup := hnd
  have hlen : L.length ≤ 1000 := hlen
  have hs : s ∈ L := hs
  have hc : canB L s e = true := hc
  have hX := nor_of (P := P) (w := w) (K := K) (mg := mg) (base := base) (CX := CX0) (outer := outer) (H := H) (E := E) sc_done.nd hr (by decide)
  refine stB_cons (st_set (i := 3) hX rfl (ev_call ((h_kind T).cal hr) (evA_cons (ev_name (i := 0) rfl rfl (evA_cons (ev_name (i := 1) rfl rfl (evA_cons (ev_name (i := 2) rfl rfl (evA_nil ⟨(L, s, e), ⟨hnd, hlen⟩, Subs.rfl, ?_⟩)))))))))
  rintro φ ⟨d, rfl, hd⟩
  have hd : isNone d = !canB L s e := hd
  rw [hc] at hd
  refine stB_cons (st_if (evT_niT hX (ev_name (i := 1) rfl rfl (ev_name (i := 0) rfl rfl ⟨true, ⟨cD s, L.map cD, dq_d, dq_d, rfl, (shB L).ok (by decide), by rw [any_cells, decide_eq_true hs]⟩, (if_neg Bool.false_ne_true).mpr (stB_nil ?_)⟩))))
  refine stB_cons (st_if (evT_isN (ev_name (i := 3) rfl rfl ⟨d, rfl, ?_⟩)))
  rw [hd]
  refine (if_neg Bool.false_ne_true).mpr (stB_nil (stB_one (st_ret (ev_tupL T.n_tuple boot_tuple (ev_sorted hX T.n_sorted (ev_catL (ev_lc hX L cD cD (fun x => decide (x ≠ s)) (fun x => [some (isD K (bD L)), some (isD K (cD s)), some (isD K (cD e)), some (isD K d), some (isD K (cD x))]) (own := [("cell", 4)]) (fun σ => wipe_wipe1 σ 4)
    (show BlkOk ["body", "start", "end", "kind", "cell"] (defScope (top 30)) _ [("cell", 4)] from blkOk_by (by decide +kernel)) (evI_tup (ev_name (i := 0) rfl rfl ⟨_, rfl, rfl, ?_, ?_⟩)))))))))
  · intro s' H0 C cl fp x hx
    refine ⟨tgB_name hX.nd rfl, evTs_one (evT_neD hX.b (ev_name (i := 4) rfl rfl (ev_name (i := 1) rfl rfl ⟨_, _, _, dq_d, dq_d, rfl, rfl, eqv_cells x s, rfl, ?_⟩))), fun _ => ev_name (i := 4) rfl rfl ⟨rfl, dat_d⟩⟩
    by_cases h : x = s <;> simp [h]
  · refine ev_lst (evA_cons (ev_name (i := 2) rfl rfl (evA_nil ⟨_, .cons dat_d .nil, le1000 (n := 1) rfl (by decide), _, _, .l, .l, ?_, _, .q (.l .l), ?_, ?_⟩)))
    · rw [outp_cut, List.length_map, sizeLine_eq]
      have := List.length_filter_le (fun x => decide (x ≠ s)) L
      show (cut L s).length + 1 ≤ _
      unfold cut
      omega
    · rintro ds rfl
      have e1 : outp L (fun x => decide (x ≠ s)) cD ++ [cD e] = (cut L s ++ [e]).map cD := by rw [outp_cut, List.map_append]; rfl
      rw [e1]
      refine ⟨canS_cells _, ?_⟩
      rw [List.length_map, List.length_append, sizeLine_eq]
      have := List.length_filter_le (fun x => decide (x ≠ s)) L
      show (cut L s).length + 1 ≤ _
      unfold cut
      omega
    · rintro ds rfl
      have e1 : outp L (fun x => decide (x ≠ s)) cD ++ [cD e] = (cut L s ++ [e]).map cD := by rw [outp_cut, List.map_append]; rfl
      refine ⟨_, .l, ?_⟩
      show isD K (.tuple (sortD (outp L (fun x => decide (x ≠ s)) cD ++ [cD e]))) = _
      rw [e1, sortD_cells]
      rfl
/-! ### corner_of, check_number -/
def spCorner (K : PySem.W.Frag) : Sp := spP (fun L : List Cell => L ≠ []) (fun L => [isD K (bD L)]) (fun L φ => φ = isD K (cD (corL L)))
theorem sc_corner : FnScope ["body", "cell"] ["body"] (defScope (top 34)) := ⟨rfl, rfl, rfl, by decide +kernel, rfl, by decide +kernel, by decide +kernel⟩
theorem col_map (L : List Cell) : (L.map fun c => PyData.int c.1) = (colL L).map .int := by unfold colL; rw [List.map_map]; rfl
theorem row_map (L : List Cell) : (L.map fun c => PyData.int c.2) = (rowL L).map .int := by unfold rowL; rw [List.map_map]; rfl
theorem h_corner (T : Txt K mg) : Has P w K mg base 5 "corner_of" (spCorner K) := by
  obtain ⟨f, fd, F, m⟩ := T.corner_of
  refine ⟨f, fd, ["body"], defP F sc_corner (kk := 4) (by decide) (fun _ => rfl) ?_, m, F.kp, F.binds fun _ _ _ _ _ _ us hl => match us, hl with | [_], _ => rfl⟩
  rintro cdv A outer s H E hr L hL
  have hX := nor_of (P := P) (w := w) (K := K) (mg := mg) (base := base) (CX := CX0) (outer := outer) (H := H) (E := E) sc_corner.nd hr (by decide)
  have hc : 0 < (colL L).length := by unfold colL; rw [List.length_map]; exact List.length_pos_iff.mpr hL
  have hw : 0 < (rowL L).length := by unfold rowL; rw [List.length_map]; exact List.length_pos_iff.mpr hL
  refine stB_one (st_ret (ev_tup2 (ev_minL hX T.n_min (ev_lc hX L cD (fun c => .int c.1) (fun _ => true) (fun x => [some (isD K (bD L)), some (isD K (cD x))]) (own := [("cell", 1)]) (fun σ => wipe_wipe1 σ 1)
    (show BlkOk ["body", "cell"] (defScope (top 34)) _ [("cell", 1)] from blkOk_by (by decide +kernel)) (evI_tup (ev_name (i := 0) rfl rfl ⟨_, rfl, rfl, ?_, ?_⟩))))))
  · intro s' H0 C cl fp x hx
    exact ⟨tgB_name hX.nd rfl, evTs_nil ⟨rfl, rfl⟩, fun _ => ev_ixT (ev_name (i := 1) rfl rfl (ev_int ⟨_, 0, _, rfl, rfl, rfl, rfl, dat_d⟩))⟩
  rw [outp_all, col_map]
  refine ⟨colL L, .l, hc, fun m1 a1 b1 => ev_minL hX T.n_min (ev_lc hX L cD (fun c => .int c.2) (fun _ => true) (fun x => [some (isD K (bD L)), some (isD K (cD x))]) (own := [("cell", 1)]) (fun σ => wipe_wipe1 σ 1)
    (show BlkOk ["body", "cell"] (defScope (top 34)) _ [("cell", 1)] from blkOk_by (by decide +kernel)) (evI_tup (ev_name (i := 0) rfl rfl ⟨_, rfl, rfl, ?_, ?_⟩)))⟩
  · intro s' H0 C cl fp x hx
    exact ⟨tgB_name hX.nd rfl, evTs_nil ⟨rfl, rfl⟩, fun _ => ev_ixT (ev_name (i := 1) rfl rfl (ev_int ⟨_, 1, _, rfl, rfl, rfl, rfl, dat_d⟩))⟩
  rw [outp_all, row_map]
  refine ⟨rowL L, .l, hw, fun m2 a2 b2 => ⟨_, _, dat_d, dat_d, ?_⟩⟩
  rw [minI_eq a1 b1, minI_eq a2 b2]
  rfl
def spNumber (K : PySem.W.Frag) : Sp := spP (fun x : Int × Int => 1 ≤ x.1 ∧ x.1 ≤ x.2) (fun x => [isD K (.int x.1), isD K (.int x.2)]) (fun x φ => φ = isD K .none)
theorem sc_number : FnScope ["n", "most"] ["n", "most"] (defScope (top 35)) := ⟨rfl, rfl, rfl, by decide +kernel, rfl, by decide +kernel, by decide +kernel⟩
theorem h_number (T : Txt K mg) : Has P w K mg base 7 "check_number" (spNumber K) := by
  obtain ⟨f, fd, F, m⟩ := T.check_number
  refine ⟨f, fd, ["n", "most"], defP F sc_number (kk := 6) (by decide) (fun _ => rfl) ?_, m, F.kp, F.binds fun _ _ _ _ _ _ us hl => match us, hl with | [_, _], _ => rfl⟩
  rintro cdv A outer s H E hr ⟨n, most⟩ hn
  refine stB_one (st_if (evT_not (evT_val (ev_call ((h_between T).cal hr) (evA_cons (ev_name (i := 0) rfl rfl (evA_cons (ev_int (evA_cons (ev_name (i := 1) rfl rfl (evA_nil ⟨(n, 1, most), trivial, Subs.rfl, ?_⟩)))))))))))
  rintro φ rfl
  refine ⟨true, ?_, stB_nil rfl⟩
  show isD K (.bool (decide (1 ≤ n ∧ n ≤ most))) = _
  rw [decide_eq_true hn]
  rfl
/-! ### followers -/
noncomputable def folD (L : List Cell) (m : Mv) : PyData := .tuple [mD m, bD (shpL (doneL L m.1 m.2))]
noncomputable def spFollowers (K : PySem.W.Frag) : Sp := spP (fun L : List Cell => L.Nodup ∧ L.length ≤ 1000) (fun L => [isD K (bD L)]) (fun L φ => φ = isL K ((movesL L).map (folD L)))
theorem sc_followers : FnScope ["body", "move"] ["body"] (defScope (top 36)) := ⟨rfl, rfl, rfl, by decide +kernel, rfl, by decide +kernel, by decide +kernel⟩
theorem movesL_ok {L : List Cell} {m : Mv} (h : m ∈ movesL L) : m.1 ∈ L ∧ canB L m.1 m.2 = true := by
  unfold movesL at h
  obtain ⟨s, hs, h⟩ := List.mem_flatMap.mp h
  unfold endsL at h
  obtain ⟨e, he, rfl⟩ := List.mem_map.mp h
  have h1 := (List.mem_filter.mp he).2
  obtain ⟨h2, h3⟩ := List.mem_filter.mp hs
  refine ⟨h2, ?_⟩
  unfold canB
  rw [h1, h3]; rfl
theorem doneL_ne (L : List Cell) (s e : Cell) : doneL L s e ≠ [] := fun h => by
  have := congrArg List.length h
  unfold doneL at this
  rw [sortC_len, List.length_append] at this
  simp at this
theorem h_followers (T : Txt K mg) (U : Arnd K mg) : Has P w K mg base 15 "followers" (spFollowers K) := by
  obtain ⟨f, fd, F, m⟩ := T.followers
  refine ⟨f, fd, ["body"], defP F sc_followers (kk := 14) (by decide) (fun _ => rfl) ?_, m, F.kp, F.binds fun _ _ _ _ _ _ us hl => match us, hl with | [_], _ => rfl⟩
  rintro cdv A outer s H E hr L hL
  have hX := nor_of (P := P) (w := w) (K := K) (mg := mg) (base := base) (CX := CX0) (outer := outer) (H := H) (E := E) sc_followers.nd hr (by decide)
  refine stB_one (st_ret (ev_lc hX (movesL L) mD (folD L) (fun _ => true) (fun x => [some (isD K (bD L)), some (isD K (mD x))]) (own := [("move", 1)]) (fun σ => wipe_wipe1 σ 1)
    (show BlkOk ["body", "move"] (defScope (top 36)) _ [("move", 1)] from blkOk_by (by decide +kernel)) (evI_tup (ev_call ((h_moves T U).cal hr) (evA_cons (ev_name (i := 0) rfl rfl (evA_nil ⟨L, hL, Subs.rfl, ?_⟩)))))))
  rintro φ rfl
  refine ⟨_, rfl, rfl, ?_, ?_⟩
  · intro s' H0 C cl fp x hx
    obtain ⟨h1, h2⟩ := movesL_ok hx
    refine ⟨tgB_name hX.nd rfl, evTs_nil ⟨rfl, rfl⟩, fun _ => ev_tup2 (ev_name (i := 1) rfl rfl (ev_call ((h_shape T).cal hr) (evA_cons (ev_call ((h_done T).cal hr) (evA_cons (ev_name (i := 0) rfl rfl (evA_cons (ev_ixT (ev_name (i := 1) rfl rfl (ev_int ⟨_, 0, _, rfl, rfl, rfl, ?_⟩))))))))))⟩
    refine evA_cons (ev_ixT (ev_name (i := 1) rfl rfl (ev_int ⟨_, 1, _, rfl, rfl, rfl, evA_nil ⟨(L, x.1, x.2), ⟨hL.1, hL.2, h1, h2⟩, Subs.rfl, ?_⟩⟩)))
    rintro φ rfl
    refine evA_nil ⟨doneL L x.1 x.2, doneL_ne _ _ _, Subs.rfl, ?_⟩
    rintro φ rfl
    exact ⟨_, _, dat_d, dat_d, rfl, dat_d⟩
  · rw [outp_all]
    rfl
end G
set_option Elab.async false
set_option linter.all false
set_option maxRecDepth 100000
set_option maxHeartbeats 4000000
/-! M2: layers of a walk through a graph. -/
namespace G
section
variable {α β : Type} [DecidableEq α] (Fl : α → List (β × α)) (start : α)
abbrev BEnt (α β : Type) := α × Option (α × β) × Nat
structure Bfs (A : List (BEnt α β)) : Prop where
  nd : (A.map (·.1)).Nodup
  zero : (start, none, 0) ∈ A
  non : ∀ T n, (T, none, n) ∈ A → T = start ∧ n = 0
  som : ∀ T S m n, (T, some (S, m), n) ∈ A → (m, T) ∈ Fl S ∧ ∃ o l, (S, o, l) ∈ A ∧ n = l + 1
structure BfsAt (k : Nat) (Last : List α) (A : List (BEnt α β)) : Prop where
  base : Bfs Fl start A
  le : ∀ T o n, (T, o, n) ∈ A → n ≤ k
  last : ∀ T, T ∈ Last ↔ ∃ o, (T, o, k) ∈ A
  clo : ∀ S o n, (S, o, n) ∈ A → n < k → ∀ m T, (m, T) ∈ Fl S → ∃ o' n', (T, o', n') ∈ A ∧ n' ≤ n + 1
structure BfsIn (k : Nat) (Last layer : List α) (A : List (BEnt α β)) (pr : List (β × α)) : Prop where
  base : Bfs Fl start A
  le : ∀ T o n, (T, o, n) ∈ A → n ≤ k + 1
  last : ∀ T, T ∈ Last ↔ ∃ o, (T, o, k) ∈ A
  lay : ∀ T, T ∈ layer ↔ ∃ o, (T, o, k + 1) ∈ A
  clo : ∀ S o n, (S, o, n) ∈ A → n < k → ∀ m T, (m, T) ∈ Fl S → ∃ o' n', (T, o', n') ∈ A ∧ n' ≤ n + 1
  prd : ∀ x ∈ pr, ∃ o n, (x.2, o, n) ∈ A
variable {Fl start}
theorem BfsAt.first : BfsAt Fl start 0 [start] [((start, none, 0) : BEnt α β)] where
  base := ⟨by simp, by simp, fun T n h => by simpa using h, fun T S m n h => by simp at h⟩
  le := fun T o n h => by
    have : n = 0 := by simp at h; exact h.2.2
    omega
  last := fun T => by
    constructor
    · intro h
      have : T = start := by simpa using h
      exact ⟨none, by simp [this]⟩
    · rintro ⟨o, h⟩
      simp at h
      simp [h.1]
  clo := fun S o n h hn => by omega
theorem BfsAt.go {k : Nat} {Last : List α} {A : List (BEnt α β)} (h : BfsAt Fl start k Last A) : BfsIn Fl start k Last [] A [] where
  base := h.base
  le := fun T o n q => Nat.le_succ_of_le (h.le T o n q)
  last := h.last
  lay := fun T => ⟨fun q => (nomatch q), fun ⟨o, q⟩ => by have := h.le T o _ q; omega⟩
  clo := h.clo
  prd := fun x hx => nomatch hx
theorem BfsIn.skip {k : Nat} {Last layer : List α} {A : List (BEnt α β)} {pr : List (β × α)} {m : β} {T : α} (h : BfsIn Fl start k Last layer A pr) (hT : T ∈ A.map (·.1)) : BfsIn Fl start k Last layer A (pr ++ [(m, T)]) where
  base := h.base
  le := h.le
  last := h.last
  lay := h.lay
  clo := h.clo
  prd := fun x hx => by
    rcases List.mem_append.mp hx with z | z
    · exact h.prd x z
    · obtain rfl : x = (m, T) := by simpa using z
      obtain ⟨⟨T', o, n⟩, hy, rfl⟩ := List.mem_map.mp hT
      exact ⟨o, n, hy⟩
theorem BfsIn.add {k : Nat} {Last layer : List α} {A : List (BEnt α β)} {pr : List (β × α)} {m : β} {S T : α} (h : BfsIn Fl start k Last layer A pr) (hT : T ∉ A.map (·.1)) (hS : S ∈ Last) (hm : (m, T) ∈ Fl S) :
    BfsIn Fl start k Last (layer ++ [T]) (A ++ [(T, some (S, m), k + 1)]) (pr ++ [(m, T)]) where
  base := by
    refine ⟨?_, List.mem_append_left _ h.base.zero, fun T' n q => ?_, fun T' S' m' n q => ?_⟩
    · rw [List.map_append]
      refine List.nodup_append.mpr ⟨h.base.nd, by simp, ?_⟩
      intro a ha b hb e
      have hb' : b = T := by simpa using hb
      exact hT (by rw [← hb', ← e]; exact ha)
    · rcases List.mem_append.mp q with z | z
      · exact h.base.non T' n z
      · simp at z
    · rcases List.mem_append.mp q with z | z
      · obtain ⟨h1, o, l, h2, h3⟩ := h.base.som T' S' m' n z
        exact ⟨h1, o, l, List.mem_append_left _ h2, h3⟩
      · simp only [List.mem_singleton, Prod.mk.injEq, Option.some.injEq] at z
        obtain ⟨rfl, ⟨rfl, rfl⟩, rfl⟩ := z
        obtain ⟨o, ho⟩ := (h.last S').mp hS
        exact ⟨hm, o, k, List.mem_append_left _ ho, rfl⟩
  le := fun T' o n q => by
    rcases List.mem_append.mp q with z | z
    · exact h.le T' o n z
    · simp only [List.mem_singleton, Prod.mk.injEq] at z
      omega
  last := fun T' => by
    rw [h.last]
    constructor
    · rintro ⟨o, q⟩
      exact ⟨o, List.mem_append_left _ q⟩
    · rintro ⟨o, q⟩
      rcases List.mem_append.mp q with z | z
      · exact ⟨o, z⟩
      · simp only [List.mem_singleton, Prod.mk.injEq] at z
        omega
  lay := fun T' => by
    rw [List.mem_append, h.lay]
    constructor
    · rintro (⟨o, q⟩ | q)
      · exact ⟨o, List.mem_append_left _ q⟩
      · obtain rfl : T' = T := by simpa using q
        exact ⟨_, List.mem_append_right _ List.mem_cons_self⟩
    · rintro ⟨o, q⟩
      rcases List.mem_append.mp q with z | z
      · exact .inl ⟨o, z⟩
      · simp only [List.mem_singleton, Prod.mk.injEq] at z
        exact .inr (by simp [z.1])
  clo := fun S' o n q hn m' T' hm' => by
    rcases List.mem_append.mp q with z | z
    · obtain ⟨o', n', h1, h2⟩ := h.clo S' o n z hn m' T' hm'
      exact ⟨o', n', List.mem_append_left _ h1, h2⟩
    · simp only [List.mem_singleton, Prod.mk.injEq] at z
      omega
  prd := fun x hx => by
    rcases List.mem_append.mp hx with z | z
    · obtain ⟨o, n, q⟩ := h.prd x z
      exact ⟨o, n, List.mem_append_left _ q⟩
    · obtain rfl : x = (m, T) := by simpa using z
      exact ⟨_, _, List.mem_append_right _ List.mem_cons_self⟩
theorem BfsIn.next {k : Nat} {Last layer : List α} {A : List (BEnt α β)} (h : BfsIn Fl start k Last layer A (Last.flatMap Fl)) : BfsAt Fl start (k + 1) layer A where
  base := h.base
  le := h.le
  last := h.lay
  clo := fun S o n q hn m T hm => by
    by_cases e : n < k
    · exact h.clo S o n q e m T hm
    · have : n = k := by omega
      subst this
      obtain ⟨o', n', h1⟩ := h.prd (m, T) (List.mem_flatMap.mpr ⟨S, (h.last S).mpr ⟨o, q⟩, hm⟩)
      exact ⟨o', n', h1, h.le T o' n' h1⟩
/-- closed -/
structure BfsEnd (Fl : α → List (β × α)) (start : α) (A : List (BEnt α β)) : Prop where
  base : Bfs Fl start A
  clo : ∀ S o n, (S, o, n) ∈ A → ∀ m T, (m, T) ∈ Fl S → ∃ o' n', (T, o', n') ∈ A ∧ n' ≤ n + 1
theorem BfsAt.stop {k : Nat} {A : List (BEnt α β)} (h : BfsAt Fl start k [] A) : BfsEnd Fl start A where
  base := h.base
  clo := fun S o n q => by
    refine h.clo S o n q ?_
    have := h.le S o n q
    by_cases e : n = k
    · subst e
      exact absurd ((h.last S).mpr ⟨o, q⟩) (by simp)
    · omega
inductive Wk (Fl : α → List (β × α)) (start : α) : Nat → α → Prop
  | zero : Wk Fl start 0 start
  | step {n : Nat} {S T : α} {m : β} : Wk Fl start n S → (m, T) ∈ Fl S → Wk Fl start (n + 1) T
theorem BfsEnd.wk {A : List (BEnt α β)} (h : BfsEnd Fl start A) {n : Nat} {T : α} (w : Wk Fl start n T) : ∃ o l, (T, o, l) ∈ A ∧ l ≤ n := by
  induction w with
  | zero => exact ⟨none, 0, h.base.zero, Nat.le_refl _⟩
  | step _ hm ih =>
    obtain ⟨o, l, h1, h2⟩ := ih
    obtain ⟨o', n', h3, h4⟩ := h.clo _ o l h1 _ _ hm
    exact ⟨o', n', h3, by omega⟩
theorem Bfs.walk {A : List (BEnt α β)} (h : Bfs Fl start A) : ∀ (n : Nat) (T : α) (o : Option (α × β)), (T, o, n) ∈ A → Wk Fl start n T
  | 0, T, o, q => by
    cases o with
    | none => obtain ⟨rfl, _⟩ := h.non T 0 q; exact .zero
    | some x => obtain ⟨_, o, l, _, e⟩ := h.som T x.1 x.2 0 q; omega
  | n + 1, T, o, q => by
    cases o with
    | none => obtain ⟨_, e⟩ := h.non T (n + 1) q; omega
    | some x =>
      obtain ⟨hm, o, l, h1, e⟩ := h.som T x.1 x.2 (n + 1) q
      have : l = n := by omega
      subst this
      exact .step (h.walk l x.1 o h1) hm
theorem Bfs.one {A : List (BEnt α β)} (h : Bfs Fl start A) {T : α} {o o' : Option (α × β)} {n n' : Nat} (q : (T, o, n) ∈ A) (q' : (T, o', n') ∈ A) : o = o' ∧ n = n' := by
  obtain ⟨i, hi⟩ := List.mem_iff_getElem?.mp q
  obtain ⟨j, hj⟩ := List.mem_iff_getElem?.mp q'
  have e := nd_ix (i := i) (j := j) (x := T) h.nd (by rw [List.getElem?_map, hi]; rfl) (by rw [List.getElem?_map, hj]; rfl)
  subst e
  rw [hi] at hj
  simp only [Option.some.injEq, Prod.mk.injEq] at hj
  exact ⟨hj.2.1, hj.2.2⟩
theorem BfsEnd.lev {β' : Type} {Fl' : α → List (β' × α)} {A : List (BEnt α β)} {A' : List (BEnt α β')} (h : BfsEnd Fl start A) (h' : BfsEnd Fl' start A') (e : ∀ n T, Wk Fl start n T ↔ Wk Fl' start n T) {T : α} {o : Option (α × β)} {n : Nat} (q : (T, o, n) ∈ A) : ∃ o', (T, o', n) ∈ A' := by
  obtain ⟨o', l', h1, h2⟩ := h'.wk ((e n T).mp (h.base.walk n T o q))
  obtain ⟨o2, l2, h3, h4⟩ := h.wk ((e l' T).mpr (h'.base.walk l' T o' h1))
  have := (h.base.one q h3).2
  have : l' = n := by omega
  subst this
  exact ⟨o', h1⟩
/-- the steps from S to T -/
inductive Chain (Fl : α → List (β × α)) : α → List β → α → Prop
  | nil {S : α} : Chain Fl S [] S
  | cons {S S' T : α} {m : β} {ms : List β} : (m, S') ∈ Fl S → Chain Fl S' ms T → Chain Fl S (m :: ms) T
theorem keys_le {A : List (BEnt α β)} (h : Bfs Fl start A) {U : List α} (hs : start ∈ U) (hU : ∀ S ∈ U, ∀ x ∈ Fl S, x.2 ∈ U) : A.length ≤ U.length ∧ ∀ T o n, (T, o, n) ∈ A → T ∈ U := by
  have key : ∀ n T o, (T, o, n) ∈ A → T ∈ U := by
    intro n
    induction n with
    | zero =>
      intro T o q
      cases o with
      | none => rw [(h.non T 0 q).1]; exact hs
      | some x => obtain ⟨_, o, l, _, e⟩ := h.som T x.1 x.2 0 q; omega
    | succ n ih =>
      intro T o q
      cases o with
      | none => rw [(h.non T _ q).1]; exact hs
      | some x =>
        obtain ⟨hm, o, l, h1, e⟩ := h.som T x.1 x.2 _ q
        have : l = n := by omega
        subst this
        exact hU x.1 (ih x.1 o h1) (x.2, T) hm
  refine ⟨?_, fun T o n q => key n T o q⟩
  rw [← List.length_map (f := fun x : BEnt α β => x.1)]
  refine List.Nodup.length_le_of_subset h.nd fun T hT => ?_
  obtain ⟨⟨T', o, n⟩, hx, rfl⟩ := List.mem_map.mp hT
  exact key n T' o hx
end
end G
set_option Elab.async false
set_option linter.all false
set_option maxRecDepth 100000
set_option maxHeartbeats 4000000
namespace G
open PySem PySem.Spec PyProof.Rows L2 RZ
variable {P : Program} {w : World} {K : PySem.W.Frag} {mg : Str → Option Value} {base : Heap}
abbrev Shp := List Cell
abbrev sK (S : Shp) : NK := .tup (S.map cK)
theorem datas_cells : ∀ S : Shp, NestedKey.datas (S.map cK) = S.map cD
  | [] => rfl
  | c :: S => by
    show NestedKey.data (cK c) :: NestedKey.datas (S.map cK) = cD c :: S.map cD
    rw [datas_cells S]; rfl
theorem depth_cells : ∀ S : Shp, NestedKey.depthAll (S.map cK) ≤ 1
  | [] => Nat.zero_le _
  | c :: S => by
    have h := depth_cells S
    show max 1 (NestedKey.depthAll (S.map cK)) ≤ 1
    omega
theorem keyS {S : Shp} : KeyD K (isD K (bD S)) (sK S) := by
  refine ⟨?_, rfl, ?_⟩
  · show isD K (.tuple (S.map cD)) = isD K (.tuple (NestedKey.datas (S.map cK)))
    rw [datas_cells]
  · have := depth_cells S
    show NestedKey.depthAll (S.map cK) + 1 ≤ 8
    omega
theorem cKs_inj : ∀ {a b : List Cell}, a.map cK = b.map cK → a = b
  | [], [], _ => rfl
  | [], _ :: _, h => by simp at h
  | _ :: _, [], h => by simp at h
  | a :: as, b :: bs, h => by
    rw [List.map_cons, List.map_cons] at h
    injection h with h1 h2
    rw [cK_inj h1, cKs_inj h2]
theorem sK_inj {a b : Shp} (h : sK a = sK b) : a = b := cKs_inj (by injection h)
def valA : Option (Shp × Mv) → PyData
  | none => .none
  | some x => .tuple [bD x.1, mD x.2]
def akv (K : PySem.W.Frag) (A : List (BEnt Shp Mv)) : List (NK × MP) := A.map fun x => (sK x.1, isD K (valA x.2.1))
theorem look_akv_out {A : List (BEnt Shp Mv)} {T : Shp} (h : T ∉ A.map (·.1)) : look (akv K A) (sK T) = none := by
  unfold look akv
  rw [Option.map_eq_none_iff, List.find?_eq_none]
  intro x hx
  obtain ⟨y, hy, rfl⟩ := List.mem_map.mp hx
  have : sK y.1 ≠ sK T := fun z => h (by rw [← sK_inj z]; exact List.mem_map_of_mem hy)
  simpa using this
theorem look_akv_in : ∀ {A : List (BEnt Shp Mv)} {T : Shp} {o : Option (Shp × Mv)} {n : Nat}, (A.map (·.1)).Nodup → (T, o, n) ∈ A → look (akv K A) (sK T) = some (isD K (valA o))
  | [], _, _, _, _, h => nomatch h
  | x :: A, T, o, n, hn, h => by
    unfold look akv
    rw [List.map_cons, List.find?_cons]
    obtain ⟨n1, n2⟩ := List.nodup_cons.mp hn
    rcases List.mem_cons.mp h with rfl | h
    · rw [decide_eq_true rfl]; rfl
    · have e : ¬ sK x.1 = sK T := fun z => n1 (List.mem_map.mpr ⟨_, h, (sK_inj z).symm⟩)
      rw [decide_eq_false e]
      exact look_akv_in n2 h
theorem look_akv {A : List (BEnt Shp Mv)} (hn : (A.map (·.1)).Nodup) (T : Shp) : (look (akv K A) (sK T)).isSome = decide (T ∈ A.map (·.1)) := by
  by_cases h : T ∈ A.map (·.1)
  · obtain ⟨⟨T', o, n⟩, hx, rfl⟩ := List.mem_map.mp h
    rw [look_akv_in hn hx, decide_eq_true h]; rfl
  · rw [look_akv_out h, decide_eq_false h]; rfl
noncomputable def nxt (S : Shp) (m : Mv) : Shp := shpL (doneL S m.1 m.2)
noncomputable def FlP (S : Shp) : List (Mv × Shp) := (movesL S).map fun m => (m, nxt S m)
/-- shapes among which the walk stays -/
structure Uni (U : List Shp) : Prop where
  len : U.length ≤ 10000
  ok : ∀ S ∈ U, S.Nodup ∧ S.length ≤ 1000 ∧ S ≠ []
  clo : ∀ S ∈ U, ∀ x ∈ FlP S, x.2 ∈ U
theorem atI_last {α : Type} (xs : List α) (d : α) : atI (xs ++ [d]) (-1) = some d := by
  unfold atI ixN
  rw [if_neg (by decide), if_pos (by rw [List.length_append, List.length_singleton]; omega)]
  have e : (-1 + ((xs ++ [d]).length : Int)).toNat = xs.length := by rw [List.length_append, List.length_singleton]; omega
  show (xs ++ [d])[(-1 + ((xs ++ [d]).length : Int)).toNat]? = some d
  rw [e]
  simp
noncomputable def spSpread (P : Program) (w : World) (K : PySem.W.Frag) : Sp := spP (fun x : Shp × List Shp => Uni x.2 ∧ x.1 ∈ x.2) (fun x => [isD K (bD x.1)]) (fun x φ => ∃ A ψ, φ = isTm [isM P w K (akv K A), ψ] ∧ BfsEnd FlP x.1 A)
theorem sc_spread : FnScope ["body", "ahead", "found", "layer", "one", "move", "other"] ["body"] (defScope (top 37)) := ⟨rfl, rfl, rfl, by decide +kernel, rfl, by decide +kernel, by decide +kernel⟩
theorem h_spread (T : Txt K mg) (U : Arnd K mg) : Has P w K mg base 16 "spread" (spSpread P w K) := by
  obtain ⟨f, fd, F, m⟩ := T.spread
  refine ⟨f, fd, ["body"], defP F sc_spread (kk := 15) (by decide) (fun _ => rfl) ?_, m, F.kp, F.binds fun _ _ _ _ _ _ us hl => match us, hl with | [_], _ => rfl⟩
  rintro cdv A0 outer s0 H E hr ⟨S0, Us⟩ ⟨hU, hS0⟩
  have hU : Uni Us := hU
  have hS0 : S0 ∈ Us := hS0
  have hX := nor_of (P := P) (w := w) (K := K) (mg := mg) (base := base) (CX := CX0) (outer := outer) (H := H) (E := E) sc_spread.nd hr (by decide)
  refine stB_cons (st_par2 (i := 1) (j := 2) hX rfl rfl (by decide) (evA_cons (ev_dict1 hX fun p => ev_name (i := 0) rfl rfl (ev_none ⟨0, sK S0, keyS, rfl, ?_⟩))))
  refine evA_cons (ev_lst1 (ev_lst (evA_cons (ev_name (i := 0) rfl rfl (evA_nil ⟨_, .cons dat_d .nil, le1000 (n := 1) rfl (by decide), _, dat_l, fun q => evA_nil ⟨_, _, rfl, ?_⟩⟩)))))
  refine stB_cons (st_while hX (fun m Γ Ω => ∃ (k : Nat) (A : List (BEnt Shp Mv)) (lays : List PyData) (Last : List Shp), Γ = [some (isD K (bD S0)), some (isV (.ref p)), some (isV (.ref q)), none, none, none, none] ∧
    Ω = [(p, dctO P w K p (akv K A)), (q, lstO K (lays ++ [.list (Last.map bD)]))] ∧ BfsAt FlP S0 k Last A ∧ lays.length = k ∧ k + (if Last = [] then 0 else 1) ≤ A.length ∧ m = (Us.length - A.length) + (if Last = [] then 0 else 1)) _
    ⟨0, [(S0, none, 0)], [], [S0], rfl, rfl, BfsAt.first, rfl, Nat.le_refl 1, rfl⟩ ?_)
  rintro m Γ Ω ⟨k, A, lays, Last, rfl, rfl, hB, rfl, hk, rfl⟩
  obtain ⟨hAU, hAm⟩ := keys_le hB.base hS0 hU.clo
  have hUl := hU.len
  refine evT_some (ev_ixL (ev_name (i := 2) rfl rfl (ev_negI (ev_int ⟨1, rfl, _, _, _, .o (j := 1) rfl, rfl, atI_last _ _, Last.map bD, .l .d, ?_⟩))))
  by_cases hl : Last = []
  · subst hl
    refine (if_neg (by decide)).mpr (stB_one (st_ret (ev_tupM (evA_cons (ev_fzM (ev_name (i := 1) rfl rfl ⟨0, p, _, rfl, rfl, ?_⟩))))))
    refine evA_cons (ev_cutL po_n po_m (ev_name (i := 2) rfl rfl ⟨_, .o (j := 0) rfl, evA_nil ⟨le1000 (n := 2) rfl (by decide), A, _, rfl, hB.stop⟩⟩))
  · have hne : (Last.map bD).isEmpty = false := by cases Last with | nil => exact absurd rfl hl | cons a l => rfl
    rw [if_neg hl] at hk
    rw [hne, if_neg hl]
    refine (if_pos rfl).mpr (stB_cons (st_set (i := 3) hX rfl (ev_lst0 fun r => ?_)))
    refine stB_cons (st_forI hX (evI_list (ev_ixL (ev_name (i := 2) rfl rfl (ev_negI (ev_int ⟨1, rfl, _, _, _, .o (j := 1) rfl, rfl, atI_last _ _, Last.map bD, .d, ?_⟩))))))
    refine ⟨fun i Γ Ω => ∃ A' layer, Γ = [some (isD K (bD S0)), some (isV (.ref p)), some (isV (.ref q)), some (isV (.ref r)), none, none, none] ∧
      Ω = [(p, dctO P w K p (akv K A')), (q, lstO K (lays ++ [.list (Last.map bD)])), (r, lstO K (layer.map bD))] ∧ BfsIn FlP S0 lays.length Last layer A' ((Last.take i).flatMap FlP) ∧ A'.length = A.length + layer.length,
      ⟨A, [], rfl, rfl, hB.go, rfl⟩, ?_, ?_⟩
    · rintro i d Γ Ω hd ⟨A', layer, rfl, rfl, hI, hA'⟩
      rw [List.getElem?_map] at hd
      obtain ⟨S, hS, rfl⟩ := Option.map_eq_some_iff.mp hd
      have hSm : S ∈ Last := List.mem_of_getElem? hS
      obtain ⟨oS, hSA⟩ := (hB.last S).mp hSm
      obtain ⟨sn, sl, sne⟩ := hU.ok S (hAm S _ _ hSA)
      refine tgt_name (i := 4) hX.nd rfl (stB_one (st_forI hX (evI_list (ev_call ((h_followers T U).cal hr) (evA_cons (ev_name (i := 4) rfl rfl (evA_nil ⟨S, ⟨sn, sl⟩, Subs.rfl, ?_⟩)))))))
      rintro φ rfl
      refine ⟨_, .l, fun j Γ Ω => ∃ A' layer, Γ = [some (isD K (bD S0)), some (isV (.ref p)), some (isV (.ref q)), some (isV (.ref r)), some (isD K (bD S)), none, none] ∧
        Ω = [(p, dctO P w K p (akv K A')), (q, lstO K (lays ++ [.list (Last.map bD)])), (r, lstO K (layer.map bD))] ∧ BfsIn FlP S0 lays.length Last layer A' ((Last.take i).flatMap FlP ++ (FlP S).take j) ∧ A'.length = A.length + layer.length,
        ⟨A', layer, rfl, rfl, by rw [List.take_zero, List.append_nil]; exact hI, hA'⟩, ?_, ?_⟩
      · rintro j d Γ Ω hd ⟨A2, layer2, rfl, rfl, hI2, hA2⟩
        rw [List.getElem?_map] at hd
        obtain ⟨mv, hmv, rfl⟩ := Option.map_eq_some_iff.mp hd
        have hF : (FlP S)[j]? = some (mv, nxt S mv) := by unfold FlP; rw [List.getElem?_map, hmv]; rfl
        have hFm : (mv, nxt S mv) ∈ FlP S := List.mem_of_getElem? hF
        have epr : (Last.take i).flatMap FlP ++ (FlP S).take (j + 1) = ((Last.take i).flatMap FlP ++ (FlP S).take j) ++ [(mv, nxt S mv)] := by rw [take_snoc hF, List.append_assoc]
        have wk : ∀ a b : MP, WkG [some (isD K (bD S0)), some (isV (.ref p)), some (isV (.ref q)), some (isV (.ref r)), some (isD K (bD S)), some a, some b] [some (isD K (bD S0)), some (isV (.ref p)), some (isV (.ref q)), some (isV (.ref r)), some (isD K (bD S)), none, none] :=
          fun a b => .yes Sub.rfl (.yes Sub.rfl (.yes Sub.rfl (.yes Sub.rfl (.yes Sub.rfl (.no (.no .nil))))))
        obtain ⟨hAU2, _⟩ := keys_le hI2.base hS0 hU.clo
        refine tgt_pair (i := 5) (j := 6) (d2 := bD (nxt S mv)) hX.calm hX.nd rfl rfl (stB_one (st_if (evT_niM hX (ev_name (i := 6) rfl rfl (ev_name (i := 1) rfl rfl ⟨decide (nxt S mv ∈ A2.map (·.1)), ⟨sK (nxt S mv), akv K A2, keyS, .o (j := 0) rfl, (look_akv hI2.base.nd _).symm⟩, ?_⟩)))))
        by_cases hin : nxt S mv ∈ A2.map (·.1)
        · rw [decide_eq_true hin]
          exact (if_neg (by decide)).mpr (stB_nil ⟨_, _, wk _ _, List.Sublist.refl _, A2, layer2, rfl, rfl, by rw [epr]; exact hI2.skip hin, hA2⟩)
        · rw [decide_eq_false hin]
          refine (if_pos rfl).mpr (stB_cons (st_setM hX (ev_tup2 (ev_name (i := 4) rfl rfl (ev_name (i := 5) rfl rfl ⟨_, _, dat_d, dat_d, ev_name (i := 1) rfl rfl (ev_name (i := 6) rfl rfl ⟨0, p, akv K A2, sK (nxt S mv), rfl, keyS, rfl, look_akv_out hin, ?_, ?_⟩)⟩)))))
          · unfold akv
            rw [List.length_map, sizeLine_eq]
            omega
          refine stB_one (st_expr (ev_append (ev_name (i := 3) rfl rfl ⟨2, r, _, rfl, rfl, ev_name (i := 6) rfl rfl ⟨2, layer2.map bD, bD (nxt S mv), rfl, dat_d, ?_, ?_⟩⟩)))
          · rw [List.length_map, sizeLine_eq]
            omega
          refine ⟨_, _, wk _ _, List.Sublist.refl _, A2 ++ [(nxt S mv, some (S, mv), lays.length + 1)], layer2 ++ [nxt S mv], rfl, ?_, by rw [epr]; exact hI2.add hin hSm hFm, by rw [List.length_append, List.length_append, List.length_singleton, List.length_singleton]; omega⟩
          unfold akv
          rw [List.map_append, List.map_append]
          rfl
      · rintro Γ Ω ⟨A2, layer2, rfl, rfl, hI2, hA2⟩
        refine ⟨_, _, .yes Sub.rfl (.yes Sub.rfl (.yes Sub.rfl (.yes Sub.rfl (.no (.no (.no .nil)))))), List.Sublist.refl _, A2, layer2, rfl, rfl, ?_, hA2⟩
        have e : (Last.take (i + 1)).flatMap FlP = (Last.take i).flatMap FlP ++ (FlP S).take ((movesL S).map (folD S)).length := by
          rw [take_snoc hS, List.flatMap_append, List.flatMap_singleton, List.length_map]
          have : (FlP S).take (movesL S).length = FlP S := List.take_of_length_le (by unfold FlP; rw [List.length_map]; exact Nat.le_refl _)
          rw [this]
        rw [e]
        exact hI2
    rintro Γ Ω ⟨A2, layer2, rfl, rfl, hI2, hA2⟩
    rw [List.length_map, List.take_length] at hI2
    have hN := hI2.next
    obtain ⟨hAU2, _⟩ := keys_le hN.base hS0 hU.clo
    refine stB_one (st_expr (ev_append (ev_name (i := 2) rfl rfl ⟨1, q, _, rfl, rfl, ev_fz (ev_name (i := 3) rfl rfl ⟨2, r, _, rfl, rfl, 1, _, .list (layer2.map bD), rfl, dat_l, ?_, ?_⟩)⟩)))
    · rw [List.length_append, List.length_singleton, sizeLine_eq]
      omega
    refine ⟨_, _, .yes Sub.rfl (.yes Sub.rfl (.yes Sub.rfl (.no (.no (.no (.no .nil)))))), List.Sublist.refl _, _, ?_, lays.length + 1, A2, lays ++ [.list (Last.map bD)], layer2, rfl, rfl, hN, by rw [List.length_append, List.length_singleton], ?_, rfl⟩
    · by_cases e : layer2 = []
      · rw [if_pos e]; omega
      · rw [if_neg e]
        have := List.length_pos_iff.mpr e
        omega
    · by_cases e : layer2 = []
      · rw [if_pos e]; omega
      · rw [if_neg e]
        have := List.length_pos_iff.mpr e
        omega
end G
set_option Elab.async false
set_option linter.all false
set_option maxRecDepth 100000
set_option maxHeartbeats 4000000
/-! M3: moved bodies. -/
namespace G
def addC (c v : Cell) : Cell := (c.1 + v.1, c.2 + v.2)
theorem movL_eq (L : List Cell) (v : Cell) : movL L v = L.map fun c => addC c v := rfl
theorem addC_inj {v a b : Cell} (h : addC a v = addC b v) : a = b := by
  unfold addC at h
  simp only [Prod.mk.injEq] at h
  exact Prod.ext (by omega) (by omega)
theorem addC_add (c u v : Cell) : addC (addC c u) v = addC c (addC u v) := by unfold addC; simp only [Prod.mk.injEq]; omega
theorem addC_zero (c : Cell) : addC c (0, 0) = c := by unfold addC; simp
theorem mov_mov (L : List Cell) (u v : Cell) : movL (movL L u) v = movL L (addC u v) := by
  rw [movL_eq, movL_eq, movL_eq, List.map_map]
  exact List.map_congr_left fun c _ => addC_add c u v
theorem mov_zero (L : List Cell) : movL L (0, 0) = L := by
  rw [movL_eq]
  conv => rhs; rw [← List.map_id L]
  exact List.map_congr_left fun c _ => addC_zero c
theorem mov_mem {L : List Cell} {v c : Cell} : addC c v ∈ movL L v ↔ c ∈ L := by
  rw [movL_eq, List.mem_map]
  exact ⟨fun ⟨x, hx, e⟩ => by rw [← addC_inj e]; exact hx, fun h => ⟨c, h, rfl⟩⟩
theorem mov_len (L : List Cell) (v : Cell) : (movL L v).length = L.length := List.length_map _
theorem mov_nil {L : List Cell} {v : Cell} : movL L v = [] ↔ L = [] := by rw [movL_eq, List.map_eq_nil_iff]
theorem mov_nd {L : List Cell} {v : Cell} (h : L.Nodup) : (movL L v).Nodup := List.pairwise_map.mpr (h.imp fun h e => h (addC_inj e))
theorem minI_spec {ns : List Int} (h : ns ≠ []) : minI ns ∈ ns ∧ ∀ y ∈ ns, minI ns ≤ y := by
  unfold minI
  cases e : ns.min? with
  | none => rw [List.min?_eq_none_iff] at e; exact absurd e h
  | some m => exact List.min?_eq_some_iff.mp e
theorem minI_add {ns : List Int} (d : Int) (h : ns ≠ []) : minI (ns.map (· + d)) = minI ns + d := by
  obtain ⟨h1, h2⟩ := minI_spec h
  refine (minI_eq (List.mem_map.mpr ⟨_, h1, rfl⟩) fun y hy => ?_).symm
  obtain ⟨x, hx, rfl⟩ := List.mem_map.mp hy
  have := h2 x hx
  omega
theorem cor_mov {L : List Cell} (v : Cell) (h : L ≠ []) : corL (movL L v) = addC (corL L) v := by
  have h1 : colL L ≠ [] := by unfold colL; simpa using h
  have h2 : rowL L ≠ [] := by unfold rowL; simpa using h
  have e1 : colL (movL L v) = (colL L).map (· + v.1) := by unfold colL movL; rw [List.map_map, List.map_map]; rfl
  have e2 : rowL (movL L v) = (rowL L).map (· + v.2) := by unfold rowL movL; rw [List.map_map, List.map_map]; rfl
  unfold corL addC
  rw [e1, e2, minI_add _ h1, minI_add _ h2]
def negC (c : Cell) : Cell := (-c.1, -c.2)
theorem shp_eq (L : List Cell) : shpL L = movL L (negC (corL L)) := rfl
theorem shp_mov {L : List Cell} (v : Cell) (h : L ≠ []) : shpL (movL L v) = shpL L := by
  rw [shp_eq, shp_eq, cor_mov v h, mov_mov]
  congr 1
  unfold addC negC
  simp only [Prod.mk.injEq]
  omega
theorem mov_shp (L : List Cell) : movL (shpL L) (corL L) = L := by
  rw [shp_eq, mov_mov]
  have e : addC (negC (corL L)) (corL L) = (0, 0) := by unfold addC negC; simp only [Prod.mk.injEq]; omega
  rw [e, mov_zero]
theorem cle_mov (a b v : Cell) : cle (addC a v) (addC b v) = cle a b := by
  unfold cle addC
  congr 1
  simp only [eq_iff_iff]
  omega
theorem sort_mov (L : List Cell) (v : Cell) : sortC (movL L v) = movL (sortC L) v := by
  unfold sortC
  rw [movL_eq, movL_eq]
  exact (PySem.W.sort_maps (fun c => addC c v) fun a _ b _ => (cle_mov a b v).symm).symm
theorem cut_mov (L : List Cell) (s v : Cell) : cut (movL L v) (addC s v) = movL (cut L s) v := by
  unfold cut
  rw [movL_eq, movL_eq, List.filter_map]
  congr 1
  refine List.filter_congr fun c _ => ?_
  show decide (addC c v ≠ addC s v) = decide (c ≠ s)
  by_cases e : c = s
  · subst e; simp
  · have e' : addC c v ≠ addC s v := fun z => e (addC_inj z)
    rw [decide_eq_true e, decide_eq_true e']
theorem bes_mov {a b : Cell} (v : Cell) (h : b ∈ besL a) : addC b v ∈ besL (addC a v) := by
  obtain ⟨a1, a2⟩ := a
  obtain ⟨b1, b2⟩ := b
  simp only [besL, addC, List.mem_cons, List.not_mem_nil, or_false, Prod.mk.injEq] at h ⊢
  omega
theorem rch_mov {L : List Cell} {a b : Cell} (v : Cell) (h : Rch L a b) : Rch (movL L v) (addC a v) (addC b v) := by
  induction h with
  | here => exact .here
  | step _ hb hc ih => exact .step ih (bes_mov v hb) (mov_mem.mpr hc)
theorem hang_mov1 {L : List Cell} (v : Cell) (h : Hang L) : Hang (movL L v) := by
  refine ⟨fun z => h.1 (mov_nil.mp z), fun x hx y hy => ?_⟩
  rw [movL_eq] at hx hy
  obtain ⟨x', hx', rfl⟩ := List.mem_map.mp hx
  obtain ⟨y', hy', rfl⟩ := List.mem_map.mp hy
  exact rch_mov v (h.2 x' hx' y' hy')
theorem mov_back (L : List Cell) (v : Cell) : movL (movL L v) (negC v) = L := by
  rw [mov_mov]
  have e : addC v (negC v) = (0, 0) := by unfold addC negC; simp only [Prod.mk.injEq]; omega
  rw [e, mov_zero]
theorem hang_mov (L : List Cell) (v : Cell) : hangB (movL L v) = hangB L := by
  rw [Bool.eq_iff_iff, hangB_iff, hangB_iff]
  exact ⟨fun h => by have := hang_mov1 (negC v) h; rwa [mov_back] at this, hang_mov1 v⟩
theorem supp_mov (L : List Cell) (s e v : Cell) : suppB (movL L v) (addC s v) (addC e v) = suppB L s e := by
  have d1 : (addC e v).1 - (addC s v).1 = e.1 - s.1 := by unfold addC; omega
  have d2 : (addC e v).2 - (addC s v).2 = e.2 - s.2 := by unfold addC; omega
  have m : ∀ c, decide (addC c v ∈ movL L v) = decide (c ∈ L) := fun c => by simp only [mov_mem]
  have sd : sidesL (addC s v) (addC e v) = (sidesL s e).map fun p => (addC p.1 v, addC p.2 v) := by
    unfold sidesL
    rw [d1, d2]
    have a1 : ∀ i, (addC s v).1 + i = s.1 + i + v.1 := fun i => by unfold addC; omega
    have a2 : ∀ i, (addC s v).2 + i = s.2 + i + v.2 := fun i => by unfold addC; omega
    have a3 : ∀ i, (addC e v).1 + i = e.1 + i + v.1 := fun i => by unfold addC; omega
    have a4 : ∀ i, (addC e v).2 + i = e.2 + i + v.2 := fun i => by unfold addC; omega
    simp only [a1, a2, a3, a4]
    rfl
  have cn : cornL (addC s v) (addC e v) = (cornL s e).map fun c => addC c v := by
    unfold cornL
    rw [d1, d2]
    have a1 : ∀ i, (addC s v).1 + i = s.1 + i + v.1 := fun i => by unfold addC; omega
    have a2 : ∀ i, (addC s v).2 + i = s.2 + i + v.2 := fun i => by unfold addC; omega
    simp only [a1, a2]
    rfl
  unfold suppB
  rw [d1, d2, sd, cn, List.any_map, List.filter_map, List.length_map, m]
  have m2 : decide (addC s v ∉ movL L v) = decide (s ∉ L) := by simp only [mov_mem]
  rw [m2]
  congr 1
  congr 1
  · congr 1
    funext p
    show (decide (addC p.1 v ∈ movL L v) && decide (addC p.2 v ∈ movL L v)) = _
    rw [m, m]
  · have hf : ((cornL s e).filter ((fun c => decide (c ∈ movL L v)) ∘ fun c => addC c v)) = (cornL s e).filter fun c => decide (c ∈ L) := List.filter_congr fun c _ => m c
    rw [hf]
theorem can_mov (L : List Cell) (s e v : Cell) : canB (movL L v) (addC s v) (addC e v) = canB L s e := by
  unfold canB
  rw [supp_mov, cut_mov, hang_mov]
theorem done_mov (L : List Cell) (s e v : Cell) : doneL (movL L v) (addC s v) (addC e v) = movL (doneL L s e) v := by
  unfold doneL
  rw [cut_mov, ← sort_mov]
  congr 1
  rw [movL_eq, movL_eq, List.map_append]; rfl
def addM (m : Mv) (v : Cell) : Mv := (addC m.1 v, addC m.2 v)
/-- the plan told from here, and the body at its end -/
def planL : List Cell → List Mv → List Mv × List Cell
  | here, [] => ([], here)
  | here, m :: ms =>
    let mv := addM m (corL here)
    let r := planL (doneL here mv.1 mv.2) ms
    (mv :: r.1, r.2)
theorem nxt_step {here : List Cell} {m : Mv} (hne : here ≠ []) : doneL here (addM m (corL here)).1 (addM m (corL here)).2 = movL (doneL (shpL here) m.1 m.2) (corL here) := by
  have h := done_mov (shpL here) m.1 m.2 (corL here)
  rw [mov_shp] at h
  exact h
theorem shp_step {here : List Cell} {m : Mv} (hne : here ≠ []) : shpL (doneL here (addM m (corL here)).1 (addM m (corL here)).2) = nxt (shpL here) m := by
  rw [nxt_step hne, shp_mov _ (doneL_ne _ _ _)]
  rfl
theorem move_ok {here : List Cell} {m : Mv} (hm : m ∈ movesL (shpL here)) : (addM m (corL here)).1 ∈ here ∧ canB here (addM m (corL here)).1 (addM m (corL here)).2 = true := by
  obtain ⟨h1, h2⟩ := movesL_ok hm
  refine ⟨?_, ?_⟩
  · have := (mov_mem (L := shpL here) (v := corL here)).mpr h1
    rwa [mov_shp] at this
  · have := can_mov (shpL here) m.1 m.2 (corL here)
    rw [mov_shp] at this
    rw [← h2, ← this]; rfl
theorem cut_mem_len {L : List Cell} {s : Cell} (hn : L.Nodup) (h : s ∈ L) (e : Cell) : (doneL L s e).length = L.length := by
  unfold doneL
  rw [sortC_len, List.length_append, List.length_singleton]
  exact cut_len hn h
theorem sortC_nd {L : List Cell} (h : L.Nodup) : (sortC L).Nodup := (List.mergeSort_perm L cle).nodup_iff.mpr h
theorem done_nd {L : List Cell} {s e : Cell} (hn : L.Nodup) (he : e ∉ L) : (doneL L s e).Nodup := by
  refine sortC_nd (List.nodup_append.mpr ⟨cut_nd hn, by simp, ?_⟩)
  intro a ha b hb z
  have hb' : b = e := by simpa using hb
  exact he (by rw [← hb', ← z]; exact (mem_cut.mp ha).1)
theorem can_out {L : List Cell} {s e : Cell} (h : canB L s e = true) : e ∉ L := fun z => by
  unfold canB suppB at h
  simp [z] at h
theorem chain_end {here : List Cell} {ms : List Mv} {T : Shp} (hne : here ≠ []) (h : Chain FlP (shpL here) ms T) : shpL (planL here ms).2 = T ∧ (planL here ms).2 ≠ [] ∧ (planL here ms).1.length = ms.length := by
  induction ms generalizing here with
  | nil =>
    cases h
    exact ⟨rfl, hne, rfl⟩
  | cons m ms ih =>
    cases h with
    | cons hm hc =>
      unfold FlP at hm
      obtain ⟨m', hm', e⟩ := List.mem_map.mp hm
      simp only [Prod.mk.injEq] at e
      obtain ⟨rfl, rfl⟩ := e
      rw [← shp_step hne] at hc
      have := ih (doneL_ne _ _ _) hc
      exact ⟨this.1, this.2.1, congrArg (· + 1) this.2.2⟩
end G
set_option Elab.async false
set_option linter.all false
set_option maxRecDepth 100000
set_option maxHeartbeats 4000000
namespace G
open PySem PySem.Spec PyProof.Rows L2 RZ
variable {P : Program} {w : World} {K : PySem.W.Frag} {mg : Str → Option Value} {base : Heap}
/-! ### check_body, where it is one -/
theorem okBody {L : List Cell} (hl : L.length ≤ 1000) : OkO (some (bD L)) where
  nd := fun d h => by cases h; rfl
  it := fun ds h => by
    cases h
    refine ⟨by rw [List.length_map]; exact hl, fun x hx => ?_⟩
    obtain ⟨c, _, rfl⟩ := List.mem_map.mp hx
    exact cell_nd c
theorem cellC_cD (c : Cell) : cellC (cD c) = c := rfl
theorem bodyB_D (L : List Cell) : bodyB (some (bD L)) = (incB L && hangB L) := by
  show ((L.map cD).all cellB && (incB ((L.map cD).map cellC) && hangB ((L.map cD).map cellC))) = _
  have e : (L.map cD).map cellC = L := by
    rw [List.map_map]
    conv => rhs; rw [← List.map_id L]
    exact List.map_congr_left fun c _ => cellC_cD c
  have h : (L.map cD).all cellB = true := List.all_eq_true.mpr fun d hd => by
    obtain ⟨c, _, rfl⟩ := List.mem_map.mp hd
    rfl
  rw [e, h]; rfl
noncomputable def spCheckBody (K : PySem.W.Frag) : Sp := spP (fun o => OkO o ∧ bodyB o = true) (fun o => [oddM K o]) (fun _ φ => φ = isD K .none)
theorem sc_checkBody : FnScope ["body"] ["body"] (defScope (top 23)) := ⟨rfl, rfl, rfl, by decide +kernel, rfl, by decide +kernel, by decide +kernel⟩
theorem h_checkBody (T : Txt K mg) : Has P w K mg base 13 "check_body" (spCheckBody K) := by
  obtain ⟨f, fd, F, m⟩ := T.check_body
  refine ⟨f, fd, ["body"], defP F sc_checkBody (kk := 12) (by decide) (fun _ => rfl) ?_, m, F.kp, F.binds fun _ _ _ _ _ _ us hl => match us, hl with | [_], _ => rfl⟩
  rintro cdv A outer s H E hr o ⟨ho, hb⟩
  refine stB_one (st_if (evT_not (evT_val (ev_call ((h_isBody T).cal hr) (evA_cons (ev_name (i := 0) rfl rfl (evA_nil ⟨o, ho, Subs.rfl, ?_⟩)))))))
  rintro φ rfl
  rw [hb]
  exact ⟨true, rfl, stB_nil rfl⟩
/-! ### Least -/
def mthS (s : Stmt) (i : Nat) : Stmt := match s with
  | .ClassDef _ _ _ body .. => body.getD i s
  | s => s
def initS : Stmt := mthS (top 33) 0
structure LeastF (K : PySem.W.Frag) (mg : Str → Option Value) (C : Addr) : Prop where
  gl : mg "Least" = some (.ref C)
  cls : Cls K C
  n1 : NoAttr K C "plan"
  n2 : NoAttr K C "by"
  mak : ∃ f fd, Mk K C f ∧ Fun K "__init__" "Least.__init__" initS f fd
def leastFs (K : PySem.W.Frag) (d1 d2 : PyData) : List (Str × MP) := [("plan", isD K d1), ("by", isD K d2)]
def spInit (K : PySem.W.Frag) (C : Addr) : Sp := spM (fun _ : PyData × PyData => True) (fun _ _ => insO C []) (fun x => [isD K x.1, isD K x.2]) (fun x _ ψ φ => ψ = insO C (leastFs K x.1 x.2) ∧ φ = isD K .none)
theorem sc_init : FnScope ["self", "plan", "by"] ["self", "plan", "by"] (defScope initS) := ⟨rfl, rfl, rfl, by decide +kernel, rfl, by decide +kernel, by decide +kernel⟩
theorem h_init {C f : Addr} {fd : FuncData} (L : LeastF K mg C) (F : Fun K "__init__" "Least.__init__" initS f fd) : FnOk P w K mg base CX0 5 f fd ["self", "plan", "by"] (spInit K C) := by
  refine defM F sc_init (kk := 4) (by decide) (fun _ => rfl) ?_
  rintro cdv A outer s H E hr ⟨d1, d2⟩ p -
  refine stB_cons (st_fld L.cls L.n1 (ev_name (i := 1) rfl rfl (ev_name (i := 0) rfl rfl ⟨0, p, [], rfl, rfl, (by simp), (by decide), ?_⟩)))
  refine stB_one (st_fld L.cls L.n2 (ev_name (i := 2) rfl rfl (ev_name (i := 0) rfl rfl ⟨0, p, _, rfl, rfl, (show ("by" : Str) ∉ (["plan"] : List Str) by decide), (show 1 < 1000 by decide), ?_⟩)))
  exact ⟨_, List.mem_cons_self, rfl, rfl⟩
end G
set_option Elab.async false
set_option linter.all false
set_option maxRecDepth 100000
set_option maxHeartbeats 4000000
namespace G
open PySem PySem.Spec PyProof.Rows L2 RZ
variable {P : Program} {w : World} {K : PySem.W.Frag} {mg : Str → Option Value} {base : Heap}
structure LpA where
  L : List Cell
  M : List Cell
  U : List Shp
structure LpOk (x : LpA) : Prop where
  b1 : incB x.L = true ∧ hangB x.L = true
  b2 : incB x.M = true ∧ hangB x.M = true
  len : x.M.length = x.L.length
  n7 : 1 ≤ x.L.length ∧ x.L.length ≤ 7
  uni : Uni x.U
  s1 : shpL x.L ∈ x.U
  wk : ∃ n, Wk FlP (shpL x.L) n (shpL x.M)
def byL (here M : List Cell) : Cell := ((corL here).1 - (corL M).1, (corL here).2 - (corL M).2)
structure LpRes (x : LpA) (ms : List Mv) : Prop where
  ch : Chain FlP (shpL x.L) ms (shpL x.M)
  min : ∀ n, Wk FlP (shpL x.L) n (shpL x.M) → ms.length ≤ n
noncomputable def spPlan (K : PySem.W.Frag) (C : Addr) : Sp := spP LpOk (fun x => [isD K (bD x.L), isD K (bD x.M)]) (fun x φ => ∃ ms, LpRes x ms ∧ φ = isI C (leastFs K (msD (planL x.L ms).1) (cD (byL (planL x.L ms).2 x.M))))
theorem sc_plan : FnScope ["body", "other", "ahead", "steps", "at", "move", "here", "plan", "start", "end", "column", "row", "now", "then"] ["body", "other"] (defScope (top 38)) := ⟨rfl, rfl, rfl, by decide +kernel, rfl, by decide +kernel, by decide +kernel⟩
theorem chain_len {ms : List Mv} {S T : Shp} {n : Nat} {s0 : Shp} (h : Chain FlP S ms T) (w : Wk FlP s0 n S) : Wk FlP s0 (n + ms.length) T := by
  induction ms generalizing S n with
  | nil => cases h; exact w
  | cons m ms ih =>
    cases h with
    | cons hm hc =>
      have := ih hc (.step w hm)
      rw [List.length_cons, show n + (ms.length + 1) = n + 1 + ms.length by omega]
      exact this
theorem lev_all {A : List (BEnt Shp Mv)} {s0 : Shp} (h : Bfs FlP s0 A) : ∀ n T o, (T, o, n) ∈ A → ∀ k ≤ n, k ∈ A.map fun x => x.2.2
  | 0, T, o, q, k, hk => by
    have : k = 0 := by omega
    subst this
    exact List.mem_map.mpr ⟨_, q, rfl⟩
  | n + 1, T, o, q, k, hk => by
    by_cases e : k = n + 1
    · subst e
      exact List.mem_map.mpr ⟨_, q, rfl⟩
    · cases o with
      | none => obtain ⟨_, e⟩ := h.non T _ q; omega
      | some x =>
        obtain ⟨_, o', l, hS, e2⟩ := h.som T x.1 x.2 _ q
        have : l = n := by omega
        subst this
        exact lev_all h l x.1 o' hS k (by omega)
theorem lev_lt {A : List (BEnt Shp Mv)} {s0 : Shp} (h : Bfs FlP s0 A) {n : Nat} {T : Shp} {o : Option (Shp × Mv)} (q : (T, o, n) ∈ A) : n + 1 ≤ A.length := by
  have z := List.Nodup.length_le_of_subset (List.nodup_range (n := n + 1)) (l₂ := A.map fun x => x.2.2) fun k hk => lev_all h n T o q k (by have := List.mem_range.mp hk; omega)
  rwa [List.length_range, List.length_map] at z
theorem len_ne {L : List Cell} (h : 1 ≤ L.length) : L ≠ [] := fun z => by rw [z] at h; simp at h
theorem h_plan {C : Addr} (T : Txt K mg) (U : Arnd K mg) (Lf : LeastF K mg C) : Has P w K mg base 17 "least_plan" (spPlan K C) := by
  obtain ⟨f, fd, F, m⟩ := T.least_plan
  refine ⟨f, fd, ["body", "other"], defP F sc_plan (kk := 16) (by decide) (fun _ => rfl) ?_, m, F.kp, F.binds fun _ _ _ _ _ _ us hl => match us, hl with | [_, _], _ => rfl⟩
  rintro cdv A0 outer s0 H E hr ⟨L, M, Us⟩ ⟨⟨i1, g1⟩, ⟨i2, g2⟩, hlen, ⟨n1, n7⟩, hU, hs1, ⟨n0, hwk⟩⟩
  replace i1 : incB L = true := i1
  replace g1 : hangB L = true := g1
  replace i2 : incB M = true := i2
  replace g2 : hangB M = true := g2
  replace hlen : M.length = L.length := hlen
  replace n1 : 1 ≤ L.length := n1
  replace n7 : L.length ≤ 7 := n7
  replace hU : Uni Us := hU
  replace hs1 : shpL L ∈ Us := hs1
  replace hwk : Wk FlP (shpL L) n0 (shpL M) := hwk
  have hX := nor_of (P := P) (w := w) (K := K) (mg := mg) (base := base) (CX := CX0) (outer := outer) (H := H) (E := E) sc_plan.nd hr (by decide)
  have neL : L ≠ [] := len_ne n1
  have neM : M ≠ [] := len_ne (by omega)
  have ndL : L.Nodup := pair_nd (inc_pair i1)
  refine stB_cons (st_expr (ev_call ((h_checkBody T).cal hr) (evA_cons (ev_name (i := 0) rfl rfl (evA_nil ⟨some (bD L), ⟨okBody (by omega), by rw [bodyB_D, i1, g1]; rfl⟩, Subs.rfl, ?_⟩)))))
  rintro φ rfl
  refine stB_cons (st_expr (ev_call ((h_checkBody T).cal hr) (evA_cons (ev_name (i := 1) rfl rfl (evA_nil ⟨some (bD M), ⟨okBody (by omega), by rw [bodyB_D, i2, g2]; rfl⟩, Subs.rfl, ?_⟩)))))
  rintro φ rfl
  obtain ⟨t7, h7⟩ := T.most
  refine stB_cons (st_expr (ev_call ((h_number T).cal hr) (evA_cons (ev_len T.n_len (ev_name (i := 0) rfl rfl ⟨L.map cD, .t, evA_cons (ev_glob (v := .int 7) (φ := isD K (.int 7)) h7 ⟨t7, rfl⟩ (fun F => .int 7) (evA_nil ⟨(((L.map cD).length : Nat), 7), ⟨?_, ?_⟩, Subs.rfl, ?_⟩))⟩)))))
  · rw [List.length_map]; show (1 : Int) ≤ (L.length : Nat); omega
  · rw [List.length_map]; show ((L.length : Nat) : Int) ≤ 7; omega
  rintro φ rfl
  refine stB_cons (st_if (evT_neD hX (ev_len T.n_len (ev_name (i := 1) rfl rfl ⟨M.map cD, .t, ev_len T.n_len (ev_name (i := 0) rfl rfl ⟨L.map cD, .t, _, _, true, dq_d, dq_d, rfl, rfl, ?_, ?_⟩)⟩))))
  · rw [eqv_int, List.length_map, List.length_map, hlen]; simp
  refine (if_neg (by decide)).mpr (stB_nil ?_)
  refine stB_cons (st_par3 (i := 2) (j := 3) (l := 4) hX rfl rfl rfl (by decide) (by decide) (by decide) (evA_cons (ev_ixTm (ev_call ((h_spread T U).cal hr) (evA_cons (ev_call ((h_shape T).cal hr) (evA_cons (ev_name (i := 0) rfl rfl (evA_nil ⟨L, neL, Subs.rfl, ?_⟩)))))))))
  rintro φ rfl
  refine evA_nil ⟨(shpL L, Us), ⟨hU, hs1⟩, Subs.rfl, ?_⟩
  rintro φ ⟨A, ψ, rfl, hA⟩
  replace hA : BfsEnd FlP (shpL L) A := hA
  refine ev_int ⟨_, 0, _, rfl, rfl, rfl, evA_cons (ev_lst0 fun q => evA_cons (ev_call ((h_shape T).cal hr) (evA_cons (ev_name (i := 1) rfl rfl (evA_nil ⟨M, neM, Subs.rfl, ?_⟩)))))⟩
  rintro φ rfl
  refine evA_nil ⟨_, _, _, rfl, ?_⟩
  obtain ⟨oM, nM, hMA, hle⟩ := hA.wk hwk
  obtain ⟨hAU, hAm⟩ := keys_le hA.base hs1 hU.clo
  have hUl := hU.len
  have lvl := lev_lt hA.base hMA
  refine stB_cons (st_while hX (fun l Γ Ω => ∃ (T : Shp) (o : Option (Shp × Mv)) (ms : List Mv), Γ = [some (isD K (bD L)), some (isD K (bD M)), some (isM P w K (akv K A)), some (isV (.ref q)), some (isD K (bD T)), none, none, none, none, none, none, none, none, none] ∧
    Ω = [(q, lstO K (ms.map mD))] ∧ (T, o, l) ∈ A ∧ Chain FlP T ms.reverse (shpL M) ∧ ms.length + l = nM) nM ⟨shpL M, oM, [], rfl, rfl, hMA, .nil, by simp⟩ ?_)
  rintro l Γ Ω ⟨T', o, ms, rfl, rfl, hT, hch, hml⟩
  refine evT_isNot (ev_ixM hX (ev_name (i := 2) rfl rfl (ev_name (i := 4) rfl rfl ⟨sK T', akv K A, _, .m, keyS, look_akv_in hA.base.nd hT, _, rfl, ?_⟩)))
  cases o with
  | some Sm =>
    obtain ⟨S, mv⟩ := Sm
    obtain ⟨hmv, o', l', hS, rfl⟩ := hA.base.som T' S mv l hT
    refine (if_pos rfl).mpr (stB_cons (st_asg (ev_ixM hX (ev_name (i := 2) rfl rfl (ev_name (i := 4) rfl rfl ⟨sK T', akv K A, _, .m, keyS, look_akv_in hA.base.nd hT, tgt_pair (i := 4) (j := 5) (d1 := bD S) (d2 := mD mv) hX.calm hX.nd rfl rfl ?_⟩)))))
    refine stB_one (st_expr (ev_append (ev_name (i := 3) rfl rfl ⟨0, q, _, rfl, rfl, ev_name (i := 5) rfl rfl ⟨0, ms.map mD, mD mv, rfl, dat_d, ?_, ?_⟩⟩)))
    · rw [List.length_map, sizeLine_eq]
      omega
    refine ⟨_, _, .yes Sub.rfl (.yes Sub.rfl (.yes Sub.rfl (.yes Sub.rfl (.yes Sub.rfl (.no (.no (.no (.no (.no (.no (.no (.no (.no .nil))))))))))))), List.Sublist.refl _, l', Nat.lt_succ_self _, S, o', ms ++ [mv], rfl, by rw [List.map_append]; rfl, hS, ?_, ?_⟩
    · rw [List.reverse_append]
      exact .cons hmv hch
    · rw [List.length_append, List.length_singleton]; omega
  | none =>
    obtain ⟨rfl, rfl⟩ := hA.base.non T' l hT
    refine (if_neg (by decide)).mpr ?_
    have hres : LpRes ⟨L, M, Us⟩ ms.reverse := by
      refine ⟨hch, fun n hn => ?_⟩
      obtain ⟨o2, l2, h1, h2⟩ := hA.wk hn
      have := (hA.base.one hMA h1).2
      rw [List.length_reverse]
      omega
    generalize hpath : ms.reverse = path at hch hres
    have hpl : path.length ≤ 10000 := by rw [← hpath, List.length_reverse]; omega
    refine stB_cons (st_par2 (i := 6) (j := 7) hX rfl rfl (by decide) (evA_cons (ev_name (i := 0) rfl rfl (evA_cons (ev_lst0 fun r => evA_nil ⟨_, _, rfl, ?_⟩)))))
    refine stB_cons (st_forI hX (evI_list (ev_revL (ev_name (i := 3) rfl rfl ⟨ms.map mD, .o (j := 0) rfl, _, .l, ?_⟩))))
    rw [← List.map_reverse, hpath]
    refine ⟨fun i Γ Ω => ∃ h pl, Γ = [some (isD K (bD L)), some (isD K (bD M)), some (isM P w K (akv K A)), some (isV (.ref q)), some (isD K (bD (shpL L))), none, some (isD K (bD h)), some (isV (.ref r)), none, none, none, none, none, none] ∧
      Ω = [(q, lstO K (ms.map mD)), (r, lstO K (pl.map mD))] ∧ (pl ++ (planL h (path.drop i)).1, (planL h (path.drop i)).2) = planL L path ∧ h.Nodup ∧ h.length = L.length ∧ Chain FlP (shpL h) (path.drop i) (shpL M) ∧ pl.length = i, ?_, ?_, ?_⟩
    · exact ⟨L, [], rfl, rfl, rfl, ndL, rfl, hch, rfl⟩
    · rintro i d Γ Ω hd ⟨h, pl, rfl, rfl, he, hnd, hhl, hc, hi⟩
      rw [List.getElem?_map] at hd
      obtain ⟨mv, hmv, rfl⟩ := Option.map_eq_some_iff.mp hd
      have hdr : path.drop i = mv :: path.drop (i + 1) := by
        obtain ⟨h1, h2⟩ := List.getElem?_eq_some_iff.mp hmv
        rw [List.drop_eq_getElem_cons h1, h2]
      have hneh : h ≠ [] := len_ne (by omega)
      have hip : i < path.length := (List.getElem?_eq_some_iff.mp hmv).1
      rw [hdr] at hc he
      have hmm : mv ∈ movesL (shpL h) ∧ Chain FlP (nxt (shpL h) mv) (path.drop (i + 1)) (shpL M) := by
        cases hc with
        | cons hm hc2 =>
          unfold FlP at hm
          obtain ⟨m', hm', e⟩ := List.mem_map.mp hm
          simp only [Prod.mk.injEq] at e
          obtain ⟨rfl, rfl⟩ := e
          exact ⟨hm', hc2⟩
      obtain ⟨hmo1, hmo2⟩ := move_ok hmm.1
      refine tgt_pair (i := 8) (j := 9) (d1 := cD mv.1) (d2 := cD mv.2) hX.calm hX.nd rfl rfl (stB_cons (st_asg (ev_call ((h_corner T).cal hr) (evA_cons (ev_name (i := 6) rfl rfl (evA_nil ⟨h, hneh, Subs.rfl, ?_⟩))))))
      rintro φ rfl
      refine tgt_pair (i := 10) (j := 11) (d1 := .int (corL h).1) (d2 := .int (corL h).2) hX.calm hX.nd rfl rfl (stB_cons (st_set (i := 5) hX rfl (ev_tup2 (ev_tup2 ?_))))
      refine ev_addI (ev_ixT (ev_name (i := 8) rfl rfl (ev_int ⟨_, 0, _, rfl, rfl, rfl, ev_name (i := 10) rfl rfl ⟨_, _, rfl, rfl, ?_⟩⟩)))
      refine ev_addI (ev_ixT (ev_name (i := 8) rfl rfl (ev_int ⟨_, 1, _, rfl, rfl, rfl, ev_name (i := 11) rfl rfl ⟨_, _, rfl, rfl, _, _, dat_d, dat_d, ?_⟩⟩)))
      refine ev_tup2 (ev_addI (ev_ixT (ev_name (i := 9) rfl rfl (ev_int ⟨_, 0, _, rfl, rfl, rfl, ev_name (i := 10) rfl rfl ⟨_, _, rfl, rfl, ?_⟩⟩))))
      refine ev_addI (ev_ixT (ev_name (i := 9) rfl rfl (ev_int ⟨_, 1, _, rfl, rfl, rfl, ev_name (i := 11) rfl rfl ⟨_, _, rfl, rfl, _, _, dat_d, dat_d, _, _, dat_d, dat_d, ?_⟩⟩)))
      refine stB_cons (st_expr (ev_append (ev_name (i := 7) rfl rfl ⟨1, r, _, rfl, rfl, ev_name (i := 5) rfl rfl ⟨1, pl.map mD, mD (addM mv (corL h)), rfl, dat_d, ?_, ?_⟩⟩)))
      · rw [List.length_map, sizeLine_eq]; omega
      refine stB_one (st_set (i := 6) hX rfl (ev_call ((h_done T).cal hr) (evA_cons (ev_name (i := 6) rfl rfl (evA_cons (ev_ixT (ev_name (i := 5) rfl rfl (ev_int ⟨_, 0, _, rfl, rfl, rfl, ?_⟩))))))))
      refine evA_cons (ev_ixT (ev_name (i := 5) rfl rfl (ev_int ⟨_, 1, _, rfl, rfl, rfl, evA_nil ⟨(h, (addM mv (corL h)).1, (addM mv (corL h)).2), ⟨hnd, ?_, hmo1, hmo2⟩, Subs.rfl, ?_⟩⟩)))
      · show h.length ≤ 1000
        omega
      rintro φ rfl
      refine ⟨_, _, .yes Sub.rfl (.yes Sub.rfl (.yes Sub.rfl (.yes Sub.rfl (.yes Sub.rfl (.no (.yes Sub.rfl (.yes Sub.rfl (.no (.no (.no (.no (.no (.no .nil))))))))))))), List.Sublist.refl _, doneL h (addM mv (corL h)).1 (addM mv (corL h)).2, pl ++ [addM mv (corL h)], rfl, ?_, ?_, ?_, ?_, ?_, ?_⟩
      · rw [List.map_append]; rfl
      · rw [← he, List.append_assoc]; rfl
      · exact done_nd hnd (can_out hmo2)
      · rw [cut_mem_len hnd hmo1]; exact hhl
      · rw [shp_step hneh]; exact hmm.2
      · rw [List.length_append, List.length_singleton]; omega
    rintro Γ Ω ⟨h, pl, rfl, rfl, he, hnd, hhl, hc, hi⟩
    have hdr : path.drop ((path.map mD).length) = [] := by rw [List.length_map]; exact List.drop_length
    rw [hdr] at he
    have hneh : h ≠ [] := len_ne (by omega)
    have e1 : pl = (planL L path).1 := by rw [← he]; show pl = pl ++ []; rw [List.append_nil]
    have e2 : h = (planL L path).2 := by rw [← he]; rfl
    refine stB_cons (st_par2 (i := 12) (j := 13) hX rfl rfl (by decide) (evA_cons (ev_call ((h_corner T).cal hr) (evA_cons (ev_name (i := 6) rfl rfl (evA_nil ⟨h, hneh, Subs.rfl, ?_⟩))))))
    rintro φ rfl
    refine evA_cons (ev_call ((h_corner T).cal hr) (evA_cons (ev_name (i := 1) rfl rfl (evA_nil ⟨M, neM, Subs.rfl, ?_⟩))))
    rintro φ rfl
    refine evA_nil ⟨_, _, rfl, ?_⟩
    obtain ⟨fi, fdi, Mk1, Fi⟩ := Lf.mak
    refine stB_one (st_ret (ev_make Mk1 (h_init Lf Fi) (hr.mono (by decide)) Lf.gl (Fi.binds fun _ _ _ _ _ _ us hl => match us, hl with | [_, _, _], _ => rfl) (evA_cons (ev_tupL T.n_tuple boot_tuple (ev_name (i := 7) rfl rfl ⟨_, .o (j := 1) rfl, ?_⟩)))))
    refine evA_cons (ev_tup2 (ev_subI (ev_ixT (ev_name (i := 12) rfl rfl (ev_int ⟨_, 0, _, rfl, rfl, rfl, ?_⟩)))))
    refine ev_ixT (ev_name (i := 13) rfl rfl (ev_int ⟨_, 0, _, rfl, rfl, rfl, _, _, rfl, rfl, ?_⟩))
    refine ev_subI (ev_ixT (ev_name (i := 12) rfl rfl (ev_int ⟨_, 1, _, rfl, rfl, rfl, ?_⟩)))
    refine ev_ixT (ev_name (i := 13) rfl rfl (ev_int ⟨_, 1, _, rfl, rfl, rfl, _, _, rfl, rfl, _, _, dat_d, dat_d, ?_⟩))
    refine evA_nil ⟨(msD pl, cD (byL h M)), trivial, Subs.rfl, path, hres, ?_⟩
    rw [e1, e2]
    rfl
end G
set_option Elab.async false
set_option linter.all false
set_option maxRecDepth 100000
set_option maxHeartbeats 4000000
namespace G
open PySem PySem.Spec PyProof.Rows L2 RZ
variable {P : Program} {w : World} {K : PySem.W.Frag} {mg : Str → Option Value} {base : Heap}
/-! ### the pen -/
structure Pen where
  sc : List Int
  at_ : Nat
  dig : Int
  cnt : Nat
  fold : Int
structure PenOk (p : Pen) (n : Nat) : Prop where
  dg : 0 ≤ p.dig
  ct : p.cnt ≤ n
  f0 : 0 ≤ p.fold
  f1 : p.fold < 2147483587
def penF (K : PySem.W.Frag) (p : Pen) : List (Str × MP) := [("cells", isL K (p.sc.map .int)), ("at", isD K (.int (p.at_ : Nat))), ("digits", isD K (.int p.dig)), ("count", isD K (.int (p.cnt : Nat))), ("fold", isD K (.int p.fold))]
def spPen (K : PySem.W.Frag) : Sp := spN (fun _ : List Int => True) (fun sc => [isD K (.list (sc.map .int))]) (fun sc _ ψ => ∃ pen, PenOk pen 0 ∧ ψ = dkO (penF K pen))
theorem sc_pen : FnScope ["_law_script", "_law_fold", "_law_cell"] ["_law_script"] (defScope (top 40)) := ⟨rfl, rfl, rfl, by decide +kernel, rfl, by decide +kernel, by decide +kernel⟩
theorem h_pen (T : Txt K mg) : Has P w K mg base 5 "_law_pen" (spPen K) := by
  obtain ⟨f, fd, F, m⟩ := T.law_pen
  refine ⟨f, fd, ["_law_script"], defN F sc_pen (kk := 4) (fun _ => rfl) ?_, m, F.kp, F.binds fun _ _ _ _ _ _ us hl => match us, hl with | [_], _ => rfl⟩
  rintro cdv A outer s H E hr sc -
  have hX := nor_of (P := P) (w := w) (K := K) (mg := mg) (base := base) (CX := CX0) (outer := outer) (H := H) (E := E) sc_pen.nd hr (by decide)
  refine stB_cons (st_set (i := 1) hX rfl (ev_int ?_))
  refine stB_cons (st_forI hX (evI_list (ev_name (i := 0) rfl rfl ⟨_, .d, fun i Γ Ω => ∃ f : Int, 0 ≤ f ∧ f < 1000000007 ∧ Γ = [some (isD K (.list (sc.map .int))), some (isD K (.int f)), none] ∧ Ω = [], ⟨0, by decide, by decide, rfl, rfl⟩, ?_, ?_⟩)))
  · rintro i d Γ Ω hd ⟨f0, h0, h1, rfl, rfl⟩
    rw [List.getElem?_map] at hd
    obtain ⟨c, hc, rfl⟩ := Option.map_eq_some_iff.mp hd
    refine tgt_name (i := 2) hX.nd rfl (stB_one (st_set (i := 1) hX rfl (ev_modI (ev_intI T.n_int (by rfl) (ev_addI (ev_mulI (ev_name (i := 1) rfl rfl (ev_int ⟨_, _, rfl, rfl, .inr ⟨by decide, by decide⟩, ev_name (i := 2) rfl rfl ⟨_, _, rfl, rfl, _, rfl, ev_int ⟨_, _, rfl, rfl, by decide, ?_⟩⟩⟩))))))))
    exact ⟨_, _, .yes Sub.rfl (.yes Sub.rfl (.no .nil)), List.Sublist.refl _, _, Int.emod_nonneg _ (by decide), Int.emod_lt_of_pos _ (by decide), rfl, rfl⟩
  rintro Γ Ω ⟨f0, h0, h1, rfl, rfl⟩
  refine stB_one (st_ret (ev_disp5 (by decide) fun p => ev_listOf T.n_list boot_list (ev_name (i := 0) rfl rfl ⟨_, .l .d, ev_int (ev_int (ev_int (ev_name (i := 1) rfl rfl ⟨0, rfl, ?_⟩)))⟩)))
  exact ⟨p, _, rfl, List.mem_cons_self, ⟨sc, 0, 0, 0, f0⟩, ⟨Int.le_refl 0, Nat.le_refl 0, h0, by show f0 < 2147483587; omega⟩, rfl⟩
/-! ### draw -/
structure DrA where
  pen : Pen
  n : Nat
  many : Int
structure DrOk (x : DrA) : Prop where
  pen : PenOk x.pen x.n
  n1 : x.n ≤ 1000000
  m0 : 0 < x.many
  m1 : x.many < 1073741824
def penR (K : PySem.W.Frag) (n : Nat) (ψ : MO) : Prop := ∃ pen, PenOk pen n ∧ ψ = dkO (penF K pen)
def spDraw (K : PySem.W.Frag) : Sp := spM DrOk (fun x _ => dkO (penF K x.pen)) (fun x => [isD K (.int x.many)]) (fun x _ ψ φ => penR K (x.n + 1) ψ ∧ ∃ r, φ = isD K (.int r) ∧ 0 ≤ r ∧ r < x.many)
theorem sc_draw : FnScope ["_law_pen_here", "_law_many", "_law_cell", "_law_digit", "_law_blend"] ["_law_pen_here", "_law_many"] (defScope (top 41)) := ⟨rfl, rfl, rfl, by decide +kernel, rfl, by decide +kernel, by decide +kernel⟩
theorem h_draw (T : Txt K mg) : Has P w K mg base 5 "_law_draw" (spDraw K) := by
  obtain ⟨f, fd, F, m⟩ := T.law_draw
  refine ⟨f, fd, ["_law_pen_here", "_law_many"], defM F sc_draw (kk := 4) (by decide) (fun _ => rfl) ?_, m, F.kp, F.binds fun _ _ _ _ _ _ us hl => match us, hl with | [_, _], _ => rfl⟩
  rintro cdv A outer s H E hr ⟨pen, n, many⟩ p ⟨hp, hn, hm0, hm1⟩
  replace hn : n ≤ 1000000 := hn
  replace hm0 : 0 < many := hm0
  replace hm1 : many < 1073741824 := hm1
  replace hp : PenOk pen n := hp
  have hX := nor_of (P := P) (w := w) (K := K) (mg := mg) (base := base) (CX := CX0) (outer := outer) (H := H) (E := E) sc_draw.nd hr (by decide)
  have rest : ∀ pen1 : Pen, PenOk pen1 (n + 1) → stB (cxOf CX0 P w K mg base ["_law_pen_here", "_law_many", "_law_cell", "_law_digit", "_law_blend"] "_law_draw" (defScope (top 41)) f cdv A outer s H E).nox (List.drop 2 (defBody (top 41))) [some (isV (.ref p)), some (isD K (.int many)), none, none, none] [(p, dkO (penF K pen1))]
      { nx := fun _ Ω' => ∃ ψ, (p, ψ) ∈ Ω' ∧ penR K (n + 1) ψ ∧ ∃ r, isD K .none = isD K (.int r) ∧ 0 ≤ r ∧ r < many, rt := fun Ω' φ => ∃ ψ, (p, ψ) ∈ Ω' ∧ penR K (n + 1) ψ ∧ ∃ r, φ = isD K (.int r) ∧ 0 ≤ r ∧ r < many } := by
    intro pen1 h1
    have hc1 := h1.ct
    have hf0 := h1.f0
    have hf1 := h1.f1
    refine stB_cons (st_if (evT_gtI (ev_ixK hX (ev_name (i := 0) rfl rfl (ev_str ⟨0, p, _, _, _, rfl, rfl, rfl, rfl, ev_int ⟨_, _, rfl, rfl, ?_⟩⟩)))))
    refine ite2 (fun q => ?_) (fun q => stB_nil ?_)
    · refine stB_cons (st_set (i := 3) hX rfl (ev_modI (ev_intI T.n_int (by rfl) (ev_ixK hX (ev_name (i := 0) rfl rfl (ev_str ⟨0, p, _, _, _, rfl, rfl, rfl, rfl, _, rfl, ev_name (i := 1) rfl rfl ⟨_, _, rfl, rfl, hm0, ?_⟩⟩))))))
      refine stB_cons (st_setK hX (ev_divI (ev_ixK hX (ev_name (i := 0) rfl rfl (ev_str ⟨0, p, _, _, _, rfl, rfl, rfl, rfl, ev_name (i := 1) rfl rfl ⟨_, _, rfl, rfl, ⟨hm0, hm1⟩, ev_name (i := 0) rfl rfl (ev_str ⟨0, p, _, _, rfl, rfl, rfl, rfl, (by show 5 ≤ 100; decide), ?_⟩)⟩⟩)))))
      refine stB_one (st_ret (ev_name (i := 3) rfl rfl ⟨_, List.mem_cons_self, ⟨{ pen1 with dig := pen1.dig / many }, ⟨Int.ediv_nonneg h1.dg (by omega), h1.ct, h1.f0, h1.f1⟩, rfl⟩, _, rfl, Int.emod_nonneg _ (by omega), Int.emod_lt_of_pos _ hm0⟩))
    · refine stB_cons (st_set (i := 4) hX rfl (ev_addI (ev_addI (ev_ixK hX (ev_name (i := 0) rfl rfl (ev_str ⟨0, p, _, _, _, rfl, rfl, rfl, rfl, ?_⟩))))))
      refine ev_mulI (ev_ixK hX (ev_name (i := 0) rfl rfl (ev_str ⟨0, p, _, _, _, rfl, rfl, rfl, rfl, ev_int ⟨_, _, rfl, rfl, .inr ⟨by decide, by decide⟩, _, _, rfl, rfl, ev_int ⟨_, _, rfl, rfl, ?_⟩⟩⟩)))
      refine stB_one (st_ret (ev_modI (ev_divI (ev_intI T.n_int (by rfl) (ev_modI (ev_powI (ev_name (i := 4) rfl rfl (ev_int ⟨_, _, rfl, rfl, ⟨by decide, by decide, ?_⟩, ev_int ⟨_, _, rfl, rfl, by decide, _, rfl, ev_int ⟨_, _, rfl, rfl, ⟨by decide, by decide⟩, ev_name (i := 1) rfl rfl ⟨_, _, rfl, rfl, hm0, ?_⟩⟩⟩⟩))))))))
      · show (pen1.fold + (pen1.cnt : Int) * 7907 + 37).natAbs < 2 ^ 64
        omega
      · exact ⟨_, List.mem_cons_self, ⟨pen1, h1, rfl⟩, _, rfl, Int.emod_nonneg _ (by omega), Int.emod_lt_of_pos _ hm0⟩
  have wk0 : ∀ x : Option MP, WkG [some (isV (.ref p)), some (isD K (.int many)), x, none, none] [some (isV (.ref p)), some (isD K (.int many)), none, none, none] := fun x => .yes Sub.rfl (.yes Sub.rfl (.no (.no (.no .nil))))
  refine stB_cons (st_setK hX (ev_addI (ev_ixK hX (ev_name (i := 0) rfl rfl (ev_str ⟨0, p, _, _, _, rfl, rfl, rfl, rfl, ev_int ⟨_, _, rfl, rfl, ev_name (i := 0) rfl rfl (ev_str ⟨0, p, _, _, rfl, rfl, rfl, rfl, (by show 5 ≤ 100; decide), ?_⟩)⟩⟩)))))
  have hp1 : PenOk { pen with cnt := pen.cnt + 1 } (n + 1) := ⟨hp.dg, Nat.succ_le_succ hp.ct, hp.f0, hp.f1⟩
  generalize hpen1 : ({ pen with cnt := pen.cnt + 1 } : Pen) = pen1 at hp1
  have eF : repl (penF K pen) "count" (isD K (.int ((pen.cnt : Int) + 1))) = penF K pen1 := by rw [← hpen1]; rfl
  show stB _ _ _ [(p, dkO (repl (penF K pen) "count" (isD K (.int ((pen.cnt : Int) + 1)))))] _
  rw [eF]
  refine stB_cons (st_if (evW_pt (evW_and (evT_eqD hX (ev_ixK hX (ev_name (i := 0) rfl rfl (ev_str ⟨0, p, _, _, _, rfl, rfl, rfl, rfl, ev_int ⟨_, _, _, dq_d, dq_d, rfl, rfl, eqv_int _ _, ?_⟩⟩)))))))
  refine ite2 (fun q1 => ?_) (fun q1 => (if_neg Bool.false_ne_true).mpr (stB_nil (stB_wk (wk0 _) (List.Sublist.refl _) (rest pen1 hp1))))
  refine evW_and1 (evT_ltI (ev_ixK hX (ev_name (i := 0) rfl rfl (ev_str ⟨0, p, _, _, _, rfl, rfl, rfl, rfl, ev_len T.n_len (ev_ixK hX (ev_name (i := 0) rfl rfl (ev_str ⟨0, p, _, _, _, rfl, rfl, rfl, rfl, _, .l .l, _, _, rfl, rfl, ?_⟩)))⟩))))
  refine ite2 (fun q2 => ?_) (fun q2 => stB_nil (stB_wk (wk0 _) (List.Sublist.refl _) (rest pen1 hp1)))
  rw [List.length_map] at q2
  have hlt : pen1.at_ < pen1.sc.length := by have := of_decide_eq_true q2; omega
  refine stB_cons (st_set (i := 2) hX rfl (ev_ixL (ev_ixK hX (ev_name (i := 0) rfl rfl (ev_str ⟨0, p, _, _, _, rfl, rfl, rfl, rfl, ev_ixK hX (ev_name (i := 0) rfl rfl (ev_str ⟨0, p, _, _, _, rfl, rfl, rfl, rfl, _, _, .int pen1.sc[pen1.at_], .l, rfl, ?_, ?_⟩))⟩)))))
  · unfold atI ixN
    rw [if_pos (by omega), if_pos (by rw [List.length_map]; omega)]
    show (pen1.sc.map PyData.int)[(pen1.at_ : Int).toNat]? = _
    rw [Int.toNat_natCast, List.getElem?_map, List.getElem?_eq_getElem hlt]; rfl
  generalize pen1.sc[pen1.at_] = c
  refine stB_cons (st_setK hX (ev_addI (ev_ixK hX (ev_name (i := 0) rfl rfl (ev_str ⟨0, p, _, _, _, rfl, rfl, rfl, rfl, ev_int ⟨_, _, rfl, rfl, ev_name (i := 0) rfl rfl (ev_str ⟨0, p, _, _, rfl, rfl, rfl, rfl, (by show 5 ≤ 100; decide), ?_⟩)⟩⟩)))))
  have hp2 : PenOk { pen1 with at_ := pen1.at_ + 1 } (n + 1) := ⟨hp1.dg, hp1.ct, hp1.f0, hp1.f1⟩
  generalize hpen2 : ({ pen1 with at_ := pen1.at_ + 1 } : Pen) = pen2 at hp2
  have eF2 : repl (penF K pen1) "at" (isD K (.int ((pen1.at_ : Int) + 1))) = penF K pen2 := by rw [← hpen2]; rfl
  show stB _ _ _ [(p, dkO (repl (penF K pen1) "at" (isD K (.int ((pen1.at_ : Int) + 1)))))] _
  rw [eF2]
  refine stB_one (st_if (evT_geI (ev_name (i := 2) rfl rfl (ev_powI (ev_int (ev_int ⟨_, _, rfl, rfl, ⟨by decide, by decide, by decide⟩, _, _, rfl, rfl, ?_⟩))))))
  refine ite2 (fun q3 => ?_) (fun q3 => ?_)
  · have q3' := of_decide_eq_true q3
    refine stB_one (st_setK hX (ev_subI (ev_name (i := 2) rfl rfl (ev_powI (ev_int (ev_int ⟨_, _, rfl, rfl, ⟨by decide, by decide, by decide⟩, _, _, rfl, rfl, ev_name (i := 0) rfl rfl (ev_str ⟨0, p, _, _, rfl, rfl, rfl, rfl, (by show 5 ≤ 100; decide), ?_⟩)⟩))))))
    exact stB_wk (wk0 _) (List.Sublist.refl _) (rest { pen2 with dig := c - 10 ^ (18 : Int).toNat } ⟨by show 0 ≤ c - 10 ^ (18 : Int).toNat; omega, hp2.ct, hp2.f0, hp2.f1⟩)
  · refine stB_one (st_setK hX (ev_modI (ev_intI T.n_int (by rfl) (ev_addI (ev_mulI (ev_ixK hX (ev_name (i := 0) rfl rfl (ev_str ⟨0, p, _, _, _, rfl, rfl, rfl, rfl, ev_int ⟨_, _, rfl, rfl, .inr ⟨by decide, by decide⟩, ev_name (i := 2) rfl rfl ⟨_, _, rfl, rfl, _, rfl, ev_int ⟨_, _, rfl, rfl, by decide, ev_name (i := 0) rfl rfl (ev_str ⟨0, p, _, _, rfl, rfl, rfl, rfl, (by show 5 ≤ 100; decide), ?_⟩)⟩⟩⟩⟩))))))))
    exact stB_wk (wk0 _) (List.Sublist.refl _) (rest { pen2 with fold := (pen2.fold * 69069 + c) % 2147483587 } ⟨hp2.dg, hp2.ct, Int.emod_nonneg _ (by decide), Int.emod_lt_of_pos _ (by decide)⟩)
end G
set_option Elab.async false
set_option linter.all false
set_option maxRecDepth 100000
set_option maxHeartbeats 4000000
namespace G
open PySem PySem.Spec PyProof.Rows L2 RZ
variable {P : Program} {w : World} {K : PySem.W.Frag} {mg : Str → Option Value} {base : Heap}
/-! ### pick -/
structure PkA where
  pen : Pen
  n : Nat
  some : List MP
def spPick (K : PySem.W.Frag) : Sp := spM (fun x : PkA => PenOk x.pen x.n ∧ x.n ≤ 1000000 ∧ 0 < x.some.length ∧ x.some.length ≤ 1000) (fun x _ => dkO (penF K x.pen)) (fun x => [isLm x.some]) (fun x _ ψ φ => penR K (x.n + 1) ψ ∧ φ ∈ x.some)
theorem sc_pick : FnScope ["_law_pen_here", "_law_some"] ["_law_pen_here", "_law_some"] (defScope (top 42)) := ⟨rfl, rfl, rfl, by decide +kernel, rfl, by decide +kernel, by decide +kernel⟩
theorem h_pick (T : Txt K mg) : Has P w K mg base 6 "_law_pick" (spPick K) := by
  obtain ⟨f, fd, F, m⟩ := T.law_pick
  refine ⟨f, fd, ["_law_pen_here", "_law_some"], defM F sc_pick (kk := 5) (by decide) (fun _ => rfl) ?_, m, F.kp, F.binds fun _ _ _ _ _ _ us hl => match us, hl with | [_, _], _ => rfl⟩
  rintro cdv A outer s H E hr ⟨pen, n, φs⟩ p ⟨hp, hn, h0, h1⟩
  replace h0 : 0 < φs.length := h0
  replace h1 : φs.length ≤ 1000 := h1
  have hX := nor_of (P := P) (w := w) (K := K) (mg := mg) (base := base) (CX := CX0) (outer := outer) (H := H) (E := E) sc_pick.nd hr (by decide)
  refine stB_one (st_ret (ev_ixLm (ev_name (i := 1) rfl rfl (ev_callM ((h_draw T).cal hr) (evA_cons (ev_name (i := 0) rfl rfl (evA_cons (ev_lenM T.n_len (ev_name (i := 1) rfl rfl ⟨φs, rfl, evA_nil ⟨⟨pen, n, (φs.length : Nat)⟩, 0, p, _, rfl, rfl, ⟨hp, hn, ?_, ?_⟩, Subs.rfl, ?_⟩⟩)))))))))
  · show (0 : Int) < (φs.length : Nat); omega
  · show ((φs.length : Nat) : Int) < 1073741824; omega
  rintro ψ φ ⟨hψ, r, rfl, r0, r1⟩
  replace r1 : r < (φs.length : Nat) := r1
  have hlt : r.toNat < φs.length := by omega
  refine ⟨φs, r, φs[r.toNat], rfl, rfl, ?_, ψ, List.mem_cons_self, hψ, List.getElem_mem hlt⟩
  unfold atI ixN
  rw [if_pos r0, if_pos r1]
  show φs[r.toNat]? = _
  rw [List.getElem?_eq_getElem hlt]
/-! ### _law_nb_beside -/
def besN (c : Cell) : List Cell := [(c.1 - 1, c.2), (c.1, c.2 - 1), (c.1, c.2 + 1), (c.1 + 1, c.2)]
def spBesN (K : PySem.W.Frag) : Sp := spP (fun _ : Cell => True) (fun c => [isD K (cD c)]) (fun c φ => φ = isL K ((besN c).map cD))
theorem sc_besN : FnScope ["_law_cell"] ["_law_cell"] (defScope (top 43)) := ⟨rfl, rfl, rfl, by decide +kernel, rfl, by decide +kernel, by decide +kernel⟩
theorem h_besN (T : Txt K mg) : Has P w K mg base 5 "_law_nb_beside" (spBesN K) := by
  obtain ⟨f, fd, F, m⟩ := T.law_nb_beside
  refine ⟨f, fd, ["_law_cell"], defP F sc_besN (kk := 4) (by decide) (fun _ => rfl) ?_, m, F.kp, F.binds fun _ _ _ _ _ _ us hl => match us, hl with | [_], _ => rfl⟩
  rintro cdv A outer s H E hr c -
  have i0 : ∀ {k : Om → MP → Prop} {q1 q2 q3 : Pos} {n : Nat}, k [] (isD K (.int c.1)) → ev (cxOf CX0 P w K mg base ["_law_cell"] "_law_nb_beside" (defScope (top 43)) f cdv A outer s H E).nox (.Subscript (.Name "_law_cell" q1) (.Constant (.int 0) n q2) q3) [some (isD K (cD c))] [] k :=
    fun h => ev_ixT (ev_name (i := 0) rfl rfl (ev_int ⟨_, 0, _, rfl, rfl, rfl, h⟩))
  have i1 : ∀ {k : Om → MP → Prop} {q1 q2 q3 : Pos} {n : Nat}, k [] (isD K (.int c.2)) → ev (cxOf CX0 P w K mg base ["_law_cell"] "_law_nb_beside" (defScope (top 43)) f cdv A outer s H E).nox (.Subscript (.Name "_law_cell" q1) (.Constant (.int 1) n q2) q3) [some (isD K (cD c))] [] k :=
    fun h => ev_ixT (ev_name (i := 0) rfl rfl (ev_int ⟨_, 1, _, rfl, rfl, rfl, h⟩))
  refine stB_one (st_ret (ev_lst ?_))
  refine evA_cons (ev_tup2 (ev_subI (i0 (ev_int ⟨_, _, rfl, rfl, i1 ⟨_, _, dat_d, dat_d, ?_⟩⟩))))
  refine evA_cons (ev_tup2 (i0 (ev_subI (i1 (ev_int ⟨_, _, rfl, rfl, _, _, dat_d, dat_d, ?_⟩)))))
  refine evA_cons (ev_tup2 (i0 (ev_addI (i1 (ev_int ⟨_, _, rfl, rfl, _, _, dat_d, dat_d, ?_⟩)))))
  refine evA_cons (ev_tup2 (ev_addI (i0 (ev_int ⟨_, _, rfl, rfl, i1 ⟨_, _, dat_d, dat_d, ?_⟩⟩))))
  exact evA_nil ⟨_, .cons dat_d (.cons dat_d (.cons dat_d (.cons dat_d .nil))), le1000 (n := 4) rfl (by decide), rfl⟩
/-! ### _law_nb_both -/
structure BoA where
  R : List Cell
  c : Cell
  e : Cell
  x : Int
  y : Int
def bothB (x : BoA) : Bool := decide ((x.c.1 + x.x, x.c.2 + x.y) ∈ x.R) && decide ((x.e.1 + x.x, x.e.2 + x.y) ∈ x.R)
def spBoth (K : PySem.W.Frag) : Sp := spP (fun _ : BoA => True) (fun x => [isL K (x.R.map cD), isD K (cD x.c), isD K (cD x.e), isD K (.int x.x), isD K (.int x.y)]) (fun x φ => φ = isD K (.bool (bothB x)))
theorem sc_both : FnScope ["_law_rest", "_law_cell", "_law_end_here", "_law_x", "_law_y"] ["_law_rest", "_law_cell", "_law_end_here", "_law_x", "_law_y"] (defScope (top 47)) := ⟨rfl, rfl, rfl, by decide +kernel, rfl, by decide +kernel, by decide +kernel⟩
theorem shL (L : List Cell) : SeqAt.shaped (.list (L.map cD)) = true := (ShD.lst (n := 1) fun d hd => by
  obtain ⟨c, _, rfl⟩ := List.mem_map.mp hd
  exact shC c).ok (by decide)
theorem h_both (T : Txt K mg) : Has P w K mg base 5 "_law_nb_both" (spBoth K) := by
  obtain ⟨f, fd, F, m⟩ := T.law_nb_both
  refine ⟨f, fd, ["_law_rest", "_law_cell", "_law_end_here", "_law_x", "_law_y"], defP F sc_both (kk := 4) (by decide) (fun _ => rfl) ?_, m, F.kp, F.binds fun _ _ _ _ _ _ us hl => match us, hl with | [_, _, _, _, _], _ => rfl⟩
  rintro cdv A outer s H E hr ⟨R, c, e, x, y⟩ -
  have hX := nor_of (P := P) (w := w) (K := K) (mg := mg) (base := base) (CX := CX0) (outer := outer) (H := H) (E := E) sc_both.nd hr (by decide)
  refine stB_one (st_ret (ev_and (ev_inL hX (ev_tup2 (ev_addI (ev_ixT (ev_name (i := 1) rfl rfl (ev_int ⟨_, 0, _, rfl, rfl, rfl, ev_name (i := 3) rfl rfl ⟨_, _, rfl, rfl, ?_⟩⟩))))))))
  refine ev_addI (ev_ixT (ev_name (i := 1) rfl rfl (ev_int ⟨_, 1, _, rfl, rfl, rfl, ev_name (i := 4) rfl rfl ⟨_, _, rfl, rfl, _, _, dat_d, dat_d, ev_name (i := 0) rfl rfl ⟨_, ⟨_, _, dq_d, dq_l, rfl, shL R, any_cells R (c.1 + x, c.2 + y)⟩, _, rfl, ?_⟩⟩⟩)))
  by_cases h1 : (c.1 + x, c.2 + y) ∈ R
  · refine (if_pos (decide_eq_true h1)).mpr ?_
    refine ev_one (ev_inL hX (ev_tup2 (ev_addI (ev_ixT (ev_name (i := 2) rfl rfl (ev_int ⟨_, 0, _, rfl, rfl, rfl, ev_name (i := 3) rfl rfl ⟨_, _, rfl, rfl, ?_⟩⟩))))))
    refine ev_addI (ev_ixT (ev_name (i := 2) rfl rfl (ev_int ⟨_, 1, _, rfl, rfl, rfl, ev_name (i := 4) rfl rfl ⟨_, _, rfl, rfl, _, _, dat_d, dat_d, ev_name (i := 0) rfl rfl ⟨_, ⟨_, _, dq_d, dq_l, rfl, shL R, any_cells R (e.1 + x, e.2 + y)⟩, ?_⟩⟩⟩)))
    show isD K _ = isD K (.bool (decide ((c.1 + x, c.2 + y) ∈ R) && decide ((e.1 + x, e.2 + y) ∈ R)))
    rw [decide_eq_true h1, Bool.true_and]
  · refine (if_neg (fun z => h1 (of_decide_eq_true z))).mpr ?_
    show isD K _ = isD K (.bool (decide ((c.1 + x, c.2 + y) ∈ R) && decide ((e.1 + x, e.2 + y) ∈ R)))
    rw [decide_eq_false h1, Bool.false_and]
end G
set_option Elab.async false
set_option linter.all false
set_option maxRecDepth 100000
set_option maxHeartbeats 4000000
set_option pp.maxSteps 300
namespace G
open PySem PySem.Spec PyProof.Rows L2 RZ
variable {P : Program} {w : World} {K : PySem.W.Frag} {mg : Str → Option Value} {base : Heap}
/-! ### _law_nb_steps -/
def cornN (c d : Cell) : List Cell := [(c.1 + d.1, c.2), (c.1, c.2 + d.2)]
def sideN (d : Cell) : List Cell := [(d.2, d.1), (-d.2, -d.1)]
def stepB (R : List Cell) (c d : Cell) : Bool :=
  if decide ((c.1 + d.1, c.2 + d.2) ∈ R) || decide (d = (0, 0)) then false
  else if d.1 ≠ 0 ∧ d.2 ≠ 0 then decide (((cornN c d).filter fun o => decide (o ∈ R)).length = 1)
  else (sideN d).any fun p => bothB ⟨R, c, (c.1 + d.1, c.2 + d.2), p.1, p.2⟩
def dL : List Int := [-1, 0, 1]
def rowN (R : List Cell) (c : Cell) (a : Int) (us : List Int) : List Cell := (us.filter fun u => stepB R c (a, u)).map fun u => (c.1 + a, c.2 + u)
def stepsN (R : List Cell) (c : Cell) : List Cell := dL.flatMap fun a => rowN R c a dL
theorem rowN_snoc (R : List Cell) (c : Cell) (a u : Int) (us : List Int) : rowN R c a (us ++ [u]) = rowN R c a us ++ (if stepB R c (a, u) = true then [(c.1 + a, c.2 + u)] else []) := by
  unfold rowN
  rw [List.filter_append, List.map_append]
  congr 1
  rw [List.filter_cons]
  split <;> rfl
theorem rowN_le (R : List Cell) (c : Cell) (a : Int) (us : List Int) : (rowN R c a us).length ≤ us.length := by
  unfold rowN
  rw [List.length_map]
  exact List.length_filter_le _ _
def spSteps (K : PySem.W.Frag) : Sp := spP (fun x : List Cell × Cell => x.1.length ≤ 1000) (fun x => [isL K (x.1.map cD), isD K (cD x.2)]) (fun x φ => φ = isL K ((sortC (stepsN x.1 x.2)).map cD))
abbrev NSteps : List Str := ["_law_rest", "_law_cell", "_law_found", "_law_across", "_law_up", "_law_end_here", "_law_corners", "_law_sides", "_law_one", "_law_x", "_law_y"]
theorem sc_steps : FnScope NSteps ["_law_rest", "_law_cell"] (defScope (top 46)) := ⟨rfl, rfl, rfl, by decide +kernel, rfl, by decide +kernel, by decide +kernel⟩
theorem eqv_nilL (ds : List PyData) : PyData.eqv (.list ds) (.list []) = ds.isEmpty := by cases ds <;> rfl
theorem ev_dL {X : Cx} {Γ : Ga} {Ω : Om} {k : Om → MP → Prop} {q1 q2 q3 q4 q5 : Pos} {n1 n2 n3 : Nat} (h : k Ω (isL X.K (dL.map .int)))
    (h1 : starEach [.UnaryOp .USub (.Constant (.int 1) n1 q1) q2, .Constant (.int 0) n2 q3, .Constant (.int 1) n3 q4] X.env = (false, eval (.UnaryOp .USub (.Constant (.int 1) n1 q1) q2) X.env) :: starEach [.Constant (.int 0) n2 q3, .Constant (.int 1) n3 q4] X.env := by rfl)
    (h2 : starEach [.Constant (.int 0) n2 q3, .Constant (.int 1) n3 q4] X.env = (false, eval (.Constant (.int 0) n2 q3) X.env) :: starEach [.Constant (.int 1) n3 q4] X.env := by rfl)
    (h3 : starEach [.Constant (.int 1) n3 q4] X.env = (false, eval (.Constant (.int 1) n3 q4) X.env) :: starEach [] X.env := by rfl) :
    ev X (.List [.UnaryOp .USub (.Constant (.int 1) n1 q1) q2, .Constant (.int 0) n2 q3, .Constant (.int 1) n3 q4] q5) Γ Ω k :=
  ev_lst (evA_cons (ev_negI (ev_int ⟨1, rfl, evA_cons (ev_int (evA_cons (ev_int (evA_nil ⟨_, .cons dat_d (.cons dat_d (.cons dat_d .nil)), le1000 (n := 3) rfl (by decide), h⟩)) h3)) h2⟩)) h1)
def forB : Stmt → List Stmt
  | .For _ _ body _ _ => body
  | _ => []
def elseS : Stmt → List Stmt
  | .If _ _ ss _ => ss
  | _ => []
theorem h_steps (T : Txt K mg) : Has P w K mg base 6 "_law_nb_steps" (spSteps K) := by
  obtain ⟨f, fd, F, m⟩ := T.law_nb_steps
  refine ⟨f, fd, ["_law_rest", "_law_cell"], defP F sc_steps (kk := 5) (by decide) (fun _ => rfl) ?_, m, F.kp, F.binds fun _ _ _ _ _ _ us hl => match us, hl with | [_, _], _ => rfl⟩
  rintro cdv A outer s H E hr ⟨R, c⟩ hR
  have hX := nor_of (P := P) (w := w) (K := K) (mg := mg) (base := base) (CX := CX0) (outer := outer) (H := H) (E := E) sc_steps.nd hr (by decide)
  refine stB_cons (st_set (i := 2) hX rfl (ev_lst0 fun q => ?_))
  refine stB_cons (st_forI hX (evI_list (ev_dL ⟨_, .l, fun i Γ Ω => Γ = [some (isL K (R.map cD)), some (isD K (cD c)), some (isV (.ref q)), none, none, none, none, none, none, none, none] ∧
    Ω = [(q, lstO K (((dL.take i).flatMap fun a => rowN R c a dL).map cD))], ⟨rfl, rfl⟩, ?_, ?_⟩)))
  · rintro i d Γ Ω hd ⟨rfl, rfl⟩
    rw [List.getElem?_map] at hd
    obtain ⟨a, ha, rfl⟩ := Option.map_eq_some_iff.mp hd
    have hi3 : (dL.take i).length ≤ 3 := by rw [List.length_take]; show min i 3 ≤ 3; omega
    refine tgt_name (i := 3) hX.nd rfl (stB_one (st_forI hX (evI_list (ev_dL ⟨_, .l, fun j Γ Ω => Γ = [some (isL K (R.map cD)), some (isD K (cD c)), some (isV (.ref q)), some (isD K (.int a)), none, none, none, none, none, none, none] ∧
      Ω = [(q, lstO K ((((dL.take i).flatMap fun a => rowN R c a dL) ++ rowN R c a (dL.take j)).map cD))], ⟨rfl, by rw [show rowN R c a (dL.take 0) = [] from rfl, List.append_nil]⟩, ?_, ?_⟩))))
    · rintro j d Γ Ω hd ⟨rfl, rfl⟩
      rw [List.getElem?_map] at hd
      obtain ⟨u, hu, rfl⟩ := Option.map_eq_some_iff.mp hd
      have hsn := rowN_snoc R c a u (dL.take j)
      rw [← take_snoc hu] at hsn
      have hj3 : (dL.take j).length ≤ 3 := by rw [List.length_take]; show min j 3 ≤ 3; omega
      have hz : (((dL.take i).flatMap fun a => rowN R c a dL) ++ rowN R c a (dL.take j)).length < sizeLine := by
        rw [List.length_append, sizeLine_eq]
        have h1 := flat_le (fun a => rowN R c a dL) 3 (fun a => rowN_le R c a dL) (dL.take i)
        have h2 := rowN_le R c a (dL.take j)
        omega
      have wk : ∀ x1 x2 x3 x4, WkG [some (isL K (R.map cD)), some (isD K (cD c)), some (isV (.ref q)), some (isD K (.int a)), x1, x2, x3, x4, none, none, none] [some (isL K (R.map cD)), some (isD K (cD c)), some (isV (.ref q)), some (isD K (.int a)), none, none, none, none, none, none, none] :=
        fun _ _ _ _ => .yes Sub.rfl (.yes Sub.rfl (.yes Sub.rfl (.yes Sub.rfl (.no (.no (.no (.no (.no (.no (.no .nil))))))))))
      refine tgt_name (i := 4) hX.nd rfl (stB_cons (st_set (i := 5) hX rfl (ev_tup2 ?_)))
      refine ev_addI (ev_ixT (ev_name (i := 1) rfl rfl (ev_int ⟨_, 0, _, rfl, rfl, rfl, ev_name (i := 3) rfl rfl ⟨_, _, rfl, rfl, ?_⟩⟩)))
      refine ev_addI (ev_ixT (ev_name (i := 1) rfl rfl (ev_int ⟨_, 1, _, rfl, rfl, rfl, ev_name (i := 4) rfl rfl ⟨_, _, rfl, rfl, _, _, dat_d, dat_d, ?_⟩⟩)))
      refine stB_cons (st_if (evW_pt (evW_or (evT_inL hX (ev_name (i := 5) rfl rfl (ev_name (i := 0) rfl rfl ⟨_, ⟨cD (c.1 + a, c.2 + u), _, dq_d, dq_l, rfl, shL R, any_cells R (c.1 + a, c.2 + u)⟩, ?_⟩))))))
      by_cases h1 : (c.1 + a, c.2 + u) ∈ R
      · refine (if_pos (decide_eq_true h1)).mpr (stB_one (st_cont ⟨_, _, wk _ _ _ _, List.Sublist.refl _, rfl, ?_⟩))
        have hB : stepB R c (a, u) = false := by unfold stepB; simp [h1]
        rw [hsn, hB, if_neg Bool.false_ne_true, List.append_nil]
      · refine (if_neg (fun z => h1 (of_decide_eq_true z))).mpr (evW_or1 (evT_eqD hX (ev_tup2 (ev_name (i := 3) rfl rfl (ev_name (i := 4) rfl rfl ⟨_, _, dat_d, dat_d, ev_tup2 (ev_int (ev_int ⟨_, _, dat_d, dat_d, _, _, _, dq_d, dq_d, rfl, rfl, eqv_cells (a, u) (0, 0), ?_⟩))⟩)))))
        by_cases h2 : ((a, u) : Cell) = (0, 0)
        · refine (if_pos (decide_eq_true h2)).mpr (stB_one (st_cont ⟨_, _, wk _ _ _ _, List.Sublist.refl _, rfl, ?_⟩))
          have hB : stepB R c (a, u) = false := by unfold stepB; simp [h2]
          rw [hsn, hB, if_neg Bool.false_ne_true, List.append_nil]
        · have hb0 : (decide ((c.1 + a, c.2 + u) ∈ R) || decide (((a, u) : Cell) = (0, 0))) = false := by rw [decide_eq_false h1, decide_eq_false h2]; rfl
          refine (if_neg (fun z => h2 (of_decide_eq_true z))).mpr (stB_nil ?_)
          -- the two kinds of step
          have add : ∀ x3 x4, stepB R c (a, u) = true → (Wkn fun Γ Ω => Γ = [some (isL K (R.map cD)), some (isD K (cD c)), some (isV (.ref q)), some (isD K (.int a)), none, none, none, none, none, none, none] ∧ Ω = [(q, lstO K ((((dL.take i).flatMap fun a => rowN R c a dL) ++ rowN R c a (dL.take (j + 1))).map cD))])
              [some (isL K (R.map cD)), some (isD K (cD c)), some (isV (.ref q)), some (isD K (.int a)), some (isD K (.int u)), some (isD K (cD (c.1 + a, c.2 + u))), x3, x4, none, none, none]
                [(q, lstO K ((((dL.take i).flatMap fun a => rowN R c a dL) ++ rowN R c a (dL.take j)).map cD ++ [cD (c.1 + a, c.2 + u)]))] := fun x3 x4 hB => by
            refine ⟨_, _, wk _ _ _ _, List.Sublist.refl _, rfl, ?_⟩
            rw [hsn, if_pos hB, ← List.append_assoc, List.map_append (l₂ := [_])]; rfl
          have skip : ∀ x3 x4, stepB R c (a, u) = false → (Wkn fun Γ Ω => Γ = [some (isL K (R.map cD)), some (isD K (cD c)), some (isV (.ref q)), some (isD K (.int a)), none, none, none, none, none, none, none] ∧ Ω = [(q, lstO K ((((dL.take i).flatMap fun a => rowN R c a dL) ++ rowN R c a (dL.take (j + 1))).map cD))])
              [some (isL K (R.map cD)), some (isD K (cD c)), some (isV (.ref q)), some (isD K (.int a)), some (isD K (.int u)), some (isD K (cD (c.1 + a, c.2 + u))), x3, x4, none, none, none]
                [(q, lstO K ((((dL.take i).flatMap fun a => rowN R c a dL) ++ rowN R c a (dL.take j)).map cD))] := fun x3 x4 hB => by
            refine ⟨_, _, wk _ _ _ _, List.Sublist.refl _, rfl, ?_⟩
            rw [hsn, hB, if_neg Bool.false_ne_true, List.append_nil]
          have straight : (¬ (a ≠ 0 ∧ u ≠ 0)) → stepB R c (a, u) = (sideN (a, u)).any fun p => bothB ⟨R, c, (c.1 + a, c.2 + u), p.1, p.2⟩ := fun h => by
            unfold stepB
            rw [if_neg (by rw [hb0]; decide), if_neg h]
          refine stB_one (st_if (evW_pt (evW_and (evT_neD hX (ev_name (i := 3) rfl rfl (ev_int ⟨_, _, _, dq_d, dq_d, rfl, rfl, eqv_int _ _, ?_⟩))))))
          have tail : (¬ (a ≠ 0 ∧ u ≠ 0)) → stB (cxOf CX0 P w K mg base NSteps "_law_nb_steps" (defScope (top 46)) f cdv A outer s H E).nox (elseS (List.getD (forB (List.getD (forB (List.getD (defBody (top 46)) 1 (top 46))) 0 (top 46))) 2 (top 46)))
              [some (isL K (R.map cD)), some (isD K (cD c)), some (isV (.ref q)), some (isD K (.int a)), some (isD K (.int u)), some (isD K (cD (c.1 + a, c.2 + u))), none, none, none, none, none]
              [(q, lstO K ((((dL.take i).flatMap fun a => rowN R c a dL) ++ rowN R c a (dL.take j)).map cD))]
              { nx := Wkn fun Γ Ω => Γ = [some (isL K (R.map cD)), some (isD K (cD c)), some (isV (.ref q)), some (isD K (.int a)), none, none, none, none, none, none, none] ∧ Ω = [(q, lstO K ((((dL.take i).flatMap fun a => rowN R c a dL) ++ rowN R c a (dL.take (j + 1))).map cD))],
                ct := Wkn fun Γ Ω => Γ = [some (isL K (R.map cD)), some (isD K (cD c)), some (isV (.ref q)), some (isD K (.int a)), none, none, none, none, none, none, none] ∧ Ω = [(q, lstO K ((((dL.take i).flatMap fun a => rowN R c a dL) ++ rowN R c a (dL.take (j + 1))).map cD))],
                rt := fun _ φ => φ = isL K ((sortC (stepsN R c)).map cD), bk := fun Γ Ω => Wkn (fun Γ Ω => Γ = [some (isL K (R.map cD)), some (isD K (cD c)), some (isV (.ref q)), none, none, none, none, none, none, none, none] ∧ Ω = [(q, lstO K (((dL.take (i + 1)).flatMap fun a => rowN R c a dL).map cD))]) Γ Ω } := by
            intro hst
            have hB := straight hst
            refine stB_cons (st_set (i := 7) hX rfl (ev_lst (evA_cons (ev_tup2 (ev_name (i := 4) rfl rfl (ev_name (i := 3) rfl rfl ⟨_, _, dat_d, dat_d, ?_⟩))))))
            refine evA_cons (ev_tup2 (ev_negI (ev_name (i := 4) rfl rfl ⟨_, rfl, ev_negI (ev_name (i := 3) rfl rfl ⟨_, rfl, _, _, dat_d, dat_d, evA_nil ⟨_, .cons dat_d (.cons dat_d .nil), le1000 (n := 2) rfl (by decide), ?_⟩⟩)⟩)))
            refine stB_one (st_if (evT_neD hX (ev_lc hX (sideN (a, u)) cD (fun _ => .int 1) (fun p => bothB ⟨R, c, (c.1 + a, c.2 + u), p.1, p.2⟩) (fun p => [some (isL K (R.map cD)), some (isD K (cD c)), some (isV (.ref q)), some (isD K (.int a)), some (isD K (.int u)), some (isD K (cD (c.1 + a, c.2 + u))), none, some (isL K ((sideN (a, u)).map cD)), none, some (isD K (.int p.1)), some (isD K (.int p.2))])
              (own := [("_law_x", 9), ("_law_y", 10)]) (fun σ => wipe_wipe2 σ 9 10) (show BlkOk NSteps (defScope (top 46)) _ [("_law_x", 9), ("_law_y", 10)] from blkOk_by (by decide +kernel)) (evI_list (ev_name (i := 7) rfl rfl ⟨_, .l, rfl, ?_, ?_⟩)))))
            · intro s' H0 C cl fp p hp
              refine ⟨tgB_pair (i := 9) (j := 10) hX.calm hX.nd rfl rfl (by decide), evTs_one (evT_val (ev_call ((h_both T).cal hr) (evA_cons (ev_name (i := 0) rfl rfl (evA_cons (ev_name (i := 1) rfl rfl (evA_cons (ev_name (i := 5) rfl rfl (evA_cons (ev_name (i := 9) rfl rfl (evA_cons (ev_name (i := 10) rfl rfl (evA_nil ⟨⟨R, c, (c.1 + a, c.2 + u), p.1, p.2⟩, trivial, Subs.rfl, ?_⟩))))))))))))), fun _ => ev_int ⟨rfl, dat_d⟩⟩
              rintro φ rfl
              exact ⟨_, rfl, rfl, rfl⟩
            refine ev_lst (evA_nil ⟨[], .nil, by decide, _, _, _, dq_l, dq_l, ?_, rfl, eqv_nilL _, ?_⟩)
            · refine (ShD.lst (n := 0) fun d hd => ?_).ok (by decide)
              unfold outp at hd
              obtain ⟨p, _, rfl⟩ := List.mem_map.mp hd
              exact ⟨rfl, Nat.le_refl 0⟩
            have he : (outp (sideN (a, u)) (fun p => bothB ⟨R, c, (c.1 + a, c.2 + u), p.1, p.2⟩) fun _ => PyData.int 1).isEmpty = !stepB R c (a, u) := by
              rw [hB, ← emptyS (sideN (a, u)) (fun p => bothB ⟨R, c, (c.1 + a, c.2 + u), p.1, p.2⟩) fun _ => PyData.int 1]
              rw [Bool.eq_iff_iff, List.isEmpty_iff_length_eq_zero, List.isEmpty_iff_length_eq_zero, List.length_mergeSort]
            rw [he, Bool.not_not]
            cases hs2 : stepB R c (a, u) with
            | true => exact (if_pos rfl).mpr (stB_one (st_expr (ev_append (ev_name (i := 2) rfl rfl ⟨0, q, _, rfl, rfl, ev_name (i := 5) rfl rfl ⟨0, _, cD (c.1 + a, c.2 + u), rfl, dat_d, by rw [List.length_map]; exact hz, add _ _ hs2⟩⟩))))
            | false => exact (if_neg Bool.false_ne_true).mpr (stB_nil (skip _ _ hs2))
          by_cases h3 : a = 0
          · exact (if_neg (by rw [decide_eq_true h3]; decide)).mpr (tail fun z => z.1 h3)
          · refine (if_pos (by rw [decide_eq_false h3]; rfl)).mpr (evW_and1 (evT_neD hX (ev_name (i := 4) rfl rfl (ev_int ⟨_, _, _, dq_d, dq_d, rfl, rfl, eqv_int _ _, ?_⟩))))
            by_cases h4 : u = 0
            · exact (if_neg (by rw [decide_eq_true h4]; decide)).mpr (tail fun z => z.2 h4)
            · refine (if_pos (by rw [decide_eq_false h4]; rfl)).mpr ?_
              have hB : stepB R c (a, u) = decide (((cornN c (a, u)).filter fun o => decide (o ∈ R)).length = 1) := by
                unfold stepB
                rw [if_neg (by rw [hb0]; decide), if_pos ⟨h3, h4⟩]
              refine stB_cons (st_set (i := 6) hX rfl (ev_lst (evA_cons (ev_tup2 (ev_addI (ev_ixT (ev_name (i := 1) rfl rfl (ev_int ⟨_, 0, _, rfl, rfl, rfl, ev_name (i := 3) rfl rfl ⟨_, _, rfl, rfl, ?_⟩⟩))))))))
              refine ev_ixT (ev_name (i := 1) rfl rfl (ev_int ⟨_, 1, _, rfl, rfl, rfl, _, _, dat_d, dat_d, ?_⟩))
              refine evA_cons (ev_tup2 (ev_ixT (ev_name (i := 1) rfl rfl (ev_int ⟨_, 0, _, rfl, rfl, rfl, ?_⟩))))
              refine ev_addI (ev_ixT (ev_name (i := 1) rfl rfl (ev_int ⟨_, 1, _, rfl, rfl, rfl, ev_name (i := 4) rfl rfl ⟨_, _, rfl, rfl, _, _, dat_d, dat_d, evA_nil ⟨_, .cons dat_d (.cons dat_d .nil), le1000 (n := 2) rfl (by decide), ?_⟩⟩⟩)))
              refine stB_one (st_if (evT_eqD hX (ev_len T.n_len (ev_lc hX (cornN c (a, u)) cD cD (fun o => decide (o ∈ R)) (fun o => [some (isL K (R.map cD)), some (isD K (cD c)), some (isV (.ref q)), some (isD K (.int a)), some (isD K (.int u)), some (isD K (cD (c.1 + a, c.2 + u))), some (isL K ((cornN c (a, u)).map cD)), none, some (isD K (cD o)), none, none])
                (own := [("_law_one", 8)]) (fun σ => wipe_wipe1 σ 8) (show BlkOk NSteps (defScope (top 46)) _ [("_law_one", 8)] from blkOk_by (by decide +kernel)) (evI_list (ev_name (i := 6) rfl rfl ⟨_, .l, rfl, ?_, ?_⟩))))))
              · intro s' H0 C cl fp o ho
                exact ⟨tgB_name hX.nd rfl, evTs_one (evT_inL hX.b (ev_name (i := 8) rfl rfl (ev_name (i := 0) rfl rfl ⟨_, ⟨cD o, _, dq_d, dq_l, rfl, shL R, any_cells R o⟩, rfl, rfl⟩))), fun _ => ev_name (i := 8) rfl rfl ⟨rfl, dat_d⟩⟩
              refine ⟨_, .l .l, ev_int ⟨_, _, _, dq_d, dq_d, rfl, rfl, eqv_int _ _, ?_⟩⟩
              have hlen : ((outp (cornN c (a, u)) (fun o => decide (o ∈ R)) cD).length : Int) = (((cornN c (a, u)).filter fun o => decide (o ∈ R)).length : Nat) := by unfold outp; rw [List.length_map]
              have e1 : decide (((outp (cornN c (a, u)) (fun o => decide (o ∈ R)) cD).length : Int) = 1) = stepB R c (a, u) := by
                rw [hB, hlen]
                congr 1
                exact propext (by omega)
              rw [e1]
              cases hs2 : stepB R c (a, u) with
              | true => exact (if_pos rfl).mpr (stB_one (st_expr (ev_append (ev_name (i := 2) rfl rfl ⟨0, q, _, rfl, rfl, ev_name (i := 5) rfl rfl ⟨0, _, cD (c.1 + a, c.2 + u), rfl, dat_d, by rw [List.length_map]; exact hz, add _ _ hs2⟩⟩))))
              | false => exact (if_neg Bool.false_ne_true).mpr (stB_nil (skip _ _ hs2))
    · rintro Γ Ω ⟨rfl, rfl⟩
      refine ⟨_, _, .yes Sub.rfl (.yes Sub.rfl (.yes Sub.rfl (.no (.no (.no (.no (.no (.no (.no (.no .nil)))))))))), List.Sublist.refl _, rfl, ?_⟩
      rw [take_snoc ha, List.flatMap_append, List.flatMap_singleton]; rfl
  rintro Γ Ω ⟨rfl, rfl⟩
  have hlen : (stepsN R c).length ≤ 9 := flat_le (fun a => rowN R c a dL) 3 (fun a => rowN_le R c a dL) dL
  refine stB_one (st_ret (ev_sorted hX T.n_sorted (ev_name (i := 2) rfl rfl ⟨_, .q (.l (.o (j := 0) rfl)), ?_, ?_⟩)))
  · rintro ds rfl
    exact ⟨canS_cells _, by rw [List.length_map, sizeLine_eq]; exact Nat.le_trans hlen (by decide)⟩
  · rintro ds rfl
    show isL K (sortD ((stepsN R c).map cD)) = _
    rw [sortD_cells]
end G
set_option Elab.async false
set_option linter.all false
set_option maxRecDepth 100000
set_option maxHeartbeats 4000000
set_option pp.maxSteps 300
/-! M4: painting. -/
namespace G
theorem besN_L {x y : Cell} : y ∈ besN x ↔ y ∈ besL x := by
  unfold besN besL
  simp only [List.mem_cons, List.not_mem_nil, or_false]
  constructor
  · rintro (h | h | h | h)
    · exact .inl h
    · exact .inr (.inl h)
    · exact .inr (.inr (.inr h))
    · exact .inr (.inr (.inl h))
  · rintro (h | h | h | h)
    · exact .inl h
    · exact .inr (.inl h)
    · exact .inr (.inr (.inr h))
    · exact .inr (.inr (.inl h))
abbrev Pnt := List (Cell × Cell)
abbrev keysP (P : Pnt) : List Cell := P.map (·.1)
theorem pnt_one {P : Pnt} (nd : (keysP P).Nodup) {x c d : Cell} (h1 : (x, c) ∈ P) (h2 : (x, d) ∈ P) : c = d := by
  obtain ⟨i, hi⟩ := List.mem_iff_getElem?.mp h1
  obtain ⟨j, hj⟩ := List.mem_iff_getElem?.mp h2
  have e := nd_ix (i := i) (j := j) (x := x) nd (by rw [List.getElem?_map, hi]; rfl) (by rw [List.getElem?_map, hj]; rfl)
  subst e
  rw [hi] at hj
  simp only [Option.some.injEq, Prod.mk.injEq] at hj
  exact hj.2
theorem mem_keysP {P : Pnt} {x : Cell} : x ∈ keysP P ↔ ∃ c, (x, c) ∈ P := by
  constructor
  · intro h
    obtain ⟨⟨y, c⟩, hy, rfl⟩ := List.mem_map.mp h
    exact ⟨c, hy⟩
  · rintro ⟨c, h⟩
    exact List.mem_map.mpr ⟨_, h, rfl⟩
/-- whole components are painted -/
structure Pain (L : List Cell) (P : Pnt) : Prop where
  nd : (keysP P).Nodup
  sub : ∀ x ∈ keysP P, x ∈ L
  clo : ∀ x c, (x, c) ∈ P → ∀ y ∈ besN x, y ∈ L → (y, c) ∈ P
  con : ∀ x c, (x, c) ∈ P → c ∈ L ∧ Rch L c x ∧ (c, c) ∈ P
/-- one component is being painted -/
structure PainW (L : List Cell) (c : Cell) (P0 N : Pnt) (todo rest : List Cell) (one : Cell) : Prop where
  p0 : Pain L P0
  nd : (keysP (P0 ++ N)).Nodup
  sub : ∀ x ∈ keysP N, x ∈ L
  col : ∀ x d, (x, d) ∈ N → d = c ∧ Rch L c x
  cc : c ∈ L ∧ (c, c) ∈ N
  tod : ∀ x ∈ todo, (x, c) ∈ N
  clo : ∀ x d, (x, d) ∈ N → x ∈ todo ∨ ∀ y ∈ besN x, y ∈ L → (y, c) ∈ N ∨ (x = one ∧ y ∈ rest)
  len : todo.length ≤ N.length
theorem Pain.nil (L : List Cell) : Pain L [] := ⟨List.nodup_nil, (fun _ h => (nomatch h)), (fun _ _ h => (nomatch h)), fun _ _ h => (nomatch h)⟩
theorem Pain.begin {L : List Cell} {P : Pnt} {c : Cell} (h : Pain L P) (hc : c ∈ L) (hn : c ∉ keysP P) (one : Cell) : PainW L c P [(c, c)] [c] [] one where
  p0 := h
  nd := by
    rw [keysP, List.map_append]
    refine List.nodup_append.mpr ⟨h.nd, by simp, ?_⟩
    intro a ha b hb e
    have hb' : b = c := by simpa using hb
    exact hn (by rw [← hb', ← e]; exact ha)
  sub := fun x hx => by
    have : x = c := by simpa using hx
    rw [this]; exact hc
  col := fun x d hx => by
    simp only [List.mem_singleton, Prod.mk.injEq] at hx
    obtain ⟨rfl, rfl⟩ := hx
    exact ⟨rfl, .here⟩
  cc := ⟨hc, List.mem_cons_self⟩
  tod := fun x hx => by
    have : x = c := by simpa using hx
    rw [this]; exact List.mem_cons_self
  clo := fun x d hx => by
    simp only [List.mem_singleton, Prod.mk.injEq] at hx
    exact .inl (by simp [hx.1])
  len := Nat.le_refl 1
theorem PainW.pop {L : List Cell} {c one o' : Cell} {P0 N : Pnt} {todo : List Cell} (h : PainW L c P0 N (todo ++ [one]) [] o') : PainW L c P0 N todo (besN one) one where
  p0 := h.p0
  nd := h.nd
  sub := h.sub
  col := h.col
  cc := h.cc
  tod := fun x hx => h.tod x (List.mem_append_left _ hx)
  clo := fun x d hx => by
    rcases h.clo x d hx with z | z
    · rcases List.mem_append.mp z with z | z
      · exact .inl z
      · have e : x = one := by simpa using z
        exact .inr fun y hy _ => .inr ⟨e, by rw [← e]; exact hy⟩
    · refine .inr fun y hy hl => ?_
      rcases z y hy hl with q | ⟨_, q⟩
      · exact .inl q
      · exact absurd q (by simp)
  len := by have := h.len; rw [List.length_append, List.length_singleton] at this; omega
theorem PainW.skip {L : List Cell} {c one y : Cell} {P0 N : Pnt} {todo rest : List Cell} (h : PainW L c P0 N todo (y :: rest) one) (ho : (one, c) ∈ N) (hy : y ∈ besN one) (hn : y ∉ L ∨ y ∈ keysP (P0 ++ N)) : PainW L c P0 N todo rest one where
  p0 := h.p0
  nd := h.nd
  sub := h.sub
  col := h.col
  cc := h.cc
  tod := h.tod
  clo := fun x d hx => by
    rcases h.clo x d hx with z | z
    · exact .inl z
    · refine .inr fun w hw hl => ?_
      rcases z w hw hl with q | ⟨q1, q2⟩
      · exact .inl q
      · rcases List.mem_cons.mp q2 with e | e
        · subst e
          rcases hn with hn | hn
          · exact absurd hl hn
          · obtain ⟨d', hd⟩ := mem_keysP.mp hn
            rcases List.mem_append.mp hd with hd | hd
            · -- it stood in an older component, then so does one
              exfalso
              have h1 := h.p0.clo w d' hd one (besN_L.mpr (bes_symm (besN_L.mp hy))) (h.sub one (mem_keysP.mpr ⟨c, ho⟩))
              have nd := h.nd
              rw [keysP, List.map_append] at nd
              exact (List.nodup_append.mp nd).2.2 one (mem_keysP.mpr ⟨_, h1⟩) one (mem_keysP.mpr ⟨_, ho⟩) rfl
            · have := (h.col w d' hd).1
              exact .inl (by rw [← this]; exact hd)
        · exact .inr ⟨q1, e⟩
  len := h.len
theorem PainW.add {L : List Cell} {c one y : Cell} {P0 N : Pnt} {todo rest : List Cell} (h : PainW L c P0 N todo (y :: rest) one) (ho : (one, c) ∈ N) (hy : y ∈ besN one) (hl : y ∈ L) (hn : y ∉ keysP (P0 ++ N)) : PainW L c P0 (N ++ [(y, c)]) (todo ++ [y]) rest one where
  p0 := h.p0
  nd := by
    rw [← List.append_assoc, keysP, List.map_append]
    refine List.nodup_append.mpr ⟨h.nd, by simp, ?_⟩
    intro a ha b hb e
    have hb' : b = y := by simpa using hb
    exact hn (by rw [← hb', ← e]; exact ha)
  sub := fun x hx => by
    rw [keysP, List.map_append] at hx
    rcases List.mem_append.mp hx with z | z
    · exact h.sub x z
    · have : x = y := by simpa using z
      rw [this]; exact hl
  col := fun x d hx => by
    rcases List.mem_append.mp hx with z | z
    · exact h.col x d z
    · simp only [List.mem_singleton, Prod.mk.injEq] at z
      obtain ⟨rfl, rfl⟩ := z
      exact ⟨rfl, .step (h.col one d ho).2 (besN_L.mp hy) hl⟩
  cc := ⟨h.cc.1, List.mem_append_left _ h.cc.2⟩
  tod := fun x hx => by
    rcases List.mem_append.mp hx with z | z
    · exact List.mem_append_left _ (h.tod x z)
    · have : x = y := by simpa using z
      rw [this]; exact List.mem_append_right _ List.mem_cons_self
  clo := fun x d hx => by
    rcases List.mem_append.mp hx with z | z
    · rcases h.clo x d z with q | q
      · exact .inl (List.mem_append_left _ q)
      · refine .inr fun w hw hwl => ?_
        rcases q w hw hwl with q | ⟨q1, q2⟩
        · exact .inl (List.mem_append_left _ q)
        · rcases List.mem_cons.mp q2 with e | e
          · rw [e]; exact .inl (List.mem_append_right _ List.mem_cons_self)
          · exact .inr ⟨q1, e⟩
    · simp only [List.mem_singleton, Prod.mk.injEq] at z
      exact .inl (List.mem_append_right _ (by simp [z.1]))
  len := by have := h.len; rw [List.length_append, List.length_append, List.length_singleton, List.length_singleton]; omega
theorem PainW.stop {L : List Cell} {c one : Cell} {P0 N : Pnt} (h : PainW L c P0 N [] [] one) : Pain L (P0 ++ N) where
  nd := h.nd
  sub := fun x hx => by
    rw [keysP, List.map_append] at hx
    exact (List.mem_append.mp hx).elim (h.p0.sub x) (h.sub x)
  clo := fun x d hx y hy hl => by
    rcases List.mem_append.mp hx with z | z
    · exact List.mem_append_left _ (h.p0.clo x d z y hy hl)
    · obtain ⟨rfl, _⟩ := h.col x d z
      rcases h.clo x d z with q | q
      · cases q
      · rcases q y hy hl with q | ⟨_, q⟩
        · exact List.mem_append_right _ q
        · cases q
  con := fun x d hx => by
    rcases List.mem_append.mp hx with z | z
    · obtain ⟨h1, h2, h3⟩ := h.p0.con x d z
      exact ⟨h1, h2, List.mem_append_left _ h3⟩
    · obtain ⟨rfl, h2⟩ := h.col x d z
      exact ⟨h.cc.1, h2, List.mem_append_right _ h.cc.2⟩
/-- the colours that are met -/
structure Cols (L S : List Cell) (P : Pnt) (i : Nat) (ks : List Cell) : Prop where
  nd : ks.Nodup
  mem : ∀ k, k ∈ ks ↔ ∃ x, x ∈ S.take i ∧ (x, k) ∈ P
theorem cols_one {L S : List Cell} {P : Pnt} {ks : List Cell} (hp : Pain L P) (hall : ∀ x ∈ L, x ∈ keysP P) (hS : ∀ x, x ∈ S ↔ x ∈ L) (h : Cols L S P S.length ks) : ks.length = 1 ↔ Hang L := by
  have hm : ∀ k, k ∈ ks ↔ ∃ x, x ∈ L ∧ (x, k) ∈ P := fun k => by
    rw [h.mem, List.take_length]
    exact ⟨fun ⟨x, a, b⟩ => ⟨x, (hS x).mp a, b⟩, fun ⟨x, a, b⟩ => ⟨x, (hS x).mpr a, b⟩⟩
  have spread : ∀ c x, (c, c) ∈ P → Rch L c x → (x, c) ∈ P := fun c x hc r => by
    induction r with
    | here => exact hc
    | step _ hb hcl ih => exact hp.clo _ c ih _ (besN_L.mpr hb) hcl
  constructor
  · intro hl
    obtain ⟨k, rfl⟩ := List.length_eq_one_iff.mp hl
    obtain ⟨x, hx, hxk⟩ := (hm k).mp List.mem_cons_self
    obtain ⟨hk, _, _⟩ := hp.con x k hxk
    rw [hang_from hk]
    intro y hy
    obtain ⟨d, hd⟩ := mem_keysP.mp (hall y hy)
    have : d = k := by simpa using (hm d).mpr ⟨y, hy, hd⟩
    subst this
    exact (hp.con y d hd).2.1
  · intro hh
    obtain ⟨a, ha⟩ := List.exists_mem_of_ne_nil L hh.1
    obtain ⟨c, hc⟩ := mem_keysP.mp (hall a ha)
    obtain ⟨hcl, _, hcc⟩ := hp.con a c hc
    have all : ∀ k ∈ ks, k = c := fun k hk => by
      obtain ⟨x, hx, hxk⟩ := (hm k).mp hk
      exact pnt_one hp.nd hxk (spread c x hcc (hh.2 c hcl x hx))
    have hck : c ∈ ks := (hm c).mpr ⟨a, ha, hc⟩
    have h1 : ks.length ≤ 1 := by
      have := List.Nodup.length_le_of_subset (l₂ := [c]) h.nd fun k hk => by rw [all k hk]; exact List.mem_cons_self
      simpa using this
    have := List.length_pos_of_mem hck
    omega
theorem Cols.next {L S : List Cell} {P : Pnt} {i : Nat} {ks : List Cell} {x k : Cell} (h : Cols L S P i ks) (nd : (keysP P).Nodup) (hx : S[i]? = some x) (hk : (x, k) ∈ P) : (k ∈ ks → Cols L S P (i + 1) ks) ∧ (k ∉ ks → Cols L S P (i + 1) (ks ++ [k])) := by
  have e : S.take (i + 1) = S.take i ++ [x] := take_snoc hx
  have key : ∀ d, (∃ y, y ∈ S.take (i + 1) ∧ (y, d) ∈ P) ↔ (d ∈ ks ∨ d = k) := fun d => by
    rw [h.mem, e]
    constructor
    · rintro ⟨y, hy, hd⟩
      rcases List.mem_append.mp hy with z | z
      · exact .inl ⟨y, z, hd⟩
      · have : y = x := by simpa using z
        subst this
        exact .inr (pnt_one nd hd hk)
    · rintro (⟨y, hy, hd⟩ | rfl)
      · exact ⟨y, List.mem_append_left _ hy, hd⟩
      · exact ⟨x, List.mem_append_right _ List.mem_cons_self, hk⟩
  constructor
  · intro hm
    refine ⟨h.nd, fun d => ?_⟩
    rw [key]
    exact ⟨.inl, fun z => z.elim id fun z => by rw [z]; exact hm⟩
  · intro hm
    refine ⟨List.nodup_append.mpr ⟨h.nd, by simp, ?_⟩, fun d => ?_⟩
    · intro a ha b hb z
      have hb' : b = k := by simpa using hb
      exact hm (by rw [← hb', ← z]; exact ha)
    · rw [key, List.mem_append]
      simp
end G
set_option Elab.async false
set_option linter.all false
set_option maxRecDepth 100000
set_option maxHeartbeats 4000000
set_option pp.maxSteps 300
namespace G
open PySem PySem.Spec PyProof.Rows L2 RZ
variable {P : Program} {w : World} {K : PySem.W.Frag} {mg : Str → Option Value} {base : Heap}
/-! ### _law_nb_crosses -/
def d4L : List Cell := [(-1, -1), (-1, 1), (1, -1), (1, 1)]
def crB (L : List Cell) (c d : Cell) : Bool := decide ((c.1 + d.1, c.2 + d.2) ∈ L) && (!decide ((c.1 + d.1, c.2) ∈ L) && !decide ((c.1, c.2 + d.2) ∈ L))
def crossB (L : List Cell) (c : Cell) : Bool := d4L.any (crB L c)
def spCross (K : PySem.W.Frag) : Sp := spP (fun _ : List Cell × Cell => True) (fun x => [isL K (x.1.map cD), isD K (cD x.2)]) (fun x φ => φ = isD K (.bool (crossB x.1 x.2)))
theorem sc_cross : FnScope ["_law_body", "_law_cell", "_law_across", "_law_up"] ["_law_body", "_law_cell"] (defScope (top 49)) := ⟨rfl, rfl, rfl, by decide +kernel, rfl, by decide +kernel, by decide +kernel⟩
theorem h_cross (T : Txt K mg) : Has P w K mg base 5 "_law_nb_crosses" (spCross K) := by
  obtain ⟨f, fd, F, m⟩ := T.law_nb_crosses
  refine ⟨f, fd, ["_law_body", "_law_cell"], defP F sc_cross (kk := 4) (by decide) (fun _ => rfl) ?_, m, F.kp, F.binds fun _ _ _ _ _ _ us hl => match us, hl with | [_, _], _ => rfl⟩
  rintro cdv A outer s H E hr ⟨L, c⟩ -
  have hX := nor_of (P := P) (w := w) (K := K) (mg := mg) (base := base) (CX := CX0) (outer := outer) (H := H) (E := E) sc_cross.nd hr (by decide)
  refine stB_cons (st_forI hX (evI_list (ev_lst (evA_cons (ev_tup2 (ev_negI (ev_int ⟨1, rfl, ev_negI (ev_int ⟨1, rfl, _, _, dat_d, dat_d, ?_⟩)⟩)))))))
  refine evA_cons (ev_tup2 (ev_negI (ev_int ⟨1, rfl, ev_int ⟨_, _, dat_d, dat_d, ?_⟩⟩)))
  refine evA_cons (ev_tup2 (ev_int (ev_negI (ev_int ⟨1, rfl, _, _, dat_d, dat_d, ?_⟩))))
  refine evA_cons (ev_tup2 (ev_int (ev_int ⟨_, _, dat_d, dat_d, ?_⟩)))
  refine evA_nil ⟨_, .cons dat_d (.cons dat_d (.cons dat_d (.cons dat_d .nil))), le1000 (n := 4) rfl (by decide), d4L.map cD, .l, fun i Γ Ω => Γ = [some (isL K (L.map cD)), some (isD K (cD c)), none, none] ∧ Ω = [] ∧ ∀ d ∈ d4L.take i, crB L c d = false, ⟨rfl, rfl, fun d hd => nomatch hd⟩, ?_, ?_⟩
  · rintro i d Γ Ω hd ⟨rfl, rfl, hno⟩
    rw [List.getElem?_map] at hd
    obtain ⟨d, hd', rfl⟩ := Option.map_eq_some_iff.mp hd
    have nxt : crB L c d = false → ∀ e ∈ d4L.take (i + 1), crB L c e = false := fun h e he => by
      rw [take_snoc hd'] at he
      rcases List.mem_append.mp he with z | z
      · exact hno e z
      · have : e = d := by simpa using z
        rw [this]; exact h
    have wk : ∀ x y, WkG [some (isL K (L.map cD)), some (isD K (cD c)), x, y] [some (isL K (L.map cD)), some (isD K (cD c)), none, none] := fun _ _ => .yes Sub.rfl (.yes Sub.rfl (.no (.no .nil)))
    refine tgt_pair (i := 2) (j := 3) (d1 := .int d.1) (d2 := .int d.2) hX.calm hX.nd rfl rfl (stB_one (st_if (evT_inL hX (ev_tup2 (ev_addI (ev_ixT (ev_name (i := 1) rfl rfl (ev_int ⟨_, 0, _, rfl, rfl, rfl, ev_name (i := 2) rfl rfl ⟨_, _, rfl, rfl, ?_⟩⟩))))))))
    refine ev_addI (ev_ixT (ev_name (i := 1) rfl rfl (ev_int ⟨_, 1, _, rfl, rfl, rfl, ev_name (i := 3) rfl rfl ⟨_, _, rfl, rfl, _, _, dat_d, dat_d, ev_name (i := 0) rfl rfl ⟨_, ⟨_, _, dq_d, dq_l, rfl, shL L, any_cells L (c.1 + d.1, c.2 + d.2)⟩, ?_⟩⟩⟩)))
    by_cases h1 : (c.1 + d.1, c.2 + d.2) ∈ L
    · refine (if_pos (decide_eq_true h1)).mpr (stB_one (st_if (evW_pt (evW_and (evT_niL hX (ev_tup2 (ev_addI (ev_ixT (ev_name (i := 1) rfl rfl (ev_int ⟨_, 0, _, rfl, rfl, rfl, ev_name (i := 2) rfl rfl ⟨_, _, rfl, rfl, ?_⟩⟩))))))))))
      refine ev_ixT (ev_name (i := 1) rfl rfl (ev_int ⟨_, 1, _, rfl, rfl, rfl, _, _, dat_d, dat_d, ev_name (i := 0) rfl rfl ⟨_, ⟨_, _, dq_d, dq_l, rfl, shL L, any_cells L (c.1 + d.1, c.2)⟩, ?_⟩⟩))
      by_cases h2 : (c.1 + d.1, c.2) ∈ L
      · refine (if_neg (by rw [decide_eq_true h2]; decide)).mpr (stB_nil ⟨_, _, wk _ _, List.Sublist.refl _, rfl, rfl, nxt ?_⟩)
        unfold crB
        simp [h2]
      · refine (if_pos (by rw [decide_eq_false h2]; rfl)).mpr (evW_and1 (evT_niL hX (ev_tup2 (ev_ixT (ev_name (i := 1) rfl rfl (ev_int ⟨_, 0, _, rfl, rfl, rfl, ?_⟩))))))
        refine ev_addI (ev_ixT (ev_name (i := 1) rfl rfl (ev_int ⟨_, 1, _, rfl, rfl, rfl, ev_name (i := 3) rfl rfl ⟨_, _, rfl, rfl, _, _, dat_d, dat_d, ev_name (i := 0) rfl rfl ⟨_, ⟨_, _, dq_d, dq_l, rfl, shL L, any_cells L (c.1, c.2 + d.2)⟩, ?_⟩⟩⟩)))
        by_cases h3 : (c.1, c.2 + d.2) ∈ L
        · refine (if_neg (by rw [decide_eq_true h3]; decide)).mpr (stB_nil ⟨_, _, wk _ _, List.Sublist.refl _, rfl, rfl, nxt ?_⟩)
          unfold crB
          simp [h3]
        · refine (if_pos (by rw [decide_eq_false h3]; rfl)).mpr (stB_one (st_ret (ev_bool ?_)))
          have : crossB L c = true := List.any_eq_true.mpr ⟨d, List.mem_of_getElem? hd', by unfold crB; simp [h1, h2, h3]⟩
          rw [this]
          rfl
    · refine (if_neg (fun z => h1 (of_decide_eq_true z))).mpr (stB_nil ⟨_, _, wk _ _, List.Sublist.refl _, rfl, rfl, nxt ?_⟩)
      unfold crB
      rw [decide_eq_false h1]; rfl
  rintro Γ Ω ⟨rfl, rfl, hno⟩
  refine stB_one (st_ret (ev_bool ?_))
  have : crossB L c = false := by
    unfold crossB
    rw [List.any_eq_false]
    intro d hd
    rw [hno d (by rw [List.length_map, List.take_length]; exact hd)]
    decide
  rw [this]
  rfl
/-! ### _law_nb_shape -/
def shpN (L : List Cell) : List Cell := sortC (L.map fun c => (c.1 - (corL L).1, c.2 - (corL L).2))
theorem shpN_eq (L : List Cell) : shpN L = sortC (shpL L) := by
  unfold shpN
  congr 1
def spShpN (K : PySem.W.Frag) : Sp := spP (fun x : Bool × List Cell => x.2 ≠ [] ∧ x.2.length ≤ 1000) (fun x => [sqM K x.1 (x.2.map cD)]) (fun x φ => φ = isD K (bD (shpN x.2)))
abbrev NShp : List Str := ["_law_cells", "_law_column", "_law_row", "_law_cell", "_law_x", "_law_y"]
theorem sc_shpN : FnScope NShp ["_law_cells"] (defScope (top 51)) := ⟨rfl, rfl, rfl, by decide +kernel, rfl, by decide +kernel, by decide +kernel⟩
theorem h_shpN (T : Txt K mg) : Has P w K mg base 5 "_law_nb_shape" (spShpN K) := by
  obtain ⟨f, fd, F, m⟩ := T.law_nb_shape
  refine ⟨f, fd, ["_law_cells"], defP F sc_shpN (kk := 4) (by decide) (fun _ => rfl) ?_, m, F.kp, F.binds fun _ _ _ _ _ _ us hl => match us, hl with | [_], _ => rfl⟩
  rintro cdv A outer s H E hr ⟨t, L⟩ ⟨hL, hlen⟩
  replace hlen : L.length ≤ 1000 := hlen
  have hX := nor_of (P := P) (w := w) (K := K) (mg := mg) (base := base) (CX := CX0) (outer := outer) (H := H) (E := E) sc_shpN.nd hr (by decide)
  have hc : 0 < (colL L).length := by unfold colL; rw [List.length_map]; exact List.length_pos_iff.mpr hL
  have hw : 0 < (rowL L).length := by unfold rowL; rw [List.length_map]; exact List.length_pos_iff.mpr hL
  refine stB_cons (st_parC (i := 1) (j := 2) hX rfl rfl (evA_cons (ev_minL hX T.n_min (ev_lc hX L cD (fun c => .int c.1) (fun _ => true) (fun x => [some (sqM K t (L.map cD)), none, none, some (isD K (cD x)), none, none]) (own := [("_law_cell", 3)]) (fun σ => wipe_wipe1 σ 3)
    (show BlkOk NShp (defScope (top 51)) _ [("_law_cell", 3)] from blkOk_by (by decide +kernel)) (evI_sq (t := t) (ev_name (i := 0) rfl rfl ⟨_, rfl, rfl, ?_, ?_⟩))))))
  · intro s' H0 C cl fp x hx
    exact ⟨tgB_name hX.nd rfl, evTs_nil ⟨rfl, rfl⟩, fun _ => ev_ixT (ev_name (i := 3) rfl rfl (ev_int ⟨_, 0, _, rfl, rfl, rfl, rfl, dat_d⟩))⟩
  rw [outp_all, col_map]
  refine ⟨colL L, .l, hc, fun m1 a1 b1 => evA_cons (ev_minL hX T.n_min (ev_lc hX L cD (fun c => .int c.2) (fun _ => true) (fun x => [some (sqM K t (L.map cD)), none, none, some (isD K (cD x)), none, none]) (own := [("_law_cell", 3)]) (fun σ => wipe_wipe1 σ 3)
    (show BlkOk NShp (defScope (top 51)) _ [("_law_cell", 3)] from blkOk_by (by decide +kernel)) (evI_sq (t := t) (ev_name (i := 0) rfl rfl ⟨_, rfl, rfl, ?_, ?_⟩))))⟩
  · intro s' H0 C cl fp x hx
    exact ⟨tgB_name hX.nd rfl, evTs_nil ⟨rfl, rfl⟩, fun _ => ev_ixT (ev_name (i := 3) rfl rfl (ev_int ⟨_, 1, _, rfl, rfl, rfl, rfl, dat_d⟩))⟩
  rw [outp_all, row_map]
  refine ⟨rowL L, .l, hw, fun m2 a2 b2 => evA_nil ⟨_, _, rfl, ?_⟩⟩
  rw [minI_eq a1 b1, minI_eq a2 b2]
  refine stB_one (st_ret (ev_tupL T.n_tuple boot_tuple (ev_sorted hX T.n_sorted (ev_lc hX L cD (fun c => cD (c.1 - (corL L).1, c.2 - (corL L).2)) (fun _ => true) (fun x => [some (sqM K t (L.map cD)), some (isD K (.int (corL L).1)), some (isD K (.int (corL L).2)), none, some (isD K (.int x.1)), some (isD K (.int x.2))]) (own := [("_law_x", 4), ("_law_y", 5)]) (fun σ => wipe_wipe2 σ 4 5)
    (show BlkOk NShp (defScope (top 51)) _ [("_law_x", 4), ("_law_y", 5)] from blkOk_by (by decide +kernel)) (evI_sq (t := t) (ev_name (i := 0) rfl rfl ⟨_, rfl, rfl, ?_, _, .q (.l .l), ?_, ?_⟩))))))
  · intro s' H0 C cl fp x hx
    refine ⟨tgB_pair (i := 4) (j := 5) hX.calm hX.nd rfl rfl (by decide), evTs_nil ⟨rfl, rfl⟩, fun _ => ev_tup2 (ev_subI (ev_name (i := 4) rfl rfl (ev_name (i := 1) rfl rfl ⟨_, _, rfl, rfl, ?_⟩)))⟩
    exact ev_subI (ev_name (i := 5) rfl rfl (ev_name (i := 2) rfl rfl ⟨_, _, rfl, rfl, _, _, dat_d, dat_d, rfl, dat_d⟩))
  all_goals rw [outp_all]
  all_goals rw [show (L.map fun c => cD (c.1 - (corL L).1, c.2 - (corL L).2)) = (L.map fun c => (c.1 - (corL L).1, c.2 - (corL L).2)).map cD by rw [List.map_map]; rfl]
  · rintro ds rfl
    exact ⟨canS_cells _, by rw [List.length_map, List.length_map, sizeLine_eq]; omega⟩
  · rintro ds rfl
    refine ⟨_, .l, ?_⟩
    rw [sortD_cells]
    rfl
end G
set_option Elab.async false
set_option linter.all false
set_option maxRecDepth 100000
set_option maxHeartbeats 4000000
set_option pp.maxSteps 300
namespace G
open PySem PySem.Spec PyProof.Rows L2 RZ
variable {P : Program} {w : World} {K : PySem.W.Frag} {mg : Str → Option Value} {base : Heap}
/-! ### _law_nb_lots -/
def pkv (K : PySem.W.Frag) (Q : Pnt) : List (NK × MP) := Q.map fun x => (cK x.1, isD K (cD x.2))
theorem look_key {α : Type} (key : α → Cell) (val : α → MP) : ∀ {l : List α} {a : α}, (l.map key).Nodup → a ∈ l → look (l.map fun x => (cK (key x), val x)) (cK (key a)) = some (val a)
  | [], _, _, h => (List.not_mem_nil h).elim
  | x :: l, a, hn, h => by
    obtain ⟨n1, n2⟩ := List.nodup_cons.mp hn
    unfold look
    rw [List.map_cons, List.find?_cons]
    rcases List.mem_cons.mp h with rfl | h
    · rw [decide_eq_true rfl]; rfl
    · have e : ¬ cK (key x) = cK (key a) := fun z => n1 (List.mem_map.mpr ⟨a, h, (cK_inj z).symm⟩)
      rw [decide_eq_false e]
      exact look_key key val n2 h
theorem look_nokey {α : Type} (key : α → Cell) (val : α → MP) {l : List α} {c : Cell} (h : c ∉ l.map key) : look (l.map fun x => (cK (key x), val x)) (cK c) = none := by
  unfold look
  rw [Option.map_eq_none_iff, List.find?_eq_none]
  intro x hx
  obtain ⟨y, hy, rfl⟩ := List.mem_map.mp hx
  have : cK (key y) ≠ cK c := fun z => h (List.mem_map.mpr ⟨y, hy, cK_inj z⟩)
  simpa using this
theorem look_pkv {Q : Pnt} (hn : (keysP Q).Nodup) (c : Cell) : (look (pkv K Q) (cK c)).isSome = decide (c ∈ keysP Q) := by
  by_cases h : c ∈ keysP Q
  · obtain ⟨⟨c', d⟩, hx, rfl⟩ := List.mem_map.mp h
    rw [decide_eq_true h]
    have := look_key (fun x : Cell × Cell => x.1) (fun x => isD K (cD x.2)) hn hx
    unfold pkv
    rw [this]; rfl
  · rw [decide_eq_false h]
    have := look_nokey (fun x : Cell × Cell => x.1) (fun x => isD K (cD x.2)) h
    unfold pkv
    rw [this]; rfl
abbrev NLots : List Str := ["_law_cells", "_law_paint", "_law_inside", "_law_cell", "_law_todo", "_law_other", "_law_found", "_law_first"]
def spLots (K : PySem.W.Frag) : Sp := spP (fun L : List Cell => L.Nodup ∧ L.length ≤ 1000) (fun L => [isL K (L.map cD)]) (fun L φ => ∃ ds, φ = isL K ds ∧ (ds.length = 1 ↔ Hang L))
theorem sc_lots : FnScope NLots ["_law_cells"] (defScope (top 44)) := ⟨rfl, rfl, rfl, by decide +kernel, rfl, by decide +kernel, by decide +kernel⟩
theorem keys_len {L : List Cell} {Q : Pnt} (nd : (keysP Q).Nodup) (sub : ∀ x ∈ keysP Q, x ∈ L) : Q.length ≤ L.length := by
  have := List.Nodup.length_le_of_subset nd sub
  rwa [keysP, List.length_map] at this
def fkv (fd : List (Cell × Addr)) : List (NK × MP) := fd.map fun x => (cK x.1, isV (.ref x.2))
def HasL (K : PySem.W.Frag) (rest : Om) (i : Nat) (a : Addr) : Prop := ∃ ds, (a, lstO K ds) ∈ rest ∧ ds.length ≤ i
theorem h_lots (T : Txt K mg) : Has P w K mg base 6 "_law_nb_lots" (spLots K) := by
  obtain ⟨f, fd, F, m⟩ := T.law_nb_lots
  refine ⟨f, fd, ["_law_cells"], defP F sc_lots (kk := 5) (by decide) (fun _ => rfl) ?_, m, F.kp, F.binds fun _ _ _ _ _ _ us hl => match us, hl with | [_], _ => rfl⟩
  rintro cdv A outer s0 H E hr L ⟨hnd, hlen⟩
  have hX := nor_of (P := P) (w := w) (K := K) (mg := mg) (base := base) (CX := CX0) (outer := outer) (H := H) (E := E) sc_lots.nd hr (by decide)
  refine stB_cons (st_par2 (i := 1) (j := 2) hX rfl rfl (by decide) (evA_cons (ev_dnew fun p => evA_cons (ev_dictP hX T.n_dict (ev_lc hX L cD (fun c => .tuple [cD c, .bool true]) (fun _ => true) (fun c => [some (isL K (L.map cD)), none, none, some (isD K (cD c)), none, none, none, none]) (own := [("_law_cell", 3)]) (fun σ => wipe_wipe1 σ 3)
    (show BlkOk NLots (defScope (top 44)) _ [("_law_cell", 3)] from blkOk_by (by decide +kernel)) (evI_list (ev_name (i := 0) rfl rfl ⟨_, .l, rfl, ?_, L.map (fun c => (cK c, .bool true)), ?_, ?_, ?_, fun q => evA_nil ⟨_, _, rfl, ?_⟩⟩)))))))
  · intro s' H0 C cl fp x hx
    exact ⟨tgB_name hX.nd rfl, evTs_nil ⟨rfl, rfl⟩, fun _ => ev_tup2 (ev_name (i := 3) rfl rfl (ev_bool ⟨_, _, dat_d, dat_d, rfl, dat_d⟩))⟩
  · rw [outp_all, List.map_map]; rfl
  · intro x hx
    obtain ⟨c, _, rfl⟩ := List.mem_map.mp hx
    exact ⟨rfl, (keyC (K := K) (c := c)).d⟩
  · rw [List.map_map]
    exact key_nd hnd
  have eI : (L.map fun c => ((cK c : NK), (PyData.bool true))).map (fun x => (x.1, isD K x.2)) = sqs K L := by rw [List.map_map]; rfl
  show stB _ _ _ [(p, dctO P w K p []), (q, dctO P w K q ((L.map fun c => ((cK c : NK), PyData.bool true)).map fun x => (x.1, isD K x.2)))] _
  rw [eI]
  have canL : CanS (L.map cD) ∧ (L.map cD).length ≤ sizeLine := ⟨canS_cells _, by rw [List.length_map, sizeLine_eq]; omega⟩
  refine stB_cons (st_forI hX (evI_list (ev_sorted hX T.n_sorted (ev_name (i := 0) rfl rfl ⟨_, .q (.l .l), fun ds h => by subst h; exact canL, ?_⟩))))
  rintro ds rfl
  rw [sortD_cells]
  refine ⟨_, .l, fun i Γ Ω => ∃ Q : Pnt, Γ = [some (isL K (L.map cD)), some (isV (.ref p)), some (isV (.ref q)), none, none, none, none, none] ∧ Ω = [(p, dctO P w K p (pkv K Q)), (q, dctO P w K q (sqs K L))] ∧ Pain L Q ∧ ∀ k x, k < i → (sortC L)[k]? = some x → x ∈ keysP Q,
    ⟨[], rfl, rfl, Pain.nil L, fun k x hk => by omega⟩, ?_, ?_⟩
  · rintro i d Γ Ω hd ⟨Q, rfl, rfl, hQ, hdone⟩
    rw [List.getElem?_map] at hd
    obtain ⟨c, hc, rfl⟩ := Option.map_eq_some_iff.mp hd
    have hcL : c ∈ L := mem_sortC.mp (List.mem_of_getElem? hc)
    refine tgt_name (i := 3) hX.nd rfl (stB_cons (st_if (evT_inM hX (ev_name (i := 3) rfl rfl (ev_name (i := 1) rfl rfl ⟨decide (c ∈ keysP Q), ⟨cK c, pkv K Q, keyC, .o (j := 0) rfl, (look_pkv hQ.nd c).symm⟩, ?_⟩)))))
    by_cases hin : c ∈ keysP Q
    · refine (if_pos (decide_eq_true hin)).mpr (stB_one (st_cont ⟨_, _, .yes Sub.rfl (.yes Sub.rfl (.yes Sub.rfl (.no (.no (.no (.no (.no .nil))))))), List.Sublist.refl _, Q, rfl, rfl, hQ, fun k x hk hx => ?_⟩))
      by_cases e : k = i
      · subst e
        rw [hc] at hx
        cases hx
        exact hin
      · exact hdone k x (by omega) hx
    · refine (if_neg (fun z => hin (of_decide_eq_true z))).mpr (stB_nil ?_)
      have hn0 : look (pkv K Q) (cK c) = none := by
        have := look_pkv (K := K) hQ.nd c
        rw [decide_eq_false hin] at this
        cases e : look (pkv K Q) (cK c) with
        | none => rfl
        | some v => rw [e] at this; cases this
      have hQl : (pkv K Q).length < sizeLine := by
        have := keys_len hQ.nd hQ.sub
        unfold pkv
        rw [List.length_map, sizeLine_eq]; omega
      refine stB_cons (st_setPairM (j := 4) (p3 := ⟨0, 0, 0, 0⟩) hX rfl (evA_cons (ev_name (i := 3) rfl rfl (evA_cons (ev_lst1 (ev_name (i := 3) rfl rfl ⟨cD c, dat_d, fun r => evA_nil ⟨_, _, rfl, ev_name (i := 1) rfl rfl (ev_name (i := 3) rfl rfl ⟨0, p, pkv K Q, cK c, rfl, keyC, rfl, hn0, hQl, ?_⟩)⟩⟩))))))
      refine stB_one (st_while hX (fun m Γ Ω => ∃ (N : Pnt) (todo : List Cell) (one : Cell), Γ = [some (isL K (L.map cD)), some (isV (.ref p)), some (isV (.ref q)), some (isD K (cD c)), some (isV (.ref r)), none, none, none] ∧
        Ω = [(p, dctO P w K p (pkv K (Q ++ N))), (q, dctO P w K q (sqs K L)), (r, lstO K (todo.map cD))] ∧ PainW L c Q N todo [] one ∧ m = 2 * (L.length - N.length) + todo.length) _ ⟨[(c, c)], [c], c, rfl, ?_, hQ.begin hcL hin c, rfl⟩ ?_)
      · unfold pkv
        rw [List.map_append]; rfl
      rintro m Γ Ω ⟨N, todo, one0, rfl, rfl, hW, rfl⟩
      refine evT_neD hX (ev_name (i := 4) rfl rfl (ev_lst (evA_nil ⟨[], .nil, by decide, _, _, _, dq_o (j := 2) rfl, dq_l, shL todo, rfl, eqv_nilL _, ?_⟩)))
      rcases List.eq_nil_or_concat todo with rfl | ⟨todo', one, rfl⟩
      · refine (if_neg (by decide)).mpr ?_
        refine ⟨_, _, .yes Sub.rfl (.yes Sub.rfl (.yes Sub.rfl (.no (.no (.no (.no (.no .nil))))))), List.Sublist.cons₂ _ (List.Sublist.cons₂ _ (List.Sublist.cons _ List.Sublist.slnil)), Q ++ N, rfl, rfl, hW.stop, fun k x hk hx => ?_⟩
        rw [keysP, List.map_append]
        by_cases e : k = i
        · subst e
          rw [hc] at hx
          cases hx
          exact List.mem_append_right _ (List.mem_map.mpr ⟨_, hW.cc.2, rfl⟩)
        · exact List.mem_append_left _ (hdone k x (by omega) hx)
      · have eT : (todo'.concat one).map cD = todo'.map cD ++ [cD one] := by simp
        rw [List.concat_eq_append] at hW
        have hlo : (todo'.concat one).length = todo'.length + 1 := by simp
        rw [eT, if_pos (by simp)]
        have hW1 := hW.pop
        have ho : (one, c) ∈ N := hW.tod one (List.mem_append_right _ List.mem_cons_self)
        refine stB_one (st_forI hX (evI_list (ev_call ((h_besN T).cal hr) (evA_cons (ev_pop (ev_name (i := 4) rfl rfl ⟨2, r, todo'.map cD, cD one, rfl, rfl, evA_nil ⟨one, trivial, Subs.rfl, ?_⟩⟩))))))
        rintro φ rfl
        refine ⟨_, .l, fun j Γ Ω => ∃ (N' : Pnt) (todo : List Cell), Γ = [some (isL K (L.map cD)), some (isV (.ref p)), some (isV (.ref q)), some (isD K (cD c)), some (isV (.ref r)), none, none, none] ∧
          Ω = [(p, dctO P w K p (pkv K (Q ++ N'))), (q, dctO P w K q (sqs K L)), (r, lstO K (todo.map cD))] ∧ PainW L c Q N' todo ((besN one).drop j) one ∧ (one, c) ∈ N' ∧ 2 * (L.length - N'.length) + todo.length ≤ 2 * (L.length - N.length) + todo'.length,
          ⟨N, todo', rfl, rfl, hW1, ho, Nat.le_refl _⟩, ?_, ?_⟩
        · rintro j d Γ Ω hd ⟨N', todo, rfl, rfl, hW2, ho2, hm⟩
          rw [List.getElem?_map] at hd
          obtain ⟨y, hy, rfl⟩ := Option.map_eq_some_iff.mp hd
          have hdr : (besN one).drop j = y :: (besN one).drop (j + 1) := by
            obtain ⟨h1, h2⟩ := List.getElem?_eq_some_iff.mp hy
            rw [List.drop_eq_getElem_cons h1, h2]
          rw [hdr] at hW2
          have hyb : y ∈ besN one := List.mem_of_getElem? hy
          have wk : WkG [some (isL K (L.map cD)), some (isV (.ref p)), some (isV (.ref q)), some (isD K (cD c)), some (isV (.ref r)), some (isD K (cD y)), none, none] [some (isL K (L.map cD)), some (isV (.ref p)), some (isV (.ref q)), some (isD K (cD c)), some (isV (.ref r)), none, none, none] := .yes Sub.rfl (.yes Sub.rfl (.yes Sub.rfl (.yes Sub.rfl (.yes Sub.rfl (.no (.no (.no .nil)))))))
          have hNl : (Q ++ N').length ≤ L.length := keys_len hW2.nd fun x hx => by
            rw [keysP, List.map_append] at hx
            exact (List.mem_append.mp hx).elim (hQ.sub x) (hW2.sub x)
          have hNl2 : N'.length ≤ L.length := by rw [List.length_append] at hNl; omega
          have htl := hW2.len
          refine tgt_name (i := 5) hX.nd rfl (stB_one (st_if (evW_pt (evW_and (evT_inM hX (ev_name (i := 5) rfl rfl (ev_name (i := 2) rfl rfl ⟨decide (y ∈ L), ⟨cK y, sqs K L, keyC, .o (j := 1) rfl, look_sqs.symm⟩, ?_⟩)))))))
          by_cases h1 : y ∈ L
          · refine (if_pos (decide_eq_true h1)).mpr (evW_and1 (evT_niM hX (ev_name (i := 5) rfl rfl (ev_name (i := 1) rfl rfl ⟨decide (y ∈ keysP (Q ++ N')), ⟨cK y, pkv K (Q ++ N'), keyC, .o (j := 0) rfl, (look_pkv hW2.nd y).symm⟩, ?_⟩))))
            by_cases h2 : y ∈ keysP (Q ++ N')
            · refine (if_neg (by rw [decide_eq_true h2]; decide)).mpr (stB_nil ⟨_, _, wk, List.Sublist.refl _, N', todo, rfl, rfl, hW2.skip ho2 hyb (.inr h2), ho2, hm⟩)
            · have hn1 : look (pkv K (Q ++ N')) (cK y) = none := by
                have := look_pkv (K := K) hW2.nd y
                rw [decide_eq_false h2] at this
                cases e : look (pkv K (Q ++ N')) (cK y) with
                | none => rfl
                | some v => rw [e] at this; cases this
              have hW3 := hW2.add ho2 hyb h1 h2
              have hNl3 : (Q ++ (N' ++ [(y, c)])).length ≤ L.length := keys_len hW3.nd fun x hx => by
                rw [keysP, List.map_append] at hx
                exact (List.mem_append.mp hx).elim (hQ.sub x) (hW3.sub x)
              have hNl4 : N'.length + 1 ≤ L.length := by
                rw [List.length_append, List.length_append, List.length_singleton] at hNl3
                omega
              refine (if_pos (by rw [decide_eq_false h2]; rfl)).mpr (stB_cons (st_setM hX (ev_name (i := 3) rfl rfl (ev_name (i := 1) rfl rfl (ev_name (i := 5) rfl rfl ⟨0, p, pkv K (Q ++ N'), cK y, rfl, keyC, rfl, hn1, ?_, ?_⟩)))))
              · unfold pkv
                rw [List.length_map, sizeLine_eq]; omega
              refine stB_one (st_expr (ev_append (ev_name (i := 4) rfl rfl ⟨2, r, _, rfl, rfl, ev_name (i := 5) rfl rfl ⟨2, todo.map cD, cD y, rfl, dat_d, by rw [List.length_map, sizeLine_eq]; omega, ?_⟩⟩)))
              refine ⟨_, _, wk, List.Sublist.refl _, N' ++ [(y, c)], todo ++ [y], rfl, ?_, hW3, List.mem_append_left _ ho2, ?_⟩
              · have eP : pkv K (Q ++ (N' ++ [(y, c)])) = pkv K (Q ++ N') ++ [(cK y, isD K (cD c))] := by
                  rw [← List.append_assoc]
                  unfold pkv
                  rw [List.map_append (l₁ := Q ++ N')]; rfl
                have eT2 : (todo ++ [y]).map cD = todo.map cD ++ [cD y] := by simp
                rw [eP, eT2]
                rfl
              · rw [List.length_append, List.length_append, List.length_singleton, List.length_singleton]
                omega
          · exact (if_neg (fun z => h1 (of_decide_eq_true z))).mpr (stB_nil ⟨_, _, wk, List.Sublist.refl _, N', todo, rfl, rfl, hW2.skip ho2 hyb (.inl h1), ho2, hm⟩)
        · rintro Γ Ω ⟨N', todo, rfl, rfl, hW2, ho2, hm⟩
          have e : (besN one).drop ((besN one).map cD).length = [] := by rw [List.length_map]; exact List.drop_length
          rw [e] at hW2
          exact ⟨_, _, .yes Sub.rfl (.yes Sub.rfl (.yes Sub.rfl (.yes Sub.rfl (.yes Sub.rfl (.no (.no (.no .nil))))))), List.Sublist.refl _, _, by rw [hlo]; omega, N', todo, one, rfl, rfl, hW2, rfl⟩
  rintro Γ Ω ⟨Q, rfl, rfl, hQ, hdone⟩
  rw [List.length_map] at hdone
  have hall : ∀ x ∈ L, x ∈ keysP Q := fun x hx => by
    obtain ⟨k, hk⟩ := List.mem_iff_getElem?.mp (mem_sortC.mpr hx)
    exact hdone k x (List.getElem?_eq_some_iff.mp hk).1 hk
  refine stB_cons (st_set (i := 6) hX rfl (ev_dnew fun g => ?_))
  refine stB_cons (st_forI hX (evI_list (ev_sorted hX T.n_sorted (ev_name (i := 0) rfl rfl ⟨_, .q (.l .l), fun ds h => by subst h; exact canL, ?_⟩))))
  rintro ds rfl
  rw [sortD_cells]
  refine ⟨_, .l, fun i Γ Ω => ∃ (fd : List (Cell × Addr)) (rest : Om), Γ = [some (isL K (L.map cD)), some (isV (.ref p)), some (isV (.ref q)), none, none, none, some (isV (.ref g)), none] ∧
    Ω = (p, dctO P w K p (pkv K Q)) :: (q, dctO P w K q (sqs K L)) :: (g, dctO P w K g (fkv fd)) :: rest ∧ Cols L (sortC L) Q i (fd.map (·.1)) ∧ ∀ x ∈ fd, HasL K rest i x.2,
    ⟨[], [], rfl, rfl, ⟨List.nodup_nil, fun k => ⟨fun h => (nomatch h), fun ⟨x, h, _⟩ => (by rw [List.take_zero] at h; cases h)⟩⟩, fun x h => (nomatch h)⟩, ?_, ?_⟩
  · rintro i d Γ Ω hd ⟨fd, rest, rfl, rfl, hC, hR⟩
    rw [List.getElem?_map] at hd
    obtain ⟨c, hc, rfl⟩ := Option.map_eq_some_iff.mp hd
    have hcL : c ∈ L := mem_sortC.mp (List.mem_of_getElem? hc)
    obtain ⟨k, hk⟩ := mem_keysP.mp (hall c hcL)
    have hil : i < L.length := by rw [← sortC_len]; exact (List.getElem?_eq_some_iff.mp hc).1
    obtain ⟨n1, n2⟩ := hC.next hQ.nd hc hk
    have hfl : fd.length ≤ L.length := by
      have := List.Nodup.length_le_of_subset hC.nd (l₂ := L) fun x hx => by
        obtain ⟨y, _, hy⟩ := (hC.mem x).mp hx
        exact (hQ.con y x hy).1
      rwa [List.length_map] at this
    have lk : look (pkv K Q) (cK c) = some (isD K (cD k)) := look_key (fun x : Cell × Cell => x.1) (fun x => isD K (cD x.2)) hQ.nd hk
    have wk : WkG [some (isL K (L.map cD)), some (isV (.ref p)), some (isV (.ref q)), some (isD K (cD c)), none, none, some (isV (.ref g)), none] [some (isL K (L.map cD)), some (isV (.ref p)), some (isV (.ref q)), none, none, none, some (isV (.ref g)), none] := .yes Sub.rfl (.yes Sub.rfl (.yes Sub.rfl (.no (.no (.no (.yes Sub.rfl (.no .nil)))))))
    refine tgt_name (i := 3) hX.nd rfl (stB_one (st_expr (ev_append (ev_setdef hX (ev_name (i := 6) rfl rfl ⟨⟨fkv fd, .o (j := 2) rfl⟩, ev_ixM hX (ev_name (i := 1) rfl rfl (ev_name (i := 3) rfl rfl ⟨cK c, pkv K Q, _, .o (j := 0) rfl, keyC, lk, ev_lst0 fun a => ⟨2, g, fkv fd, cK k, rfl, keyC, rfl, ?_, ?_, ?_⟩⟩))⟩)))))
    · unfold fkv
      rw [List.length_map, sizeLine_eq]; omega
    · intro ω hω
      have hkm : k ∈ fd.map (·.1) := Classical.byContradiction fun h => by
        have := look_nokey (fun x : Cell × Addr => x.1) (fun x => isV (.ref x.2)) h
        unfold fkv at hω
        rw [this] at hω
        cases hω
      obtain ⟨⟨k', b⟩, hb, rfl⟩ := List.mem_map.mp hkm
      have e2 := look_key (fun x : Cell × Addr => x.1) (fun x => isV (.ref x.2)) hC.nd hb
      unfold fkv at hω
      rw [e2] at hω
      cases hω
      obtain ⟨ds, hds, hdl⟩ := hR _ hb
      obtain ⟨j, hj⟩ := List.mem_iff_getElem?.mp hds
      have hjr : (rest ++ [(a, lstO K [])])[j]? = some (b, lstO K ds) := by
        rw [List.getElem?_append_left (List.getElem?_eq_some_iff.mp hj).1]; exact hj
      refine ⟨j + 3, b, ds, rfl, hjr, ev_name (i := 3) rfl rfl ⟨j + 3, ds, cD c, hjr, dat_d, by rw [sizeLine_eq]; omega, ?_⟩⟩
      refine ⟨_, _, wk, List.Sublist.refl _, fd, (rest ++ [(a, lstO K [])]).set j (b, lstO K (ds ++ [cD c])), rfl, rfl, n1 hkm, fun x hx => ?_⟩
      obtain ⟨dx, hdx, hlx⟩ := hR x hx
      obtain ⟨m', hm'⟩ := List.mem_iff_getElem?.mp hdx
      by_cases e : j = m'
      · subst e
        rw [hj] at hm'
        simp only [Option.some.injEq, Prod.mk.injEq] at hm'
        refine ⟨ds ++ [cD c], ?_, by rw [List.length_append, List.length_singleton]; omega⟩
        rw [← hm'.1]
        exact List.mem_of_getElem? (List.getElem?_set_self (List.getElem?_eq_some_iff.mp hjr).1)
      · refine ⟨dx, List.mem_of_getElem? (i := m') ?_, by omega⟩
        rw [List.getElem?_set_ne e, List.getElem?_append_left (List.getElem?_eq_some_iff.mp hm').1]
        exact hm'
    · intro hno
      have hkm : k ∉ fd.map (·.1) := fun h => by
        obtain ⟨⟨k', b⟩, hb, rfl⟩ := List.mem_map.mp h
        have e2 := look_key (fun x : Cell × Addr => x.1) (fun x => isV (.ref x.2)) hC.nd hb
        unfold fkv at hno
        rw [e2] at hno
        cases hno
      have hjr : (rest ++ [(a, lstO K [])])[rest.length]? = some (a, lstO K []) := by simp
      refine ⟨rest.length + 3, a, [], rfl, hjr, ev_name (i := 3) rfl rfl ⟨rest.length + 3, [], cD c, hjr, dat_d, by rw [sizeLine_eq]; decide, ?_⟩⟩
      refine ⟨_, _, wk, List.Sublist.refl _, fd ++ [(k, a)], (rest ++ [(a, lstO K [])]).set rest.length (a, lstO K ([] ++ [cD c])), rfl, ?_, by rw [List.map_append]; exact n2 hkm, fun x hx => ?_⟩
      · have ef : fkv (fd ++ [(k, a)]) = fkv fd ++ [(cK k, isV (.ref a))] := by unfold fkv; rw [List.map_append]; rfl
        rw [ef]
        rfl
      · rcases List.mem_append.mp hx with z | z
        · obtain ⟨dx, hdx, hlx⟩ := hR x z
          obtain ⟨m', hm'⟩ := List.mem_iff_getElem?.mp hdx
          have hml := (List.getElem?_eq_some_iff.mp hm').1
          refine ⟨dx, List.mem_of_getElem? (i := m') ?_, by omega⟩
          rw [List.getElem?_set_ne (by omega), List.getElem?_append_left hml]
          exact hm'
        · obtain rfl : x = (k, a) := by simpa using z
          refine ⟨[] ++ [cD c], List.mem_of_getElem? (List.getElem?_set_self (by simp)), by show 1 ≤ i + 1; omega⟩
  rintro Γ Ω ⟨fd, rest, rfl, rfl, hC, hR⟩
  rw [List.length_map] at hC hR
  have hone := cols_one hQ hall (fun x => mem_sortC) hC
  have hch : ∀ k : Cell, ∃ ds : List PyData, ∀ a, (k, a) ∈ fd → (a, lstO K ds) ∈ rest := fun k => by
    by_cases h : k ∈ fd.map (·.1)
    · obtain ⟨⟨k', b⟩, hb, rfl⟩ := List.mem_map.mp h
      obtain ⟨ds, hds, _⟩ := hR _ hb
      refine ⟨ds, fun a ha => ?_⟩
      obtain ⟨i, hi⟩ := List.mem_iff_getElem?.mp hb
      obtain ⟨j, hj⟩ := List.mem_iff_getElem?.mp ha
      have e := nd_ix (i := i) (j := j) (x := k') hC.nd (by rw [List.getElem?_map, hi]; rfl) (by rw [List.getElem?_map, hj]; rfl)
      subst e
      rw [hi] at hj
      simp only [Option.some.injEq, Prod.mk.injEq] at hj
      rw [← hj.2]
      exact hds
    · exact ⟨[], fun a ha => absurd (List.mem_map.mpr ⟨_, ha, rfl⟩) h⟩
  obtain ⟨dl, hdl⟩ := Classical.axiomOfChoice hch
  generalize hks : fd.map (·.1) = ks at hone
  have ndk : ks.Nodup := by rw [← hks]; exact hC.nd
  have hkl : ks.length ≤ 1000 := by
    have := List.Nodup.length_le_of_subset ndk (l₂ := L) fun x hx => by
      rw [← hks] at hx
      obtain ⟨y, _, hy⟩ := (hC.mem x).mp hx
      exact (hQ.con y x hy).1
    omega
  have ekv : fd.map (fun x => ((cK x.1 : NK), isL K (dl x.1))) = ks.map fun k => (cK k, isL K (dl k)) := by rw [← hks, List.map_map]; rfl
  refine stB_shift (Γ' := [some (isL K (L.map cD)), some (isV (.ref p)), some (isV (.ref q)), none, none, none, some (isV (.ref g)), none]) (Ω' := [(g, dctO P w K g (ks.map fun k => (cK k, isL K (dl k))))]) ?_ ?_
  · intro W wo
    have hg : (g, dctO P w K g (fkv fd)) ∈ (p, dctO P w K p (pkv K Q)) :: (q, dctO P w K q (sqs K L)) :: (g, dctO P w K g (fkv fd)) :: rest := by simp
    have sF : Same (W.F ((p, dctO P w K p (pkv K Q)) :: (q, dctO P w K q (sqs K L)) :: (g, dctO P w K g (fkv fd)) :: rest)) (W.F [(g, dctO P w K g (ks.map fun k => (cK k, isL K (dl k))))]) := hid_anti fun a ha => by
      rcases List.mem_append.mp ha with z | z
      · have : a = g := by simpa [own] using z
        rw [this]
        exact List.mem_append_left _ (List.mem_map.mpr ⟨_, hg, rfl⟩)
      · exact List.mem_append_right _ z
    have nd := wo.nd
    refine ⟨⟨wo.sl.mono sF, fun z hz => ?_, by simp [own], fun z hz => ?_, wo.sm, wo.tr⟩, sF⟩
    · obtain rfl : z = (g, dctO P w K g (ks.map fun k => (cK k, isL K (dl k)))) := by simpa using hz
      obtain ⟨o, e, xs, rfl, kv⟩ := wo.ow _ hg
      refine ⟨_, e, xs, rfl, ?_⟩
      rw [← ekv]
      have at_ : ∀ x ∈ fd, (isL K (dl x.1)).p (W.F [(g, dctO P w K g (ks.map fun k => (cK k, isL K (dl k))))]) (.ref x.2) := fun x hx => by
        have hm := hdl x.1 x.2 hx
        have hm2 : (x.2, lstO K (dl x.1)) ∈ (p, dctO P w K p (pkv K Q)) :: (q, dctO P w K q (sqs K L)) :: (g, dctO P w K g (fkv fd)) :: rest := by simp [hm]
        obtain ⟨o, e1, e2⟩ := wo.ow _ hm2
        refine ⟨x.2, o, rfl, ?_, (lstO K (dl x.1)).mono sF e2⟩
        show hid _ W.H x.2 = some o
        rw [hid_out, e1]
        intro z
        rcases List.mem_append.mp z with z | z
        · have hxg : x.2 = g := by simpa [own] using z
          have hr : x.2 ∈ own rest := List.mem_map.mpr ⟨_, hm, rfl⟩
          simp only [own, List.map_cons, List.nodup_cons] at nd
          exact nd.2.2.1 (by rw [← hxg]; exact hr)
        · exact wo.out2 hm2 z
      have up : ∀ {fd : List (Cell × Addr)} {xs : List Ent}, (∀ x ∈ fd, (isL K (dl x.1)).p (W.F [(g, dctO P w K g (ks.map fun k => (cK k, isL K (dl k))))]) (.ref x.2)) → KvOk K (W.F [(g, dctO P w K g (ks.map fun k => (cK k, isL K (dl k))))]) xs (fkv fd) → KvOk K (W.F [(g, dctO P w K g (ks.map fun k => (cK k, isL K (dl k))))]) xs (fd.map fun x => (cK x.1, isL K (dl x.1))) := by
        intro fd
        induction fd with
        | nil =>
          intro xs _ h
          have h' : KvOk K _ xs [] := h
          cases h'
          exact .nil
        | cons x fd ih =>
          intro xs hx h
          have h' : KvOk K (W.F [(g, dctO P w K g (ks.map fun k => (cK k, isL K (dl k))))]) xs ((cK x.1, isV (.ref x.2)) :: fkv fd) := h
          cases h' with
          | cons h1 h2 h3 =>
            have h2' : _ = V.ref x.2 := h2
            subst h2'
            exact .cons h1 (hx x List.mem_cons_self) (ih (fun y hy => hx y (List.mem_cons_of_mem _ hy)) h3)
      exact up at_ (kv.mono sF)
    · obtain rfl : z = (g, dctO P w K g (ks.map fun k => (cK k, isL K (dl k)))) := by simpa using hz
      exact wo.nw (g, dctO P w K g (fkv fd)) hg
  have ekd : (ks.map fun k => ((cK k : NK), isL K (dl k))).map (·.1.data) = ks.map cD := by rw [List.map_map]; rfl
  refine stB_one (st_ret (ev_lc hX (sortC ks) cD (fun k => .list (dl k)) (fun _ => true) (fun k => [some (isL K (L.map cD)), some (isV (.ref p)), some (isV (.ref q)), none, none, none, some (isV (.ref g)), some (isD K (cD k))]) (own := [("_law_first", 7)]) (fun σ => wipe_wipe1 σ 7)
    (show BlkOk NLots (defScope (top 44)) _ [("_law_first", 7)] from blkOk_by (by decide +kernel)) (evI_list (ev_sorted hX T.n_sorted (ev_name (i := 6) rfl rfl ⟨_, .m (.o (j := 0) rfl), ?_, ?_⟩)))))
  · rintro ds rfl
    rw [ekd]
    exact ⟨canS_cells _, by rw [List.length_map, sizeLine_eq]; omega⟩
  · rintro ds rfl
    rw [ekd, sortD_cells]
    refine ⟨_, .l, rfl, fun s' H0 C cl fp k hk => ?_, _, rfl, ?_⟩
    · have hkm : k ∈ ks := mem_sortC.mp hk
      have lk := look_key (fun k : Cell => k) (fun k => isL K (dl k)) (l := ks) (by rw [List.map_id']; exact ndk) hkm
      exact ⟨tgB_name hX.nd rfl, evTs_nil ⟨rfl, rfl⟩, fun _ => ev_ixM hX.b (ev_name (i := 6) rfl rfl (ev_name (i := 7) rfl rfl ⟨cK k, _, isL K (dl k), .o (j := 0) rfl, keyC, lk, rfl, dat_l⟩))⟩
    · rw [outp_all, List.length_map, sortC_len]
      exact hone
end G
set_option Elab.async false
set_option linter.all false
set_option maxRecDepth 100000
set_option maxHeartbeats 4000000
set_option pp.maxSteps 300
namespace G
open PySem PySem.Spec PyProof.Rows L2 RZ
variable {P : Program} {w : World} {K : PySem.W.Frag} {mg : Str → Option Value} {base : Heap}
/-! ### _law_nb_free -/
theorem sq_sqM {K : PySem.W.Frag} {Ω : Om} {t : Bool} {ds : List PyData} : Sq K Ω (sqM K t ds) ds := by
  cases t with
  | true => exact .t
  | false => exact .l .l
theorem cut_sub {L : List Cell} {s : Cell} : (cut L s).length ≤ L.length := List.length_filter_le _ _
theorem freeL_small {L : List Cell} (h : L.length < 2) : freeL L = [] := by
  unfold freeL
  rw [List.filter_eq_nil_iff]
  intro c hc hb
  have hh := hangB_iff.mp hb
  have e : cut L c = [] := by
    match L, h, hc with
    | [a], _, hc =>
      have : c = a := by simpa using hc
      subst this
      unfold cut
      simp
  exact hh.1 e
noncomputable def spFreeN (K : PySem.W.Frag) : Sp := spP (fun x : Bool × List Cell => x.2.Nodup ∧ x.2.length ≤ 1000) (fun x => [sqM K x.1 (x.2.map cD)]) (fun x φ => φ = isL K ((freeL x.2).map cD))
abbrev NFree : List Str := ["_law_body", "_law_square", "_law_cell"]
theorem sc_freeN : FnScope NFree ["_law_body"] (defScope (top 45)) := ⟨rfl, rfl, rfl, by decide +kernel, rfl, by decide +kernel, by decide +kernel⟩
theorem h_freeN (T : Txt K mg) : Has P w K mg base 7 "_law_nb_free" (spFreeN K) := by
  obtain ⟨f, fd, F, m⟩ := T.law_nb_free
  refine ⟨f, fd, ["_law_body"], defP F sc_freeN (kk := 6) (by decide) (fun _ => rfl) ?_, m, F.kp, F.binds fun _ _ _ _ _ _ us hl => match us, hl with | [_], _ => rfl⟩
  rintro cdv A outer s H E hr ⟨t, L⟩ ⟨hnd, hlen⟩
  replace hlen : L.length ≤ 1000 := hlen
  replace hnd : L.Nodup := hnd
  have hX := nor_of (P := P) (w := w) (K := K) (mg := mg) (base := base) (CX := CX0) (outer := outer) (H := H) (E := E) sc_freeN.nd hr (by decide)
  refine stB_cons (st_if (evT_ltI (ev_len T.n_len (ev_name (i := 0) rfl rfl ⟨L.map cD, sq_sqM, ev_int ⟨_, _, rfl, rfl, ?_⟩⟩))))
  by_cases h : L.length < 2
  · refine (if_pos (decide_eq_true (by rw [List.length_map]; omega))).mpr (stB_one (st_ret (ev_lst (evA_nil ⟨[], .nil, by decide, ?_⟩))))
    show isL K [] = isL K ((freeL L).map cD)
    rw [freeL_small h]; rfl
  · refine (if_neg (fun z => h (by have := of_decide_eq_true z; rw [List.length_map] at this; omega))).mpr (stB_nil (stB_one (st_ret (ev_lc hX L cD cD (fun c => hangB (cut L c)) (fun c => [some (sqM K t (L.map cD)), some (isD K (cD c)), none]) (own := [("_law_square", 1)]) (fun σ => wipe_wipe1 σ 1)
      (show BlkOk NFree (defScope (top 45)) _ [("_law_square", 1)] from blkOk_by (by decide +kernel)) (evI_sq (t := t) (ev_name (i := 0) rfl rfl ⟨_, rfl, rfl, ?_, rfl⟩))))))
    intro s' H0 C cl fp c hc
    refine ⟨tgB_name hX.nd rfl, evTs_one (evT_eqD hX.b (ev_len T.n_len (ev_call ((h_lots T).cal hr) (evA_cons (ev_lc hX.b L cD cD (fun x => decide (x ≠ c)) (fun x => [some (sqM K t (L.map cD)), some (isD K (cD c)), some (isD K (cD x))]) (own := [("_law_cell", 2)]) (fun σ => wipe_wipe1 σ 2) ?_ (evI_sq (t := t) (ev_name (i := 0) rfl rfl ⟨_, rfl, rfl, ?_, ?_⟩))))))), fun _ => ev_name (i := 1) rfl rfl ⟨rfl, dat_d⟩⟩
    · exact blkOk_by (by rfl)
    · intro s2 H2 C2 cl2 fp2 x hx
      refine ⟨tgB_name hX.nd rfl, evTs_one (evT_neD hX.b.b (ev_name (i := 2) rfl rfl (ev_name (i := 1) rfl rfl ⟨_, _, _, dq_d, dq_d, rfl, rfl, eqv_cells x c, rfl, ?_⟩))), fun _ => ev_name (i := 2) rfl rfl ⟨rfl, dat_d⟩⟩
      by_cases h : x = c <;> simp [h]
    · refine evA_nil ⟨cut L c, ⟨cut_nd hnd, Nat.le_trans cut_sub hlen⟩, Subs.rfl, ?_⟩
      rintro φ ⟨ds, rfl, hds⟩
      refine ⟨ds, .l .l, ev_int ⟨_, _, _, dq_d, dq_d, rfl, rfl, eqv_int _ _, rfl, ?_⟩⟩
      rw [Bool.eq_iff_iff, decide_eq_true_iff, hangB_iff, ← hds]
      omega
/-! ### _law_nb_moves -/
noncomputable def movesN (L : List Cell) : List Mv := (freeL L).flatMap fun s => (sortC (stepsN (cut L s) s)).map fun e => (s, e)
theorem stepsN_len (R : List Cell) (c : Cell) : (sortC (stepsN R c)).length ≤ 9 := by
  rw [sortC_len]
  exact flat_le (fun a => rowN R c a dL) 3 (fun a => rowN_le R c a dL) dL
noncomputable def spMovesN (K : PySem.W.Frag) : Sp := spP (fun x : Bool × List Cell => x.2.Nodup ∧ x.2.length ≤ 1000) (fun x => [sqM K x.1 (x.2.map cD)]) (fun x φ => φ = isL K ((movesN x.2).map mD))
abbrev NMov : List Str := ["_law_body", "_law_found", "_law_start", "_law_rest", "_law_cell", "_law_end_here"]
theorem sc_movesN : FnScope NMov ["_law_body"] (defScope (top 52)) := ⟨rfl, rfl, rfl, by decide +kernel, rfl, by decide +kernel, by decide +kernel⟩
theorem h_movesN (T : Txt K mg) : Has P w K mg base 8 "_law_nb_moves" (spMovesN K) := by
  obtain ⟨f, fd, F, m⟩ := T.law_nb_moves
  refine ⟨f, fd, ["_law_body"], defP F sc_movesN (kk := 7) (by decide) (fun _ => rfl) ?_, m, F.kp, F.binds fun _ _ _ _ _ _ us hl => match us, hl with | [_], _ => rfl⟩
  rintro cdv A outer s H E hr ⟨t, L⟩ ⟨hnd, hlen⟩
  replace hlen : L.length ≤ 1000 := hlen
  replace hnd : L.Nodup := hnd
  have hX := nor_of (P := P) (w := w) (K := K) (mg := mg) (base := base) (CX := CX0) (outer := outer) (H := H) (E := E) sc_movesN.nd hr (by decide)
  refine stB_cons (st_set (i := 1) hX rfl (ev_lst (evA_nil ⟨[], .nil, by decide, ?_⟩)))
  refine stB_cons (st_forI hX (evI_list (ev_call ((h_freeN T).cal hr) (evA_cons (ev_name (i := 0) rfl rfl (evA_nil ⟨(t, L), ⟨hnd, hlen⟩, Subs.rfl, ?_⟩))))))
  rintro φ rfl
  refine ⟨_, .l, fun i Γ Ω => Γ = [some (sqM K t (L.map cD)), some (isL K ((((freeL L).take i).flatMap fun s => (sortC (stepsN (cut L s) s)).map fun e => (s, e)).map mD)), none, none, none, none] ∧ Ω = [], ⟨rfl, rfl⟩, ?_, ?_⟩
  · rintro i d Γ Ω hd ⟨rfl, rfl⟩
    rw [List.getElem?_map] at hd
    obtain ⟨s, hs, rfl⟩ := Option.map_eq_some_iff.mp hd
    refine tgt_name (i := 2) hX.nd rfl (stB_cons (st_setLc (i := 3) hX rfl L cD cD (fun x => decide (x ≠ s)) (fun x => [some (sqM K t (L.map cD)), some (isL K ((((freeL L).take i).flatMap fun s => (sortC (stepsN (cut L s) s)).map fun e => (s, e)).map mD)), some (isD K (cD s)), none, some (isD K (cD x)), none]) (own := [("_law_cell", 4)]) (fun σ => wipe_wipe1 σ 4)
      (show BlkOk NMov (defScope (top 52)) _ [("_law_cell", 4)] from blkOk_by (by decide +kernel)) (sw_true rfl rfl rfl (by decide +kernel)) (evI_sq (t := t) (ev_name (i := 0) rfl rfl ⟨_, rfl, rfl, ?_, ?_⟩))))
    · intro s' H0 C cl fp x hx
      refine ⟨tgB_name hX.nd rfl, evTs_one (evT_neD hX.b (ev_name (i := 4) rfl rfl (ev_name (i := 2) rfl rfl ⟨_, _, _, dq_d, dq_d, rfl, rfl, eqv_cells x s, rfl, ?_⟩))), fun _ => ev_name (i := 4) rfl rfl ⟨rfl, dat_d⟩⟩
      by_cases h : x = s <;> simp [h]
    rw [outp_cut]
    refine stB_one (st_set (i := 1) hX rfl (ev_catL (ev_name (i := 1) rfl rfl (ev_lc hX (sortC (stepsN (cut L s) s)) cD (fun e => mD (s, e)) (fun _ => true) (fun e => [some (sqM K t (L.map cD)), some (isL K ((((freeL L).take i).flatMap fun s => (sortC (stepsN (cut L s) s)).map fun e => (s, e)).map mD)), some (isD K (cD s)), some (isL K ((cut L s).map cD)), none, some (isD K (cD e))]) (own := [("_law_end_here", 5)]) (fun σ => wipe_wipe1 σ 5)
      (show BlkOk NMov (defScope (top 52)) _ [("_law_end_here", 5)] from blkOk_by (by decide +kernel)) (evI_list (ev_call ((h_steps T).cal hr) (evA_cons (ev_name (i := 3) rfl rfl (evA_cons (ev_name (i := 2) rfl rfl (evA_nil ⟨(cut L s, s), Nat.le_trans cut_sub hlen, Subs.rfl, ?_⟩)))))))))))
    rintro φ rfl
    refine ⟨_, .l, rfl, ?_, _, _, .l, .l, ?_, ?_⟩
    · intro s' H0 C cl fp e he
      exact ⟨tgB_name hX.nd rfl, evTs_nil ⟨rfl, rfl⟩, fun _ => ev_tup2 (ev_name (i := 2) rfl rfl (ev_name (i := 5) rfl rfl ⟨_, _, dat_d, dat_d, rfl, dat_d⟩))⟩
    · rw [outp_all, List.length_map, List.length_map, sizeLine_eq]
      have h1 := flat_le (fun s => (sortC (stepsN (cut L s) s)).map fun e => (s, e)) 9 (fun s => by rw [List.length_map]; exact stepsN_len _ _) ((freeL L).take i)
      have h2 := stepsN_len (cut L s) s
      have h3 : ((freeL L).take i).length ≤ 1000 := Nat.le_trans (by rw [List.length_take]; exact Nat.min_le_right _ _) (Nat.le_trans (freeL_len L) hlen)
      omega
    · refine ⟨_, _, .yes Sub.rfl (.yes ?_ (.no (.no (.no (.no .nil))))), List.Sublist.refl _, rfl, rfl⟩
      rw [outp_all, take_snoc hs, List.flatMap_append, List.flatMap_singleton, List.map_append, List.map_map]
      exact Sub.rfl
  rintro Γ Ω ⟨rfl, rfl⟩
  refine stB_one (st_ret (ev_name (i := 1) rfl rfl ?_))
  rw [List.length_map, List.take_length]
  rfl
end G
set_option Elab.async false
set_option linter.all false
set_option maxRecDepth 100000
set_option maxHeartbeats 4000000
set_option pp.maxSteps 300
namespace G
open PySem PySem.Spec PyProof.Rows L2 RZ
variable {P : Program} {w : World} {K : PySem.W.Frag} {mg : Str → Option Value} {base : Heap}
/-! ### _law_nb_layers -/
def nxtN (S : Shp) (m : Mv) : Shp := shpN (cut S m.1 ++ [m.2])
noncomputable def FlN (S : Shp) : List (Mv × Shp) := (movesN S).map fun m => (m, nxtN S m)
structure UniN (U : List Shp) : Prop where
  len : U.length ≤ 10000
  ok : ∀ S ∈ U, S.Nodup ∧ 1 ≤ S.length ∧ S.length ≤ 100
  same : ∀ S ∈ U, ∀ T ∈ U, S.length = T.length
  clo : ∀ S ∈ U, ∀ x ∈ FlN S, x.2 ∈ U
def sortS (Ts : List Shp) : List Shp := Ts.mergeSort fun a b => PySem.W.dataLe false id (bD a) (bD b)
theorem sortD_shapes (Ts : List Shp) : sortD (Ts.map bD) = (sortS Ts).map bD := (PySem.W.sort_maps bD fun _ _ _ _ => rfl).symm
theorem mem_sortS {Ts : List Shp} {T : Shp} : T ∈ sortS Ts ↔ T ∈ Ts := List.mem_mergeSort
theorem alike_cells : ∀ {a b : List Cell}, a.length = b.length → PySem.W.alikeAll (a.map cD) (b.map cD) = true
  | [], [], _ => rfl
  | [], _ :: _, h => by simp at h
  | _ :: _, [], h => by simp at h
  | x :: a, y :: b, h => by
    show (true && PySem.W.alikeAll (a.map cD) (b.map cD)) = true
    rw [alike_cells (by simpa using h)]; rfl
theorem canS_shapes {Ts : List Shp} (h1 : ∀ S ∈ Ts, ∀ T ∈ Ts, S.length = T.length) (h2 : ∀ S ∈ Ts, 1 ≤ S.length) : CanS (Ts.map bD) where
  al := fun d hd d' hd' => by
    obtain ⟨S, hS, rfl⟩ := List.mem_map.mp hd
    obtain ⟨T, hT, rfl⟩ := List.mem_map.mp hd'
    exact alike_cells (h1 S hS T hT)
  so := .inl fun d hd => by
    obtain ⟨S, hS, rfl⟩ := List.mem_map.mp hd
    have := h2 S hS
    match S, this with
    | c :: S, _ => exact ⟨_, _, rfl⟩
  de := fun d hd => by
    obtain ⟨S, _, rfl⟩ := List.mem_map.mp hd
    exact Nat.le_trans (shB S).dep (by decide)
def skv (K : PySem.W.Frag) (A : List (BEnt Shp Mv)) : List (NK × MP) := A.map fun x => (sK x.1, isD K (.bool true))
theorem look_skv {A : List (BEnt Shp Mv)} (T : Shp) : (look (skv K A) (sK T)).isSome = decide (T ∈ A.map (·.1)) := by
  by_cases h : T ∈ A.map (·.1)
  · rw [decide_eq_true h]
    unfold look skv
    rw [Option.isSome_map, List.find?_isSome]
    obtain ⟨x, hx, rfl⟩ := List.mem_map.mp h
    exact ⟨(sK x.1, isD K (.bool true)), List.mem_map.mpr ⟨x, hx, rfl⟩, by simp⟩
  · rw [decide_eq_false h]
    unfold look skv
    rw [Option.isSome_map, ← Bool.not_eq_true, List.find?_isSome]
    rintro ⟨y, hy, hd⟩
    obtain ⟨x, hx, rfl⟩ := List.mem_map.mp hy
    have : sK x.1 = sK T := by simpa using hd
    exact h (by rw [← sK_inj this]; exact List.mem_map_of_mem hx)
theorem look_skv_out {A : List (BEnt Shp Mv)} {T : Shp} (h : T ∉ A.map (·.1)) : look (skv K A) (sK T) = none := by
  have := look_skv (K := K) (A := A) T
  rw [decide_eq_false h] at this
  cases e : look (skv K A) (sK T) with
  | none => rfl
  | some v => rw [e] at this; cases this
structure RowsOk (A : List (BEnt Shp Mv)) (Rs : List (List Shp)) : Prop where
  row : ∀ (i : Nat) (R : List Shp) (T : Shp), Rs[i]? = some R → (T ∈ R ↔ ∃ o, (T, o, i) ∈ A)
abbrev rowsD (Rs : List (List Shp)) : List PyData := Rs.map fun R => .list (R.map bD)
noncomputable def spLayers (K : PySem.W.Frag) : Sp := spP (fun x : Shp × List Shp => UniN x.2 ∧ x.1 ∈ x.2) (fun x => [isD K (bD x.1)]) (fun x φ => ∃ A Rs, φ = isL K (rowsD Rs) ∧ BfsEnd FlN x.1 A ∧ RowsOk A Rs ∧ ∀ T o n, (T, o, n) ∈ A → n < Rs.length)
abbrev NLay : List Str := ["_law_shape", "_law_seen", "_law_rows", "_law_more", "_law_one", "_law_start", "_law_end_here", "_law_other", "_law_cell"]
theorem sc_layers : FnScope NLay ["_law_shape"] (defScope (top 53)) := ⟨rfl, rfl, rfl, by decide +kernel, rfl, by decide +kernel, by decide +kernel⟩
theorem BfsAt.congr {Fl : Shp → List (Mv × Shp)} {s0 : Shp} {k : Nat} {Last Last' : List Shp} {A : List (BEnt Shp Mv)} (h : BfsAt Fl s0 k Last A) (e : ∀ T, T ∈ Last' ↔ T ∈ Last) : BfsAt Fl s0 k Last' A := ⟨h.base, h.le, fun T => (e T).trans (h.last T), h.clo⟩
theorem cutD_init {α : Type} (xs : List α) (d : α) : cutD (xs ++ [d]) none (some (-1)) = xs := by
  unfold cutD
  rw [HT.sIx_none]
  have e : HT.sIx (xs ++ [d]).length (xs ++ [d]).length (some (-1)) = xs.length := by
    show (-1 + ((xs ++ [d]).length : Int)).toNat = xs.length
    rw [List.length_append, List.length_singleton]
    omega
  rw [e]
  simp
theorem h_layers (T : Txt K mg) : Has P w K mg base 9 "_law_nb_layers" (spLayers K) := by
  obtain ⟨f, fd, F, m⟩ := T.law_nb_layers
  refine ⟨f, fd, ["_law_shape"], defP F sc_layers (kk := 8) (by decide) (fun _ => rfl) ?_, m, F.kp, F.binds fun _ _ _ _ _ _ us hl => match us, hl with | [_], _ => rfl⟩
  rintro cdv A0 outer s0 H E hr ⟨S0, Us⟩ ⟨hU, hS0⟩
  have hU : UniN Us := hU
  have hS0 : S0 ∈ Us := hS0
  have hX := nor_of (P := P) (w := w) (K := K) (mg := mg) (base := base) (CX := CX0) (outer := outer) (H := H) (E := E) sc_layers.nd hr (by decide)
  refine stB_cons (st_par2 (i := 1) (j := 2) hX rfl rfl (by decide) (evA_cons (ev_dict1 hX fun p => ev_name (i := 0) rfl rfl (ev_bool ⟨0, sK S0, keyS, rfl, ?_⟩))))
  refine evA_cons (ev_lst1 (ev_lst (evA_cons (ev_name (i := 0) rfl rfl (evA_nil ⟨_, .cons dat_d .nil, le1000 (n := 1) rfl (by decide), _, dat_l, fun q => evA_nil ⟨_, _, rfl, ?_⟩⟩)))))
  refine stB_cons (st_while hX (fun m Γ Ω => ∃ (k : Nat) (A : List (BEnt Shp Mv)) (Rs : List (List Shp)) (Last : List Shp), Γ = [some (isD K (bD S0)), some (isV (.ref p)), some (isV (.ref q)), none, none, none, none, none, none] ∧
    Ω = [(p, dctO P w K p (skv K A)), (q, lstO K (rowsD Rs ++ [.list (Last.map bD)]))] ∧ BfsAt FlN S0 k Last A ∧ Rs.length = k ∧ RowsOk A Rs ∧ k + (if Last = [] then 0 else 1) ≤ A.length ∧ m = (Us.length - A.length) + (if Last = [] then 0 else 1)) _
    ⟨0, [(S0, none, 0)], [], [S0], rfl, rfl, BfsAt.first, rfl, ⟨fun i R T h => by simp at h⟩, Nat.le_refl 1, rfl⟩ ?_)
  rintro m Γ Ω ⟨k, A, Rs, Last, rfl, rfl, hB, rfl, hRs, hk, rfl⟩
  obtain ⟨hAU, hAm⟩ := keys_le hB.base hS0 hU.clo
  have hUl := hU.len
  have shLast : SeqAt.shaped (.list (Last.map bD)) = true := (ShD.lst (n := 2) fun d hd => by
    obtain ⟨S, _, rfl⟩ := List.mem_map.mp hd
    exact shB S).ok (by decide)
  refine evT_neD hX (ev_ixL (ev_name (i := 2) rfl rfl (ev_negI (ev_int ⟨1, rfl, _, _, _, .o (j := 1) rfl, rfl, atI_last _ _, ev_lst (evA_nil ⟨[], .nil, by decide, _, _, _, dq_d, dq_l, shLast, rfl, eqv_nilL _, ?_⟩)⟩))))
  by_cases hl : Last = []
  · subst hl
    refine (if_neg (by decide)).mpr (stB_one (st_ret (ev_cutL po_n po_m (ev_name (i := 2) rfl rfl ⟨_, .o (j := 1) rfl, ?_⟩))))
    rw [cutD_init]
    refine ⟨A, Rs, rfl, hB.stop, hRs, fun T o n hT => ?_⟩
    have := hB.le T o n hT
    by_cases e : n = Rs.length
    · subst e
      exact absurd ((hB.last T).mpr ⟨o, hT⟩) (by simp)
    · omega
  · have hne : (Last.map bD).isEmpty = false := by cases Last with | nil => exact absurd rfl hl | cons a l => rfl
    rw [if_neg hl] at hk
    rw [hne, if_neg hl]
    refine (if_pos rfl).mpr (stB_cons (st_set (i := 3) hX rfl (ev_lst0 fun r => ?_)))
    refine stB_cons (st_forI hX (evI_list (ev_ixL (ev_name (i := 2) rfl rfl (ev_negI (ev_int ⟨1, rfl, _, _, _, .o (j := 1) rfl, rfl, atI_last _ _, Last.map bD, .d, ?_⟩))))))
    refine ⟨fun i Γ Ω => ∃ A' layer, Γ = [some (isD K (bD S0)), some (isV (.ref p)), some (isV (.ref q)), some (isV (.ref r)), none, none, none, none, none] ∧
      Ω = [(p, dctO P w K p (skv K A')), (q, lstO K (rowsD Rs ++ [.list (Last.map bD)])), (r, lstO K (layer.map bD))] ∧ BfsIn FlN S0 Rs.length Last layer A' ((Last.take i).flatMap FlN) ∧ A'.length = A.length + layer.length ∧ RowsOk A' Rs,
      ⟨A, [], rfl, rfl, hB.go, rfl, hRs⟩, ?_, ?_⟩
    · rintro i d Γ Ω hd ⟨A', layer, rfl, rfl, hI, hA', hR'⟩
      rw [List.getElem?_map] at hd
      obtain ⟨S, hS, rfl⟩ := Option.map_eq_some_iff.mp hd
      have hSm : S ∈ Last := List.mem_of_getElem? hS
      obtain ⟨oS, hSA⟩ := (hB.last S).mp hSm
      have hSU := hAm S _ _ hSA
      obtain ⟨sn, sl1, sl⟩ := hU.ok S hSU
      refine tgt_name (i := 4) hX.nd rfl (stB_one (st_forI hX (evI_list (ev_call ((h_movesN T).cal hr) (evA_cons (ev_name (i := 4) rfl rfl (evA_nil ⟨(true, S), ⟨sn, by show S.length ≤ 1000; omega⟩, Subs.rfl, ?_⟩)))))))
      rintro φ rfl
      refine ⟨_, .l, fun j Γ Ω => ∃ A' layer, Γ = [some (isD K (bD S0)), some (isV (.ref p)), some (isV (.ref q)), some (isV (.ref r)), some (isD K (bD S)), none, none, none, none] ∧
        Ω = [(p, dctO P w K p (skv K A')), (q, lstO K (rowsD Rs ++ [.list (Last.map bD)])), (r, lstO K (layer.map bD))] ∧ BfsIn FlN S0 Rs.length Last layer A' ((Last.take i).flatMap FlN ++ (FlN S).take j) ∧ A'.length = A.length + layer.length ∧ RowsOk A' Rs,
        ⟨A', layer, rfl, rfl, by rw [List.take_zero, List.append_nil]; exact hI, hA', hR'⟩, ?_, ?_⟩
      · rintro j d Γ Ω hd ⟨A2, layer2, rfl, rfl, hI2, hA2, hR2⟩
        rw [List.getElem?_map] at hd
        obtain ⟨mv, hmv, rfl⟩ := Option.map_eq_some_iff.mp hd
        have hF : (FlN S)[j]? = some (mv, nxtN S mv) := by unfold FlN; rw [List.getElem?_map, hmv]; rfl
        have hFm : (mv, nxtN S mv) ∈ FlN S := List.mem_of_getElem? hF
        have epr : (Last.take i).flatMap FlN ++ (FlN S).take (j + 1) = ((Last.take i).flatMap FlN ++ (FlN S).take j) ++ [(mv, nxtN S mv)] := by rw [take_snoc hF, List.append_assoc]
        have wk : ∀ a b c : MP, WkG [some (isD K (bD S0)), some (isV (.ref p)), some (isV (.ref q)), some (isV (.ref r)), some (isD K (bD S)), some a, some b, some c, none] [some (isD K (bD S0)), some (isV (.ref p)), some (isV (.ref q)), some (isV (.ref r)), some (isD K (bD S)), none, none, none, none] :=
          fun a b c => .yes Sub.rfl (.yes Sub.rfl (.yes Sub.rfl (.yes Sub.rfl (.yes Sub.rfl (.no (.no (.no (.no .nil))))))))
        obtain ⟨hAU2, _⟩ := keys_le hI2.base hS0 hU.clo
        refine tgt_pair (i := 5) (j := 6) (d1 := cD mv.1) (d2 := cD mv.2) hX.calm hX.nd rfl rfl (stB_cons (st_set (i := 7) hX rfl (ev_call ((h_shpN T).cal hr) (evA_cons (ev_catL (ev_lc hX S cD cD (fun x => decide (x ≠ mv.1)) (fun x => [some (isD K (bD S0)), some (isV (.ref p)), some (isV (.ref q)), some (isV (.ref r)), some (isD K (bD S)), some (isD K (cD mv.1)), some (isD K (cD mv.2)), none, some (isD K (cD x))]) (own := [("_law_cell", 8)]) (fun σ => wipe_wipe1 σ 8)
          (show BlkOk NLay (defScope (top 53)) _ [("_law_cell", 8)] from blkOk_by (by decide +kernel)) (evI_tup (ev_name (i := 4) rfl rfl ⟨_, rfl, rfl, ?_, ?_⟩))))))))
        · intro s' H0 C cl fp x hx
          refine ⟨tgB_name hX.nd rfl, evTs_one (evT_neD hX.b (ev_name (i := 8) rfl rfl (ev_name (i := 5) rfl rfl ⟨_, _, _, dq_d, dq_d, rfl, rfl, eqv_cells x mv.1, rfl, ?_⟩))), fun _ => ev_name (i := 8) rfl rfl ⟨rfl, dat_d⟩⟩
          by_cases h : x = mv.1 <;> simp [h]
        rw [outp_cut]
        have hcl : (cut S mv.1 ++ [mv.2]).length ≤ 1000 := by
          rw [List.length_append, List.length_singleton]
          have := cut_sub (L := S) (s := mv.1)
          omega
        refine ev_lst (evA_cons (ev_name (i := 6) rfl rfl (evA_nil ⟨_, .cons dat_d .nil, le1000 (n := 1) rfl (by decide), _, _, .l, .l, ?_, evA_nil ⟨(false, cut S mv.1 ++ [mv.2]), ⟨by simp, hcl⟩, ?_, ?_⟩⟩)))
        · rw [List.length_map, List.length_singleton, sizeLine_eq]
          have := cut_sub (L := S) (s := mv.1)
          omega
        · have : (cut S mv.1 ++ [mv.2]).map cD = (cut S mv.1).map cD ++ [cD mv.2] := by rw [List.map_append]; rfl
          show Subs _ [isL K ((cut S mv.1 ++ [mv.2]).map cD)]
          rw [this]
          exact Subs.rfl
        rintro φ rfl
        refine stB_one (st_if (evT_niM hX (ev_name (i := 7) rfl rfl (ev_name (i := 1) rfl rfl ⟨decide (nxtN S mv ∈ A2.map (·.1)), ⟨sK (nxtN S mv), skv K A2, keyS, .o (j := 0) rfl, (look_skv _).symm⟩, ?_⟩))))
        by_cases hin : nxtN S mv ∈ A2.map (·.1)
        · rw [decide_eq_true hin]
          exact (if_neg (by decide)).mpr (stB_nil ⟨_, _, wk _ _ _, List.Sublist.refl _, A2, layer2, rfl, rfl, by rw [epr]; exact hI2.skip hin, hA2, hR2⟩)
        · rw [decide_eq_false hin]
          refine (if_pos rfl).mpr (stB_cons (st_setM hX (ev_bool (ev_name (i := 1) rfl rfl (ev_name (i := 7) rfl rfl ⟨0, p, skv K A2, sK (nxtN S mv), rfl, keyS, rfl, look_skv_out hin, ?_, ?_⟩)))))
          · unfold skv
            rw [List.length_map, sizeLine_eq]
            omega
          refine stB_one (st_expr (ev_append (ev_name (i := 3) rfl rfl ⟨2, r, _, rfl, rfl, ev_name (i := 7) rfl rfl ⟨2, layer2.map bD, bD (nxtN S mv), rfl, dat_d, ?_, ?_⟩⟩)))
          · rw [List.length_map, sizeLine_eq]
            omega
          refine ⟨_, _, wk _ _ _, List.Sublist.refl _, A2 ++ [(nxtN S mv, some (S, mv), Rs.length + 1)], layer2 ++ [nxtN S mv], rfl, ?_, by rw [epr]; exact hI2.add hin hSm hFm, by rw [List.length_append, List.length_append, List.length_singleton, List.length_singleton]; omega, ⟨fun i R T' hi => ?_⟩⟩
          · have e1 : skv K (A2 ++ [(nxtN S mv, some (S, mv), Rs.length + 1)]) = skv K A2 ++ [(sK (nxtN S mv), isD K (.bool true))] := by unfold skv; rw [List.map_append]; rfl
            have e2 : (layer2 ++ [nxtN S mv]).map bD = layer2.map bD ++ [bD (nxtN S mv)] := by rw [List.map_append]; rfl
            rw [e1, e2]
            rfl
          · rw [hR2.row i R T' hi]
            have hil := (List.getElem?_eq_some_iff.mp hi).1
            constructor
            · rintro ⟨o, h⟩
              exact ⟨o, List.mem_append_left _ h⟩
            · rintro ⟨o, h⟩
              rcases List.mem_append.mp h with z | z
              · exact ⟨o, z⟩
              · simp only [List.mem_singleton, Prod.mk.injEq] at z
                omega
      · rintro Γ Ω ⟨A2, layer2, rfl, rfl, hI2, hA2, hR2⟩
        refine ⟨_, _, .yes Sub.rfl (.yes Sub.rfl (.yes Sub.rfl (.yes Sub.rfl (.no (.no (.no (.no (.no .nil)))))))), List.Sublist.refl _, A2, layer2, rfl, rfl, ?_, hA2, hR2⟩
        have e : (Last.take (i + 1)).flatMap FlN = (Last.take i).flatMap FlN ++ (FlN S).take ((movesN S).map mD).length := by
          rw [take_snoc hS, List.flatMap_append, List.flatMap_singleton, List.length_map]
          have : (FlN S).take (movesN S).length = FlN S := List.take_of_length_le (by unfold FlN; rw [List.length_map]; exact Nat.le_refl _)
          rw [this]
        rw [e]
        exact hI2
    rintro Γ Ω ⟨A2, layer2, rfl, rfl, hI2, hA2, hR2⟩
    rw [List.length_map, List.take_length] at hI2
    have hN := hI2.next
    obtain ⟨hAU2, hAm2⟩ := keys_le hN.base hS0 hU.clo
    have inU : ∀ T ∈ layer2, T ∈ Us := fun T hT => by
      obtain ⟨o, ho⟩ := (hN.last T).mp hT
      exact hAm2 T o _ ho
    refine stB_one (st_expr (ev_append (ev_name (i := 2) rfl rfl ⟨1, q, _, rfl, rfl, ev_sorted hX T.n_sorted (ev_name (i := 3) rfl rfl ⟨_, .q (.l (.o (j := 2) rfl)), ?_, ?_⟩)⟩)))
    · rintro ds rfl
      exact ⟨canS_shapes (fun S hS T hT => hU.same S (inU S hS) T (inU T hT)) (fun S hS => (hU.ok S (inU S hS)).2.1), by rw [List.length_map, sizeLine_eq]; omega⟩
    rintro ds rfl
    rw [sortD_shapes]
    refine ⟨1, _, .list ((sortS layer2).map bD), rfl, dat_l, ?_, ?_⟩
    · rw [List.length_append, List.length_singleton, List.length_map, sizeLine_eq]
      omega
    have hse : sortS layer2 = [] ↔ layer2 = [] := by
      unfold sortS
      rw [← List.length_eq_zero_iff, List.length_mergeSort, List.length_eq_zero_iff]
    refine ⟨_, _, .yes Sub.rfl (.yes Sub.rfl (.yes Sub.rfl (.no (.no (.no (.no (.no (.no .nil)))))))), List.Sublist.cons₂ _ (List.Sublist.cons₂ _ (List.Sublist.cons _ List.Sublist.slnil)), _, ?_, Rs.length + 1, A2, Rs ++ [Last], sortS layer2, rfl, ?_, hN.congr (fun T => mem_sortS), by rw [List.length_append, List.length_singleton], ⟨fun i R T hi => ?_⟩, ?_, rfl⟩
    · by_cases e : layer2 = []
      · rw [if_pos (hse.mpr e)]; omega
      · rw [if_neg (fun z => e (hse.mp z))]
        have := List.length_pos_iff.mpr e
        omega
    · show _ = [(p, dctO P w K p (skv K A2)), (q, lstO K ((Rs ++ [Last]).map (fun R => PyData.list (R.map bD)) ++ [.list ((sortS layer2).map bD)]))]
      rw [List.map_append]
      rfl
    · by_cases e : i < Rs.length
      · rw [List.getElem?_append_left e] at hi
        exact hR2.row i R T hi
      · have hil := (List.getElem?_eq_some_iff.mp hi).1
        rw [List.length_append, List.length_singleton] at hil
        have : i = Rs.length := by omega
        subst this
        simp at hi
        subst hi
        exact hI2.last T
    · by_cases e : layer2 = []
      · rw [if_pos (hse.mpr e)]; omega
      · rw [if_neg (fun z => e (hse.mp z))]
        have := List.length_pos_iff.mpr e
        omega
end G
set_option Elab.async false
set_option linter.all false
set_option maxRecDepth 100000
set_option maxHeartbeats 4000000
set_option pp.maxSteps 300
namespace G
open PySem PySem.Spec PyProof.Rows L2 RZ
variable {P : Program} {w : World} {K : PySem.W.Frag} {mg : Str → Option Value} {base : Heap}
/-! ### _law_end -/
inductive PlanOk : List Cell → List Mv → List Cell → Prop
  | nil {X : List Cell} : PlanOk X [] X
  | cons {X Y : List Cell} {m : Mv} {ms : List Mv} : m ∈ movesN X → PlanOk (doneL X m.1 m.2) ms Y → PlanOk X (m :: ms) Y
theorem eqv_moves (a b : Mv) : PyData.eqv (mD a) (mD b) = decide (a = b) := by
  show (PyData.eqv (cD a.1) (cD b.1) && (PyData.eqv (cD a.2) (cD b.2) && true)) = _
  rw [eqv_cells, eqv_cells]
  obtain ⟨a1, a2⟩ := a
  obtain ⟨b1, b2⟩ := b
  rw [Bool.eq_iff_iff]
  simp
theorem any_moves (ms : List Mv) (m : Mv) : ((ms.map mD).any fun z => PyData.eqv z (mD m)) = decide (m ∈ ms) := by
  rw [List.any_map, Bool.eq_iff_iff, List.any_eq_true, decide_eq_true_iff]
  constructor
  · rintro ⟨x, hx, h⟩
    have h' : PyData.eqv (mD x) (mD m) = true := h
    rw [eqv_moves, decide_eq_true_iff] at h'
    rw [← h']; exact hx
  · intro h
    exact ⟨m, h, by show PyData.eqv (mD m) (mD m) = true; rw [eqv_moves]; simp⟩
theorem shM (m : Mv) : ShD 2 (mD m) := .tup fun d hd => by
  rcases List.mem_cons.mp hd with rfl | hd
  · exact shC _
  · rcases List.mem_cons.mp hd with rfl | hd
    · exact shC _
    · cases hd
theorem shMs (ms : List Mv) : SeqAt.shaped (.list (ms.map mD)) = true := (ShD.lst (n := 2) fun d hd => by
  obtain ⟨m, _, rfl⟩ := List.mem_map.mp hd
  exact shM m).ok (by decide)
structure EnA where
  L : List Cell
  ms : List Mv
  Y : List Cell
/-- every step keeps the squares apart -/
theorem movesN_out {X : List Cell} {m : Mv} (h : m ∈ movesN X) : m.1 ∈ X ∧ m.2 ∉ X := by
  unfold movesN at h
  obtain ⟨s, hs, h⟩ := List.mem_flatMap.mp h
  obtain ⟨e, he, rfl⟩ := List.mem_map.mp h
  refine ⟨freeL_sub hs, fun z => ?_⟩
  have he' := mem_sortC.mp he
  unfold stepsN at he'
  obtain ⟨a, _, he'⟩ := List.mem_flatMap.mp he'
  unfold rowN at he'
  obtain ⟨u, hu, rfl⟩ := List.mem_map.mp he'
  have hb := (List.mem_filter.mp hu).2
  unfold stepB at hb
  have z : (s.1 + a, s.2 + u) ∈ X := z
  by_cases e : (s.1 + a, s.2 + u) = s
  · have e1 := congrArg Prod.fst e
    have e2 := congrArg Prod.snd e
    simp only at e1 e2
    have : ((a, u) : Cell) = (0, 0) := by
      rw [Prod.mk.injEq]; omega
    simp [this] at hb
  · have : (s.1 + a, s.2 + u) ∈ cut X s := mem_cut.mpr ⟨z, e⟩
    simp [this] at hb
noncomputable def spEnd (K : PySem.W.Frag) : Sp := spP (fun x : EnA => x.L.Nodup ∧ x.L.length ≤ 900 ∧ PlanOk (sortC x.L) x.ms x.Y) (fun x => [isD K (bD x.L), isD K (msD x.ms)]) (fun x φ => φ = isD K (bD x.Y))
abbrev NEnd : List Str := ["_law_body", "_law_plan", "_law_start", "_law_end_here", "_law_cell"]
theorem sc_end : FnScope NEnd ["_law_body", "_law_plan"] (defScope (top 55)) := ⟨rfl, rfl, rfl, by decide +kernel, rfl, by decide +kernel, by decide +kernel⟩
theorem h_end (T : Txt K mg) : Has P w K mg base 9 "_law_end" (spEnd K) := by
  obtain ⟨f, fd, F, m⟩ := T.law_end
  refine ⟨f, fd, ["_law_body", "_law_plan"], defP F sc_end (kk := 8) (by decide) (fun _ => rfl) ?_, m, F.kp, F.binds fun _ _ _ _ _ _ us hl => match us, hl with | [_, _], _ => rfl⟩
  rintro cdv A outer s0 H E hr ⟨L, ms, Y⟩ ⟨hnd, hlen, hpo⟩
  replace hnd : L.Nodup := hnd
  replace hlen : L.length ≤ 900 := hlen
  replace hpo : PlanOk (sortC L) ms Y := hpo
  have hX := nor_of (P := P) (w := w) (K := K) (mg := mg) (base := base) (CX := CX0) (outer := outer) (H := H) (E := E) sc_end.nd hr (by decide)
  refine stB_cons (st_set (i := 0) hX rfl (ev_sorted hX T.n_sorted (ev_name (i := 0) rfl rfl ⟨_, .q .t, ?_, ?_⟩)))
  · rintro ds rfl
    exact ⟨canS_cells _, by rw [List.length_map, sizeLine_eq]; show L.length ≤ _; omega⟩
  rintro ds rfl
  rw [sortD_cells]
  refine stB_cons (st_forI hX (evI_tup (ev_name (i := 1) rfl rfl ⟨_, rfl, fun i Γ Ω => ∃ X : List Cell, Γ = [some (isL K (X.map cD)), some (isD K (msD ms)), none, none, none] ∧ Ω = [] ∧ X.Nodup ∧ X.length ≤ 900 ∧ PlanOk X (ms.drop i) Y,
    ⟨sortC L, rfl, rfl, sortC_nd hnd, by rw [sortC_len]; exact hlen, hpo⟩, ?_, ?_⟩)))
  · rintro i d Γ Ω hd ⟨X, rfl, rfl, xnd, xl, hX2⟩
    rw [List.getElem?_map] at hd
    obtain ⟨mv, hmv, rfl⟩ := Option.map_eq_some_iff.mp hd
    have hdr : ms.drop i = mv :: ms.drop (i + 1) := by
      obtain ⟨h1, h2⟩ := List.getElem?_eq_some_iff.mp hmv
      rw [List.drop_eq_getElem_cons h1, h2]
    rw [hdr] at hX2
    have hmm : mv ∈ movesN X ∧ PlanOk (doneL X mv.1 mv.2) (ms.drop (i + 1)) Y := by
      cases hX2 with
      | cons a b => exact ⟨a, b⟩
    obtain ⟨o1, o2⟩ := movesN_out hmm.1
    have hcl := cut_sub (L := X) (s := mv.1)
    refine tgt_pair (i := 2) (j := 3) (d1 := cD mv.1) (d2 := cD mv.2) hX.calm hX.nd rfl rfl (stB_cons (st_if (evT_niL hX (ev_tup2 (ev_name (i := 2) rfl rfl (ev_name (i := 3) rfl rfl ⟨_, _, dat_d, dat_d, ev_call ((h_movesN T).cal hr) (evA_cons (ev_name (i := 0) rfl rfl (evA_nil ⟨(false, X), ⟨xnd, by show X.length ≤ 1000; omega⟩, Subs.rfl, ?_⟩)))⟩))))))
    rintro φ rfl
    refine ⟨true, ⟨mD mv, (movesN X).map mD, dq_d, dq_l, (shM mv).ok (by decide), shMs _, by rw [any_moves, decide_eq_true hmm.1]⟩, (if_neg (by decide)).mpr (stB_nil ?_)⟩
    refine stB_one (st_set (i := 0) hX rfl (ev_sorted hX T.n_sorted (ev_catL (ev_lc hX X cD cD (fun x => decide (x ≠ mv.1)) (fun x => [some (isL K (X.map cD)), some (isD K (msD ms)), some (isD K (cD mv.1)), some (isD K (cD mv.2)), some (isD K (cD x))]) (own := [("_law_cell", 4)]) (fun σ => wipe_wipe1 σ 4)
      (show BlkOk NEnd (defScope (top 55)) _ [("_law_cell", 4)] from blkOk_by (by decide +kernel)) (evI_list (ev_name (i := 0) rfl rfl ⟨_, .l, rfl, ?_, ?_⟩))))))
    · intro s' H0 C cl fp x hx
      refine ⟨tgB_name hX.nd rfl, evTs_one (evT_neD hX.b (ev_name (i := 4) rfl rfl (ev_name (i := 2) rfl rfl ⟨_, _, _, dq_d, dq_d, rfl, rfl, eqv_cells x mv.1, rfl, ?_⟩))), fun _ => ev_name (i := 4) rfl rfl ⟨rfl, dat_d⟩⟩
      by_cases h : x = mv.1 <;> simp [h]
    rw [outp_cut]
    have e1 : (cut X mv.1).map cD ++ [cD mv.2] = (cut X mv.1 ++ [mv.2]).map cD := by rw [List.map_append]; rfl
    refine ev_lst (evA_cons (ev_name (i := 3) rfl rfl (evA_nil ⟨_, .cons dat_d .nil, le1000 (n := 1) rfl (by decide), _, _, .l, .l, ?_, _, .q (.l .l), ?_, ?_⟩)))
    · rw [List.length_map, sizeLine_eq]
      show (cut X mv.1).length + 1 ≤ _
      omega
    · rintro ds rfl
      rw [e1]
      exact ⟨canS_cells _, by rw [List.length_map, List.length_append, List.length_singleton, sizeLine_eq]; omega⟩
    · rintro ds rfl
      refine ⟨_, _, .yes ?_ (.yes Sub.rfl (.no (.no (.no .nil)))), List.Sublist.refl _, doneL X mv.1 mv.2, rfl, rfl, done_nd xnd o2, by rw [cut_mem_len xnd o1]; exact xl, hmm.2⟩
      rw [e1, sortD_cells]
      exact Sub.rfl
  rintro Γ Ω ⟨X, rfl, rfl, xnd, xl, hX2⟩
  have hdr : ms.drop ((ms.map mD).length) = [] := by rw [List.length_map]; exact List.drop_length
  rw [hdr] at hX2
  cases hX2
  exact stB_one (st_ret (ev_tupL T.n_tuple boot_tuple (ev_name (i := 0) rfl rfl ⟨_, .l, rfl⟩)))
/-! ### growing -/
inductive Grw : List Cell → Prop
  | one (c : Cell) : Grw [c]
  | add {L : List Cell} {c : Cell} : Grw L → c ∉ L → (∃ x ∈ L, c ∈ besN x) → Grw (L ++ [c])
theorem Grw.ne {L : List Cell} (h : Grw L) : L ≠ [] := by
  cases h with
  | one c => simp
  | add _ _ _ => simp
theorem Grw.nd {L : List Cell} (h : Grw L) : L.Nodup := by
  induction h with
  | one c => simp
  | add _ hn _ ih =>
    refine List.nodup_append.mpr ⟨ih, by simp, ?_⟩
    intro a ha b hb e
    have hb' := List.mem_singleton.mp hb
    exact hn (by rw [← hb', ← e]; exact ha)
theorem Grw.hang {L : List Cell} (h : Grw L) : Hang L := by
  induction h with
  | one c => exact ⟨by simp, fun x hx y hy => by
      have h1 : x = c := by simpa using hx
      have h2 : y = c := by simpa using hy
      rw [h1, h2]; exact .here⟩
  | @add L c _ hn hx ih =>
    obtain ⟨x, hxL, hc⟩ := hx
    have hxm : x ∈ L ++ [c] := List.mem_append_left _ hxL
    rw [hang_from hxm]
    intro y hy
    rcases List.mem_append.mp hy with z | z
    · exact (ih.2 x hxL y z).congr fun w hw => List.mem_append_left _ hw
    · have : y = c := by simpa using z
      rw [this]
      exact .step .here (besN_L.mp hc) (List.mem_append_right _ List.mem_cons_self)
/-- .. from a small cell on -/
def smallC (n : Int) (c : Cell) : Prop := -n ≤ c.1 ∧ c.1 ≤ n ∧ -n ≤ c.2 ∧ c.2 ≤ n
inductive Grs : List Cell → Prop
  | one (c : Cell) : smallC 4 c → Grs [c]
  | add {L : List Cell} {c : Cell} : Grs L → c ∉ L → (∃ x ∈ L, c ∈ besN x) → Grs (L ++ [c])
theorem Grs.grw {L : List Cell} (h : Grs L) : Grw L := by
  induction h with
  | one c _ => exact .one c
  | add _ hn hx ih => exact .add ih hn hx
theorem Grs.ne {L : List Cell} (h : Grs L) : L ≠ [] := h.grw.ne
theorem Grs.nd {L : List Cell} (h : Grs L) : L.Nodup := h.grw.nd
theorem Grs.hang {L : List Cell} (h : Grs L) : Hang L := h.grw.hang
theorem Grs.small {L : List Cell} (h : Grs L) : ∀ c ∈ L, smallC (3 + L.length) c := by
  induction h with
  | one c hc =>
    intro x hx
    rw [List.mem_singleton.mp hx]
    exact hc
  | @add L c _ hn hx ih =>
    intro z hz
    rw [List.length_append, List.length_singleton]
    rcases List.mem_append.mp hz with w | w
    · have := ih z w
      unfold smallC at this ⊢
      omega
    · obtain ⟨x, hxL, hb⟩ := hx
      have h2 := ih x hxL
      rw [List.mem_singleton.mp w]
      obtain ⟨x1, x2⟩ := x
      simp only [besN, List.mem_cons, List.not_mem_nil, or_false] at hb
      unfold smallC at h2 ⊢
      rcases hb with rfl | rfl | rfl | rfl <;> · simp only at h2 ⊢; omega
theorem hang_perm {L M : List Cell} (e : ∀ x, x ∈ M ↔ x ∈ L) (h : Hang L) : Hang M := by
  refine ⟨fun z => ?_, fun x hx y hy => (h.2 x ((e x).mp hx) y ((e y).mp hy)).congr fun w hw => (e w).mpr hw⟩
  obtain ⟨x, hx⟩ := List.exists_mem_of_ne_nil L h.1
  have := (e x).mpr hx
  rw [z] at this
  cases this
theorem sortC_inc {L : List Cell} (h : L.Nodup) : incB (sortC L) = true := by
  refine pair_inc ?_
  have h1 : (sortC L).Pairwise fun a b => cle a b = true := List.pairwise_mergeSort cle_trans cle_total L
  have h2 := sortC_nd h
  refine (h1.and h2).imp fun {a b} h => ?_
  obtain ⟨h3, h4⟩ := h
  unfold cle at h3
  unfold clt
  simp only [decide_eq_true_eq] at h3 ⊢
  have h4 : a ≠ b := h4
  have : ¬ (a.1 = b.1 ∧ a.2 = b.2) := fun z => h4 (Prod.ext z.1 z.2)
  omega
/-- there is room beside -/
theorem room_beside {L : List Cell} (h : L ≠ []) : ∃ c, c ∉ L ∧ ∃ x ∈ L, c ∈ besN x := by
  have hc : colL L ≠ [] := by unfold colL; simpa using h
  obtain ⟨m, hm⟩ : ∃ m, (colL L).max? = some m := by
    cases e : (colL L).max? with
    | none => rw [List.max?_eq_none_iff] at e; exact absurd e hc
    | some m => exact ⟨m, rfl⟩
  obtain ⟨h1, h2⟩ := List.max?_eq_some_iff.mp hm
  obtain ⟨x, hx, rfl⟩ := List.mem_map.mp h1
  refine ⟨(x.1 + 1, x.2), fun z => ?_, x, hx, by simp [besN]⟩
  have := h2 _ (List.mem_map.mpr ⟨_, z, rfl⟩)
  simp only at this
  omega
end G
set_option Elab.async false
set_option linter.all false
set_option maxRecDepth 100000
set_option maxHeartbeats 4000000
set_option pp.maxSteps 300
namespace G
open PySem PySem.Spec PyProof.Rows L2 RZ
variable {P : Program} {w : World} {K : PySem.W.Frag} {mg : Str → Option Value} {base : Heap}
/-! ### _law_nb_grown -/
theorem PenOk.mono {p : Pen} {n m : Nat} (h : PenOk p n) (e : n ≤ m) : PenOk p m := ⟨h.dg, Nat.le_trans h.ct e, h.f0, h.f1⟩
structure GrA where
  pen : Pen
  n : Nat
  L : List Cell
  many : Nat
  way : Int
def spGrown (K : PySem.W.Frag) : Sp := spM (fun x : GrA => PenOk x.pen x.n ∧ x.n ≤ 100000 ∧ Grs x.L ∧ x.L.length ≤ x.many ∧ x.many ≤ 9) (fun x _ => dkO (penF K x.pen)) (fun x => [isL K (x.L.map cD), isD K (.int (x.many : Nat)), isD K (.int x.way)])
  (fun x _ ψ φ => penR K (x.n + 18) ψ ∧ ∃ M, φ = isL K (M.map cD) ∧ Grs M ∧ M.length = x.many)
abbrev NGrw : List Str := ["_law_pen_here", "_law_body", "_law_many", "_law_way", "_law_cells", "_law_square", "_law_lonely", "_law_some", "_law_cross", "_law_cell", "_law_one"]
theorem sc_grown : FnScope NGrw ["_law_pen_here", "_law_body", "_law_many", "_law_way"] (defScope (top 48)) := ⟨rfl, rfl, rfl, by decide +kernel, rfl, by decide +kernel, by decide +kernel⟩
def outN (L : List Cell) (x : Cell) : List Cell := (besN x).filter fun c => !decide (c ∈ L)
/-- a set's cells -/
theorem cells_of {cs : List Cell} {ks : List (List Int)} (hn : ks.Nodup) (h : ∀ k, k ∈ ks ↔ k ∈ cs.map fun c => [c.1, c.2]) : ∃ ds : List Cell, ks.map intsT = ds.map cD ∧ ∀ c, c ∈ ds ↔ c ∈ cs := by
  refine ⟨ks.map fun k => (k.getD 0 0, k.getD 1 0), ?_, fun c => ?_⟩
  · rw [List.map_map]
    refine List.map_congr_left fun k hk => ?_
    obtain ⟨c, _, rfl⟩ := List.mem_map.mp ((h k).mp hk)
    rfl
  · constructor
    · intro hc
      obtain ⟨k, hk, rfl⟩ := List.mem_map.mp hc
      obtain ⟨c, hc2, rfl⟩ := List.mem_map.mp ((h k).mp hk)
      exact hc2
    · intro hc
      exact List.mem_map.mpr ⟨[c.1, c.2], (h _).mpr (List.mem_map.mpr ⟨c, hc, rfl⟩), rfl⟩
def whB : Stmt → List Stmt
  | .While _ body _ _ => body
  | _ => []
theorem h_grown (T : Txt K mg) : Has P w K mg base 7 "_law_nb_grown" (spGrown K) := by
  obtain ⟨f, fd, F, m⟩ := T.law_nb_grown
  refine ⟨f, fd, ["_law_pen_here", "_law_body", "_law_many", "_law_way"], defM F sc_grown (kk := 6) (by decide) (fun _ => rfl) ?_, m, F.kp, F.binds fun _ _ _ _ _ _ us hl => match us, hl with | [_, _, _, _], _ => rfl⟩
  rintro cdv A outer s0 H E hr ⟨pen0, n0, L0, many, way⟩ p ⟨hp0, hn0, hg0, hl0, hm9⟩
  replace hn0 : n0 ≤ 100000 := hn0
  replace hl0 : L0.length ≤ many := hl0
  replace hm9 : many ≤ 9 := hm9
  have hX := nor_of (P := P) (w := w) (K := K) (mg := mg) (base := base) (CX := CX0) (outer := outer) (H := H) (E := E) sc_grown.nd hr (by decide)
  refine stB_cons (st_while hX (fun m Γ Ω => ∃ (L : List Cell) (pen : Pen), Γ = [some (isV (.ref p)), some (isL K (L.map cD)), some (isD K (.int (many : Nat))), some (isD K (.int way)), none, none, none, none, none, none, none] ∧ Ω = [(p, dkO (penF K pen))] ∧
    Grs L ∧ L.length ≤ many ∧ PenOk pen (n0 + 2 * L.length) ∧ m = many - L.length) _ ⟨L0, pen0, rfl, rfl, hg0, hl0, hp0.mono (Nat.le_add_right _ _), rfl⟩ ?_)
  rintro m Γ Ω ⟨L, pen, rfl, rfl, hg, hl, hp, rfl⟩
  refine evT_ltI (ev_len T.n_len (ev_name (i := 1) rfl rfl ⟨L.map cD, .l .l, ev_name (i := 2) rfl rfl ⟨_, _, rfl, rfl, ?_⟩⟩))
  by_cases hlt : L.length < many
  · refine (if_pos (decide_eq_true (by rw [List.length_map]; omega))).mpr ?_
    refine stB_cons (st_set (i := 4) hX rfl (ev_lst (evA_nil ⟨[], .nil, by decide, ?_⟩)))
    refine stB_cons (st_forI hX (evI_list (ev_name (i := 1) rfl rfl ⟨_, .l, fun i Γ Ω => Γ = [some (isV (.ref p)), some (isL K (L.map cD)), some (isD K (.int (many : Nat))), some (isD K (.int way)), some (isL K (((L.take i).flatMap (outN L)).map cD)), none, none, none, none, none, none] ∧ Ω = [(p, dkO (penF K pen))], ⟨rfl, rfl⟩, ?_, ?_⟩)))
    · rintro i d Γ Ω hd ⟨rfl, rfl⟩
      rw [List.getElem?_map] at hd
      obtain ⟨x, hx, rfl⟩ := Option.map_eq_some_iff.mp hd
      refine tgt_name (i := 5) hX.nd rfl (stB_one (st_set (i := 4) hX rfl (ev_catL (ev_name (i := 4) rfl rfl (ev_lc hX (besN x) cD cD (fun c => !decide (c ∈ L)) (fun c => [some (isV (.ref p)), some (isL K (L.map cD)), some (isD K (.int (many : Nat))), some (isD K (.int way)), some (isL K (((L.take i).flatMap (outN L)).map cD)), some (isD K (cD x)), none, none, none, some (isD K (cD c)), none]) (own := [("_law_cell", 9)]) (fun σ => wipe_wipe1 σ 9)
        (show BlkOk NGrw (defScope (top 48)) _ [("_law_cell", 9)] from blkOk_by (by decide +kernel)) (evI_list (ev_call ((h_besN T).cal hr) (evA_cons (ev_name (i := 5) rfl rfl (evA_nil ⟨x, trivial, Subs.rfl, ?_⟩))))))))))
      rintro φ rfl
      refine ⟨_, .l, rfl, ?_, _, _, .l, .l, ?_, ?_⟩
      · intro s' H0 C cl fp c hc
        exact ⟨tgB_name hX.nd rfl, evTs_one (evT_niL hX.b (ev_name (i := 9) rfl rfl (ev_name (i := 1) rfl rfl ⟨_, ⟨cD c, _, dq_d, dq_l, rfl, shL L, any_cells L c⟩, rfl, rfl⟩))), fun _ => ev_name (i := 9) rfl rfl ⟨rfl, dat_d⟩⟩
      · have h1 := flat_le (outN L) 4 (fun a => List.length_filter_le _ _) (L.take i)
        have h2 : (outp (besN x) (fun c => !decide (c ∈ L)) cD).length ≤ 4 := by unfold outp; rw [List.length_map]; exact List.length_filter_le _ _
        have h3 : (L.take i).length ≤ L.length := by rw [List.length_take]; omega
        rw [List.length_map, sizeLine_eq]
        omega
      · refine ⟨_, _, .yes Sub.rfl (.yes Sub.rfl (.yes Sub.rfl (.yes Sub.rfl (.yes ?_ (.no (.no (.no (.no (.no (.no .nil)))))))))), List.Sublist.refl _, rfl, rfl⟩
        rw [take_snoc hx, List.flatMap_append, List.flatMap_singleton, List.map_append]
        exact Sub.rfl
    rintro Γ Ω ⟨rfl, rfl⟩
    rw [List.length_map, List.take_length]
    generalize hraw : L.flatMap (outN L) = raw
    have hrm : ∀ c, c ∈ raw ↔ c ∉ L ∧ ∃ x ∈ L, c ∈ besN x := fun c => by
      rw [← hraw, List.mem_flatMap]
      unfold outN
      constructor
      · rintro ⟨x, hx, h⟩
        obtain ⟨h1, h2⟩ := List.mem_filter.mp h
        exact ⟨by simpa using h2, x, hx, h1⟩
      · rintro ⟨h1, x, hx, h2⟩
        exact ⟨x, hx, List.mem_filter.mpr ⟨h2, by simpa using h1⟩⟩
    have hrl : raw.length ≤ 32 := by
      rw [← hraw]
      have := flat_le (outN L) 4 (fun a => List.length_filter_le _ _) L
      omega
    have hu64 : (cxOf CX0 P w K mg base NGrw "_law_nb_grown" (defScope (top 48)) f cdv A outer s0 H E).nox.A.units + 64 < cLine := by
      have := hX.room.un
      omega
    refine stB_cons (st_set (i := 4) hX rfl (ev_sorted hX T.n_sorted (ev_setT hX hu64 T.n_set (ev_name (i := 4) rfl rfl ⟨raw.map fun c => [c.1, c.2], ?_, ?_, _, .s, ?_, ?_⟩))))
    · have : (raw.map fun c => [c.1, c.2]).map intsT = raw.map cD := by rw [List.map_map]; rfl
      rw [this]
      exact .l
    · rw [List.length_map]; omega
    · rintro ds ⟨ks, hkn, hkm, rfl⟩
      obtain ⟨cs, e, hcs⟩ := cells_of hkn hkm
      refine ⟨by rw [e]; exact canS_cells _, ?_⟩
      have := List.Nodup.length_le_of_subset hkn fun k hk => (hkm k).mp hk
      rw [List.length_map] at this
      rw [List.length_map, sizeLine_eq]
      omega
    rintro ds ⟨ks, hkn, hkm, rfl⟩
    obtain ⟨cs, e, hcs⟩ := cells_of hkn hkm
    rw [e, sortD_cells]
    generalize hCS : sortC cs = CS
    have hCm : ∀ c, c ∈ CS ↔ c ∉ L ∧ ∃ x ∈ L, c ∈ besN x := fun c => by
      rw [← hCS, mem_sortC, hcs, hrm]
    have hCl : CS.length ≤ 32 := by
      have h1 := List.Nodup.length_le_of_subset hkn fun k hk => (hkm k).mp hk
      rw [List.length_map] at h1
      have h2 : ks.length = cs.length := by
        have := congrArg List.length e
        rwa [List.length_map, List.length_map] at this
      rw [← hCS, sortC_len]
      omega
    have hCne : CS ≠ [] := by
      obtain ⟨c, hc⟩ := room_beside hg.ne
      exact fun z => by
        have := (hCm c).mpr hc
        rw [z] at this
        cases this
    refine stB_cons (st_setLc (i := 6) hX rfl CS cD cD (fun c => decide (((besN c).filter fun o => decide (o ∈ L)).length = 1)) (fun c => [some (isV (.ref p)), some (isL K (L.map cD)), some (isD K (.int (many : Nat))), some (isD K (.int way)), some (isL K (CS.map cD)), none, none, none, none, some (isD K (cD c)), none]) (own := [("_law_cell", 9)]) (fun σ => wipe_wipe1 σ 9)
      (show BlkOk NGrw (defScope (top 48)) _ [("_law_cell", 9)] from blkOk_by (by decide +kernel)) (sw_true rfl rfl rfl (by decide +kernel)) (evI_list (ev_name (i := 4) rfl rfl ⟨_, .l, rfl, ?_, ?_⟩)))
    · intro s' H0 C cl fp c hc
      refine ⟨tgB_name hX.nd rfl, evTs_one (evT_eqD hX.b (ev_len T.n_len (ev_lc hX.b (besN c) cD cD (fun o => decide (o ∈ L)) (fun o => [some (isV (.ref p)), some (isL K (L.map cD)), some (isD K (.int (many : Nat))), some (isD K (.int way)), some (isL K (CS.map cD)), none, none, none, none, some (isD K (cD c)), some (isD K (cD o))]) (own := [("_law_one", 10)]) (fun σ => wipe_wipe1 σ 10)
        (blkOk_by (by rfl)) (evI_list (ev_call ((h_besN T).cal hr) (evA_cons (ev_name (i := 9) rfl rfl (evA_nil ⟨c, trivial, Subs.rfl, ?_⟩)))))))), fun _ => ev_name (i := 9) rfl rfl ⟨rfl, dat_d⟩⟩
      rintro φ rfl
      refine ⟨_, .l, rfl, ?_, _, .l .l, ev_int ⟨_, _, _, dq_d, dq_d, rfl, rfl, eqv_int _ _, rfl, ?_⟩⟩
      · intro s2 H2 C2 cl2 fp2 o ho
        exact ⟨tgB_name hX.nd rfl, evTs_one (evT_inL hX.b.b (ev_name (i := 10) rfl rfl (ev_name (i := 1) rfl rfl ⟨_, ⟨cD o, _, dq_d, dq_l, rfl, shL L, any_cells L o⟩, rfl, rfl⟩))), fun _ => ev_name (i := 10) rfl rfl ⟨rfl, dat_d⟩⟩
      · unfold outp
        rw [List.length_map]
        congr 1
        exact propext (by omega)
    generalize hlo : (fun c => decide (((besN c).filter fun o => decide (o ∈ L)).length = 1)) = lone
    have elo : outp CS lone cD = (CS.filter lone).map cD := rfl
    rw [elo]
    generalize hLo : CS.filter lone = Lo
    have hLoS : ∀ c ∈ Lo, c ∈ CS := fun c hc => by rw [← hLo] at hc; exact (List.mem_filter.mp hc).1
    have hLol : Lo.length ≤ 32 := by rw [← hLo]; exact Nat.le_trans (List.length_filter_le _ _) hCl
    -- from the cells to choose among on
    have rest : ∀ (So : List Cell) (pen1 : Pen), (∀ c ∈ So, c ∈ CS) → So ≠ [] → So.length ≤ 32 → PenOk pen1 (n0 + 2 * L.length + 1) →
        stB (cxOf CX0 P w K mg base NGrw "_law_nb_grown" (defScope (top 48)) f cdv A outer s0 H E).nox (List.drop 5 (whB (List.getD (defBody (top 48)) 0 (top 48))))
          [some (isV (.ref p)), some (isL K (L.map cD)), some (isD K (.int (many : Nat))), some (isD K (.int way)), some (isL K (CS.map cD)), none, some (isL K (Lo.map cD)), some (isL K (So.map cD)), none, none, none] [(p, dkO (penF K pen1))]
          { nx := Wkn fun Γ2 Ω2 => ∃ m', m' < many - L.length ∧ ∃ (L : List Cell) (pen : Pen), Γ2 = [some (isV (.ref p)), some (isL K (L.map cD)), some (isD K (.int (many : Nat))), some (isD K (.int way)), none, none, none, none, none, none, none] ∧ Ω2 = [(p, dkO (penF K pen))] ∧ Grs L ∧ L.length ≤ many ∧ PenOk pen (n0 + 2 * L.length) ∧ m' = many - L.length,
            rt := fun Ω' φ => ∃ ψ, (p, ψ) ∈ Ω' ∧ penR K (n0 + 18) ψ ∧ ∃ M : List Cell, φ = isL K (M.map cD) ∧ Grs M ∧ M.length = many,
            ct := Wkn fun Γ2 Ω2 => ∃ m', m' < many - L.length ∧ ∃ (L : List Cell) (pen : Pen), Γ2 = [some (isV (.ref p)), some (isL K (L.map cD)), some (isD K (.int (many : Nat))), some (isD K (.int way)), none, none, none, none, none, none, none] ∧ Ω2 = [(p, dkO (penF K pen))] ∧ Grs L ∧ L.length ≤ many ∧ PenOk pen (n0 + 2 * L.length) ∧ m' = many - L.length,
            bk := fun Γ' Ω' => stB (cxOf CX0 P w K mg base NGrw "_law_nb_grown" (defScope (top 48)) f cdv A outer s0 H E).nox (List.drop 1 (defBody (top 48))) Γ' Ω' { nx := fun _ Ω' => ∃ ψ, (p, ψ) ∈ Ω' ∧ penR K (n0 + 18) ψ ∧ ∃ M : List Cell, isD K .none = isL K (M.map cD) ∧ Grs M ∧ M.length = many, rt := fun Ω' φ => ∃ ψ, (p, ψ) ∈ Ω' ∧ penR K (n0 + 18) ψ ∧ ∃ M : List Cell, φ = isL K (M.map cD) ∧ Grs M ∧ M.length = many } } := by
      intro So pen1 hSo hSne hSl hpen1
      refine stB_cons (st_setLc (i := 8) hX rfl So cD cD (fun c => crossB L c) (fun c => [some (isV (.ref p)), some (isL K (L.map cD)), some (isD K (.int (many : Nat))), some (isD K (.int way)), some (isL K (CS.map cD)), none, some (isL K (Lo.map cD)), some (isL K (So.map cD)), none, some (isD K (cD c)), none]) (own := [("_law_cell", 9)]) (fun σ => wipe_wipe1 σ 9)
        (show BlkOk NGrw (defScope (top 48)) _ [("_law_cell", 9)] from blkOk_by (by decide +kernel)) (sw_true rfl rfl rfl (by decide +kernel)) (evI_list (ev_name (i := 7) rfl rfl ⟨_, .l, rfl, ?_, ?_⟩)))
      · intro s' H0 C cl fp c hc
        refine ⟨tgB_name hX.nd rfl, evTs_one (evT_val (ev_call ((h_cross T).cal hr) (evA_cons (ev_name (i := 1) rfl rfl (evA_cons (ev_name (i := 9) rfl rfl (evA_nil ⟨(L, c), trivial, Subs.rfl, ?_⟩))))))), fun _ => ev_name (i := 9) rfl rfl ⟨rfl, dat_d⟩⟩
        rintro φ rfl
        exact ⟨_, rfl, rfl, rfl⟩
      generalize hCr : So.filter (fun c => crossB L c) = Cr
      have ecr : outp So (fun c => crossB L c) cD = Cr.map cD := by rw [← hCr]; rfl
      rw [ecr]
      have hCrS : ∀ c ∈ Cr, c ∈ CS := fun c hc => by rw [← hCr] at hc; exact hSo c (List.mem_filter.mp hc).1
      have hCrl : Cr.length ≤ 32 := by rw [← hCr]; exact Nat.le_trans (List.length_filter_le _ _) hSl
      -- the pick
      have done : ∀ (pen2 : Pen) (c : Cell), PenOk pen2 (n0 + 2 * L.length + 2) → c ∈ CS → evA (cxOf CX0 P w K mg base NGrw "_law_nb_grown" (defScope (top 48)) f cdv A outer s0 H E).nox []
          [some (isV (.ref p)), some (isL K (L.map cD)), some (isD K (.int (many : Nat))), some (isD K (.int way)), some (isL K (CS.map cD)), none, some (isL K (Lo.map cD)), some (isL K (So.map cD)), some (isL K (Cr.map cD)), none, none] [(p, dkO (penF K pen2))] fun Ω φs => ∃ ds, Dats K (isD K (cD c) :: φs) ds ∧ ds.length ≤ 1000 ∧ ∃ xs ys, Lt K Ω (isL K (L.map cD)) xs ∧ Lt K Ω (isL K ds) ys ∧ xs.length + ys.length ≤ sizeLine ∧
            (Wkn fun Γ2 Ω2 => ∃ m', m' < many - L.length ∧ ∃ (L : List Cell) (pen : Pen), Γ2 = [some (isV (.ref p)), some (isL K (L.map cD)), some (isD K (.int (many : Nat))), some (isD K (.int way)), none, none, none, none, none, none, none] ∧ Ω2 = [(p, dkO (penF K pen))] ∧ Grs L ∧ L.length ≤ many ∧ PenOk pen (n0 + 2 * L.length) ∧ m' = many - L.length)
              [some (isV (.ref p)), some (isL K (xs ++ ys)), some (isD K (.int (many : Nat))), some (isD K (.int way)), some (isL K (CS.map cD)), none, some (isL K (Lo.map cD)), some (isL K (So.map cD)), some (isL K (Cr.map cD)), none, none] Ω := by
        intro pen2 c hpen2 hc
        obtain ⟨c1, c2⟩ := (hCm c).mp hc
        refine evA_nil ⟨_, .cons dat_d .nil, le1000 (n := 1) rfl (by decide), _, _, .l, .l, ?_, ?_⟩
        · rw [List.length_map, List.length_singleton, sizeLine_eq]; omega
        · have e1 : L.map cD ++ [cD c] = (L ++ [c]).map cD := by rw [List.map_append]; rfl
          have e2 : (L ++ [c]).length = L.length + 1 := by rw [List.length_append, List.length_singleton]
          refine ⟨_, _, .yes Sub.rfl (.yes ?_ (.yes Sub.rfl (.yes Sub.rfl (.no (.no (.no (.no (.no (.no (.no .nil)))))))))), List.Sublist.refl _, many - (L ++ [c]).length, by rw [e2]; omega, L ++ [c], pen2, rfl, rfl, .add hg c1 c2, by rw [e2]; omega, hpen2.mono (by rw [e2]; omega), rfl⟩
          rw [e1]
          exact Sub.rfl
      have fin : ∀ (Ch : List Cell), (∀ c ∈ Ch, c ∈ CS) → Ch ≠ [] → Ch.length ≤ 32 → 
          ∃ (a : PkA) (j : Nat) (p' : Addr) (φr : List MP), [isV (.ref p), isL K (Ch.map cD)] = isV (.ref p') :: φr ∧ [(p, dkO (penF K pen1))][j]? = some (p', dkO (penF K a.pen)) ∧ (PenOk a.pen a.n ∧ a.n ≤ 1000000 ∧ 0 < a.some.length ∧ a.some.length ≤ 1000) ∧ Subs φr [isLm a.some] ∧ ∀ ψ φ, (penR K (a.n + 1) ψ ∧ φ ∈ a.some) → (evA (cxOf CX0 P w K mg base NGrw "_law_nb_grown" (defScope (top 48)) f cdv A outer s0 H E).nox []
          [some (isV (.ref p)), some (isL K (L.map cD)), some (isD K (.int (many : Nat))), some (isD K (.int way)), some (isL K (CS.map cD)), none, some (isL K (Lo.map cD)), some (isL K (So.map cD)), some (isL K (Cr.map cD)), none, none] ([(p, dkO (penF K pen1))].set j (p', ψ)) fun Ω φs => ∃ ds, Dats K (φ :: φs) ds ∧ ds.length ≤ 1000 ∧ ∃ xs ys, Lt K Ω (isL K (L.map cD)) xs ∧ Lt K Ω (isL K ds) ys ∧ xs.length + ys.length ≤ sizeLine ∧
            (Wkn fun Γ2 Ω2 => ∃ m', m' < many - L.length ∧ ∃ (L : List Cell) (pen : Pen), Γ2 = [some (isV (.ref p)), some (isL K (L.map cD)), some (isD K (.int (many : Nat))), some (isD K (.int way)), none, none, none, none, none, none, none] ∧ Ω2 = [(p, dkO (penF K pen))] ∧ Grs L ∧ L.length ≤ many ∧ PenOk pen (n0 + 2 * L.length) ∧ m' = many - L.length)
              [some (isV (.ref p)), some (isL K (xs ++ ys)), some (isD K (.int (many : Nat))), some (isD K (.int way)), some (isL K (CS.map cD)), none, some (isL K (Lo.map cD)), some (isL K (So.map cD)), some (isL K (Cr.map cD)), none, none] Ω) := by
        intro Ch hCh hChne hChl
        refine ⟨⟨pen1, n0 + 2 * L.length + 1, (Ch.map cD).map (isD K)⟩, 0, p, [isL K (Ch.map cD)], rfl, rfl, ⟨hpen1, by show n0 + 2 * L.length + 1 ≤ 1000000; omega, ?_, ?_⟩, .cons sub_lm .nil, ?_⟩
        · rw [List.length_map, List.length_map]; exact List.length_pos_iff.mpr hChne
        · rw [List.length_map, List.length_map]; omega
        · rintro ψ φ ⟨⟨pen2, hpen2, rfl⟩, hφ⟩
          rw [List.map_map] at hφ
          obtain ⟨c, hc, rfl⟩ := List.mem_map.mp hφ
          exact done pen2 c hpen2 (hCh c hc)
      refine stB_one (st_set (i := 1) hX rfl (ev_catL (ev_name (i := 1) rfl rfl (ev_lst (evA_cons (ev_callM ((h_pick T).cal hr) (evA_cons (ev_name (i := 0) rfl rfl (evA_cons (ev_ifx (evW_pt (evW_and (evT_eqD hX (ev_name (i := 3) rfl rfl (ev_int ⟨_, _, _, dq_d, dq_d, rfl, rfl, eqv_int _ _, ?_⟩)))))))))))))))
      by_cases hw2 : way = 2
      · refine (if_pos (decide_eq_true hw2)).mpr (evW_and1 (evT_neD hX (ev_name (i := 8) rfl rfl (ev_lst (evA_nil ⟨[], .nil, by decide, _, _, _, dq_l, dq_l, shL Cr, rfl, eqv_nilL _, ?_⟩)))))
        by_cases hcr : Cr = []
        · refine (if_neg (by rw [hcr]; decide)).mpr (ev_name (i := 7) rfl rfl (evA_nil (fin So hSo hSne hSl)))
        · refine (if_pos (by cases Cr with | nil => exact absurd rfl hcr | cons a l => rfl)).mpr (ev_name (i := 8) rfl rfl (evA_nil (fin Cr hCrS hcr hCrl)))
      · refine (if_neg (fun z => hw2 (of_decide_eq_true z))).mpr (if_neg Bool.false_ne_true |>.mpr (ev_name (i := 7) rfl rfl (evA_nil (fin So hSo hSne hSl))))
    have hp1 : PenOk pen (n0 + 2 * L.length + 1) := hp.mono (Nat.le_succ _)
    refine stB_cons (st_set (i := 7) hX rfl (ev_ifx (evW_pt (evW_and (evT_gtI (ev_name (i := 3) rfl rfl (ev_int ⟨_, _, rfl, rfl, ?_⟩)))))))
    refine ite2 (fun q1 => ?_) (fun q1 => (if_neg Bool.false_ne_true).mpr (ev_name (i := 4) rfl rfl (rest CS pen (fun c h => h) hCne hCl hp1)))
    refine evW_and (evT_neD hX (ev_name (i := 6) rfl rfl (ev_lst (evA_nil ⟨[], .nil, by decide, _, _, _, dq_l, dq_l, shL Lo, rfl, eqv_nilL _, ?_⟩))))
    by_cases hLoE : Lo = []
    · refine (if_neg (by rw [hLoE]; decide)).mpr ((if_neg Bool.false_ne_true).mpr (ev_name (i := 4) rfl rfl (rest CS pen (fun c h => h) hCne hCl hp1)))
    · refine (if_pos (by cases Lo with | nil => exact absurd rfl hLoE | cons a l => rfl)).mpr (evW_and1 (evT_gtI (ev_callM ((h_draw T).cal hr) (evA_cons (ev_name (i := 0) rfl rfl (evA_cons (ev_int (evA_nil ⟨⟨pen, n0 + 2 * L.length, 6⟩, 0, p, _, rfl, rfl, ⟨hp, by show n0 + 2 * L.length ≤ 1000000; omega, (show (0 : Int) < 6 by decide), (show (6 : Int) < 1073741824 by decide)⟩, Subs.rfl, ?_⟩))))))))
      rintro ψ φ ⟨⟨pen2, hpen2, rfl⟩, r, rfl, _, _⟩
      refine ev_int ⟨_, _, rfl, rfl, ?_⟩
      exact ite2 (fun q => ev_name (i := 6) rfl rfl (rest Lo pen2 hLoS hLoE hLol hpen2)) (fun q => ev_name (i := 4) rfl rfl (rest CS pen2 (fun c h => h) hCne hCl hpen2))
  · refine (if_neg (fun z => hlt (by have := of_decide_eq_true z; rw [List.length_map] at this; omega))).mpr ?_
    exact stB_one (st_ret (ev_name (i := 1) rfl rfl ⟨_, List.mem_cons_self, ⟨pen, hp.mono (show n0 + 2 * L.length ≤ n0 + 18 by omega), rfl⟩, L, rfl, hg, by show L.length = many; omega⟩))
end G
set_option Elab.async false
set_option linter.all false
set_option maxRecDepth 100000
set_option maxHeartbeats 4000000
set_option pp.maxSteps 300
namespace G
open PySem PySem.Spec PyProof.Rows L2 RZ
variable {P : Program} {w : World} {K : PySem.W.Frag} {mg : Str → Option Value} {base : Heap}
/-! ### _law_drawn -/
structure DwA where
  pen : Pen
  n : Nat
  many : Nat
def spDrawn (K : PySem.W.Frag) : Sp := spM (fun x : DwA => PenOk x.pen x.n ∧ x.n ≤ 90000 ∧ 1 ≤ x.many ∧ x.many ≤ 9) (fun x _ => dkO (penF K x.pen)) (fun x => [isD K (.int (x.many : Nat))])
  (fun x _ ψ φ => penR K (x.n + 21) ψ ∧ ∃ M, φ = isD K (bD (sortC M)) ∧ Grs M ∧ M.length = x.many)
theorem sc_drawn : FnScope ["_law_pen_here", "_law_many", "_law_body"] ["_law_pen_here", "_law_many"] (defScope (top 56)) := ⟨rfl, rfl, rfl, by decide +kernel, rfl, by decide +kernel, by decide +kernel⟩
theorem h_drawn (T : Txt K mg) : Has P w K mg base 8 "_law_drawn" (spDrawn K) := by
  obtain ⟨f, fd, F, m⟩ := T.law_drawn
  refine ⟨f, fd, ["_law_pen_here", "_law_many"], defM F sc_drawn (kk := 7) (by decide) (fun _ => rfl) ?_, m, F.kp, F.binds fun _ _ _ _ _ _ us hl => match us, hl with | [_, _], _ => rfl⟩
  rintro cdv A outer s0 H E hr ⟨pen, n, many⟩ p ⟨hp, hn, h1, h9⟩
  replace hn : n ≤ 90000 := hn
  replace h1 : 1 ≤ many := h1
  replace h9 : many ≤ 9 := h9
  have hX := nor_of (P := P) (w := w) (K := K) (mg := mg) (base := base) (CX := CX0) (outer := outer) (H := H) (E := E) sc_drawn.nd hr (by decide)
  refine stB_cons (st_set (i := 2) hX rfl (ev_callM ((h_grown T).cal hr) (evA_cons (ev_name (i := 0) rfl rfl (evA_cons (ev_lst (evA_cons (ev_tup2 (ev_subI (ev_callM ((h_draw T).cal hr) (evA_cons (ev_name (i := 0) rfl rfl (evA_cons (ev_int (evA_nil ⟨⟨pen, n, 9⟩, 0, p, _, rfl, rfl, ⟨hp, by show n ≤ 1000000; omega, (show (0 : Int) < 9 by decide), (show (9 : Int) < 1073741824 by decide)⟩, Subs.rfl, ?_⟩)))))))))))))))
  rintro ψ φ ⟨⟨pen1, hp1, rfl⟩, r1, rfl, a1, b1⟩
  replace b1 : r1 < 9 := b1
  replace hp1 : PenOk pen1 (n + 1) := hp1
  refine ev_int ⟨_, _, rfl, rfl, ?_⟩
  refine ev_subI (ev_callM ((h_draw T).cal hr) (evA_cons (ev_name (i := 0) rfl rfl (evA_cons (ev_int (evA_nil ⟨⟨pen1, n + 1, 9⟩, 0, p, _, rfl, rfl, ⟨hp1, by show n + 1 ≤ 1000000; omega, (show (0 : Int) < 9 by decide), (show (9 : Int) < 1073741824 by decide)⟩, Subs.rfl, ?_⟩))))))
  rintro ψ φ ⟨⟨pen2, hp2, rfl⟩, r2, rfl, a2, b2⟩
  replace b2 : r2 < 9 := b2
  replace hp2 : PenOk pen2 (n + 2) := hp2
  refine ev_int ⟨_, _, rfl, rfl, _, _, dat_d, dat_d, evA_nil ⟨_, .cons dat_d .nil, le1000 (n := 1) rfl (by decide), evA_cons (ev_name (i := 1) rfl rfl (evA_cons (ev_callM ((h_draw T).cal hr) (evA_cons (ev_name (i := 0) rfl rfl (evA_cons (ev_int (evA_nil ⟨⟨pen2, n + 2, 3⟩, 0, p, _, rfl, rfl, ⟨hp2, by show n + 2 ≤ 1000000; omega, (show (0 : Int) < 3 by decide), (show (3 : Int) < 1073741824 by decide)⟩, Subs.rfl, ?_⟩))))))))⟩⟩
  rintro ψ φ ⟨⟨pen3, hp3, rfl⟩, r3, rfl, _, _⟩
  replace hp3 : PenOk pen3 (n + 3) := hp3
  refine evA_nil ⟨⟨pen3, n + 3, [(r1 - 4, r2 - 4)], many, r3⟩, 0, p, _, rfl, rfl, ⟨hp3, by show n + 3 ≤ 100000; omega, .one _ (by unfold smallC; simp only; omega), h1, h9⟩, Subs.rfl, ?_⟩
  rintro ψ φ ⟨⟨pen4, hp4, rfl⟩, M, rfl, hM, hMl⟩
  replace hMl : M.length = many := hMl
  refine stB_one (st_ret (ev_tupL T.n_tuple boot_tuple (ev_sorted hX T.n_sorted (ev_name (i := 2) rfl rfl ⟨_, .q (.l .l), ?_, ?_⟩))))
  · rintro ds rfl
    exact ⟨canS_cells _, by rw [List.length_map, sizeLine_eq]; omega⟩
  · rintro ds rfl
    refine ⟨_, .l, _, List.mem_cons_self, ⟨pen4, hp4, rfl⟩, M, ?_, hM, hMl⟩
    rw [sortD_cells]
    rfl
/-! ### _law_nb_odd -/
structure OddOk (o : Option PyData) : Prop where
  ok : OkO o
  no : bodyB o = false
def OddM (K : PySem.W.Frag) (φ : MP) (o : Option PyData) : Prop := Sub φ (oddM K o)
structure OdA where
  pen : Pen
  n : Nat
  L : List Cell
inductive OddIs (L : List Cell) : Option PyData → Prop
  | a : OddIs L (some .none)
  | b : OddIs L (some (.tuple []))
  | c : OddIs L (some (.list (L.map cD)))
  | d (z : Cell) : L.getLast? = some z → OddIs L (some (bD (L ++ [(z.1 + 2, z.2)])))
  | e (z : Cell) : L.head? = some z → OddIs L (some (bD (L ++ [z])))
  | f (z : Cell) : L.head? = some z → OddIs L (some (bD (L.reverse ++ [z])))
  | g (z : Cell) : L.head? = some z → OddIs L (some (.tuple [cD z, .none]))
  | h : OddIs L (some (.str "ab"))
  | i : OddIs L (some (.tuple [.tuple [.bool true, .int 0]]))
  | j : OddIs L (some (bD [(0, 0), (1, 1)]))
  | k : OddIs L (some (.tuple [.int 1, .int 2]))
  | l : OddIs L (some (.tuple [.tuple [.int 0]]))
  | m : OddIs L none
def spOdd (K : PySem.W.Frag) : Sp := spM (fun x : OdA => PenOk x.pen x.n ∧ x.n ≤ 90000 ∧ x.L ≠ [] ∧ x.L.length ≤ 900) (fun x _ => dkO (penF K x.pen)) (fun x => [isD K (bD x.L)]) (fun x _ ψ φ => penR K (x.n + 1) ψ ∧ ∃ o, OddM K φ o ∧ OddIs x.L o)
theorem sc_odd : FnScope ["_law_pen_here", "_law_body", "_law_far", "_law_odd"] ["_law_pen_here", "_law_body"] (defScope (top 50)) := ⟨rfl, rfl, rfl, by decide +kernel, rfl, by decide +kernel, by decide +kernel⟩
theorem subs_trans {φ ψ χ : MP} (h1 : Sub φ ψ) (h2 : Sub ψ χ) : Sub φ χ := fun F v h => h2 F v (h1 F v h)
theorem atI_lastL {L : List Cell} {z : Cell} (h : L.getLast? = some z) : atI (L.map cD) (-1) = some (cD z) := by
  obtain ⟨ys, rfl⟩ := List.getLast?_eq_some_iff.mp h
  rw [List.map_append]
  exact atI_last _ _
theorem cut0 {L : List Cell} {z : Cell} (h : L.head? = some z) : cutD (L.map cD) none (some 1) = [cD z] := by
  match L, h with
  | a :: l, h =>
    have e : a = z := by simpa using h
    subst e
    unfold cutD
    rw [HT.sIx_none, show HT.sIx (List.map cD (a :: l)).length (List.map cD (a :: l)).length (some 1) = min 1 (List.map cD (a :: l)).length from HT.sIx_nat _ _ 1]
    rw [show min 1 (List.map cD (a :: l)).length = 1 by simp]
    rfl
theorem h_odd (T : Txt K mg) : Has P w K mg base 7 "_law_nb_odd" (spOdd K) := by
  obtain ⟨f, fd, F, m⟩ := T.law_nb_odd
  refine ⟨f, fd, ["_law_pen_here", "_law_body"], defM F sc_odd (kk := 6) (by decide) (fun _ => rfl) ?_, m, F.kp, F.binds fun _ _ _ _ _ _ us hl => match us, hl with | [_, _], _ => rfl⟩
  rintro cdv A outer s0 H E hr ⟨pen, n, L⟩ p ⟨hp, hn, hne, hlen⟩
  replace hn : n ≤ 90000 := hn
  replace hne : L ≠ [] := hne
  replace hlen : L.length ≤ 900 := hlen
  have hX := nor_of (P := P) (w := w) (K := K) (mg := mg) (base := base) (CX := CX0) (outer := outer) (H := H) (E := E) sc_odd.nd hr (by decide)
  obtain ⟨z, hz⟩ : ∃ z, L.getLast? = some z := ⟨_, List.getLast?_eq_some_getLast hne⟩
  obtain ⟨y, hy⟩ : ∃ y, L.head? = some y := by
    match L, hne with
    | a :: l, _ => exact ⟨a, rfl⟩
  have hy0 : atI (L.map cD) 0 = some (cD y) := by
    match L, hy with
    | a :: l, hy =>
      have e : a = y := by simpa using hy
      subst e
      unfold atI ixN
      rw [if_pos (by decide), if_pos (by rw [List.length_map, List.length_cons]; omega)]
      rfl
  refine stB_cons (st_set (i := 2) hX rfl (ev_tup2 (ev_addI (ev_ixT (ev_ixT (ev_name (i := 1) rfl rfl (ev_negI (ev_int ⟨1, rfl, L.map cD, -1, cD z, rfl, rfl, atI_lastL hz, ev_int ⟨_, 0, _, rfl, rfl, rfl, ev_int ⟨_, _, rfl, rfl, ?_⟩⟩⟩))))))))
  refine ev_ixT (ev_ixT (ev_name (i := 1) rfl rfl (ev_negI (ev_int ⟨1, rfl, L.map cD, -1, cD z, rfl, rfl, atI_lastL hz, ev_int ⟨_, 1, _, rfl, rfl, rfl, _, _, dat_d, dat_d, ?_⟩⟩))))
  refine stB_cons (st_set (i := 3) hX rfl (ev_lstM (evA_cons (ev_none (evA_cons (ev_tup (evA_nil ⟨[], .nil, by decide, evA_cons (ev_listOf T.n_list boot_list (ev_name (i := 1) rfl rfl ⟨L.map cD, .t, ?_⟩))⟩)))))))
  refine evA_cons (ev_catT (ev_name (i := 1) rfl rfl (ev_tup (evA_cons (ev_name (i := 2) rfl rfl (evA_nil ⟨_, .cons dat_d .nil, le1000 (n := 1) rfl (by decide), L.map cD, _, rfl, rfl, by rw [List.length_map, List.length_singleton, sizeLine_eq]; omega, ?_⟩))))))
  refine evA_cons (ev_catT (ev_name (i := 1) rfl rfl (ev_cutT po_n po_i (ev_name (i := 1) rfl rfl ⟨L.map cD, rfl, L.map cD, _, rfl, rfl, by rw [cut0 hy, List.length_map, List.length_singleton, sizeLine_eq]; omega, ?_⟩))))
  refine evA_cons (ev_catT (ev_revT (ev_name (i := 1) rfl rfl ⟨L.map cD, rfl, ev_cutT po_n po_i (ev_name (i := 1) rfl rfl ⟨L.map cD, rfl, (L.map cD).reverse, _, rfl, rfl, by rw [cut0 hy, List.length_reverse, List.length_map, List.length_singleton, sizeLine_eq]; omega, ?_⟩)⟩)))
  refine evA_cons (ev_tup2 (ev_ixT (ev_name (i := 1) rfl rfl (ev_int ⟨L.map cD, 0, cD y, rfl, rfl, hy0, ev_none ⟨_, _, dat_d, dat_d, ?_⟩⟩))))
  refine evA_cons (ev_str (evA_nil ⟨le1000 (n := 8) rfl (by decide), ?_⟩))
  refine stB_one (st_ret (ev_callM ((h_pick T).cal hr) (evA_cons (ev_name (i := 0) rfl rfl (evA_cons (ev_catM (ev_name (i := 3) rfl rfl (ev_lstM (evA_cons (ev_tup (evA_cons (ev_tup2 (ev_bool (ev_int ⟨_, _, dat_d, dat_d, evA_nil ⟨_, .cons dat_d .nil, le1000 (n := 1) rfl (by decide), ?_⟩⟩))))))))))))))
  refine evA_cons (ev_tup2 (ev_tup2 (ev_int (ev_int ⟨_, _, dat_d, dat_d, ev_tup2 (ev_int (ev_int ⟨_, _, dat_d, dat_d, _, _, dat_d, dat_d, ?_⟩))⟩))))
  refine evA_cons (ev_tup2 (ev_int (ev_int ⟨_, _, dat_d, dat_d, ?_⟩)))
  refine evA_cons (ev_tup (evA_cons (ev_tup (evA_cons (ev_int (evA_nil ⟨_, .cons dat_d .nil, le1000 (n := 1) rfl (by decide), evA_nil ⟨_, .cons dat_d .nil, le1000 (n := 1) rfl (by decide), ?_⟩⟩))))))
  refine evA_cons (ev_dE (evA_nil ⟨le1000 (n := 5) rfl (by decide), _, _, rfl, rfl, by rw [sizeLine_eq]; show 8 + 5 ≤ _; decide, evA_nil ⟨⟨pen, n, _⟩, 0, p, _, rfl, rfl, ⟨hp, by show n ≤ 1000000; omega, ?_, ?_⟩, Subs.rfl, ?_⟩⟩))
  · show 0 < 13; decide
  · show 13 ≤ 1000; decide
  rintro ψ φ ⟨⟨pen2, hp2, rfl⟩, hφ⟩
  refine ⟨_, List.mem_cons_self, ⟨pen2, hp2, rfl⟩, ?_⟩
  have e1 : L.map cD ++ [cD (z.1 + 2, z.2)] = (L ++ [(z.1 + 2, z.2)]).map cD := by rw [List.map_append]; rfl
  have e2 : L.map cD ++ cutD (L.map cD) none (some 1) = (L ++ [y]).map cD := by rw [cut0 hy, List.map_append]; rfl
  have e3 : (L.map cD).reverse ++ cutD (L.map cD) none (some 1) = (L.reverse ++ [y]).map cD := by rw [cut0 hy, List.map_append, List.map_reverse]; rfl
  have hφ : φ ∈ [isD K .none, isD K (.tuple []), isL K (L.map cD), isD K (.tuple (L.map cD ++ [cD (z.1 + 2, z.2)])), isD K (.tuple (L.map cD ++ cutD (L.map cD) none (some 1))), isD K (.tuple ((L.map cD).reverse ++ cutD (L.map cD) none (some 1))), isD K (.tuple [cD y, .none]), isD K (.str "ab"),
    isD K (.tuple [.tuple [.bool true, .int 0]]), isD K (.tuple [cD (0, 0), cD (1, 1)]), isD K (.tuple [.int 1, .int 2]), isD K (.tuple [.tuple [.int 0]]), isE] := hφ
  rw [e1, e2, e3] at hφ
  simp only [List.mem_cons, List.not_mem_nil, or_false] at hφ
  rcases hφ with rfl | rfl | rfl | rfl | rfl | rfl | rfl | rfl | rfl | rfl | rfl | rfl | rfl
  · exact ⟨some .none, Sub.rfl, .a⟩
  · exact ⟨some (.tuple []), Sub.rfl, .b⟩
  · exact ⟨some (.list (L.map cD)), fun F v h => dat_l F v h, .c⟩
  · exact ⟨some (bD (L ++ [(z.1 + 2, z.2)])), Sub.rfl, .d z hz⟩
  · exact ⟨some (bD (L ++ [y])), Sub.rfl, .e y hy⟩
  · exact ⟨some (bD (L.reverse ++ [y])), Sub.rfl, .f y hy⟩
  · exact ⟨some (.tuple [cD y, .none]), Sub.rfl, .g y hy⟩
  · exact ⟨some (.str "ab"), Sub.rfl, .h⟩
  · exact ⟨some (.tuple [.tuple [.bool true, .int 0]]), Sub.rfl, .i⟩
  · exact ⟨some (bD [(0, 0), (1, 1)]), Sub.rfl, .j⟩
  · exact ⟨some (.tuple [.int 1, .int 2]), Sub.rfl, .k⟩
  · exact ⟨some (.tuple [.tuple [.int 0]]), Sub.rfl, .l⟩
  · exact ⟨none, Sub.rfl, .m⟩
end G
set_option Elab.async false
set_option linter.all false
set_option maxRecDepth 100000
set_option maxHeartbeats 4000000
set_option pp.maxSteps 300
/-! M5: the two ways of telling moves are one. -/
namespace G
theorem shape_sort (L : List Cell) : shpN L = shpL (sortC L) := by
  rw [shpN_eq, shp_eq, shp_eq, sort_mov]
  have perm : ∀ x, x ∈ sortC L ↔ x ∈ L := fun x => mem_sortC
  have mi : ∀ (g : Cell → Int), minI ((sortC L).map g) = minI (L.map g) := fun g => by
    by_cases h : L = []
    · subst h; rw [show sortC ([] : List Cell) = [] from by unfold sortC; simp]
    · have h1 : L.map g ≠ [] := by simpa using h
      obtain ⟨a, b⟩ := minI_spec h1
      refine (minI_eq ?_ fun y hy => ?_).symm
      · obtain ⟨c, hc, e⟩ := List.mem_map.mp a
        exact List.mem_map.mpr ⟨c, (perm c).mpr hc, e⟩
      · obtain ⟨c, hc, rfl⟩ := List.mem_map.mp hy
        exact b _ (List.mem_map.mpr ⟨c, (perm c).mp hc, rfl⟩)
  have e : corL (sortC L) = corL L := by
    unfold corL colL rowL
    rw [mi, mi]
  rw [e]
theorem nxtN_eq (S : Shp) (m : Mv) : nxtN S m = nxt S m := shape_sort _
theorem mem_cut_iff {L : List Cell} {s c : Cell} (h : c ≠ s) : decide (c ∈ cut L s) = decide (c ∈ L) := by
  have : c ∈ cut L s ↔ c ∈ L := by rw [mem_cut]; exact ⟨fun z => z.1, fun z => ⟨z, h⟩⟩
  simp only [this]
theorem step_supp {L : List Cell} {s d : Cell} (hs : s ∈ L) (hd : d ∈ aroundL) : stepB (cut L s) s d = suppB L s (s.1 + d.1, s.2 + d.2) := by
  have e1 : (s.1 + d.1) - s.1 = d.1 := by omega
  have e2 : (s.2 + d.2) - s.2 = d.2 := by omega
  have hd0 : d ≠ (0, 0) := fun z => by subst z; revert hd; decide
  have hne : ((s.1 + d.1, s.2 + d.2) : Cell) ≠ s := fun z => hd0 (by
    have a := congrArg Prod.fst z
    have b := congrArg Prod.snd z
    simp only at a b
    exact Prod.ext (by show d.1 = 0; omega) (by show d.2 = 0; omega))
  unfold stepB suppB
  simp only [e1, e2]
  rw [mem_cut_iff hne]
  have hs' : decide (s ∉ L) = false := by simp [hs]
  have hd0' : decide (d = (0, 0)) = false := by simp [hd0]
  rw [hs', hd0', Bool.or_false, Bool.false_or]
  have bounds : (d.1 = -1 ∨ d.1 = 0 ∨ d.1 = 1) ∧ (d.2 = -1 ∨ d.2 = 0 ∨ d.2 = 1) := by
    simp only [aroundL, List.mem_cons, List.not_mem_nil, or_false] at hd
    rcases hd with rfl | rfl | rfl | rfl | rfl | rfl | rfl | rfl <;> decide
  obtain ⟨d1, d2⟩ := d
  simp only at bounds
  have nz : ¬ (d1 = 0 ∧ d2 = 0) := fun z => hd0 (by rw [z.1, z.2])
  by_cases hin : ((s.1 + d1, s.2 + d2) : Cell) ∈ L
  · simp [hin]
  · rw [decide_eq_false hin, if_neg Bool.false_ne_true, if_neg Bool.false_ne_true]
    by_cases hdiag : d1 ≠ 0 ∧ d2 ≠ 0
    · rw [if_pos hdiag]
      have a1 : absI d1 = 1 := by unfold absI; split <;> omega
      have a2 : absI d2 = 1 := by unfold absI; split <;> omega
      rw [if_neg (by rw [a1, a2]; decide), if_pos ⟨a1, a2⟩]
      have hf : (cornN s (d1, d2)).filter (fun o => decide (o ∈ cut L s)) = (cornL s (s.1 + d1, s.2 + d2)).filter fun c => decide (c ∈ L) := by
        have ec : cornL s (s.1 + d1, s.2 + d2) = cornN s (d1, d2) := by
          unfold cornL cornN
          simp only [e1, e2]
        rw [ec]
        refine List.filter_congr fun c hc => mem_cut_iff fun z => ?_
        subst z
        simp only [cornN, List.mem_cons, List.not_mem_nil, or_false] at hc
        rcases hc with h | h
        · have := congrArg Prod.fst h; simp only at this; omega
        · have := congrArg Prod.snd h; simp only at this; omega
      rw [hf]
    · rw [if_neg hdiag]
      have a12 : absI d1 + absI d2 = 1 := by unfold absI; split <;> split <;> omega
      rw [if_pos a12]
      have es : sidesL s (s.1 + d1, s.2 + d2) = (sideN (d1, d2)).map fun p => ((s.1 + p.1, s.2 + p.2), (s.1 + d1 + p.1, s.2 + d2 + p.2)) := by
        unfold sidesL sideN
        simp only [e1, e2]
        rfl
      rw [es, List.any_map]
      rw [Bool.eq_iff_iff, List.any_eq_true, List.any_eq_true]
      have key : ∀ p ∈ sideN (d1, d2), bothB ⟨cut L s, s, (s.1 + d1, s.2 + d2), p.1, p.2⟩ = (decide (((s.1 + p.1, s.2 + p.2) : Cell) ∈ L) && decide (((s.1 + d1 + p.1, s.2 + d2 + p.2) : Cell) ∈ L)) := fun p hp => by
        have hp' : (p.1 = d2 ∧ p.2 = d1) ∨ (p.1 = -d2 ∧ p.2 = -d1) := by
          simp only [sideN, List.mem_cons, List.not_mem_nil, or_false] at hp
          rcases hp with h | h
          · exact .inl ⟨congrArg Prod.fst h, congrArg Prod.snd h⟩
          · exact .inr ⟨congrArg Prod.fst h, congrArg Prod.snd h⟩
        unfold bothB
        show (decide (((s.1 + p.1, s.2 + p.2) : Cell) ∈ cut L s) && decide (((s.1 + d1 + p.1, s.2 + d2 + p.2) : Cell) ∈ cut L s)) = _
        rw [mem_cut_iff, mem_cut_iff]
        · intro z
          have a := congrArg Prod.fst z
          have b := congrArg Prod.snd z
          simp only at a b
          omega
        · intro z
          have a := congrArg Prod.fst z
          have b := congrArg Prod.snd z
          simp only at a b
          omega
      constructor
      · rintro ⟨p, hp, h⟩
        exact ⟨p, hp, by rw [key p hp] at h; exact h⟩
      · rintro ⟨p, hp, h⟩
        exact ⟨p, hp, by rw [key p hp]; exact h⟩
theorem moves_iff {L : List Cell} (m : Mv) : m ∈ movesN L ↔ m ∈ movesL L := by
  unfold movesN movesL
  rw [List.mem_flatMap, List.mem_flatMap]
  refine exists_congr fun s => and_congr_right fun hs => ?_
  have hsL := freeL_sub hs
  unfold endsL stepsN rowN
  rw [List.mem_map, List.mem_map]
  constructor
  · rintro ⟨e, he, rfl⟩
    refine ⟨e, ?_, rfl⟩
    have he := mem_sortC.mp he
    obtain ⟨a, ha, he⟩ := List.mem_flatMap.mp he
    obtain ⟨u, hu, rfl⟩ := List.mem_map.mp he
    obtain ⟨hu1, hu2⟩ := List.mem_filter.mp hu
    have hd : ((a, u) : Cell) ∈ aroundL := by
      have h0 : ((a, u) : Cell) ≠ (0, 0) := fun z => by
        rw [z] at hu2
        unfold stepB at hu2
        simp at hu2
      simp only [dL, List.mem_cons, List.not_mem_nil, or_false] at ha hu1
      rcases ha with rfl | rfl | rfl <;> rcases hu1 with rfl | rfl | rfl <;> first | decide | exact absurd rfl h0
    refine List.mem_filter.mpr ⟨List.mem_map.mpr ⟨(a, u), hd, rfl⟩, ?_⟩
    have := step_supp hsL hd
    rw [← this]
    exact hu2
  · rintro ⟨e, he, rfl⟩
    refine ⟨e, mem_sortC.mpr ?_, rfl⟩
    obtain ⟨h1, h2⟩ := List.mem_filter.mp he
    obtain ⟨d, hd, rfl⟩ := List.mem_map.mp h1
    have := step_supp hsL hd
    have hdd : d.1 ∈ dL ∧ d.2 ∈ dL := by
      simp only [aroundL, List.mem_cons, List.not_mem_nil, or_false] at hd
      rcases hd with rfl | rfl | rfl | rfl | rfl | rfl | rfl | rfl <;> decide
    exact List.mem_flatMap.mpr ⟨d.1, hdd.1, List.mem_map.mpr ⟨d.2, List.mem_filter.mpr ⟨hdd.2, by rw [this]; exact h2⟩, rfl⟩⟩
theorem FlN_iff (S : Shp) (x : Mv × Shp) : x ∈ FlN S ↔ x ∈ FlP S := by
  unfold FlN FlP
  rw [List.mem_map, List.mem_map]
  refine exists_congr fun m => ?_
  rw [moves_iff, nxtN_eq]
theorem wk_iff {s0 : Shp} {n : Nat} {T : Shp} : Wk FlN s0 n T ↔ Wk FlP s0 n T := by
  constructor
  · intro h
    induction h with
    | zero => exact .zero
    | step _ hm ih => exact .step ih ((FlN_iff _ _).mp hm)
  · intro h
    induction h with
    | zero => exact .zero
    | step _ hm ih => exact .step ih ((FlN_iff _ _).mpr hm)
theorem free_mov (L : List Cell) (v : Cell) {s : Cell} (h : s ∈ freeL L) : addC s v ∈ freeL (movL L v) := by
  unfold freeL at h ⊢
  obtain ⟨h1, h2⟩ := List.mem_filter.mp h
  refine List.mem_filter.mpr ⟨mov_mem.mpr h1, ?_⟩
  rw [cut_mov, hang_mov]
  exact h2
theorem moves_mov {L : List Cell} {m : Mv} (v : Cell) (h : m ∈ movesL L) : addM m v ∈ movesL (movL L v) := by
  unfold movesL at h ⊢
  obtain ⟨s, hs, he⟩ := List.mem_flatMap.mp h
  refine List.mem_flatMap.mpr ⟨addC s v, free_mov L v hs, ?_⟩
  unfold endsL at he ⊢
  obtain ⟨e, he0, rfl⟩ := List.mem_map.mp he
  obtain ⟨he1, he2⟩ := List.mem_filter.mp he0
  obtain ⟨d, hd, rfl⟩ := List.mem_map.mp he1
  refine List.mem_map.mpr ⟨addC (s.1 + d.1, s.2 + d.2) v, List.mem_filter.mpr ⟨List.mem_map.mpr ⟨d, hd, ?_⟩, ?_⟩, rfl⟩
  · unfold addC
    simp only [Prod.mk.injEq]
    omega
  · rw [supp_mov]
    exact he2
/-! ### the told plan, done -/
theorem plan_ok {here : List Cell} {ms : List Mv} {T : Shp} (hne : here ≠ []) (h : Chain FlP (shpL here) ms T) : PlanOk here (planL here ms).1 (planL here ms).2 := by
  induction ms generalizing here with
  | nil => exact .nil
  | cons m ms ih =>
    cases h with
    | cons hm hc =>
      unfold FlP at hm
      obtain ⟨m', hm', e⟩ := List.mem_map.mp hm
      simp only [Prod.mk.injEq] at e
      obtain ⟨rfl, rfl⟩ := e
      rw [← shp_step hne] at hc
      have hmv := moves_mov (corL here) hm'
      rw [mov_shp] at hmv
      exact .cons ((moves_iff _).mpr hmv) (ih (doneL_ne _ _ _) hc)
end G
set_option Elab.async false
set_option linter.all false
set_option maxRecDepth 100000
set_option maxHeartbeats 4000000
set_option pp.maxSteps 300
/-! M6: bodies that hang together are grown square by square; shapes, sorted. -/
namespace G
theorem clt_ext : ∀ {L M : List Cell}, (L.Pairwise fun a b => clt a b = true) → (M.Pairwise fun a b => clt a b = true) → (∀ x, x ∈ L ↔ x ∈ M) → L = M
  | [], [], _, _, _ => rfl
  | [], y :: M, _, _, h => absurd ((h y).mpr List.mem_cons_self) (by simp)
  | x :: L, [], _, _, h => absurd ((h x).mp List.mem_cons_self) (by simp)
  | x :: L, y :: M, hL, hM, h => by
    obtain ⟨l1, l2⟩ := List.pairwise_cons.mp hL
    obtain ⟨m1, m2⟩ := List.pairwise_cons.mp hM
    have irr : ∀ a b : Cell, clt a b = true → clt b a = true → False := fun a b p q => by
      unfold clt at p q
      simp only [decide_eq_true_eq] at p q
      omega
    have e : x = y := by
      rcases List.mem_cons.mp ((h x).mp List.mem_cons_self) with e | hx
      · exact e
      · rcases List.mem_cons.mp ((h y).mpr List.mem_cons_self) with e | hy
        · exact e.symm
        · exact (irr _ _ (l1 _ hy) (m1 _ hx)).elim
    subst e
    have nL : x ∉ L := fun z => irr _ _ (l1 _ z) (l1 _ z)
    have nM : x ∉ M := fun z => irr _ _ (m1 _ z) (m1 _ z)
    congr 1
    refine clt_ext l2 m2 fun z => ⟨fun hz => ?_, fun hz => ?_⟩
    · rcases List.mem_cons.mp ((h z).mp (List.mem_cons_of_mem _ hz)) with e | w
      · subst e; exact (nL hz).elim
      · exact w
    · rcases List.mem_cons.mp ((h z).mpr (List.mem_cons_of_mem _ hz)) with e | w
      · subst e; exact (nM hz).elim
      · exact w
theorem sort_ext {L M : List Cell} (hL : L.Nodup) (hM : M.Nodup) (h : ∀ x, x ∈ L ↔ x ∈ M) : sortC L = sortC M :=
  clt_ext (inc_pair (sortC_inc hL)) (inc_pair (sortC_inc hM)) fun x => by rw [mem_sortC, mem_sortC]; exact h x
theorem sort_id {L : List Cell} (h : incB L = true) : sortC L = L :=
  clt_ext (inc_pair (sortC_inc (pair_nd (inc_pair h)))) (inc_pair h) fun x => mem_sortC
theorem cor_ext {L M : List Cell} (h : ∀ x, x ∈ L ↔ x ∈ M) : corL L = corL M := by
  have mi : ∀ (g : Cell → Int), minI (L.map g) = minI (M.map g) := fun g => by
    by_cases e : L = []
    · have e2 : M = [] := List.eq_nil_iff_forall_not_mem.mpr fun x hx => by have := (h x).mpr hx; rw [e] at this; cases this
      rw [e, e2]
    · have h1 : L.map g ≠ [] := by simpa using e
      obtain ⟨a, b⟩ := minI_spec h1
      refine minI_eq ?_ fun y hy => ?_
      · obtain ⟨c, hc, e⟩ := List.mem_map.mp a
        exact List.mem_map.mpr ⟨c, (h c).mp hc, e⟩
      · obtain ⟨c, hc, rfl⟩ := List.mem_map.mp hy
        exact b _ (List.mem_map.mpr ⟨c, (h c).mpr hc, rfl⟩)
  unfold corL colL rowL
  rw [mi, mi]
theorem shp_ext {L M : List Cell} (hL : L.Nodup) (hM : M.Nodup) (h : ∀ x, x ∈ L ↔ x ∈ M) : shpN L = shpN M := by
  rw [shpN_eq, shpN_eq, shp_eq, shp_eq, cor_ext h]
  refine sort_ext (mov_nd hL) (mov_nd hM) fun x => ?_
  rw [movL_eq, movL_eq, List.mem_map, List.mem_map]
  exact exists_congr fun c => and_congr_left fun _ => h c
theorem shpN_mov {L : List Cell} (v : Cell) (h : L ≠ []) : shpN (movL L v) = shpN L := by rw [shpN_eq, shpN_eq, shp_mov v h]
theorem shpN_nd {L : List Cell} (h : L.Nodup) : (shpN L).Nodup := by rw [shpN_eq, shp_eq]; exact sortC_nd (mov_nd h)
theorem shpN_len (L : List Cell) : (shpN L).length = L.length := by rw [shpN_eq, shp_eq, sortC_len, mov_len]
/-- a grown body's shape grows -/
theorem shpN_grow {L : List Cell} {c : Cell} (hL : L.Nodup) (hc : c ∉ L) (hx : ∃ x ∈ L, c ∈ besN x) :
    ∃ c', c' ∉ shpN L ∧ (∃ x ∈ shpN L, c' ∈ besL x) ∧ shpN (L ++ [c]) = shpN (shpN L ++ [c']) := by
  obtain ⟨x, hx, hb⟩ := hx
  have mem : ∀ y, addC y (negC (corL L)) ∈ shpN L ↔ y ∈ L := fun y => by rw [shpN_eq, mem_sortC, shp_eq, mov_mem]
  have nd2 : (L ++ [c]).Nodup := List.nodup_append.mpr ⟨hL, by simp, fun a ha b hb e => hc (by rw [← List.mem_singleton.mp hb, ← e]; exact ha)⟩
  refine ⟨addC c (negC (corL L)), fun z => hc ((mem c).mp z), ⟨_, (mem x).mpr hx, bes_mov _ (besN_L.mp hb)⟩, ?_⟩
  rw [← shpN_mov (L := L ++ [c]) (negC (corL L)) (by simp)]
  have e : movL (L ++ [c]) (negC (corL L)) = shpL L ++ [addC c (negC (corL L))] := by rw [movL_eq, List.map_append, shp_eq, movL_eq]; rfl
  have mm : ∀ y, y ∈ movL (L ++ [c]) (negC (corL L)) ↔ y ∈ shpN L ++ [addC c (negC (corL L))] := fun y => by
    rw [e, shpN_eq, List.mem_append, List.mem_append, mem_sortC]
  refine shp_ext (mov_nd nd2) ?_ mm
  refine List.nodup_append.mpr ⟨shpN_nd hL, by simp, fun a ha b hb e => hc ((mem c).mp ?_)⟩
  rw [← List.mem_singleton.mp hb, ← e]; exact ha
/-- what hangs together is grown -/
theorem hang_part {L : List Cell} (h : Hang L) (hn : L.Nodup) : ∀ k, 1 ≤ k → k ≤ L.length → ∃ M, Grw M ∧ M.length = k ∧ ∀ x ∈ M, x ∈ L
  | 0, h1, _ => absurd h1 (by omega)
  | 1, _, _ => by
    obtain ⟨a, ha⟩ := List.exists_mem_of_ne_nil L h.1
    exact ⟨[a], .one a, rfl, fun x hx => by rw [List.mem_singleton.mp hx]; exact ha⟩
  | k + 2, _, hk => by
    obtain ⟨M, hM, hl, hs⟩ := hang_part h hn (k + 1) (by omega) (by omega)
    have ex : ∃ y ∈ L, y ∉ M := Classical.byContradiction fun z => by
      have : L ⊆ M := fun y hy => Classical.byContradiction fun w => z ⟨y, hy, w⟩
      have := hn.length_le_of_subset this
      omega
    obtain ⟨y, hy, hyM⟩ := ex
    obtain ⟨a, ha⟩ := List.exists_mem_of_ne_nil M hM.ne
    have step : ∀ y, Rch L a y → y ∉ M → ∃ c, c ∈ L ∧ c ∉ M ∧ ∃ x ∈ M, c ∈ besL x := fun y hr => by
      induction hr with
      | here => exact fun z => (z ha).elim
      | @step b c _ hb hc ih =>
        intro z
        by_cases e : b ∈ M
        · exact ⟨c, hc, z, b, e, hb⟩
        · exact ih e
    obtain ⟨c, hcL, hcM, x, hxM, hcx⟩ := step y (h.2 a (hs a ha) y hy) hyM
    refine ⟨M ++ [c], .add hM hcM ⟨x, hxM, besN_L.mpr hcx⟩, by rw [List.length_append, hl]; rfl, fun z hz => ?_⟩
    rcases List.mem_append.mp hz with w | w
    · exact hs z w
    · rw [List.mem_singleton.mp w]; exact hcL
theorem hang_grw {L : List Cell} (h : Hang L) (hn : L.Nodup) : ∃ M, Grw M ∧ M.length = L.length ∧ ∀ x, x ∈ M ↔ x ∈ L := by
  have h1 : 1 ≤ L.length := List.length_pos_iff.mpr h.1
  obtain ⟨M, hM, hl, hs⟩ := hang_part h hn L.length h1 (Nat.le_refl _)
  refine ⟨M, hM, hl, fun x => ⟨hs x, fun hx => Classical.byContradiction fun z => ?_⟩⟩
  have : x :: M ⊆ L := fun y hy => by
    rcases List.mem_cons.mp hy with e | w
    · rw [e]; exact hx
    · exact hs y w
  have := (List.nodup_cons.mpr ⟨z, hM.nd⟩).length_le_of_subset this
  rw [List.length_cons] at this
  omega
end G
set_option Elab.async false
set_option linter.all false
set_option maxRecDepth 100000
set_option maxHeartbeats 4000000
set_option pp.maxSteps 300
/-! M7: the shapes of one to six squares. -/
namespace G
abbrev Row := Shp × Nat × Mv × Mv
def ieq : Int → Int → Bool
  | .ofNat a, .ofNat b => Nat.beq a b
  | .negSucc a, .negSucc b => Nat.beq a b
  | _, _ => false
theorem ieq_ok {a b : Int} (h : ieq a b = true) : a = b := by
  cases a <;> cases b <;> simp_all [ieq]
def eqS : Shp → Shp → Bool
  | [], [] => true
  | a :: l, b :: m => ieq a.1 b.1 && ieq a.2 b.2 && eqS l m
  | _, _ => false
theorem eqS_ok : ∀ {a b : Shp}, eqS a b = true → a = b
  | [], [], _ => rfl
  | [], _ :: _, h => by simp [eqS] at h
  | _ :: _, [], h => by simp [eqS] at h
  | x :: l, y :: m, h => by
    simp only [eqS, Bool.and_eq_true] at h
    rw [eqS_ok h.2, Prod.ext (ieq_ok h.1.1) (ieq_ok h.1.2)]
def insC (x : Cell) : List Cell → List Cell
  | [] => [x]
  | y :: l => if cle x y then x :: y :: l else y :: insC x l
def isC (L : List Cell) : List Cell := L.foldr insC []
theorem mem_insC {x z : Cell} : ∀ {l : List Cell}, z ∈ insC x l ↔ z = x ∨ z ∈ l
  | [] => by simp [insC]
  | y :: l => by
    unfold insC
    split
    · simp
    · rw [List.mem_cons, mem_insC, List.mem_cons]
      constructor
      · rintro (h | h | h)
        · exact .inr (.inl h)
        · exact .inl h
        · exact .inr (.inr h)
      · rintro (h | h | h)
        · exact .inr (.inl h)
        · exact .inl h
        · exact .inr (.inr h)
theorem mem_isC {z : Cell} : ∀ {l : List Cell}, z ∈ isC l ↔ z ∈ l
  | [] => Iff.rfl
  | x :: l => by
    show z ∈ insC x (isC l) ↔ _
    rw [mem_insC, mem_isC, List.mem_cons]
theorem insC_pair {x : Cell} : ∀ {l : List Cell}, (l.Pairwise fun a b => clt a b = true) → x ∉ l → (insC x l).Pairwise fun a b => clt a b = true
  | [], _, _ => List.pairwise_singleton _ _
  | y :: l, h, hx => by
    obtain ⟨h1, h2⟩ := List.pairwise_cons.mp h
    have hne : x ≠ y := fun z => hx (by rw [z]; exact List.mem_cons_self)
    have hxl : x ∉ l := fun z => hx (List.mem_cons_of_mem _ z)
    have hne' : ¬ (x.1 = y.1 ∧ x.2 = y.2) := fun z => hne (Prod.ext z.1 z.2)
    unfold insC
    split
    · rename_i hc
      have hxy : clt x y = true := by
        unfold cle at hc
        unfold clt
        simp only [decide_eq_true_eq] at hc ⊢
        omega
      refine List.pairwise_cons.mpr ⟨fun z hz => ?_, h⟩
      rcases List.mem_cons.mp hz with e | w
      · rw [e]; exact hxy
      · have := h1 z w
        unfold clt at this hxy ⊢
        simp only [decide_eq_true_eq] at this hxy ⊢
        omega
    · rename_i hc
      have hyx : clt y x = true := by
        unfold cle at hc
        unfold clt
        simp only [decide_eq_true_eq] at hc ⊢
        omega
      refine List.pairwise_cons.mpr ⟨fun z hz => ?_, insC_pair h2 hxl⟩
      rcases mem_insC.mp hz with e | w
      · rw [e]; exact hyx
      · exact h1 z w
theorem isC_pair : ∀ {l : List Cell}, l.Nodup → (isC l).Pairwise fun a b => clt a b = true
  | [], _ => .nil
  | x :: l, h => by
    obtain ⟨h1, h2⟩ := List.nodup_cons.mp h
    exact insC_pair (isC_pair h2) fun z => h1 (mem_isC.mp z)
theorem isC_eq {l : List Cell} (h : l.Nodup) : isC l = sortC l :=
  clt_ext (isC_pair h) (inc_pair (sortC_inc h)) fun x => by rw [mem_isC, mem_sortC]
def fld (L : List Cell) : Nat → List Cell → List Cell
  | 0, R => R
  | k + 1, R => fld L k (L.filter fun c => decide (c ∈ R) || R.any fun r => decide (c ∈ besL r))
theorem fld_ok {L : List Cell} {a : Cell} : ∀ (k : Nat) (R : List Cell), (∀ x ∈ R, Rch L a x) → ∀ x ∈ fld L k R, Rch L a x
  | 0, _, h => h
  | k + 1, R, h => fld_ok k _ fun x hx => by
    obtain ⟨h1, h2⟩ := List.mem_filter.mp hx
    rcases Bool.or_eq_true _ _ |>.mp h2 with w | w
    · exact h x (of_decide_eq_true w)
    · obtain ⟨r, hr, hb⟩ := List.any_eq_true.mp w
      exact .step (h r hr) (of_decide_eq_true hb) h1
def hngC (L : List Cell) : Bool :=
  match L with
  | [] => false
  | a :: _ => L.all fun c => decide (c ∈ fld L L.length [a])
theorem hngC_ok {L : List Cell} (h : hngC L = true) : Hang L := by
  cases L with
  | nil => cases h
  | cons a l =>
    have h : (a :: l).all (fun c => decide (c ∈ fld (a :: l) (a :: l).length [a])) = true := h
    rw [hang_from (List.mem_cons_self (a := a))]
    intro x hx
    have := of_decide_eq_true (List.all_eq_true.mp h x hx)
    exact fld_ok _ _ (fun y hy => by rw [List.mem_singleton.mp hy]; exact .here) x this
def shQ (L : List Cell) : List Cell := movL L (negC (corL L))
def mvOk (S : Shp) (m : Mv) (T : Shp) : Bool :=
  decide (m.1 ∈ S) && hngC (cut S m.1) && decide ((m.2.1 - m.1.1, m.2.2 - m.1.2) ∈ aroundL) && suppB S m.1 m.2 && eqS (shQ (isC (cut S m.1 ++ [m.2]))) T
theorem mvOk_ok {S T : Shp} {m : Mv} (hS : S.Nodup) (h : mvOk S m T = true) : (m, T) ∈ FlP S := by
  unfold mvOk at h
  simp only [Bool.and_eq_true] at h
  obtain ⟨⟨⟨⟨h1, h2⟩, h3⟩, h4⟩, h5⟩ := h
  have h1 := of_decide_eq_true h1
  have h3 := of_decide_eq_true h3
  have hm : m ∈ movesL S := by
    unfold movesL freeL endsL
    refine List.mem_flatMap.mpr ⟨m.1, List.mem_filter.mpr ⟨h1, hangB_iff.mpr (hngC_ok h2)⟩, List.mem_map.mpr ⟨m.2, List.mem_filter.mpr ⟨List.mem_map.mpr ⟨_, h3, ?_⟩, h4⟩, rfl⟩⟩
    exact Prod.ext (by show m.1.1 + (m.2.1 - m.1.1) = m.2.1; omega) (by show m.1.2 + (m.2.2 - m.1.2) = m.2.2; omega)
  refine List.mem_map.mpr ⟨m, hm, ?_⟩
  have he : m.2 ∉ S := (can_out (L := S) (s := m.1) (e := m.2) (by unfold canB; rw [h4, hangB_iff.mpr (hngC_ok h2)]; rfl))
  have nd : (cut S m.1 ++ [m.2]).Nodup := List.nodup_append.mpr ⟨cut_nd hS, by simp, fun a ha b hb e => he (by rw [← List.mem_singleton.mp hb, ← e]; exact (mem_cut.mp ha).1)⟩
  rw [isC_eq nd] at h5
  exact Prod.ext rfl (eqS_ok h5)
theorem wk_trans {R S T : Shp} {n m : Nat} (h1 : Wk FlP R n S) (h2 : Wk FlP S m T) : Wk FlP R (n + m) T := by
  induction h2 with
  | zero => exact h1
  | step _ hm ih => exact .step ih hm
def parB (D : List Row) (i : Nat) : Bool :=
  match D[i]? with
  | none => false
  | some x => Nat.beq i 0 || (Nat.blt x.2.1 i && match D[x.2.1]? with | none => false | some y => mvOk y.1 x.2.2.1 x.1 && mvOk x.1 x.2.2.2 y.1)
def okB (n : Nat) (D : List Row) : Bool := D.all fun x => Nat.beq x.1.length n && incB x.1
def growB (A B : List Row) : Bool := A.all fun x => x.1.all fun s => (besL s).all fun c => decide (c ∈ x.1) || (let T := isC (shQ (x.1 ++ [c])); B.any fun y => eqS T y.1)
theorem ok_row {n : Nat} {D : List Row} (h : okB n D = true) {S : Shp} (hS : S ∈ D.map (·.1)) : S.length = n ∧ incB S = true := by
  obtain ⟨x, hx, rfl⟩ := List.mem_map.mp hS
  have := List.all_eq_true.mp h x hx
  simp only [Bool.and_eq_true] at this
  exact ⟨Nat.eq_of_beq_eq_true this.1, this.2⟩
theorem par_ok {n : Nat} {D : List Row} (ho : okB n D = true) (h : (List.range D.length).all (parB D) = true) {r : Row} (hr : D[0]? = some r) : ∀ (i : Nat) (x : Row), D[i]? = some x → (∃ n, Wk FlP r.1 n x.1) ∧ ∃ n, Wk FlP x.1 n r.1 := by
  have nd : ∀ (i : Nat) (x : Row), D[i]? = some x → x.1.Nodup := fun i x hx => pair_nd (inc_pair (ok_row ho (List.mem_map.mpr ⟨x, List.mem_of_getElem? hx, rfl⟩)).2)
  intro i
  induction i using Nat.strongRecOn with
  | ind i ih =>
    intro x hx
    have hi : i < D.length := (List.getElem?_eq_some_iff.mp hx).1
    have hp := List.all_eq_true.mp h i (List.mem_range.mpr hi)
    unfold parB at hp
    rw [hx] at hp
    simp only [Bool.or_eq_true] at hp
    rcases hp with e | hp
    · have e := Nat.eq_of_beq_eq_true e
      subst e
      rw [hx] at hr
      obtain rfl := Option.some.inj hr
      exact ⟨⟨0, .zero⟩, ⟨0, .zero⟩⟩
    · rw [Bool.and_eq_true] at hp
      obtain ⟨hlt, hp⟩ := hp
      have hlt : x.2.1 < i := Nat.le_of_ble_eq_true hlt
      cases hy : D[x.2.1]? with
      | none => rw [hy] at hp; cases hp
      | some y =>
        rw [hy] at hp
        simp only [Bool.and_eq_true] at hp
        obtain ⟨⟨n1, w1⟩, ⟨n2, w2⟩⟩ := ih x.2.1 hlt y hy
        exact ⟨⟨_, .step w1 (mvOk_ok (nd _ _ hy) hp.1)⟩, ⟨_, wk_trans (.step .zero (mvOk_ok (nd _ _ hx) hp.2)) w2⟩⟩
theorem grow_ok {n : Nat} {A B : List Row} (ho : okB n A = true) (h : growB A B = true) {S : Shp} (hS : S ∈ A.map (·.1)) {c : Cell} (hc : c ∉ S) (hx : ∃ x ∈ S, c ∈ besL x) : shpN (S ++ [c]) ∈ B.map (·.1) := by
  obtain ⟨_, hi⟩ := ok_row ho hS
  obtain ⟨x, hx, rfl⟩ := List.mem_map.mp hS
  obtain ⟨s, hs, hb⟩ := hx
  have := List.all_eq_true.mp (List.all_eq_true.mp (List.all_eq_true.mp h x hx) s hs) c hb
  rcases Bool.or_eq_true _ _ |>.mp this with w | w
  · exact absurd (of_decide_eq_true w) hc
  · obtain ⟨y, hy, e⟩ := List.any_eq_true.mp w
    have nd : (x.1 ++ [c]).Nodup := List.nodup_append.mpr ⟨pair_nd (inc_pair hi), by simp, fun a ha b hb e => hc (by rw [← List.mem_singleton.mp hb, ← e]; exact ha)⟩
    rw [show shQ (x.1 ++ [c]) = shpL (x.1 ++ [c]) from rfl, isC_eq (by rw [shp_eq]; exact mov_nd nd), ← shpN_eq] at e
    rw [eqS_ok e]
    exact List.mem_map.mpr ⟨y, hy, rfl⟩
def shp1 : List Row := [
  ([(0, 0)], 0, ((0, 0), (0, 0)), ((0, 0), (0, 0)))]
def shp2 : List Row := [
  ([(0, 0), (0, 1)], 0, ((0, 0), (0, 0)), ((0, 0), (0, 0))),
  ([(0, 0), (1, 0)], 0, ((0, 1), (1, 0)), ((1, 0), (0, 1)))]
def shp3 : List Row := [
  ([(0, 0), (0, 1), (0, 2)], 0, ((0, 0), (0, 0)), ((0, 0), (0, 0))),
  ([(0, 0), (1, 0), (1, 1)], 0, ((0, 0), (-1, 1)), ((0, 0), (1, -1))),
  ([(0, 0), (0, 1), (1, 0)], 0, ((0, 0), (1, 1)), ((1, 0), (0, -1))),
  ([(0, 1), (1, 0), (1, 1)], 0, ((0, 2), (-1, 1)), ((0, 1), (1, 2))),
  ([(0, 0), (0, 1), (1, 1)], 0, ((0, 2), (1, 1)), ((1, 1), (0, 2))),
  ([(0, 0), (1, 0), (2, 0)], 1, ((1, 1), (2, 0)), ((2, 0), (1, 1)))]
def shp4 : List Row := [
  ([(0, 0), (0, 1), (0, 2), (0, 3)], 0, ((0, 0), (0, 0)), ((0, 0), (0, 0))),
  ([(0, 0), (1, 0), (1, 1), (1, 2)], 0, ((0, 0), (-1, 1)), ((0, 0), (1, -1))),
  ([(0, 0), (0, 1), (0, 2), (1, 0)], 0, ((0, 0), (1, 1)), ((1, 0), (0, -1))),
  ([(0, 2), (1, 0), (1, 1), (1, 2)], 0, ((0, 3), (-1, 2)), ((0, 2), (1, 3))),
  ([(0, 0), (0, 1), (0, 2), (1, 2)], 0, ((0, 3), (1, 2)), ((1, 2), (0, 3))),
  ([(0, 1), (1, 0), (1, 1), (1, 2)], 1, ((0, 0), (0, 1)), ((0, 1), (0, 0))),
  ([(0, 0), (0, 1), (1, 0), (1, 1)], 1, ((1, 2), (0, 1)), ((0, 1), (1, 2))),
  ([(0, 0), (1, 0), (1, 1), (2, 1)], 1, ((1, 2), (2, 1)), ((2, 1), (1, 2))),
  ([(0, 1), (1, 0), (1, 1), (2, 0)], 2, ((0, 2), (-1, 1)), ((0, 1), (1, 2))),
  ([(0, 0), (0, 1), (0, 2), (1, 1)], 2, ((1, 0), (1, 1)), ((1, 1), (1, 0))),
  ([(0, 0), (0, 1), (1, 1), (1, 2)], 5, ((1, 0), (0, 0)), ((0, 0), (1, 0))),
  ([(0, 0), (1, 0), (1, 1), (2, 0)], 5, ((1, 0), (2, 1)), ((2, 0), (1, -1))),
  ([(0, 1), (0, 2), (1, 0), (1, 1)], 5, ((1, 2), (0, 2)), ((0, 2), (1, 2))),
  ([(0, 1), (1, 0), (1, 1), (2, 1)], 5, ((1, 2), (2, 1)), ((2, 1), (1, 2))),
  ([(0, 1), (1, 1), (2, 0), (2, 1)], 6, ((0, 0), (-1, 1)), ((0, 1), (1, 0))),
  ([(0, 0), (1, 0), (2, 0), (2, 1)], 6, ((0, 1), (-1, 0)), ((0, 0), (1, 1))),
  ([(0, 0), (0, 1), (1, 1), (2, 1)], 6, ((1, 0), (2, 1)), ((2, 1), (1, 0))),
  ([(0, 0), (0, 1), (1, 0), (2, 0)], 6, ((1, 1), (2, 0)), ((2, 0), (1, 1))),
  ([(0, 0), (1, 0), (2, 0), (3, 0)], 14, ((2, 0), (3, 1)), ((3, 0), (2, -1)))]
def shp5 : List Row := [
  ([(0, 0), (0, 1), (0, 2), (0, 3), (0, 4)], 0, ((0, 0), (0, 0)), ((0, 0), (0, 0))),
  ([(0, 0), (1, 0), (1, 1), (1, 2), (1, 3)], 0, ((0, 0), (-1, 1)), ((0, 0), (1, -1))),
  ([(0, 0), (0, 1), (0, 2), (0, 3), (1, 0)], 0, ((0, 0), (1, 1)), ((1, 0), (0, -1))),
  ([(0, 3), (1, 0), (1, 1), (1, 2), (1, 3)], 0, ((0, 4), (-1, 3)), ((0, 3), (1, 4))),
  ([(0, 0), (0, 1), (0, 2), (0, 3), (1, 3)], 0, ((0, 4), (1, 3)), ((1, 3), (0, 4))),
  ([(0, 1), (1, 0), (1, 1), (1, 2), (1, 3)], 1, ((0, 0), (0, 1)), ((0, 1), (0, 0))),
  ([(0, 0), (0, 2), (1, 0), (1, 1), (1, 2)], 1, ((1, 3), (0, 2)), ((0, 2), (1, 3))),
  ([(0, 0), (1, 0), (1, 1), (1, 2), (2, 2)], 1, ((1, 3), (2, 2)), ((2, 2), (1, 3))),
  ([(0, 2), (1, 0), (1, 1), (1, 2), (2, 0)], 2, ((0, 3), (-1, 2)), ((0, 2), (1, 3))),
  ([(0, 0), (0, 1), (0, 2), (1, 0), (1, 2)], 2, ((0, 3), (1, 2)), ((1, 2), (0, 3))),
  ([(0, 0), (0, 1), (0, 2), (0, 3), (1, 1)], 2, ((1, 0), (1, 1)), ((1, 1), (1, 0))),
  ([(0, 2), (1, 0), (1, 1), (1, 2), (1, 3)], 3, ((0, 3), (0, 2)), ((0, 2), (0, 3))),
  ([(0, 0), (0, 1), (0, 2), (0, 3), (1, 2)], 4, ((1, 3), (1, 2)), ((1, 2), (1, 3))),
  ([(0, 0), (0, 1), (1, 1), (1, 2), (1, 3)], 5, ((1, 0), (0, 0)), ((0, 0), (1, 0))),
  ([(0, 0), (1, 0), (1, 1), (1, 2), (2, 0)], 5, ((1, 0), (2, 1)), ((2, 0), (1, -1))),
  ([(0, 1), (0, 2), (1, 0), (1, 1), (1, 2)], 5, ((1, 3), (0, 2)), ((0, 2), (1, 3))),
  ([(0, 1), (1, 0), (1, 1), (1, 2), (2, 2)], 5, ((1, 3), (2, 2)), ((2, 2), (1, 3))),
  ([(0, 0), (0, 1), (1, 0), (1, 1), (1, 2)], 6, ((0, 2), (0, 1)), ((0, 1), (0, 2))),
  ([(0, 0), (1, 0), (1, 1), (1, 2), (2, 1)], 7, ((2, 2), (2, 1)), ((2, 1), (2, 2))),
  ([(0, 1), (1, 0), (1, 1), (1, 2), (2, 0)], 8, ((0, 2), (0, 1)), ((0, 1), (0, 2))),
  ([(0, 2), (1, 0), (1, 1), (1, 2), (2, 1)], 8, ((2, 0), (2, 1)), ((2, 1), (2, 0))),
  ([(0, 0), (0, 1), (0, 2), (1, 1), (1, 2)], 9, ((1, 0), (1, 1)), ((1, 1), (1, 0))),
  ([(0, 0), (0, 1), (0, 2), (1, 0), (1, 1)], 9, ((1, 2), (1, 1)), ((1, 1), (1, 2))),
  ([(0, 1), (0, 2), (0, 3), (1, 0), (1, 1)], 10, ((0, 0), (1, 0)), ((1, 0), (0, 0))),
  ([(0, 2), (0, 3), (1, 0), (1, 1), (1, 2)], 11, ((1, 3), (0, 3)), ((0, 3), (1, 3))),
  ([(0, 2), (1, 0), (1, 1), (1, 2), (2, 2)], 11, ((1, 3), (2, 2)), ((2, 2), (1, 3))),
  ([(0, 0), (0, 1), (0, 2), (1, 2), (1, 3)], 12, ((0, 3), (1, 3)), ((1, 3), (0, 3))),
  ([(0, 0), (1, 0), (2, 0), (2, 1), (2, 2)], 13, ((0, 0), (-1, 1)), ((0, 0), (1, -1))),
  ([(0, 0), (0, 1), (1, 1), (1, 2), (2, 2)], 13, ((1, 3), (2, 2)), ((2, 2), (1, 3))),
  ([(0, 0), (0, 1), (1, 0), (1, 1), (2, 0)], 14, ((1, 2), (0, 1)), ((0, 1), (1, 2))),
  ([(0, 0), (1, 0), (1, 1), (2, 0), (2, 1)], 14, ((1, 2), (2, 1)), ((2, 1), (1, 2))),
  ([(0, 2), (1, 2), (2, 0), (2, 1), (2, 2)], 15, ((0, 1), (-1, 2)), ((0, 2), (1, 1))),
  ([(0, 1), (1, 1), (2, 0), (2, 1), (2, 2)], 15, ((0, 2), (-1, 1)), ((0, 1), (1, 2))),
  ([(0, 1), (0, 2), (1, 0), (1, 1), (2, 1)], 15, ((1, 2), (2, 1)), ((2, 1), (1, 2))),
  ([(0, 1), (1, 0), (1, 1), (1, 2), (2, 1)], 16, ((2, 2), (2, 1)), ((2, 1), (2, 2))),
  ([(0, 0), (0, 1), (1, 1), (1, 2), (2, 1)], 17, ((1, 0), (2, 1)), ((2, 1), (1, 0))),
  ([(0, 0), (0, 1), (1, 0), (1, 1), (2, 1)], 17, ((1, 2), (2, 1)), ((2, 1), (1, 2))),
  ([(0, 0), (1, 0), (1, 1), (2, 1), (2, 2)], 18, ((1, 2), (2, 2)), ((2, 2), (1, 2))),
  ([(0, 1), (0, 2), (1, 0), (1, 1), (2, 0)], 19, ((1, 2), (0, 2)), ((0, 2), (1, 2))),
  ([(0, 1), (1, 0), (1, 1), (2, 0), (2, 1)], 19, ((1, 2), (2, 1)), ((2, 1), (1, 2))),
  ([(0, 2), (1, 1), (1, 2), (2, 0), (2, 1)], 20, ((1, 0), (2, 0)), ((2, 0), (1, 0))),
  ([(0, 1), (1, 0), (1, 1), (2, 1), (2, 2)], 21, ((0, 2), (-1, 1)), ((0, 1), (1, 2))),
  ([(0, 0), (0, 1), (0, 2), (1, 2), (2, 2)], 21, ((1, 1), (2, 2)), ((2, 2), (1, 1))),
  ([(0, 0), (0, 1), (0, 2), (1, 1), (2, 1)], 21, ((1, 2), (2, 1)), ((2, 1), (1, 2))),
  ([(0, 1), (1, 1), (1, 2), (2, 0), (2, 1)], 22, ((0, 0), (-1, 1)), ((0, 1), (1, 0))),
  ([(0, 0), (0, 1), (0, 2), (1, 0), (2, 0)], 22, ((1, 1), (2, 0)), ((2, 0), (1, 1))),
  ([(0, 0), (1, 0), (2, 0), (2, 1), (3, 1)], 27, ((2, 2), (3, 1)), ((3, 1), (2, 2))),
  ([(0, 1), (1, 1), (2, 0), (2, 1), (3, 0)], 29, ((0, 0), (-1, 1)), ((0, 1), (1, 0))),
  ([(0, 0), (1, 0), (2, 0), (2, 1), (3, 0)], 29, ((0, 1), (-1, 0)), ((0, 0), (1, 1))),
  ([(0, 0), (0, 1), (1, 0), (2, 0), (2, 1)], 29, ((1, 1), (2, 1)), ((2, 1), (1, 1))),
  ([(0, 0), (1, 0), (1, 1), (2, 1), (3, 1)], 30, ((2, 0), (3, 1)), ((3, 1), (2, 0))),
  ([(0, 0), (1, 0), (1, 1), (2, 0), (3, 0)], 30, ((2, 1), (3, 0)), ((3, 0), (2, 1))),
  ([(0, 1), (1, 1), (2, 0), (2, 1), (3, 1)], 32, ((2, 2), (3, 1)), ((3, 1), (2, 2))),
  ([(0, 1), (0, 2), (1, 1), (2, 0), (2, 1)], 33, ((1, 0), (2, 0)), ((2, 0), (1, 0))),
  ([(0, 0), (0, 1), (1, 1), (2, 1), (2, 2)], 35, ((1, 2), (2, 2)), ((2, 2), (1, 2))),
  ([(0, 0), (0, 1), (1, 1), (2, 0), (2, 1)], 36, ((1, 0), (2, 0)), ((2, 0), (1, 0))),
  ([(0, 1), (1, 0), (1, 1), (2, 1), (3, 1)], 39, ((2, 0), (3, 1)), ((3, 1), (2, 0))),
  ([(0, 1), (1, 0), (1, 1), (2, 0), (3, 0)], 39, ((2, 1), (3, 0)), ((3, 0), (2, 1))),
  ([(0, 0), (1, 0), (2, 0), (3, 0), (3, 1)], 48, ((2, 1), (3, 1)), ((3, 1), (2, 1))),
  ([(0, 0), (0, 1), (1, 0), (2, 0), (3, 0)], 49, ((2, 1), (3, 0)), ((3, 0), (2, 1))),
  ([(0, 1), (1, 1), (2, 1), (3, 0), (3, 1)], 52, ((2, 0), (3, 0)), ((3, 0), (2, 0))),
  ([(0, 0), (0, 1), (1, 1), (2, 1), (3, 1)], 54, ((2, 2), (3, 1)), ((3, 1), (2, 2))),
  ([(0, 0), (1, 0), (2, 0), (3, 0), (4, 0)], 58, ((3, 1), (4, 0)), ((4, 0), (3, 1)))]
def shp6 : List Row := [
  ([(0, 0), (0, 1), (0, 2), (0, 3), (0, 4), (0, 5)], 0, ((0, 0), (0, 0)), ((0, 0), (0, 0))),
  ([(0, 0), (1, 0), (1, 1), (1, 2), (1, 3), (1, 4)], 0, ((0, 0), (-1, 1)), ((0, 0), (1, -1))),
  ([(0, 0), (0, 1), (0, 2), (0, 3), (0, 4), (1, 0)], 0, ((0, 0), (1, 1)), ((1, 0), (0, -1))),
  ([(0, 4), (1, 0), (1, 1), (1, 2), (1, 3), (1, 4)], 0, ((0, 5), (-1, 4)), ((0, 4), (1, 5))),
  ([(0, 0), (0, 1), (0, 2), (0, 3), (0, 4), (1, 4)], 0, ((0, 5), (1, 4)), ((1, 4), (0, 5))),
  ([(0, 1), (1, 0), (1, 1), (1, 2), (1, 3), (1, 4)], 1, ((0, 0), (0, 1)), ((0, 1), (0, 0))),
  ([(0, 0), (0, 3), (1, 0), (1, 1), (1, 2), (1, 3)], 1, ((1, 4), (0, 3)), ((0, 3), (1, 4))),
  ([(0, 0), (1, 0), (1, 1), (1, 2), (1, 3), (2, 3)], 1, ((1, 4), (2, 3)), ((2, 3), (1, 4))),
  ([(0, 3), (1, 0), (1, 1), (1, 2), (1, 3), (2, 0)], 2, ((0, 4), (-1, 3)), ((0, 3), (1, 4))),
  ([(0, 0), (0, 1), (0, 2), (0, 3), (1, 0), (1, 3)], 2, ((0, 4), (1, 3)), ((1, 3), (0, 4))),
  ([(0, 0), (0, 1), (0, 2), (0, 3), (0, 4), (1, 1)], 2, ((1, 0), (1, 1)), ((1, 1), (1, 0))),
  ([(0, 3), (1, 0), (1, 1), (1, 2), (1, 3), (1, 4)], 3, ((0, 4), (0, 3)), ((0, 3), (0, 4))),
  ([(0, 0), (0, 1), (0, 2), (0, 3), (0, 4), (1, 3)], 4, ((1, 4), (1, 3)), ((1, 3), (1, 4))),
  ([(0, 2), (1, 0), (1, 1), (1, 2), (1, 3), (1, 4)], 5, ((0, 1), (0, 2)), ((0, 2), (0, 1))),
  ([(0, 0), (0, 1), (1, 1), (1, 2), (1, 3), (1, 4)], 5, ((1, 0), (0, 0)), ((0, 0), (1, 0))),
  ([(0, 0), (1, 0), (1, 1), (1, 2), (1, 3), (2, 0)], 5, ((1, 0), (2, 1)), ((2, 0), (1, -1))),
  ([(0, 1), (0, 3), (1, 0), (1, 1), (1, 2), (1, 3)], 5, ((1, 4), (0, 3)), ((0, 3), (1, 4))),
  ([(0, 1), (1, 0), (1, 1), (1, 2), (1, 3), (2, 3)], 5, ((1, 4), (2, 3)), ((2, 3), (1, 4))),
  ([(0, 0), (0, 2), (1, 0), (1, 1), (1, 2), (1, 3)], 6, ((0, 3), (0, 2)), ((0, 2), (0, 3))),
  ([(0, 0), (1, 0), (1, 1), (1, 2), (1, 3), (2, 2)], 7, ((2, 3), (2, 2)), ((2, 2), (2, 3))),
  ([(0, 2), (1, 0), (1, 1), (1, 2), (1, 3), (2, 0)], 8, ((0, 3), (0, 2)), ((0, 2), (0, 3))),
  ([(0, 3), (1, 0), (1, 1), (1, 2), (1, 3), (2, 1)], 8, ((2, 0), (2, 1)), ((2, 1), (2, 0))),
  ([(0, 0), (0, 1), (0, 2), (0, 3), (1, 1), (1, 3)], 9, ((1, 0), (1, 1)), ((1, 1), (1, 0))),
  ([(0, 0), (0, 1), (0, 2), (0, 3), (1, 0), (1, 2)], 9, ((1, 3), (1, 2)), ((1, 2), (1, 3))),
  ([(0, 1), (0, 2), (0, 3), (0, 4), (1, 0), (1, 1)], 10, ((0, 0), (1, 0)), ((1, 0), (0, 0))),
  ([(0, 0), (0, 1), (0, 2), (0, 3), (0, 4), (1, 2)], 10, ((1, 1), (1, 2)), ((1, 2), (1, 1))),
  ([(0, 3), (0, 4), (1, 0), (1, 1), (1, 2), (1, 3)], 11, ((1, 4), (0, 4)), ((0, 4), (1, 4))),
  ([(0, 3), (1, 0), (1, 1), (1, 2), (1, 3), (2, 3)], 11, ((1, 4), (2, 3)), ((2, 3), (1, 4))),
  ([(0, 0), (0, 1), (0, 2), (0, 3), (1, 3), (1, 4)], 12, ((0, 4), (1, 4)), ((1, 4), (0, 4))),
  ([(0, 0), (0, 1), (1, 0), (1, 1), (1, 2), (1, 3)], 13, ((1, 0), (0, 1)), ((0, 0), (1, -1))),
  ([(0, 1), (1, 0), (1, 1), (1, 2), (1, 3), (2, 0)], 13, ((1, 0), (2, 1)), ((2, 0), (1, -1))),
  ([(0, 2), (0, 3), (1, 0), (1, 1), (1, 2), (1, 3)], 13, ((1, 4), (0, 3)), ((0, 3), (1, 4))),
  ([(0, 2), (1, 0), (1, 1), (1, 2), (1, 3), (2, 3)], 13, ((1, 4), (2, 3)), ((2, 3), (1, 4))),
  ([(0, 0), (1, 0), (2, 0), (2, 1), (2, 2), (2, 3)], 14, ((0, 0), (-1, 1)), ((0, 0), (1, -1))),
  ([(0, 0), (0, 1), (0, 3), (1, 1), (1, 2), (1, 3)], 14, ((1, 4), (0, 3)), ((0, 3), (1, 4))),
  ([(0, 0), (0, 1), (1, 1), (1, 2), (1, 3), (2, 3)], 14, ((1, 4), (2, 3)), ((2, 3), (1, 4))),
  ([(0, 0), (0, 2), (1, 0), (1, 1), (1, 2), (2, 0)], 15, ((1, 3), (0, 2)), ((0, 2), (1, 3))),
  ([(0, 0), (1, 0), (1, 1), (1, 2), (2, 0), (2, 2)], 15, ((1, 3), (2, 2)), ((2, 2), (1, 3))),
  ([(0, 0), (1, 0), (1, 1), (1, 2), (1, 3), (2, 1)], 15, ((2, 0), (2, 1)), ((2, 1), (2, 0))),
  ([(0, 1), (0, 2), (1, 0), (1, 1), (1, 2), (1, 3)], 16, ((0, 3), (0, 2)), ((0, 2), (0, 3))),
  ([(0, 1), (1, 0), (1, 1), (1, 2), (1, 3), (2, 2)], 17, ((2, 3), (2, 2)), ((2, 2), (2, 3))),
  ([(0, 0), (0, 2), (0, 3), (1, 0), (1, 1), (1, 2)], 18, ((1, 3), (0, 3)), ((0, 3), (1, 3))),
  ([(0, 0), (0, 2), (1, 0), (1, 1), (1, 2), (2, 2)], 18, ((1, 3), (2, 2)), ((2, 2), (1, 3))),
  ([(0, 0), (1, 0), (1, 1), (1, 2), (2, 2), (2, 3)], 19, ((1, 3), (2, 3)), ((2, 3), (1, 3))),
  ([(0, 2), (0, 3), (1, 0), (1, 1), (1, 2), (2, 0)], 20, ((1, 3), (0, 3)), ((0, 3), (1, 3))),
  ([(0, 2), (1, 0), (1, 1), (1, 2), (2, 0), (2, 2)], 20, ((1, 3), (2, 2)), ((2, 2), (1, 3))),
  ([(0, 2), (1, 0), (1, 1), (1, 2), (1, 3), (2, 1)], 20, ((2, 0), (2, 1)), ((2, 1), (2, 0))),
  ([(0, 3), (1, 1), (1, 2), (1, 3), (2, 0), (2, 1)], 21, ((1, 0), (2, 0)), ((2, 0), (1, 0))),
  ([(0, 3), (1, 0), (1, 1), (1, 2), (1, 3), (2, 2)], 21, ((2, 1), (2, 2)), ((2, 2), (2, 1))),
  ([(0, 1), (0, 2), (0, 3), (1, 0), (1, 1), (1, 3)], 22, ((0, 0), (1, 0)), ((1, 0), (0, 0))),
  ([(0, 0), (0, 1), (0, 2), (0, 3), (1, 2), (1, 3)], 22, ((1, 1), (1, 2)), ((1, 2), (1, 1))),
  ([(0, 0), (0, 1), (0, 2), (0, 3), (1, 1), (1, 2)], 22, ((1, 3), (1, 2)), ((1, 2), (1, 3))),
  ([(0, 0), (0, 1), (0, 2), (1, 0), (1, 2), (1, 3)], 23, ((0, 3), (1, 3)), ((1, 3), (0, 3))),
  ([(0, 0), (0, 1), (0, 2), (0, 3), (1, 0), (1, 1)], 23, ((1, 2), (1, 1)), ((1, 1), (1, 2))),
  ([(0, 0), (0, 1), (0, 2), (0, 3), (1, 0), (2, 0)], 24, ((1, 0), (2, 1)), ((2, 0), (1, -1))),
  ([(0, 3), (1, 3), (2, 0), (2, 1), (2, 2), (2, 3)], 26, ((0, 4), (-1, 3)), ((0, 3), (1, 4))),
  ([(0, 0), (0, 1), (0, 2), (0, 3), (1, 3), (2, 3)], 28, ((1, 4), (2, 3)), ((2, 3), (1, 4))),
  ([(0, 1), (1, 1), (2, 0), (2, 1), (2, 2), (2, 3)], 29, ((0, 0), (-1, 1)), ((0, 1), (1, 0))),
  ([(0, 0), (0, 1), (0, 2), (1, 2), (1, 3), (1, 4)], 29, ((1, 0), (0, -1)), ((0, 0), (1, 1))),
  ([(0, 0), (0, 1), (1, 1), (1, 2), (1, 3), (2, 1)], 29, ((1, 0), (2, 1)), ((2, 1), (1, 0))),
  ([(0, 0), (0, 1), (0, 2), (1, 0), (1, 1), (1, 2)], 29, ((1, 3), (0, 2)), ((0, 2), (1, 3))),
  ([(0, 0), (0, 1), (1, 0), (1, 1), (1, 2), (2, 2)], 29, ((1, 3), (2, 2)), ((2, 2), (1, 3))),
  ([(0, 1), (0, 2), (1, 0), (1, 1), (1, 2), (2, 0)], 30, ((1, 3), (0, 2)), ((0, 2), (1, 3))),
  ([(0, 1), (1, 0), (1, 1), (1, 2), (2, 0), (2, 2)], 30, ((1, 3), (2, 2)), ((2, 2), (1, 3))),
  ([(0, 1), (1, 0), (1, 1), (1, 2), (1, 3), (2, 1)], 30, ((2, 0), (2, 1)), ((2, 1), (2, 0))),
  ([(0, 2), (1, 2), (2, 0), (2, 1), (2, 2), (2, 3)], 31, ((0, 3), (-1, 2)), ((0, 2), (1, 3))),
  ([(0, 2), (0, 3), (0, 4), (1, 0), (1, 1), (1, 2)], 31, ((1, 3), (0, 4)), ((0, 4), (1, 3))),
  ([(0, 2), (0, 3), (1, 0), (1, 1), (1, 2), (2, 2)], 31, ((1, 3), (2, 2)), ((2, 2), (1, 3))),
  ([(0, 2), (1, 0), (1, 1), (1, 2), (1, 3), (2, 2)], 32, ((2, 3), (2, 2)), ((2, 2), (2, 3))),
  ([(0, 0), (1, 0), (1, 2), (2, 0), (2, 1), (2, 2)], 33, ((2, 3), (1, 2)), ((1, 2), (2, 3))),
  ([(0, 0), (1, 0), (2, 0), (2, 1), (2, 2), (3, 2)], 33, ((2, 3), (3, 2)), ((3, 2), (2, 3))),
  ([(0, 0), (0, 1), (0, 2), (1, 1), (1, 2), (1, 3)], 34, ((0, 3), (0, 2)), ((0, 2), (0, 3))),
  ([(0, 0), (0, 1), (1, 1), (1, 2), (1, 3), (2, 2)], 35, ((2, 3), (2, 2)), ((2, 2), (2, 3))),
  ([(0, 0), (0, 1), (1, 0), (1, 1), (1, 2), (2, 0)], 36, ((0, 2), (0, 1)), ((0, 1), (0, 2))),
  ([(0, 0), (0, 2), (1, 0), (1, 1), (1, 2), (2, 1)], 36, ((2, 0), (2, 1)), ((2, 1), (2, 0))),
  ([(0, 0), (1, 0), (1, 1), (1, 2), (2, 1), (2, 2)], 37, ((2, 0), (2, 1)), ((2, 1), (2, 0))),
  ([(0, 0), (1, 0), (1, 1), (1, 2), (2, 0), (2, 1)], 37, ((2, 2), (2, 1)), ((2, 1), (2, 2))),
  ([(0, 1), (0, 2), (0, 3), (1, 0), (1, 1), (1, 2)], 39, ((1, 3), (0, 3)), ((0, 3), (1, 3))),
  ([(0, 1), (0, 2), (1, 0), (1, 1), (1, 2), (2, 2)], 39, ((1, 3), (2, 2)), ((2, 2), (1, 3))),
  ([(0, 1), (1, 0), (1, 1), (1, 2), (2, 2), (2, 3)], 40, ((1, 3), (2, 3)), ((2, 3), (1, 3))),
  ([(0, 2), (1, 0), (1, 2), (2, 0), (2, 1), (2, 2)], 41, ((0, 3), (-1, 2)), ((0, 2), (1, 3))),
  ([(0, 0), (1, 0), (1, 1), (1, 2), (2, 2), (3, 2)], 43, ((2, 3), (3, 2)), ((3, 2), (2, 3))),
  ([(0, 2), (1, 2), (2, 0), (2, 1), (2, 2), (3, 0)], 44, ((0, 3), (-1, 2)), ((0, 2), (1, 3))),
  ([(0, 2), (0, 3), (1, 0), (1, 1), (1, 2), (2, 1)], 44, ((2, 0), (2, 1)), ((2, 1), (2, 0))),
  ([(0, 2), (1, 0), (1, 1), (1, 2), (2, 1), (2, 2)], 45, ((2, 0), (2, 1)), ((2, 1), (2, 0))),
  ([(0, 2), (1, 0), (1, 1), (1, 2), (2, 0), (2, 1)], 45, ((2, 2), (2, 1)), ((2, 1), (2, 2))),
  ([(0, 2), (1, 1), (1, 2), (1, 3), (2, 0), (2, 1)], 46, ((1, 0), (2, 0)), ((2, 0), (1, 0))),
  ([(0, 2), (1, 0), (1, 1), (1, 2), (2, 0), (3, 0)], 47, ((2, 0), (3, 1)), ((3, 0), (2, -1))),
  ([(0, 0), (0, 1), (0, 2), (1, 0), (1, 2), (2, 0)], 49, ((1, 0), (2, 1)), ((2, 0), (1, -1))),
  ([(0, 2), (1, 0), (1, 1), (1, 2), (2, 2), (2, 3)], 50, ((0, 3), (-1, 2)), ((0, 2), (1, 3))),
  ([(0, 0), (0, 1), (0, 2), (0, 3), (1, 2), (2, 2)], 50, ((1, 3), (2, 2)), ((2, 2), (1, 3))),
  ([(0, 0), (0, 1), (0, 2), (0, 3), (1, 1), (2, 1)], 51, ((1, 2), (2, 1)), ((2, 1), (1, 2))),
  ([(0, 0), (0, 1), (0, 2), (1, 0), (1, 2), (2, 2)], 52, ((1, 3), (2, 2)), ((2, 2), (1, 3))),
  ([(0, 1), (1, 1), (1, 2), (1, 3), (2, 0), (2, 1)], 53, ((0, 0), (-1, 1)), ((0, 1), (1, 0))),
  ([(0, 1), (1, 0), (1, 1), (2, 1), (2, 2), (2, 3)], 57, ((2, 0), (1, 0)), ((1, 0), (2, 0))),
  ([(0, 0), (1, 0), (2, 0), (2, 1), (2, 2), (3, 0)], 57, ((2, 0), (3, 1)), ((3, 0), (2, -1))),
  ([(0, 1), (1, 1), (1, 2), (2, 0), (2, 1), (2, 2)], 57, ((2, 3), (1, 2)), ((1, 2), (2, 3))),
  ([(0, 1), (1, 1), (2, 0), (2, 1), (2, 2), (3, 2)], 57, ((2, 3), (3, 2)), ((3, 2), (2, 3))),
  ([(0, 0), (1, 0), (1, 1), (2, 1), (2, 2), (2, 3)], 58, ((0, 0), (-1, 1)), ((0, 0), (1, -1))),
  ([(0, 0), (0, 1), (0, 2), (1, 2), (1, 3), (2, 3)], 58, ((1, 4), (2, 3)), ((2, 3), (1, 4))),
  ([(0, 0), (0, 1), (0, 2), (1, 1), (1, 2), (2, 1)], 59, ((1, 3), (0, 2)), ((0, 2), (1, 3))),
  ([(0, 0), (0, 1), (1, 1), (1, 2), (2, 1), (2, 2)], 59, ((1, 3), (2, 2)), ((2, 2), (1, 3))),
  ([(0, 1), (1, 0), (1, 1), (2, 0), (2, 1), (2, 2)], 60, ((0, 2), (-1, 1)), ((0, 1), (1, 2))),
  ([(0, 0), (0, 1), (0, 2), (1, 0), (1, 1), (2, 1)], 60, ((1, 2), (2, 1)), ((2, 1), (1, 2))),
  ([(0, 0), (0, 1), (1, 0), (1, 1), (1, 2), (2, 1)], 61, ((2, 2), (2, 1)), ((2, 1), (2, 2))),
  ([(0, 1), (1, 1), (2, 0), (2, 1), (2, 2), (3, 0)], 62, ((0, 2), (-1, 1)), ((0, 1), (1, 2))),
  ([(0, 1), (0, 2), (0, 3), (1, 0), (1, 1), (2, 0)], 62, ((1, 2), (0, 3)), ((0, 3), (1, 2))),
  ([(0, 1), (0, 2), (1, 0), (1, 1), (2, 0), (2, 1)], 62, ((1, 2), (2, 1)), ((2, 1), (1, 2))),
  ([(0, 1), (0, 2), (1, 0), (1, 1), (1, 2), (2, 1)], 62, ((2, 0), (2, 1)), ((2, 1), (2, 0))),
  ([(0, 1), (1, 0), (1, 1), (1, 2), (2, 1), (2, 2)], 63, ((2, 0), (2, 1)), ((2, 1), (2, 0))),
  ([(0, 1), (1, 0), (1, 1), (1, 2), (2, 0), (2, 1)], 63, ((2, 2), (2, 1)), ((2, 1), (2, 2))),
  ([(0, 2), (1, 2), (1, 3), (2, 0), (2, 1), (2, 2)], 65, ((2, 3), (1, 3)), ((1, 3), (2, 3))),
  ([(0, 2), (1, 2), (2, 0), (2, 1), (2, 2), (3, 2)], 65, ((2, 3), (3, 2)), ((3, 2), (2, 3))),
  ([(0, 3), (1, 2), (1, 3), (2, 0), (2, 1), (2, 2)], 66, ((0, 4), (-1, 3)), ((0, 3), (1, 4))),
  ([(0, 0), (1, 0), (1, 1), (2, 0), (2, 1), (2, 2)], 69, ((1, 2), (1, 1)), ((1, 1), (1, 2))),
  ([(0, 0), (1, 0), (2, 0), (2, 1), (2, 2), (3, 1)], 70, ((3, 2), (3, 1)), ((3, 1), (3, 2))),
  ([(0, 0), (0, 1), (0, 2), (1, 2), (1, 3), (2, 2)], 71, ((1, 1), (2, 2)), ((2, 2), (1, 1))),
  ([(0, 0), (0, 1), (0, 2), (1, 1), (1, 2), (2, 2)], 71, ((1, 3), (2, 2)), ((2, 2), (1, 3))),
  ([(0, 0), (0, 1), (1, 1), (1, 2), (2, 2), (2, 3)], 72, ((1, 3), (2, 3)), ((2, 3), (1, 3))),
  ([(0, 0), (0, 1), (0, 2), (1, 0), (1, 1), (2, 0)], 73, ((1, 2), (0, 2)), ((0, 2), (1, 2))),
  ([(0, 0), (0, 1), (1, 0), (1, 1), (2, 0), (2, 1)], 73, ((1, 2), (2, 1)), ((2, 1), (1, 2))),
  ([(0, 0), (0, 1), (1, 0), (1, 1), (2, 1), (2, 2)], 75, ((1, 2), (0, 1)), ((0, 1), (1, 2))),
  ([(0, 0), (1, 0), (1, 1), (1, 2), (2, 1), (3, 1)], 75, ((2, 2), (3, 1)), ((3, 1), (2, 2))),
  ([(0, 0), (1, 0), (1, 1), (1, 2), (2, 0), (3, 0)], 76, ((2, 1), (3, 0)), ((3, 0), (2, 1))),
  ([(0, 2), (1, 1), (1, 2), (2, 0), (2, 1), (2, 2)], 77, ((0, 3), (-1, 2)), ((0, 2), (1, 3))),
  ([(0, 1), (0, 2), (0, 3), (1, 0), (1, 1), (2, 1)], 77, ((1, 2), (2, 1)), ((2, 1), (1, 2))),
  ([(0, 1), (1, 0), (1, 1), (1, 2), (2, 2), (3, 2)], 79, ((2, 3), (3, 2)), ((3, 2), (2, 3))),
  ([(0, 2), (1, 2), (2, 0), (2, 1), (2, 2), (3, 1)], 82, ((3, 0), (3, 1)), ((3, 1), (3, 0))),
  ([(0, 2), (0, 3), (1, 1), (1, 2), (2, 0), (2, 1)], 83, ((1, 0), (2, 0)), ((2, 0), (1, 0))),
  ([(0, 2), (1, 0), (1, 1), (1, 2), (2, 2), (3, 2)], 84, ((2, 1), (3, 2)), ((3, 2), (2, 1))),
  ([(0, 2), (1, 0), (1, 1), (1, 2), (2, 1), (3, 1)], 84, ((2, 2), (3, 1)), ((3, 1), (2, 2))),
  ([(0, 1), (0, 2), (1, 1), (1, 2), (2, 0), (2, 1)], 85, ((1, 0), (0, 1)), ((0, 1), (1, 0))),
  ([(0, 1), (1, 0), (1, 1), (1, 2), (2, 0), (3, 0)], 86, ((2, 0), (3, 1)), ((3, 0), (2, -1))),
  ([(0, 0), (0, 1), (1, 1), (2, 1), (2, 2), (2, 3)], 94, ((1, 0), (0, 0)), ((0, 0), (1, 0))),
  ([(0, 1), (1, 0), (1, 1), (2, 1), (2, 2), (3, 2)], 94, ((2, 3), (3, 2)), ((3, 2), (2, 3))),
  ([(0, 0), (1, 0), (1, 1), (2, 0), (2, 1), (3, 0)], 95, ((2, 2), (1, 1)), ((1, 1), (2, 2))),
  ([(0, 0), (1, 0), (2, 0), (2, 1), (3, 0), (3, 1)], 95, ((2, 2), (3, 1)), ((3, 1), (2, 2))),
  ([(0, 1), (0, 2), (1, 1), (2, 0), (2, 1), (2, 2)], 96, ((1, 2), (0, 2)), ((0, 2), (1, 2))),
  ([(0, 1), (1, 1), (1, 2), (2, 0), (2, 1), (3, 1)], 96, ((2, 2), (3, 1)), ((3, 1), (2, 2))),
  ([(0, 1), (1, 1), (2, 0), (2, 1), (2, 2), (3, 1)], 97, ((3, 2), (3, 1)), ((3, 1), (3, 2))),
  ([(0, 0), (1, 0), (1, 1), (2, 1), (2, 2), (3, 2)], 98, ((2, 3), (3, 2)), ((3, 2), (2, 3))),
  ([(0, 1), (1, 0), (1, 1), (2, 1), (2, 2), (3, 1)], 100, ((0, 2), (-1, 1)), ((0, 1), (1, 2))),
  ([(0, 0), (0, 1), (0, 2), (1, 1), (2, 1), (2, 2)], 100, ((1, 2), (2, 2)), ((2, 2), (1, 2))),
  ([(0, 0), (0, 1), (1, 1), (1, 2), (2, 2), (3, 2)], 101, ((2, 1), (3, 2)), ((3, 2), (2, 1))),
  ([(0, 0), (0, 1), (1, 1), (1, 2), (2, 1), (3, 1)], 101, ((2, 2), (3, 1)), ((3, 1), (2, 2))),
  ([(0, 0), (0, 1), (1, 1), (2, 0), (2, 1), (2, 2)], 102, ((1, 0), (0, 0)), ((0, 0), (1, 0))),
  ([(0, 1), (1, 0), (1, 1), (2, 0), (2, 1), (3, 1)], 102, ((2, 2), (3, 1)), ((3, 1), (2, 2))),
  ([(0, 0), (0, 1), (0, 2), (1, 1), (2, 0), (2, 1)], 103, ((1, 0), (2, 0)), ((2, 0), (1, 0))),
  ([(0, 0), (0, 1), (1, 1), (1, 2), (2, 0), (2, 1)], 104, ((1, 0), (2, 0)), ((2, 0), (1, 0))),
  ([(0, 1), (1, 1), (1, 2), (2, 0), (2, 1), (3, 0)], 105, ((2, 2), (1, 2)), ((1, 2), (2, 2))),
  ([(0, 1), (1, 1), (2, 0), (2, 1), (3, 0), (3, 1)], 105, ((2, 2), (3, 1)), ((3, 1), (2, 2))),
  ([(0, 2), (1, 1), (1, 2), (2, 0), (2, 1), (3, 0)], 106, ((0, 3), (-1, 2)), ((0, 2), (1, 3))),
  ([(0, 2), (0, 3), (1, 2), (2, 0), (2, 1), (2, 2)], 107, ((1, 0), (2, -1)), ((2, 0), (1, 1))),
  ([(0, 1), (0, 2), (1, 0), (1, 1), (2, 1), (3, 1)], 107, ((2, 0), (3, 1)), ((3, 1), (2, 0))),
  ([(0, 1), (0, 2), (1, 0), (1, 1), (2, 0), (3, 0)], 107, ((2, 1), (3, 0)), ((3, 0), (2, 1))),
  ([(0, 1), (0, 2), (1, 0), (1, 1), (2, 1), (2, 2)], 108, ((1, 2), (2, 2)), ((2, 2), (1, 2))),
  ([(0, 1), (1, 0), (1, 1), (1, 2), (2, 1), (3, 1)], 109, ((2, 2), (3, 1)), ((3, 1), (2, 2))),
  ([(0, 0), (0, 1), (1, 0), (2, 0), (2, 1), (2, 2)], 114, ((1, 1), (0, 1)), ((0, 1), (1, 1))),
  ([(0, 0), (1, 0), (1, 1), (2, 1), (2, 2), (3, 1)], 114, ((2, 0), (3, 1)), ((3, 1), (2, 0))),
  ([(0, 0), (1, 0), (1, 1), (2, 0), (2, 1), (3, 1)], 114, ((2, 2), (3, 1)), ((3, 1), (2, 2))),
  ([(0, 0), (1, 0), (2, 0), (2, 1), (3, 1), (3, 2)], 115, ((2, 2), (3, 2)), ((3, 2), (2, 2))),
  ([(0, 0), (0, 1), (0, 2), (1, 2), (2, 2), (2, 3)], 116, ((1, 3), (2, 3)), ((2, 3), (1, 3))),
  ([(0, 0), (0, 1), (0, 2), (1, 2), (2, 1), (2, 2)], 117, ((1, 1), (2, 1)), ((2, 1), (1, 1))),
  ([(0, 1), (1, 0), (1, 1), (2, 0), (2, 1), (3, 0)], 119, ((0, 2), (-1, 1)), ((0, 1), (1, 2))),
  ([(0, 0), (0, 1), (0, 2), (1, 0), (2, 0), (2, 1)], 119, ((1, 1), (2, 1)), ((2, 1), (1, 1))),
  ([(0, 1), (0, 2), (1, 2), (2, 0), (2, 1), (2, 2)], 120, ((1, 0), (2, -1)), ((2, 0), (1, 1))),
  ([(0, 0), (0, 1), (1, 0), (1, 1), (2, 1), (3, 1)], 120, ((2, 0), (3, 1)), ((3, 1), (2, 0))),
  ([(0, 0), (0, 1), (1, 0), (1, 1), (2, 0), (3, 0)], 120, ((2, 1), (3, 0)), ((3, 0), (2, 1))),
  ([(0, 1), (1, 1), (2, 0), (2, 1), (3, 1), (3, 2)], 121, ((0, 0), (-1, 1)), ((0, 1), (1, 0))),
  ([(0, 2), (1, 1), (1, 2), (2, 0), (2, 1), (3, 1)], 124, ((2, 2), (3, 1)), ((3, 1), (2, 2))),
  ([(0, 1), (0, 2), (0, 3), (1, 1), (2, 0), (2, 1)], 125, ((1, 0), (2, 0)), ((2, 0), (1, 0))),
  ([(0, 2), (1, 2), (2, 1), (2, 2), (3, 0), (3, 1)], 127, ((2, 0), (3, 0)), ((3, 0), (2, 0))),
  ([(0, 1), (1, 1), (2, 1), (2, 2), (3, 0), (3, 1)], 131, ((0, 2), (-1, 1)), ((0, 1), (1, 2))),
  ([(0, 0), (1, 0), (2, 0), (3, 0), (3, 1), (3, 2)], 133, ((0, 0), (-1, 1)), ((0, 0), (1, -1))),
  ([(0, 0), (0, 1), (1, 1), (2, 1), (2, 2), (3, 2)], 133, ((2, 3), (3, 2)), ((3, 2), (2, 3))),
  ([(0, 0), (0, 1), (1, 0), (2, 0), (2, 1), (3, 0)], 135, ((1, 1), (0, 1)), ((0, 1), (1, 1))),
  ([(0, 0), (1, 0), (1, 1), (2, 0), (3, 0), (3, 1)], 135, ((2, 1), (3, 1)), ((3, 1), (2, 1))),
  ([(0, 0), (1, 0), (2, 0), (2, 1), (3, 1), (4, 1)], 136, ((3, 0), (4, 1)), ((4, 1), (3, 0))),
  ([(0, 0), (1, 0), (2, 0), (2, 1), (3, 0), (4, 0)], 136, ((3, 1), (4, 0)), ((4, 0), (3, 1))),
  ([(0, 1), (1, 1), (2, 1), (3, 0), (3, 1), (3, 2)], 137, ((0, 2), (-1, 1)), ((0, 1), (1, 2))),
  ([(0, 1), (0, 2), (1, 1), (2, 0), (2, 1), (3, 1)], 137, ((2, 2), (3, 1)), ((3, 1), (2, 2))),
  ([(0, 1), (1, 1), (1, 2), (2, 1), (3, 0), (3, 1)], 138, ((2, 0), (3, 0)), ((3, 0), (2, 0))),
  ([(0, 0), (0, 1), (1, 1), (2, 1), (2, 2), (3, 1)], 141, ((1, 0), (0, 0)), ((0, 0), (1, 0))),
  ([(0, 1), (1, 0), (1, 1), (2, 1), (3, 1), (3, 2)], 141, ((2, 2), (3, 2)), ((3, 2), (2, 2))),
  ([(0, 0), (0, 1), (0, 2), (1, 1), (2, 1), (3, 1)], 142, ((2, 2), (3, 1)), ((3, 1), (2, 2))),
  ([(0, 0), (0, 1), (1, 1), (2, 0), (2, 1), (3, 1)], 145, ((2, 2), (3, 1)), ((3, 1), (2, 2))),
  ([(0, 1), (1, 0), (1, 1), (2, 1), (3, 0), (3, 1)], 146, ((2, 0), (3, 0)), ((3, 0), (2, 0))),
  ([(0, 1), (0, 2), (1, 1), (2, 0), (2, 1), (3, 0)], 149, ((1, 2), (0, 2)), ((0, 2), (1, 2))),
  ([(0, 2), (1, 2), (2, 2), (3, 0), (3, 1), (3, 2)], 150, ((2, 0), (3, -1)), ((3, 0), (2, 1))),
  ([(0, 1), (1, 1), (2, 0), (2, 1), (3, 1), (4, 1)], 150, ((3, 0), (4, 1)), ((4, 1), (3, 0))),
  ([(0, 1), (1, 1), (2, 0), (2, 1), (3, 0), (4, 0)], 150, ((3, 1), (4, 0)), ((4, 0), (3, 1))),
  ([(0, 0), (0, 1), (1, 0), (2, 0), (2, 1), (3, 1)], 157, ((2, 2), (3, 1)), ((3, 1), (2, 2))),
  ([(0, 0), (1, 0), (1, 1), (2, 1), (3, 1), (3, 2)], 158, ((2, 2), (3, 2)), ((3, 2), (2, 2))),
  ([(0, 0), (1, 0), (1, 1), (2, 1), (3, 0), (3, 1)], 159, ((2, 0), (3, 0)), ((3, 0), (2, 0))),
  ([(0, 0), (0, 1), (0, 2), (1, 2), (2, 2), (3, 2)], 161, ((2, 3), (3, 2)), ((3, 2), (2, 3))),
  ([(0, 0), (0, 1), (1, 1), (2, 0), (2, 1), (3, 0)], 163, ((1, 0), (0, 0)), ((0, 0), (1, 0))),
  ([(0, 1), (1, 0), (1, 1), (2, 0), (3, 0), (3, 1)], 163, ((2, 1), (3, 1)), ((3, 1), (2, 1))),
  ([(0, 0), (0, 1), (0, 2), (1, 0), (2, 0), (3, 0)], 164, ((2, 1), (3, 0)), ((3, 0), (2, 1))),
  ([(0, 2), (1, 1), (1, 2), (2, 1), (3, 0), (3, 1)], 169, ((2, 0), (3, 0)), ((3, 0), (2, 0))),
  ([(0, 0), (1, 0), (2, 0), (3, 0), (3, 1), (4, 1)], 173, ((3, 2), (4, 1)), ((4, 1), (3, 2))),
  ([(0, 0), (1, 0), (2, 0), (3, 0), (3, 1), (4, 0)], 175, ((0, 1), (-1, 0)), ((0, 0), (1, 1))),
  ([(0, 0), (0, 1), (1, 0), (2, 0), (3, 0), (3, 1)], 175, ((2, 1), (3, 1)), ((3, 1), (2, 1))),
  ([(0, 0), (1, 0), (1, 1), (2, 0), (3, 0), (4, 0)], 176, ((3, 1), (4, 0)), ((4, 0), (3, 1))),
  ([(0, 1), (1, 1), (2, 1), (3, 0), (3, 1), (4, 1)], 179, ((3, 2), (4, 1)), ((4, 1), (3, 2))),
  ([(0, 1), (0, 2), (1, 1), (2, 1), (3, 0), (3, 1)], 180, ((2, 0), (3, 0)), ((3, 0), (2, 0))),
  ([(0, 0), (0, 1), (1, 1), (2, 1), (3, 1), (3, 2)], 182, ((2, 2), (3, 2)), ((3, 2), (2, 2))),
  ([(0, 1), (1, 0), (1, 1), (2, 1), (3, 1), (4, 1)], 183, ((3, 2), (4, 1)), ((4, 1), (3, 2))),
  ([(0, 0), (0, 1), (1, 1), (2, 1), (3, 0), (3, 1)], 185, ((2, 0), (3, 0)), ((3, 0), (2, 0))),
  ([(0, 1), (1, 1), (2, 1), (3, 0), (3, 1), (4, 0)], 187, ((0, 2), (-1, 1)), ((0, 1), (1, 2))),
  ([(0, 0), (1, 0), (1, 1), (2, 1), (3, 1), (4, 1)], 192, ((3, 2), (4, 1)), ((4, 1), (3, 2))),
  ([(0, 1), (1, 0), (1, 1), (2, 0), (3, 0), (4, 0)], 196, ((3, 1), (4, 0)), ((4, 0), (3, 1))),
  ([(0, 0), (1, 0), (2, 0), (3, 0), (4, 0), (4, 1)], 200, ((3, 1), (4, 1)), ((4, 1), (3, 1))),
  ([(0, 0), (0, 1), (1, 0), (2, 0), (3, 0), (4, 0)], 201, ((3, 1), (4, 0)), ((4, 0), (3, 1))),
  ([(0, 1), (1, 1), (2, 1), (3, 1), (4, 0), (4, 1)], 203, ((3, 0), (4, 0)), ((4, 0), (3, 0))),
  ([(0, 0), (0, 1), (1, 1), (2, 1), (3, 1), (4, 1)], 205, ((3, 2), (4, 1)), ((4, 1), (3, 2))),
  ([(0, 0), (1, 0), (2, 0), (3, 0), (4, 0), (5, 0)], 211, ((4, 1), (5, 0)), ((5, 0), (4, 1)))]
theorem ok1 : okB 1 shp1 = true := by decide +kernel
theorem ok2 : okB 2 shp2 = true := by decide +kernel
theorem ok3 : okB 3 shp3 = true := by decide +kernel
theorem ok4 : okB 4 shp4 = true := by decide +kernel
theorem ok5 : okB 5 shp5 = true := by decide +kernel
theorem ok6 : okB 6 shp6 = true := by decide +kernel
theorem grow1 : growB shp1 shp2 = true := by decide +kernel
theorem grow2 : growB shp2 shp3 = true := by decide +kernel
theorem grow3 : growB shp3 shp4 = true := by decide +kernel
theorem grow4 : growB shp4 shp5 = true := by decide +kernel
theorem grow5 : growB shp5 shp6 = true := by decide +kernel
theorem par1 : (List.range shp1.length).all (parB shp1) = true := by decide +kernel
theorem par2 : (List.range shp2.length).all (parB shp2) = true := by decide +kernel
theorem par3 : (List.range shp3.length).all (parB shp3) = true := by decide +kernel
theorem par4 : (List.range shp4.length).all (parB shp4) = true := by decide +kernel
theorem par5 : (List.range shp5.length).all (parB shp5) = true := by decide +kernel
theorem par6 : (List.range shp6.length).all (parB shp6) = true := by decide +kernel
end G
set_option Elab.async false
set_option linter.all false
set_option maxRecDepth 100000
set_option maxHeartbeats 4000000
set_option pp.maxSteps 300
/-! M8: the world of shapes of n squares. -/
namespace G
def Dn : Nat → List Row
  | 1 => shp1
  | 2 => shp2
  | 3 => shp3
  | 4 => shp4
  | 5 => shp5
  | 6 => shp6
  | _ => []
def Us (n : Nat) : List Shp := (Dn n).map (·.1)
theorem Dn_ok : ∀ n, okB n (Dn n) = true
  | 0 => rfl
  | 1 => ok1
  | 2 => ok2
  | 3 => ok3
  | 4 => ok4
  | 5 => ok5
  | 6 => ok6
  | _ + 7 => rfl
theorem Dn_grow : ∀ n, 1 ≤ n → n ≤ 5 → growB (Dn n) (Dn (n + 1)) = true
  | 0, h, _ => absurd h (by decide)
  | 1, _, _ => grow1
  | 2, _, _ => grow2
  | 3, _, _ => grow3
  | 4, _, _ => grow4
  | 5, _, _ => grow5
  | n + 6, _, h => absurd h (by omega)
theorem Dn_par : ∀ n, (List.range (Dn n).length).all (parB (Dn n)) = true
  | 0 => rfl
  | 1 => par1
  | 2 => par2
  | 3 => par3
  | 4 => par4
  | 5 => par5
  | 6 => par6
  | _ + 7 => rfl
theorem Dn_len : ∀ n, (Dn n).length ≤ 10000
  | 0 => by decide
  | 1 => by decide +kernel
  | 2 => by decide +kernel
  | 3 => by decide +kernel
  | 4 => by decide +kernel
  | 5 => by decide +kernel
  | 6 => by decide +kernel
  | _ + 7 => by show ([] : List Row).length ≤ _; decide
theorem grw_len {L : List Cell} (h : Grw L) : 1 ≤ L.length := List.length_pos_iff.mpr h.ne
theorem grw_in {L : List Cell} (h : Grw L) : L.length ≤ 6 → shpN L ∈ Us L.length := by
  induction h with
  | one c =>
    intro _
    have e : shpN [c] = [(0, 0)] := by
      rw [shpN_eq, shp_eq]
      have : movL [c] (negC (corL [c])) = [(0, 0)] := by
        show [((c.1 + -minI [c.1], c.2 + -minI [c.2]) : Cell)] = _
        rw [show minI [c.1] = c.1 from rfl, show minI [c.2] = c.2 from rfl]
        simp only [List.cons.injEq, Prod.mk.injEq, and_true]
        omega
      rw [this]
      exact sort_id rfl
    rw [e]
    show ([(0, 0)] : Shp) ∈ shp1.map (·.1)
    decide +kernel
  | @add L c hL hn hx ih =>
    intro hl
    rw [List.length_append, List.length_singleton] at hl ⊢
    have h0 := ih (by omega)
    obtain ⟨c', a, b, e⟩ := shpN_grow hL.nd hn hx
    rw [e]
    exact grow_ok (Dn_ok _) (Dn_grow _ (grw_len hL) (by omega)) h0 a b
theorem body_in {L : List Cell} (h : Hang L) (hn : L.Nodup) (hl : L.length ≤ 6) : shpN L ∈ Us L.length := by
  obtain ⟨M, hM, e, hm⟩ := hang_grw h hn
  rw [← e, shp_ext hn hM.nd fun x => (hm x).symm]
  exact grw_in hM (by omega)
theorem Us_ok {n : Nat} {S : Shp} (h : S ∈ Us n) : S.length = n ∧ incB S = true := ok_row (Dn_ok n) h
theorem Us_nd {n : Nat} {S : Shp} (h : S ∈ Us n) : S.Nodup := pair_nd (inc_pair (Us_ok h).2)
theorem Us_n {n : Nat} {S : Shp} (h : S ∈ Us n) : 1 ≤ n ∧ n ≤ 6 := by
  unfold Us Dn at h
  split at h <;> first | omega | cases h
theorem supp_beside {L : List Cell} {s e : Cell} (h : suppB L s e = true) : e ∉ L ∧ ∃ x ∈ cut L s, e ∈ besL x := by
  unfold suppB at h
  split at h
  · cases h
  · rename_i hne
    simp only [Bool.or_eq_true, not_or, decide_eq_true_eq, Classical.not_not] at hne
    obtain ⟨hs, he⟩ := hne
    refine ⟨he, ?_⟩
    obtain ⟨s1, s2⟩ := s
    obtain ⟨e1, e2⟩ := e
    split at h
    · rename_i ha
      obtain ⟨p, hp, hq⟩ := List.any_eq_true.mp h
      simp only [Bool.and_eq_true, decide_eq_true_eq] at hq
      have hab : (e1 - s1 = 0 ∧ (e2 - s2 = 1 ∨ e2 - s2 = -1)) ∨ (e2 - s2 = 0 ∧ (e1 - s1 = 1 ∨ e1 - s1 = -1)) := by
        unfold absI at ha
        simp only at ha
        split at ha <;> split at ha <;> omega
      refine ⟨p.2, mem_cut.mpr ⟨hq.2, fun z => ?_⟩, ?_⟩
      · simp only [sidesL, List.mem_cons, List.not_mem_nil, or_false] at hp
        rcases hp with rfl | rfl <;> · simp only [Prod.mk.injEq] at z; omega
      · simp only [sidesL, List.mem_cons, List.not_mem_nil, or_false] at hp
        rcases hp with rfl | rfl <;> · simp only [besL, List.mem_cons, List.not_mem_nil, or_false, Prod.mk.injEq]; omega
    · split at h
      · rename_i ha
        have h := of_decide_eq_true h
        obtain ⟨x, hx⟩ := List.exists_mem_of_ne_nil ((cornL (s1, s2) (e1, e2)).filter fun c => decide (c ∈ L)) (fun z => by rw [z] at h; cases h)
        obtain ⟨h1, h2⟩ := List.mem_filter.mp hx
        have h2 := of_decide_eq_true h2
        have a1 : e1 - s1 = 1 ∨ e1 - s1 = -1 := by
          have := ha.1
          unfold absI at this
          simp only at this
          split at this <;> omega
        have a2 : e2 - s2 = 1 ∨ e2 - s2 = -1 := by
          have := ha.2
          unfold absI at this
          simp only at this
          split at this <;> omega
        simp only [cornL, List.mem_cons, List.not_mem_nil, or_false] at h1
        refine ⟨x, mem_cut.mpr ⟨h2, fun z => ?_⟩, ?_⟩
        · subst z
          rcases h1 with h1 | h1 <;> · simp only [Prod.mk.injEq] at h1; omega
        · rcases h1 with rfl | rfl <;> · simp only [besL, List.mem_cons, List.not_mem_nil, or_false, Prod.mk.injEq]; omega
      · cases h
theorem nxt_in {n : Nat} {S : Shp} (hS : S ∈ Us n) {x : Mv × Shp} (hx : x ∈ FlP S) : x.2 ∈ Us n := by
  obtain ⟨m, hm, rfl⟩ := List.mem_map.mp hx
  obtain ⟨hl, _⟩ := Us_ok hS
  have nd := Us_nd hS
  have n6 := (Us_n hS).2
  obtain ⟨h1, h2⟩ := movesL_ok hm
  unfold canB at h2
  rw [Bool.and_eq_true] at h2
  obtain ⟨he, y, hy, hb⟩ := supp_beside h2.1
  have hh := hangB_iff.mp h2.2
  have hec : m.2 ∉ cut S m.1 := fun z => he (mem_cut.mp z).1
  have nd2 : (cut S m.1 ++ [m.2]).Nodup := List.nodup_append.mpr ⟨cut_nd nd, by simp, fun a ha b hb e => hec (by rw [← List.mem_singleton.mp hb, ← e]; exact ha)⟩
  have hg : Hang (cut S m.1 ++ [m.2]) := by
    rw [hang_from (List.mem_append_left [m.2] hy)]
    intro z hz
    rcases List.mem_append.mp hz with w | w
    · exact (hh.2 y hy z w).congr fun v hv => List.mem_append_left _ hv
    · rw [List.mem_singleton.mp w]
      exact .step .here hb (List.mem_append_right _ List.mem_cons_self)
  have hlen : (cut S m.1 ++ [m.2]).length = n := by
    rw [List.length_append, List.length_singleton, cut_len nd h1, hl]
  have := body_in hg nd2 (by omega)
  rw [hlen] at this
  show nxt S m ∈ _
  rw [← nxtN_eq]
  exact this
theorem Us_uni (n : Nat) : Uni (Us n) where
  len := by unfold Us; rw [List.length_map]; exact Dn_len n
  ok := fun S hS => by
    have h1 := (Us_ok hS).1
    have h2 := Us_n hS
    exact ⟨Us_nd hS, by omega, len_ne (by omega)⟩
  clo := fun S hS x hx => nxt_in hS hx
theorem Us_uniN (n : Nat) : UniN (Us n) where
  len := by unfold Us; rw [List.length_map]; exact Dn_len n
  ok := fun S hS => by
    have h1 := (Us_ok hS).1
    have h2 := Us_n hS
    exact ⟨Us_nd hS, by omega, by omega⟩
  same := fun S hS T hT => by rw [(Us_ok hS).1, (Us_ok hT).1]
  clo := fun S hS x hx => nxt_in hS ((FlN_iff S x).mp hx)
theorem Us_wk {n : Nat} {S T : Shp} (hS : S ∈ Us n) (hT : T ∈ Us n) : ∃ k, Wk FlP S k T := by
  obtain ⟨x, hx, rfl⟩ := List.mem_map.mp hS
  obtain ⟨y, hy, rfl⟩ := List.mem_map.mp hT
  obtain ⟨i, hi⟩ := List.mem_iff_getElem?.mp hx
  obtain ⟨j, hj⟩ := List.mem_iff_getElem?.mp hy
  cases h0 : (Dn n)[0]? with
  | none =>
    have : (Dn n).length ≤ 0 := List.getElem?_eq_none_iff.mp h0
    have := (List.getElem?_eq_some_iff.mp hi).1
    omega
  | some r =>
    obtain ⟨_, k1, w1⟩ := par_ok (Dn_ok n) (Dn_par n) h0 i x hi
    obtain ⟨⟨k2, w2⟩, _⟩ := par_ok (Dn_ok n) (Dn_par n) h0 j y hj
    exact ⟨_, wk_trans w1 w2⟩
/-! ### the two drawn bodies -/
theorem shp_inc {L : List Cell} (h : incB L = true) : shpL L = shpN L := by
  rw [shape_sort, sort_id h]
theorem lp_ok {L M : List Cell} (hL : Grw L) (hM : Grw M) (n6 : L.length ≤ 6) (e : M.length = L.length) : LpOk ⟨sortC L, sortC M, Us L.length⟩ where
  b1 := ⟨sortC_inc hL.nd, hangB_iff.mpr (hang_perm (fun _ => mem_sortC) hL.hang)⟩
  b2 := ⟨sortC_inc hM.nd, hangB_iff.mpr (hang_perm (fun _ => mem_sortC) hM.hang)⟩
  len := by show (sortC M).length = (sortC L).length; rw [sortC_len, sortC_len, e]
  n7 := by
    have := grw_len hL
    show 1 ≤ (sortC L).length ∧ (sortC L).length ≤ 7
    rw [sortC_len]; omega
  uni := Us_uni _
  s1 := by
    show shpL (sortC L) ∈ _
    rw [← shape_sort]; exact grw_in hL n6
  wk := by
    show ∃ k, Wk FlP (shpL (sortC L)) k (shpL (sortC M))
    rw [← shape_sort, ← shape_sort]
    exact Us_wk (grw_in hL n6) (by rw [← e]; exact grw_in hM (by omega))
theorem planL_inc {here : List Cell} {ms : List Mv} {T : Shp} (hi : incB here = true) (hne : here ≠ []) (h : Chain FlP (shpL here) ms T) : incB (planL here ms).2 = true := by
  induction ms generalizing here with
  | nil => exact hi
  | cons m ms ih =>
    cases h with
    | cons hm hc =>
      unfold FlP at hm
      obtain ⟨m', hm', e⟩ := List.mem_map.mp hm
      simp only [Prod.mk.injEq] at e
      obtain ⟨rfl, rfl⟩ := e
      have hnd := pair_nd (inc_pair hi)
      have hok := move_ok hm'
      rw [← shp_step hne] at hc
      refine ih ?_ (doneL_ne _ _ _) hc
      refine sortC_inc ?_
      have he := can_out hok.2
      exact List.nodup_append.mpr ⟨cut_nd hnd, by simp, fun a ha b hb e => he (by rw [← List.mem_singleton.mp hb, ← e]; exact (mem_cut.mp ha).1)⟩
/-- the plan's end is the other body moved as told -/
theorem end_by {here M : List Cell} {ms : List Mv} (hi : incB here = true) (hne : here ≠ []) (hM : incB M = true) (h : Chain FlP (shpL here) ms (shpL M)) :
    (planL here ms).2 = sortC (movL M (byL (planL here ms).2 M)) := by
  obtain ⟨h1, h2, _⟩ := chain_end hne h
  have h3 := planL_inc hi hne h
  have e : (planL here ms).2 = movL M (byL (planL here ms).2 M) := by
    conv => lhs; rw [← mov_shp (planL here ms).2, h1, shp_eq, mov_mov]
    congr 1
    unfold addC negC byL
    simp only [Prod.mk.injEq]
    omega
  have : sortC (movL M (byL (planL here ms).2 M)) = movL M (byL (planL here ms).2 M) := by rw [sort_mov, sort_id hM]
  rw [this]
  exact e
end G
set_option Elab.async false
set_option linter.all false
set_option maxRecDepth 100000
set_option maxHeartbeats 4000000
set_option pp.maxSteps 300
/-! G22: a try with clauses that name the exception, one after the other. -/
namespace G
open PySem PySem.Spec PyProof.Rows L2
/-- the exception at a has landed in X's frame, over the ground B -/
structure Air (X : Cx) (pins : List (Addr × Obj)) (a : Addr) (B : Heap) (sI : Shared) (σ : Stt) (H : Hp) (cls : Value) (d : Option Addr) (s : Shared) : Prop where
  J : Inv X pins σ H sI
  nb : ∀ b o, sI.heap.get? b = some o → b ∉ frs X.stack → B.get? b = some o
  up : sI.heap.UpToSlots s.heap
  fl : HandSPX.FlyingZ B (X.env :: X.outer) a (Zc cls d) s.heap
  na : H a = none
  os : s.os = sI.os
  ag : AllBare s.gens
section
variable {X : Cx} {pins : List (Addr × Obj)} {a : Addr} {B : Heap} {sI : Shared} {σ : Stt} {H : Hp} {cls : Value} {d : Option Addr} {s : Shared}
theorem Air.inv (h : Air X pins a B sI σ H cls d s) : Inv X pins σ H s := h.J.landed h.nb h.fl.1 h.up h.os h.ag
theorem Air.obj (h : Air X pins a B sI σ H cls d s) (hf : X.env.frame = some X.env.locals) : ∃ oe vs, s.heap.get? a = some oe ∧ Zc cls d oe ∧ oe.data = .fields vs ∧ a ≠ X.env.locals ∧ a ∉ X.fs := by
  obtain ⟨oe, vs, he, hz, hd⟩ := h.fl.there
  have nf : a ∉ frs (X.env :: X.outer) := fun hm => by
    obtain ⟨_, o', e', q⟩ := h.fl.2.2.1.mem hm
    rw [he] at e'
    cases e'
    exact q _ hd
  refine ⟨oe, vs, he, hz, hd, fun z => nf (List.mem_filterMap.mpr ⟨X.env, List.mem_cons_self, by rw [hf, z]⟩), fun hm => ?_⟩
  obtain ⟨e, he, q⟩ := List.mem_filterMap.mp hm
  exact nf (List.mem_filterMap.mpr ⟨e, List.mem_cons_of_mem _ he, q⟩)
theorem Air.again (h : Air X pins a B sI σ H cls d s) {h' : Heap} (fl : HandSPX.FlyingZ B (X.env :: X.outer) a (Zc cls d) h') (up : s.heap.UpToSlots h') : Air X pins a B sI σ H cls d { s with heap := h' } :=
  ⟨h.J, h.nb, h.up.trans up, fl, h.na, h.os, h.ag⟩
/-- no clause left -/
theorem Air.none {Q : Flow → Shared → Prop} {W : WX} (h : Air X pins a B sI σ H cls d s) (hs : X.stack = X.env :: X.outer) (hf : X.env.frame = some X.env.locals) (tk : Takes X W) (hw : W cls d σ H) :
    wpAny (model X.prog X.w) X.A (handleBy (.ref a) X.env []) Q X.xe s := by
  refine wpAny_handleBy_nil ?_
  obtain ⟨k1, k2, k3, oe, vs, T, oT, ts', he, hz, hd, h1, hr⟩ := id h.fl
  unfold PySem.passOn
  refine wpAny_bind (wpAny_field he hd h1 ?_)
  rw [if_neg (show ¬ ((Value.ref T == Value.none) = true) from by simp)]
  have fin : wpAny (model X.prog X.w) X.A (setFlight (.ref a) X.env.frame) (fun _ s4 => wpAny (model X.prog X.w) X.A (throw (.ref a) : Sem Flow) Q X.xe s4) X.xe s := by
    rw [hf]
    refine HandSPX.setFlight_upZ h.fl fun h4 hh4 up4 => wpAny_throw (tk _ _ ?_)
    exact ⟨a, B, sI, pins, σ, H, cls, d, rfl, h.J, h.nb, h.up.trans up4, .inr (.inr (by rw [hs]; exact hh4)), h.na, h.os, h.ag, hw⟩
  first
    | exact wpAny_bind (wpAny_pure (wpAny_bind fin))
    | exact wpAny_bind fin
end
/-- what the clauses wish of an exception -/
def wAll (K : PySem.W.Frag) (i : Nat) (Wout : WX) (D : Ends) : List (Value × (Addr → Value → Option Addr → TS)) → WX
  | [] => Wout
  | (c, ts) :: r => wAs K c i ts (wAll K i Wout D r) D
inductive HdsAs (X : Cx) (n : Str) : List ExceptHandler → List (Value × (Addr → Value → Option Addr → TS)) → Prop
  | nil : HdsAs X n [] []
  | cons {x : Str} {c : Value} {ts : Addr → Value → Option Addr → TS} {b₀ : Stmt} {suite : List Stmt} {np pos' : Pos} {hds : List ExceptHandler} {l : List (Value × (Addr → Value → Option Addr → TS))} (hc : Names X x c)
      (hsu : ∀ (a : Addr) (oe : Obj) (cls : Value) (d : Option Addr) (pn : List (Addr × Obj)), Zc cls d oe → (∃ vs, oe.data = .fields vs) → PSs (X.suite a ((a, oe) :: pn)) (b₀ :: suite) (ts a cls d)) (r : HdsAs X n hds l) :
      HdsAs X n (.ExceptHandler (some (.Name x np)) (some n) (b₀ :: suite) pos' :: hds) ((c, ts) :: l)
section
variable {X : Cx} {pins : List (Addr × Obj)} {a : Addr} {B : Heap} {sI : Shared} {σ : Stt} {H : Hp} {cls : Value} {d : Option Addr} {s : Shared} {n : Str} {i : Nat} {Wout : WX} {D : Ends}
theorem Air.clauses (hs : X.stack = X.env :: X.outer) (hf : X.env.frame = some X.env.locals) (hN : X.N.Nodup) (hi : X.N[i]? = some n) (hln : X.env.kindOf n = some .local) (tk : Takes X Wout) (h : Air X pins a B sI σ H cls d s) :
    ∀ {hds : List ExceptHandler} {l : List (Value × (Addr → Value → Option Addr → TS))}, HdsAs X n hds l → wAll X.K i Wout D l cls d σ H →
      wpAny (model X.prog X.w) X.A (handleBy (.ref a) X.env hds) (SP X pins D) X.xe s := by
  have ok := h.J.ok
  obtain ⟨oe, vs, he, hz, hd, nL, nF⟩ := h.obj hf
  have S3 := h.inv.suite he hd h.na nL nF
  intro hds l hk
  induction hk with
  | nil => exact fun w => h.none hs hf tk w
  | @cons x c ts b₀ suite np pos' hds2 l2 hc hsu r ih =>
    rintro ⟨b, hb1, hyes, hno⟩
    refine wpAny_handleBy_cons (codeAny_handlers_test ?_) (by intro q; cases q)
    have LT : PySem.W.Looks (model X.prog X.w) s.heap (typeOf (.ref a)) cls := fun A Q E s k q => wpAny_typeOf_ref (k _ _ he) (by rw [hz.1]; exact q)
    have LM := PySem.W.exm_one (M := model X.prog X.w) (h.inv.kIn) LT hb1
    have test : ∀ {Q : Value → Shared → Prop} {E : Value → Shared → Prop}, Q c s → wpAny (model X.prog X.w) (X.A.mark (some (.ref a))) (eval (.Name x np) X.env) Q E s := fun {Q E} q => by
      obtain ⟨hg, hdbg, hm | ⟨hm, hv, hnn⟩⟩ := hc
      · exact ld_glob (X := X.suite a ((a, oe) :: (X.pn ++ pins))) S3 hg hm q hdbg
      · exact ld_blt (X := X.suite a ((a, oe) :: (X.pn ++ pins))) S3 hg hm hv q hnn hdbg
    refine test (LM.here ?_)
    cases b with
    | false => exact ih (hno rfl)
    | true =>
      refine codeAny_handlers_suite_as ?_
      refine HandSPX.lands_againZ h.fl fun h4 fl4 up4 => ?_
      have h5 := h.again fl4 up4
      obtain ⟨oe4, vs4, he4, hz4, hd4, nL4, nF4⟩ := h5.obj hf
      have S4 := h5.inv.suite he4 hd4 h.na nL4 nF4
      refine store_ok (X := X.suite a ((a, oe4) :: (X.pn ++ pins))) (v := .ref a) S4 hN hi (.inl hln) rfl (fun s5 S5 => ?_) (.inr hln)
      refine wpAny_mono ((hsu a oe4 cls d (X.pn ++ pins) hz4 ⟨_, hd4⟩).run [] s5 _ H _ S5 (hyes rfl a h.na)) (fun f s6 hsp => ?_) (fun _ _ z => False.elim z)
      have fin : ∀ {σ6 : Stt} {H6 : Hp} {Q : Shared → Prop}, Inv (X.suite a ((a, oe4) :: (X.pn ++ pins))) [] σ6 H6 s6 → (∀ s7, Inv X pins (σ6.set i .none) H6 s7 → Q s7) →
          wpAny (model X.prog X.w) X.A (do bindName X.env n .none; unbindBehindTheSuite X.env n pos') (fun _ s7 => Q s7) X.xe s6 := fun S6 hq => gone_ok (S6.unsuite ok) hN hi hln hq
      cases f with
      | next => obtain ⟨σ6, H6, S6, q6⟩ := hsp; exact fin S6 fun s7 J7 => ⟨_, _, J7, q6⟩
      | brk => obtain ⟨σ6, H6, S6, q6⟩ := hsp; exact fin S6 fun s7 J7 => ⟨_, _, J7, q6⟩
      | cont => obtain ⟨σ6, H6, S6, q6⟩ := hsp; exact fin S6 fun s7 J7 => ⟨_, _, J7, q6⟩
      | ret u => obtain ⟨v6, σ6, H6, S6, r6, q6⟩ := hsp; exact fin S6 fun s7 J7 => ⟨_, _, _, J7, r6, q6⟩
theorem ps_try_all {body : List Stmt} {h₀ : ExceptHandler} {hds : List ExceptHandler} {l : List (Value × (Addr → Value → Option Addr → TS))} {pos : Pos} {tb : WX → TS} (hs : X.stack = X.env :: X.outer) (hf : X.env.frame = some X.env.locals) (hN : X.N.Nodup) (hi : X.N[i]? = some n)
    (hln : X.env.kindOf n = some .local) (tk : Takes X Wout) (hb : ∀ (W : WX) (pn : List (Addr × Obj)) (xe : Value → Shared → Prop), Takes (X.tr pn xe) W → PassesOwn (model X.prog X.w) X.A X.env xe → PSs (X.tr pn xe) body (tb W))
    (hh : HdsAs X n (h₀ :: hds) l) : PS X (.Try body (h₀ :: hds) [] [] pos) (fun D σ H => tb (wAll X.K i Wout D l) D σ H) := by
  refine ⟨fun pins s σ H D I h => ?_⟩
  have ok := I.ok
  have hfr : X.A.frames = some (X.env :: X.outer) := by rw [ok.frames, hs]
  refine wpAny_Try_except ?_
  refine wpAny_mono ((hb (wAll X.K i Wout D l) (X.pn ++ pins) (fun e s₁ => wpAny (model X.prog X.w) X.A (noteFrame e X.env) (fun _ s₂ => wpAny (model X.prog X.w) X.A (setFlight e none) (fun _ s₃ =>
    wpAny (model X.prog X.w) X.A (handleBy e X.env (h₀ :: hds)) (SP X pins D) X.xe s₃) X.xe s₂) X.xe s₁) (fun u s' xx => ?_) PassesOwn.looking).run [] s σ H D (I.toTry _) h) (fun f s1 hsp => ?_) (fun e s1 he => he)
  · obtain ⟨a, B, sI, pins', σ', H', cls, d, rfl, J', nb, up, sky, na, os, ag, w⟩ := xx
    have sky' : Sky B (X.env :: X.outer) a (Zc cls d) X.env.locals s'.heap := by rw [← hs]; exact sky
    show wpAny (model X.prog X.w) X.A (noteFrame (.ref a) X.env) _ _ _
    refine Sky.land Zc.steady hfr hf sky' fun h3 fl3 up3 => ?_
    have A3 : Air X pins a B sI σ' H' cls d { s' with heap := h3 } := ⟨J'.ofTry ok, nb, up.trans up3, fl3, na, os, ag⟩
    exact A3.clauses hs hf hN hi hln tk hh w
  · cases f with
    | next => obtain ⟨σ', H', J', q⟩ := hsp; exact wpAny_execs_nil ⟨σ', H', J'.ofTry ok, q⟩
    | brk => obtain ⟨σ', H', J', q⟩ := hsp; exact ⟨σ', H', J'.ofTry ok, q⟩
    | cont => obtain ⟨σ', H', J', q⟩ := hsp; exact ⟨σ', H', J'.ofTry ok, q⟩
    | ret u => obtain ⟨v, σ', H', J', r, q⟩ := hsp; exact ⟨v, σ', H', J'.ofTry ok, r, q⟩
end
end G
set_option Elab.async false
set_option linter.all false
set_option maxRecDepth 100000
set_option maxHeartbeats 4000000
set_option pp.maxSteps 300
/-! G23: what raises. -/
namespace G
open PySem PySem.Spec PyProof.Rows L2
inductive Fm (F : Hp) : List (Str × MP) → List (Str × V) → Prop
  | nil : Fm F [] []
  | cons {f : Str} {φ : MP} {v : V} {fm : List (Str × MP)} {fs : List (Str × V)} : φ.p F v → Fm F fm fs → Fm F ((f, φ) :: fm) ((f, v) :: fs)
theorem Fm.mono {F F' : Hp} (e : Same F F') : ∀ {fm : List (Str × MP)} {fs : List (Str × V)}, Fm F fm fs → Fm F' fm fs
  | _, _, .nil => .nil
  | _, _, .cons h t => .cons (MP.mono _ e h) (t.mono e)
/-- a promise to raise -/
def spX {ι : Type} (P : ι → Prop) (ar : ι → List MP) (res : ι → Addr → List (Str × MP) → Prop) : Sp := fun vs H _ E => ∃ (x : ι) (O : List Addr), P x ∧ Al (hid O H) (ar x) vs ∧ (∀ a ∈ O, H a ≠ none) ∧
  ∀ C d fm fs H', res x C fm → Same H H' → H d = none → H' d = some (.xd fs) → Fm (hid O H') fm fs → E (.ref C) (some d) H'
def XOk (X : Cx) (W : Wd) (kx : Addr → List (Str × MP) → Prop) : Prop := ∃ Wx : WX, Takes X Wx ∧ ∀ σ H' C d fm fs, kx C fm → Same W.H0 H' → W.H0 d = none → H' d = some (.xd fs) → Fm (hid W.O0 H') fm fs → Wx (.ref C) (some d) σ H'
def noE : Ends := { nx := fun _ _ => False, rt := fun _ _ => False }
/-- a block that raises -/
def stX (X : Cx) (ss : List Stmt) (Γ : Ga) (Ω : Om) (kx : Addr → List (Str × MP) → Prop) : Prop := ∀ W : Wd, W.Ok Γ Ω → XOk X W kx → wpB X ss noE W.σ W.H
section
variable {X : Cx} {s : Stmt} {ss : List Stmt} {c e : Expr} {es : List Expr} {Γ : Ga} {Ω : Om} {kx : Addr → List (Str × MP) → Prop} {p pos pos2 : Pos}
theorem stX_cons (h : st X s Γ Ω { nx := fun Γ' Ω' => stX X ss Γ' Ω' kx, rt := fun _ _ => False }) : stX X (s :: ss) Γ Ω kx := fun W w xo => by
  refine wpB_of (pss_cons psS pssB) ?_
  show wpS X s { noE with nx := wpB X ss noE } W.σ W.H
  refine wpS_mono (h W w) ⟨?_, ?_, ?_, ?_⟩
  · rintro σ' H' ⟨Γ', Ω', g, k1, s1⟩
    exact g (W.st σ' H') k1 xo
  · rintro v H' ⟨_, _, z, _⟩; exact z
  · rintro σ' H' ⟨_, _, z, _⟩; exact z
  · rintro σ' H' ⟨_, _, z, _⟩; exact z
def st1X (X : Cx) (s : Stmt) (Γ : Ga) (Ω : Om) (kx : Addr → List (Str × MP) → Prop) : Prop := ∀ W : Wd, W.Ok Γ Ω → XOk X W kx → wpS X s noE W.σ W.H
theorem stX_here (h : st1X X s Γ Ω kx) : stX X (s :: ss) Γ Ω kx := fun W w xo => by
  refine wpB_of (pss_cons psS pssB) ?_
  show wpS X s { noE with nx := wpB X ss noE } W.σ W.H
  exact wpS_mono (h W w xo) ⟨fun _ _ z => z.elim, fun _ _ z => z.elim, fun _ _ z => z.elim, fun _ _ z => z.elim⟩
theorem st1X_if {ss' : List Stmt} (h : evT X c Γ Ω fun Ω1 b => b = true ∧ stX X ss Γ Ω1 kx) : st1X X (.If c ss ss' pos) Γ Ω kx := fun W w xo => by
  refine wpS_of (ps_if ptT pssB pssB) (wpT_mono (h W w) ?_)
  rintro b H1 ⟨Ω1, ⟨rfl, g⟩, k1, s1⟩
  rw [if_pos rfl]
  exact g (W.up H1) k1 xo
theorem none_back {H H' : Hp} (e : Same H H') {d : Addr} (h : H' d = none) : H d = none := by
  cases z : H d with
  | none => rfl
  | some u => rw [e _ _ z] at h; cases h
theorem upd_same_new {H : Hp} {d : Addr} {o : HO} (hd : H d = none) : Same H (upd H d o) := fun b u e => by
  rw [upd_ne (ne_of_none e hd)]; exact e
/-! ### own exception classes -/
def spI (K : PySem.W.Frag) (C : Addr) (ns : List Str) : Sp := fun vs H Q _ => ∃ (a : Addr) (ys : List V), vs = .ref a :: ys ∧ ys.length = ns.length ∧ H a = some (exo a C none) ∧
  ∀ dx, H dx = none → dx ≠ a → Q .non (upd (upd H dx (exd dx (ns.zip ys).reverse)) a (exo a C (some dx)))
structure XCl (P : Program) (w : World) (K : PySem.W.Frag) (mg : Str → Option Value) (base : Heap) (x : Str) (C : Addr) (ns : List Str) : Prop where
  cls : OexC K C
  gm : mg x = some (.ref C)
  ex : ∃ fI fd ps, PySem.W.findIn K (.ref C) "__init__" = some (some (.ref fI)) ∧ PySem.W.typeIn K (.ref fI) = some (.type "function") ∧ FnOk P w K mg base CX0 1 fI fd ps (spI K C ns) ∧ Binds K fd ps []
theorem pmk_x {x : Str} {C : Addr} {ns : List Str} (T : XCl X.prog X.w X.K X.mg X.base x C ns) (hn : ns.length ≤ 1000) (hr : Room 2 X.A) (hg : Gl X x)
    (hdb : (x == ("__debug__" : Str)) = false := by decide) (he : starEach (e :: es) X.env = (false, eval e X.env) :: starEach es X.env := by rfl) (hpl : (backTo pos (starEach es X.env)).any (·.1) = false := by rfl) :
    PMk X (.Call (.Name x p) (e :: es) [] pos) (fun σ H Q => wpA X (e :: es) σ H fun vs H1 => vs.length = ns.length ∧ ∀ d, H1 d = none → Q (.ref C) (some d) (upd H1 d (.xd (ns.zip vs).reverse))) := by
  obtain ⟨fI, fd, ps, iC, tI, F1, hb⟩ := T.ex
  have P0 := pmk_oex (X := X) (e := e) (es := es) (p := p) (pos := pos) (ta := wpA X (e :: es)) T.cls iC tI F1 hr hb .nil pass0 hg T.gm paA hdb he hpl
  intro pins s σ H Q I h
  refine P0 pins s σ H Q I ?_
  show wpA X (e :: es) σ H _
  refine wpA_mono h ?_
  rintro vs H1 ⟨hl, q⟩
  refine ⟨by omega, fun a ha => ?_⟩
  rw [List.append_nil]
  refine ⟨a, vs, rfl, hl, upd_same, fun dx hdx hne => ⟨rfl, dx, (ns.zip vs).reverse, upd_same, ?_, ?_, ?_⟩⟩
  · rw [upd_ne hne, upd_same]
  · rw [upd_ne hne] at hdx; exact hdx
  · rw [upd_ne hne] at hdx
    have e : upd (del (upd (upd (upd H1 a (exo a C none)) dx (exd dx (ns.zip vs).reverse)) a (exo a C (some dx))) a) dx (.xd (ns.zip vs).reverse) = upd H1 dx (.xd (ns.zip vs).reverse) := by
      funext b
      by_cases h1 : b = dx
      · rw [h1, upd_same, upd_same]
      · rw [upd_ne h1, upd_ne h1]
        by_cases h2 : b = a
        · rw [h2, del_same, ha]
        · rw [del_ne h2, upd_ne h2, upd_ne h1, upd_ne h2]
    rw [e]
    exact q dx hdx
theorem fm_zip {F : Hp} : ∀ {ns : List Str} {φs : List MP} {vs : List V}, Al F φs vs → Fm F (ns.zip φs) (ns.zip vs)
  | [], _, _, _ => .nil
  | _ :: _, _, _, .nil => .nil
  | _ :: ns, _, _, .cons h t => .cons h (fm_zip t)
theorem Fm.append {F : Hp} : ∀ {fm fm' : List (Str × MP)} {fs fs' : List (Str × V)}, Fm F fm fs → Fm F fm' fs' → Fm F (fm ++ fm') (fs ++ fs')
  | _, _, _, _, .nil, h => h
  | _, _, _, _, .cons a b, h => .cons a (b.append h)
theorem Fm.rev {F : Hp} : ∀ {fm : List (Str × MP)} {fs : List (Str × V)}, Fm F fm fs → Fm F fm.reverse fs.reverse
  | _, _, .nil => .nil
  | _, _, .cons a b => by
    rw [List.reverse_cons, List.reverse_cons]
    exact b.rev.append (.cons a .nil)
theorem st1X_raise {x : Str} {C : Addr} {ns : List Str} (hc : X.calm = true) (T : XCl X.prog X.w X.K X.mg X.base x C ns) (hr : Room 2 X.A) (hn : ns.length ≤ 1000 := by decide)
    (h : evA X (e :: es) Γ Ω fun Ω1 φs => Ω1 = [] ∧ φs.length = ns.length ∧ kx C (ns.zip φs).reverse) (hg : Gl X x := by rfl)
    (hdb : (x == ("__debug__" : Str)) = false := by decide) (he : starEach (e :: es) X.env = (false, eval e X.env) :: starEach es X.env := by rfl) (hpl : (backTo pos (starEach es X.env)).any (·.1) = false := by rfl) :
    st1X X (.Raise (some (.Call (.Name x p) (e :: es) [] pos)) none pos2) Γ Ω kx := fun W w xo => by
  obtain ⟨Wx, tk, hW⟩ := xo
  refine wpS_of (ps_raise hc tk (pmk_x T hn hr hg hdb he hpl)) ?_
  show wpA X (e :: es) W.σ W.H _
  refine wpA_mono (h W w) ?_
  rintro vs H1 ⟨Ω1, φs, ⟨rfl, hl, hk⟩, k1, s1, p1⟩
  refine ⟨by rw [← al_length p1, hl], fun d hd => hW _ _ _ _ _ _ hk (fun b o z => upd_same_new hd b o (k1.sm b o z)) (none_back k1.sm hd) upd_same ?_⟩
  have e1 : Al (hid W.O0 H1) φs vs := p1
  exact (fm_zip (e1.mono (hid_same (upd_same_new hd)))).rev
/-- a call that raises -/
structure CalX' (P : Program) (w : World) (K : PySem.W.Frag) (mg : Str → Option Value) (base : Heap) (n : Nat) (x : Str) (sp : Sp) : Prop where
  ex : ∃ f fd ps, FnOk P w K mg base (L2.CX P w) n f fd ps sp ∧ mg x = some (.ref f) ∧ PySem.W.keepIn K (.ref f) = true ∧ Binds K fd ps []
theorem st1X_call {ι : Type} {P : ι → Prop} {ar : ι → List MP} {res : ι → Addr → List (Str × MP) → Prop} {x : Str} {n : Nat} (C : CalX' X.prog X.w X.K X.mg X.base n x (spX P ar res)) (hr : Room n X.A)
    (h : evA X (e :: es) Γ Ω fun Ω1 φs => Ω1 = [] ∧ ∃ a, P a ∧ Subs φs (ar a) ∧ ∀ C fm, res a C fm → kx C fm) (hg : Gl X x := by rfl)
    (hs : swapsWith (.Call (.Name x p) (e :: es) [] pos) none pos2.line X.env = pure false := by rfl)
    (hdb : (x == ("__debug__" : Str)) = false := by decide) (he : starEach (e :: es) X.env = (false, eval e X.env) :: starEach es X.env := by rfl) (hpl : (backTo pos (starEach es X.env)).any (·.1) = false := by rfl) :
    st1X X (.Expr (.Call (.Name x p) (e :: es) [] pos) pos2) Γ Ω kx := fun W w xo => by
  obtain ⟨Wx, tk, hW⟩ := xo
  obtain ⟨f, fd, ps, F, hm, hk, hb⟩ := C.ex
  refine wpS_of (ps_expr (pe_callS (E := WE Wx) F hr hg hm hk hb (fun σ => passAt tk σ) paA hdb he hpl) hs) ?_
  show wpA X (e :: es) W.σ W.H _
  refine wpA_mono (h W w) ?_
  rintro vs H1 ⟨Ω1, φs, ⟨rfl, a, ha, sb, g⟩, k1, s1, p1⟩
  refine ⟨a, W.O0, ha, sb.al p1, fun q hq => k1.tr1 hq, fun C d fm fs H' hres sm hn hd hf => hW _ _ _ _ _ _ (g C fm hres) (fun b o z => sm b o (k1.sm b o z)) (none_back k1.sm hn) hd hf⟩
end
variable {P : Program} {w : World} {K : PySem.W.Frag} {mg : Str → Option Value} {base : Heap}
/-- a def that raises -/
theorem defX {ι : Type} {Pr : ι → Prop} {ar : ι → List MP} {res : ι → Addr → List (Str × MP) → Prop} {x qual : Str} {sd : Stmt} {f : Addr} {fd : FuncData} {N ps : List Str} {kk : Nat} (F : Fun K x qual sd f fd) (S : FnScope N ps (defScope sd)) (hk : 4 ≤ kk) (hl : ∀ a, (ar a).length = ps.length)
    (hb : ∀ (cdv : Value) (A : Around) (outer : List Env) (s : Shared) (H : Hp) (E : XK), Room kk (A.deeper (envOfC qual (defScope sd) s.heap.objs.size f cdv)) → ∀ a, Pr a →
      stX (cxOf (L2.CX P w) P w K mg base N qual (defScope sd) f cdv A outer s H E) (defBody sd) (ent (ar a) (N.length - ps.length)) [] (res a)) :
    FnOk P w K mg base (L2.CX P w) (kk + 1) f fd ps (spX Pr ar res) := by
  refine F.okX S (fun vs H Q E h => ?_) fun cdv A outer s H vs Q E hr h => ?_
  · obtain ⟨a, O, _, al, _⟩ := h
    rw [← al_length al, hl]
  · obtain ⟨a, O, ha, al, ho, kq⟩ := h
    refine ⟨_, pssB, ?_⟩
    have hvl : vs.length = ps.length := by rw [← al_length al, hl]
    have hst : L2.start N vs = vs.map some ++ List.replicate (N.length - ps.length) none := by unfold L2.start; rw [hvl]
    have w0 : (⟨H, O, L2.start N vs, H⟩ : Wd).Ok (ent (ar a) (N.length - ps.length)) [] :=
      ⟨by rw [hst]; exact sl_ent _ al, fun _ z => (nomatch z), List.nodup_nil, fun _ z => (nomatch z), Same.refl _, ho⟩
    refine wpB_mono (hb cdv A outer s H E hr a ha _ w0 ⟨_, takes_of rfl rfl rfl rfl, fun σ H' C d fm fs hres sm hn hd hf => kq C d fm fs H' hres sm hn hd hf⟩) ⟨fun _ _ z => z.elim, fun _ _ z => z.elim, fun _ _ z => z.elim, fun _ _ z => z.elim⟩
end G
set_option Elab.async false
set_option linter.all false
set_option maxRecDepth 100000
set_option maxHeartbeats 4000000
set_option pp.maxSteps 300
namespace G
open PySem PySem.Spec PyProof.Rows L2
variable {P : Program} {w : World} {K : PySem.W.Frag} {mg : Str → Option Value} {base : Heap}
/-! ### the errors' __init__ -/
structure XFct (K : PySem.W.Frag) (mg : Str → Option Value) (x qual : Str) (C : Addr) (i : Nat) (ns : List Str) : Prop where
  cls : OexC K C
  gm : mg x = some (.ref C)
  ini : ∃ f fd, PySem.W.findIn K (.ref C) "__init__" = some (some (.ref f)) ∧ PySem.W.typeIn K (.ref f) = some (.type "function") ∧ Fun K "__init__" qual (mthS (top i) 0) f fd
  no : ∀ n ∈ ns, PySem.W.findIn K (.ref C) n = some none
  xf : XfC K C
abbrev BodyX (K : PySem.W.Frag) (mg : Str → Option Value) (C : Addr) : Prop := XFct K mg "BadBody" "BadBody.__init__" C 4 ["cells"]
abbrev NumX (K : PySem.W.Frag) (mg : Str → Option Value) (C : Addr) : Prop := XFct K mg "BadNumber" "BadNumber.__init__" C 2 ["what", "number"]
theorem sc_bbInit : FnScope ["self", "cells"] ["self", "cells"] (defScope (mthS (top 4) 0)) := ⟨rfl, rfl, rfl, by decide +kernel, rfl, by decide +kernel, by decide +kernel⟩
theorem sc_bnInit : FnScope ["self", "what", "number"] ["self", "what", "number"] (defScope (mthS (top 2) 0)) := ⟨rfl, rfl, rfl, by decide +kernel, rfl, by decide +kernel, by decide +kernel⟩
theorem bb_cl {C : Addr} (B : BodyX K mg C) : XCl P w K mg base "BadBody" C ["cells"] := by
  obtain ⟨f, fd, i1, i2, F⟩ := B.ini
  refine ⟨B.cls, B.gm, f, fd, ["self", "cells"], i1, i2, ?_, F.binds fun _ _ _ _ _ _ us hl => match us, hl with | [_, _], _ => rfl⟩
  refine F.ok sc_bbInit (fun vs H Q E h => ?_) fun cdv A outer s H vs Q E hr h => ?_
  · obtain ⟨a, ys, rfl, hl, _⟩ := h
    rw [List.length_cons, hl]; rfl
  · obtain ⟨a, ys, rfl, hl, ha, q⟩ := h
    match ys, hl with
    | [y], _ =>
      refine ⟨_, pss_one (ps_ost (pe_var (i := 0) rfl (.inl rfl)) (pe_var (i := 1) rfl (.inl rfl))), ?_⟩
      exact ⟨_, rfl, _, rfl, a, C, rfl, B.cls, B.no _ (by simp), .inl ⟨ha, fun dx h1 h2 => q dx h1 h2⟩⟩
theorem bn_cl {C : Addr} (B : NumX K mg C) : XCl P w K mg base "BadNumber" C ["what", "number"] := by
  obtain ⟨f, fd, i1, i2, F⟩ := B.ini
  refine ⟨B.cls, B.gm, f, fd, ["self", "what", "number"], i1, i2, ?_, F.binds fun _ _ _ _ _ _ us hl => match us, hl with | [_, _, _], _ => rfl⟩
  refine F.ok sc_bnInit (fun vs H Q E h => ?_) fun cdv A outer s H vs Q E hr h => ?_
  · obtain ⟨a, ys, rfl, hl, _⟩ := h
    rw [List.length_cons, hl]; rfl
  · obtain ⟨a, ys, rfl, hl, ha, q⟩ := h
    match ys, hl with
    | [y, z], _ =>
      refine ⟨_, pss_cons (ps_ost (pe_var (i := 0) rfl (.inl rfl)) (pe_var (i := 1) rfl (.inl rfl))) (pss_one (ps_ost (pe_var (i := 0) rfl (.inl rfl)) (pe_var (i := 2) rfl (.inl rfl)))), ?_⟩
      refine ⟨_, rfl, _, rfl, a, C, rfl, B.cls, B.no _ (by simp), .inl ⟨ha, fun dx h1 h2 => ?_⟩⟩
      refine ⟨_, rfl, _, rfl, a, C, rfl, B.cls, B.no _ (by simp), .inr ⟨dx, [(("what" : Str), y)], upd_same, by rw [upd_ne h2, upd_same], (show 1 ≤ 900 by decide), ?_⟩⟩
      have e : upd (upd (upd H dx (exd dx [("what", y)])) a (exo a C (some dx))) dx (exd dx [("number", z), ("what", y)]) = upd (upd H dx (exd dx [("number", z), ("what", y)])) a (exo a C (some dx)) := by
        funext b
        by_cases hb : b = dx
        · rw [hb, upd_same, upd_ne h2, upd_same]
        · rw [upd_ne hb]
          by_cases hc : b = a
          · rw [hc, upd_same, upd_same]
          · rw [upd_ne hc, upd_ne hc, upd_ne hb, upd_ne hb]
      show Q .non _
      rw [e]
      exact q dx h1 h2
/-! ### check_body, raising -/
def spBodyR (K : PySem.W.Frag) (C : Addr) : Sp := spX (fun o => OkO o ∧ bodyB o = false) (fun o => [oddM K o]) (fun o D fm => D = C ∧ fm = [(("cells" : Str), oddM K o)])
theorem h_bodyR {C : Addr} (T : Txt K mg) (B : BodyX K mg C) : CalX' P w K mg base 13 "check_body" (spBodyR K C) := by
  obtain ⟨f, fd, F, m⟩ := T.check_body
  refine ⟨f, fd, ["body"], defX F sc_checkBody (kk := 12) (by decide) (fun _ => rfl) ?_, m, F.kp, F.binds fun _ _ _ _ _ _ us hl => match us, hl with | [_], _ => rfl⟩
  rintro cdv A outer s H E hr o ⟨ho, hb⟩
  refine stX_here (st1X_if (evT_not (evT_val (ev_call ((h_isBody T).cal hr) (evA_cons (ev_name (i := 0) rfl rfl (evA_nil ⟨o, ho, Subs.rfl, ?_⟩)))))))
  rintro φ rfl
  rw [hb]
  exact ⟨false, rfl, rfl, stX_here (st1X_raise rfl (bb_cl B) (hr.mono (by decide)) (h := evA_cons (ev_name (i := 0) rfl rfl (evA_nil ⟨rfl, rfl, rfl, rfl⟩))))⟩
/-! ### check_number, raising -/
def spNumberR (K : PySem.W.Frag) (C : Addr) : Sp := spX (fun x : Int × Int => ¬ (1 ≤ x.1 ∧ x.1 ≤ x.2)) (fun x => [isD K (.int x.1), isD K (.int x.2)]) (fun x D fm => D = C ∧ fm = [(("number" : Str), isD K (.int x.1)), (("what" : Str), isD K (.str "n"))])
theorem h_numberR {C : Addr} (T : Txt K mg) (B : NumX K mg C) : CalX' P w K mg base 7 "check_number" (spNumberR K C) := by
  obtain ⟨f, fd, F, m⟩ := T.check_number
  refine ⟨f, fd, ["n", "most"], defX F sc_number (kk := 6) (by decide) (fun _ => rfl) ?_, m, F.kp, F.binds fun _ _ _ _ _ _ us hl => match us, hl with | [_, _], _ => rfl⟩
  rintro cdv A outer s H E hr ⟨n, most⟩ hn
  refine stX_here (st1X_if (evT_not (evT_val (ev_call ((h_between T).cal hr) (evA_cons (ev_name (i := 0) rfl rfl (evA_cons (ev_int (evA_cons (ev_name (i := 1) rfl rfl (evA_nil ⟨(n, 1, most), trivial, Subs.rfl, ?_⟩)))))))))))
  rintro φ rfl
  refine ⟨false, ?_, rfl, stX_here (st1X_raise rfl (bn_cl B) (hr.mono (by decide)) (h := evA_cons (ev_str (evA_cons (ev_name (i := 0) rfl rfl (evA_nil ⟨rfl, rfl, rfl, rfl⟩))))))⟩
  show isD K (.bool (decide (1 ≤ n ∧ n ≤ most))) = _
  rw [decide_eq_false hn]
  rfl
end G
set_option Elab.async false
set_option linter.all false
set_option maxRecDepth 100000
set_option maxHeartbeats 4000000
set_option pp.maxSteps 300
namespace G
open PySem PySem.Spec PyProof.Rows L2
variable {P : Program} {w : World} {K : PySem.W.Frag} {mg : Str → Option Value} {base : Heap}
/-! ### least_plan, raising -/
inductive RfIs (K : PySem.W.Frag) (BB BN : Addr) : Option PyData → Option PyData → Addr → List (Str × MP) → Prop
  | b1 {o1 o2 : Option PyData} : OkO o1 → bodyB o1 = false → RfIs K BB BN o1 o2 BB [(("cells" : Str), oddM K o1)]
  | b2 {o1 o2 : Option PyData} : OkO o1 → bodyB o1 = true → OkO o2 → bodyB o2 = false → RfIs K BB BN o1 o2 BB [(("cells" : Str), oddM K o2)]
  | n1 {L M : List Cell} : incB L = true → hangB L = true → L.length ≤ 1000 → incB M = true → hangB M = true → M.length ≤ 1000 → 7 < L.length → RfIs K BB BN (some (bD L)) (some (bD M)) BN [(("number" : Str), isD K (.int L.length)), (("what" : Str), isD K (.str "n"))]
  | n2 {L M : List Cell} : incB L = true → hangB L = true → L.length ≤ 7 → 1 ≤ L.length → incB M = true → hangB M = true → M.length ≤ 1000 → M.length ≠ L.length → RfIs K BB BN (some (bD L)) (some (bD M)) BN [(("number" : Str), isD K (.int M.length)), (("what" : Str), isD K (.str "n"))]
structure RfA where
  o1 : Option PyData
  o2 : Option PyData
  C : Addr
  fm : List (Str × MP)
def spPlanR (K : PySem.W.Frag) (BB BN : Addr) : Sp := spX (fun x : RfA => RfIs K BB BN x.o1 x.o2 x.C x.fm) (fun x => [oddM K x.o1, oddM K x.o2]) (fun x D fm => D = x.C ∧ fm = x.fm)
theorem okBD {L : List Cell} (i : incB L = true) (h : hangB L = true) : bodyB (some (bD L)) = true := by rw [bodyB_D, i, h]; rfl
theorem h_planR {BB BN : Addr} (T : Txt K mg) (B : BodyX K mg BB) (N : NumX K mg BN) : CalX' P w K mg base 17 "least_plan" (spPlanR K BB BN) := by
  obtain ⟨f, fd, F, m⟩ := T.least_plan
  refine ⟨f, fd, ["body", "other"], defX F sc_plan (kk := 16) (by decide) (fun _ => rfl) ?_, m, F.kp, F.binds fun _ _ _ _ _ _ us hl => match us, hl with | [_, _], _ => rfl⟩
  rintro cdv A outer s H E hr ⟨o1, o2, C, fm⟩ hx
  replace hx : RfIs K BB BN o1 o2 C fm := hx
  obtain ⟨t7, h7⟩ := T.most
  cases hx with
  | b1 ok no => exact stX_here (st1X_call (h_bodyR T B) (hr.mono (by decide)) (evA_cons (ev_name (i := 0) rfl rfl (evA_nil ⟨rfl, o1, ⟨ok, no⟩, Subs.rfl, fun _ _ h => h⟩))))
  | b2 ok1 y ok2 no =>
    refine stX_cons (st_expr (ev_call ((h_checkBody T).cal hr) (evA_cons (ev_name (i := 0) rfl rfl (evA_nil ⟨o1, ⟨ok1, y⟩, Subs.rfl, ?_⟩)))))
    rintro φ rfl
    exact stX_here (st1X_call (h_bodyR T B) (hr.mono (by decide)) (evA_cons (ev_name (i := 1) rfl rfl (evA_nil ⟨rfl, o2, ⟨ok2, no⟩, Subs.rfl, fun _ _ h => h⟩))))
  | @n1 L M i1 g1 l1 i2 g2 l2 l7 =>
    refine stX_cons (st_expr (ev_call ((h_checkBody T).cal hr) (evA_cons (ev_name (i := 0) rfl rfl (evA_nil ⟨some (bD L), ⟨okBody l1, okBD i1 g1⟩, Subs.rfl, ?_⟩)))))
    rintro φ rfl
    refine stX_cons (st_expr (ev_call ((h_checkBody T).cal hr) (evA_cons (ev_name (i := 1) rfl rfl (evA_nil ⟨some (bD M), ⟨okBody l2, okBD i2 g2⟩, Subs.rfl, ?_⟩)))))
    rintro φ rfl
    refine stX_here (st1X_call (h_numberR T N) (hr.mono (by decide)) (evA_cons (ev_len T.n_len (ev_name (i := 0) rfl rfl ⟨L.map cD, .t, evA_cons (ev_glob (v := .int 7) (φ := isD K (.int 7)) h7 ⟨t7, rfl⟩ (fun F => .int 7) (evA_nil ⟨rfl, (((L.map cD).length : Nat), 7), ?_, Subs.rfl, ?_⟩))⟩))))
    · show ¬ ((1 : Int) ≤ ((L.map cD).length : Nat) ∧ (((L.map cD).length : Nat) : Int) ≤ 7)
      rw [List.length_map]; omega
    · rintro C fm ⟨rfl, rfl⟩
      refine ⟨rfl, ?_⟩
      rw [List.length_map]
      rfl
  | @n2 L M i1 g1 l7 l1 i2 g2 l2 hne =>
    refine stX_cons (st_expr (ev_call ((h_checkBody T).cal hr) (evA_cons (ev_name (i := 0) rfl rfl (evA_nil ⟨some (bD L), ⟨okBody (by omega), okBD i1 g1⟩, Subs.rfl, ?_⟩)))))
    rintro φ rfl
    refine stX_cons (st_expr (ev_call ((h_checkBody T).cal hr) (evA_cons (ev_name (i := 1) rfl rfl (evA_nil ⟨some (bD M), ⟨okBody l2, okBD i2 g2⟩, Subs.rfl, ?_⟩)))))
    rintro φ rfl
    refine stX_cons (st_expr (ev_call ((h_number T).cal hr) (evA_cons (ev_len T.n_len (ev_name (i := 0) rfl rfl ⟨L.map cD, .t, evA_cons (ev_glob (v := .int 7) (φ := isD K (.int 7)) h7 ⟨t7, rfl⟩ (fun F => .int 7) (evA_nil ⟨(((L.map cD).length : Nat), 7), ⟨?_, ?_⟩, Subs.rfl, ?_⟩))⟩)))))
    · rw [List.length_map]; show (1 : Int) ≤ (L.length : Nat); omega
    · rw [List.length_map]; show ((L.length : Nat) : Int) ≤ 7; omega
    rintro φ rfl
    refine stX_here (st1X_if (evT_neD (X := cxOf (L2.CX P w) P w K mg base _ _ _ f cdv A outer s H E) ?_ (ev_len T.n_len (ev_name (i := 1) rfl rfl ⟨M.map cD, .t, ev_len T.n_len (ev_name (i := 0) rfl rfl ⟨L.map cD, .t, _, _, false, dq_d, dq_d, rfl, rfl, ?_, rfl, ?_⟩)⟩))))
    · exact ⟨rfl, sc_plan.nd, passes_of rfl, hr.mono (by decide)⟩
    · rw [eqv_int, List.length_map, List.length_map]
      exact decide_eq_false (by omega)
    · refine stX_here (st1X_raise rfl (bn_cl N) (hr.mono (by decide)) (h := evA_cons (ev_str (evA_cons (ev_len T.n_len (ev_name (i := 1) rfl rfl ⟨M.map cD, .t, evA_nil ⟨rfl, rfl, rfl, ?_⟩⟩))))))
      rw [List.length_map]
      rfl
end G
set_option Elab.async false
set_option linter.all false
set_option maxRecDepth 100000
set_option maxHeartbeats 4000000
set_option pp.maxSteps 300
/-! G24: runs where no guard is on (for repr). -/
namespace G
open PySem PySem.Spec PyProof.Rows L2
structure FnG (P : Program) (w : World) (K : PySem.W.Frag) (mg : Str → Option Value) (base : Heap) (k : Nat) (f : Addr) (fd : FuncData) (ps : List Str) (sp : Sp) : Prop where
  len : ∀ vs H Q E, sp vs H Q E → vs.length = ps.length
  run : ∀ (A : Around) (outer : List Env) (s : Shared) (H : Hp) (args : Args) (us : List Value) (vs : List V) (Q : VK) (E : XK), A.guards = some [] → Room k A → Env0 P w K mg base A outer s H → BindsTo s fd args (ps.zip us) → Vals vs us → sp vs H Q E →
    codeAny (model P w) A (.call (.ref f) args) (CR CX0 outer P w H s Q E) s
theorem deeper_guards (A : Around) (env : Env) : (A.deeper env).guards = A.guards := by
  first | rfl | (cases A; rfl) | (unfold Around.deeper; rfl)
variable {P : Program} {w : World} {K : PySem.W.Frag} {mg : Str → Option Value} {base : Heap}
theorem defPG {ι : Type} {Pr : ι → Prop} {ar : ι → List MP} {res : ι → MP → Prop} {x qual : Str} {sd : Stmt} {f : Addr} {fd : FuncData} {N ps : List Str} {kk : Nat} (F : Fun K x qual sd f fd) (S : FnScope N ps (defScope sd)) (hk : 4 ≤ kk) (hl : ∀ a, (ar a).length = ps.length)
    (hb : ∀ (cdv : Value) (A : Around) (outer : List Env) (s : Shared) (H : Hp) (E : XK), A.guards = some [] → Room kk (A.deeper (envOfC qual (defScope sd) s.heap.objs.size f cdv)) → ∀ a, Pr a →
      stB (cxOf CX0 P w K mg base N qual (defScope sd) f cdv A outer s H E).nox (defBody sd) (ent (ar a) (N.length - ps.length)) [] { nx := fun _ _ => res a (isD K .none), rt := fun _ φ => res a φ }) :
    FnG P w K mg base (kk + 1) f fd ps (spP Pr ar res) := by
  have hlen : ∀ vs H Q E, spP Pr ar res vs H Q E → vs.length = ps.length := fun vs H Q E ⟨a, O, _, al, _⟩ => by rw [← al_length al, hl]
  refine ⟨hlen, fun A outer s H args us vs Q E hg hr e0 hbd r h => ?_⟩
  obtain ⟨oc, od, kV, doc, pm, an, cdv, ct, osl, rfl, lk, hcd⟩ := F.ex
  refine LamX.run_ofS lk hcd S hr e0 hbd r (hlen _ _ _ _ h) fun hr' => ?_
  obtain ⟨a, O, ha, al, ho, kq⟩ := h
  refine ⟨_, (pssB (X := (cxOf CX0 P w K mg base N qual (defScope sd) f cdv A outer s H E).nox)).nox, ?_⟩
  have hvl : vs.length = ps.length := by rw [← al_length al, hl]
  have hst : L2.start N vs = vs.map some ++ List.replicate (N.length - ps.length) none := by unfold L2.start; rw [hvl]
  have w0 : (⟨H, O, L2.start N vs, H⟩ : Wd).Ok (ent (ar a) (N.length - ps.length)) [] :=
    ⟨by rw [hst]; exact sl_ent _ al, fun _ z => (nomatch z), List.nodup_nil, fun _ z => (nomatch z), Same.refl _, ho⟩
  refine wpB_mono (hb cdv A outer s H E hg hr' a ha _ w0) ⟨?_, ?_, ?_, ?_⟩
  · rintro σ' H' ⟨Γ', Ω', g, k1, s1⟩
    exact kq .non H' _ g k1.sm .non
  · rintro v H' ⟨Ω', φ, g, k1, s1, p1⟩
    exact kq v H' φ g k1.sm (φ.mono (hid_anti fun q hq => List.mem_append_right _ hq) p1)
  · rintro σ' H' ⟨_, _, g, _⟩; exact g.elim
  · rintro σ' H' ⟨_, _, g, _⟩; exact g.elim
structure CalG (X : Cx) (x : Str) (sp : Sp) : Prop where
  ex : ∃ k f fd ps, FnG X.prog X.w X.K X.mg X.base k f fd ps sp ∧ Room k X.A ∧ X.mg x = some (.ref f) ∧ PySem.W.keepIn X.K (.ref f) = true ∧ Binds X.K fd ps []
section
variable {X : Cx} {e : Expr} {es : List Expr} {Γ : Ga} {Ω : Om} {k : Om → MP → Prop} {p2 pos : Pos}
theorem wpE_callG {x : Str} {sp : Sp} {σ : Stt} {H : Hp} {Q : VK} (hgd : X.A.guards = some []) (C : CalG X x sp) (h : wpA X (e :: es) σ H fun vs H1 => sp vs H1 Q E0) (hg : Gl X x) (hdb : (x == ("__debug__" : Str)) = false)
    (he : starEach (e :: es) X.env = (false, eval e X.env) :: starEach es X.env) (hpl : (backTo pos (starEach es X.env)).any (·.1) = false) : wpE X (.Call (.Name x p2) (e :: es) [] pos) σ H Q := by
  obtain ⟨kk, f, fd, ps, F, hr, hm, hk, hb⟩ := C.ex
  intro pins s I
  refine wpAny_Call_Name_kw (ld_glob I hg hm ?_ hdb)
  refine PySem.W.callWith_K (h₀ := X.base) I.ok.mod.kin hk (thn (h pos pins s I) fun us s1 hh => ?_) he hpl
  obtain ⟨vs, H1, I1, r1, hsp⟩ := hh
  refine ⟨I1.kIn, ?_⟩
  have hl : us.length = ps.length := by rw [← r1.length]; exact F.len _ _ _ _ hsp
  show wpAny _ _ (call (.ref f) us) _ _ _
  have hbb : BindsTo s1 fd ⟨us, []⟩ (ps.zip us) := by
    have := hb s1 us I1.kIn (by rw [List.append_nil]; exact hl)
    rw [List.append_nil] at this
    exact this
  refine wpAny_call (codeAny_mono (F.run X.A X.stack s1 H1 ⟨us, []⟩ us vs Q E0 hgd hr I1.env0 hbb r1 hsp) fun r s' hq => ?_)
  cases r with
  | error er => exact (show False from hq).elim
  | ok fl =>
    cases fl with
    | ret u => exact I1.after hq
    | next => exact False.elim hq
    | brk => exact False.elim hq
    | cont => exact False.elim hq
theorem ev_callG {ι : Type} {P : ι → Prop} {ar : ι → List MP} {res : ι → MP → Prop} {x : Str} (hgd : X.A.guards = some []) (C : CalG X x (spP P ar res)) (h : evA X (e :: es) Γ Ω fun Ω1 φs => ∃ a, P a ∧ Subs φs (ar a) ∧ ∀ φ, res a φ → k Ω1 φ)
    (hg : Gl X x := by rfl) (hdb : (x == ("__debug__" : Str)) = false := by decide)
    (he : starEach (e :: es) X.env = (false, eval e X.env) :: starEach es X.env := by rfl) (hpl : (backTo pos (starEach es X.env)).any (·.1) = false := by rfl) : ev X (.Call (.Name x p2) (e :: es) [] pos) Γ Ω k := fun W w => by
  refine wpE_callG hgd C (wpA_mono (h W w) ?_) hg hdb he hpl
  rintro vs H1 ⟨Ω1, φs, ⟨a, ha, sb, g⟩, k1, s1, p1⟩
  refine ⟨a, own Ω1 ++ W.O0, ha, sb.al p1, fun q hq => ?_, fun v H' φ hr hs hv => ?_⟩
  · rcases List.mem_append.mp hq with z | z
    · obtain ⟨y, hy, rfl⟩ := List.mem_map.mp z
      obtain ⟨o, e1, _⟩ := k1.ow y hy
      intro n
      rw [show H1 y.1 = some o from e1] at n
      cases n
    · exact k1.tr1 z
  · exact post_chain s1 (post_same k1 hs (g φ hr) hv)
end
end G
set_option Elab.async false
set_option linter.all false
set_option maxRecDepth 100000
set_option maxHeartbeats 4000000
set_option pp.maxSteps 300
/-! G25: repr. -/
namespace G
open PySem PySem.Spec PyProof.Rows L2 RZ
theorem boot_repr : bootBuiltins "repr" = some (.builtin "repr") := by first | rfl | decide +kernel
def reprR (K : PySem.W.Frag) : List V → Hp → VK → Prop := fun xs H Q => ∃ v d, xs = [v] ∧ Dp K H v d ∧ d.showable = true ∧ d.hasDict = false ∧ d.depth ≤ 20 ∧ d.shown.length ≤ sizeLine ∧ Q (.str d.shown) H
section
variable {X : Cx} {e : Expr} {es : List Expr} {Γ : Ga} {Ω : Om} {k : Om → MP → Prop} {p2 pos : Pos}
theorem call_reprD (hg : X.A.guards = some []) (hr : X.A.units + 100 < cLine) : CallR X (.builtin "repr") (reprR X.K) := by
  intro pins s σ H xs us Q I r h
  obtain ⟨v, d, rfl, hd, hs, hn, hdp, hsz, q⟩ := h
  obtain ⟨u, rfl, ru⟩ := vals1 r
  obtain ⟨as, rd⟩ := Dp.reads I d v u hd ru
  cases rd with
  | none => exact PySem.P.repr_of_none ⟨.str _, H, I.tok _, ⟨_, rfl⟩, q⟩
  | bool b => exact PySem.P.repr_of_bool ⟨.str _, H, I.tok _, ⟨_, rfl⟩, q⟩
  | int i t =>
    have hi : i.natAbs.log2 < 1920 := of_decide_eq_true hs
    exact PySem.P.repr_of_int hi ⟨.str _, H, I.tok _, ⟨_, rfl⟩, q⟩
  | str x t => exact PySem.P.repr_of_str ⟨.str _, H, I.tok _, ⟨_, rfl⟩, q⟩ hsz
  | list a b c dd => exact repr_of_reads' (Reads.list a b c dd) hs (PyData.noDict_hsm hn) hg (by omega) (fun _ _ z => z) (fun h' u tk hk => ⟨.str _, H, I.kept hk, ⟨_, rfl⟩, q⟩) hsz
  | tuple a b c dd => exact repr_of_reads' (Reads.tuple a b c dd) hs (PyData.noDict_hsm hn) hg (by omega) (fun _ _ z => z) (fun h' u tk hk => ⟨.str _, H, I.kept hk, ⟨_, rfl⟩, q⟩) hsz
  | dict a b c d1 d2 => unfold PyData.hasDict at hn; cases hn
/-- .. of an empty dict -/
def reprE : List V → Hp → VK → Prop := fun xs H Q => ∃ p, xs = [.ref p] ∧ H p = some (.dK []) ∧ Q (.str "{}") H
theorem call_reprE (hg : X.A.guards = some []) (hr : X.A.units + 100 < cLine) : CallR X (.builtin "repr") reprE := by
  intro pins s σ H xs us Q I r h
  obtain ⟨p, rfl, hp, q⟩ := h
  obtain ⟨u, rfl, ru⟩ := vals1 r
  obtain rfl : u = Value.ref p := ru
  obtain ⟨_, hne, vs, rel, o, es, ep, ho, hx, hd, _, pr, _⟩ := dk_of I.hok hp
  have ev : vs = [] := by cases rel; rfl
  subst ev
  have ee : es.toList = [] := by
    cases hz : es.toList with
    | nil => rfl
    | cons a l => rw [hz] at pr; cases pr
  have rd : Reads s.heap (.ref p) (.dict []) [p] := Reads.dict (kvs := []) ho hx.1 hd (by rw [ee]; exact .nil) (by rw [ee]; exact .nil)
  have e1 : PyData.shown (.dict []) = ("{}" : Str) := by decide +kernel
  refine repr_of_reads' rd rfl (fun _ z => ?_) hg (by show _ + (1 + 1) < _; omega) (fun _ _ z => z) (fun h' u tk hk => ⟨.str _, H, I.kept hk, ⟨_, rfl⟩, by rw [e1]; exact q⟩) (by rw [e1]; decide +kernel)
  rw [List.mem_singleton] at z
  rw [← z] at hne
  simp at hne
/-- a value that can be shown -/
structure ShowO (o : Option PyData) : Prop where
  sh : ∀ d, o = some d → d.showable = true ∧ d.hasDict = false ∧ d.depth ≤ 20 ∧ d.shown.length ≤ sizeLine
def textO : Option PyData → Str
  | some d => d.shown
  | none => "{}"
theorem ev_repr (hgd : X.A.guards = some []) (hr : X.A.units + 100 < cLine) (hm : X.mg "repr" = none) (h : ev X e Γ Ω fun Ω1 φ => ∃ o, φ = oddM X.K o ∧ ShowO o ∧ k Ω1 (isD X.K (.str (textO o)))) (hg : Gl X "repr" := by rfl)
    (he : starEach [e] X.env = (false, eval e X.env) :: starEach [] X.env := by rfl) : ev X (.Call (.Name "repr" p2) [e] [] pos) Γ Ω k :=
  ev_callB (r := fun xs H Q => reprR X.K xs H Q ∨ reprE xs H Q) (fun pins s σ H xs us Q I r hh => hh.elim (call_reprD hgd hr pins s σ H xs us Q I r) (call_reprE hgd hr pins s σ H xs us Q I r)) hm boot_repr (evA_cons (ev_imp h fun Ω1 φ g => evA_nil fun W vs Q _ w al z => by
    obtain ⟨o, rfl, so, g⟩ := g
    obtain ⟨v, rfl, p⟩ := al1 al
    cases o with
    | some d =>
      obtain ⟨h1, h2, h3, h4⟩ := so.sh d rfl
      have p : Dp X.K (W.F Ω1) v d := p
      exact .inl ⟨v, d, rfl, dpS hid_sub p, h1, h2, h3, h4, z _ _ (post_pure w g (.str _))⟩
    | none =>
      obtain ⟨a, rfl, q⟩ := p
      exact .inr ⟨a, rfl, hid_sub _ _ q, z _ _ (post_pure w g (.str _))⟩) he) hg (he := he)
end
end G
set_option Elab.async false
set_option linter.all false
set_option maxRecDepth 100000
set_option maxHeartbeats 4000000
set_option pp.maxSteps 300
namespace G
open PySem PySem.Spec PyProof.Rows L2 RZ
variable {P : Program} {w : World} {K : PySem.W.Frag} {mg : Str → Option Value} {base : Heap}
/-! ### _law_refused -/
inductive RfTell (K : PySem.W.Frag) (BB BN : Addr) : Option PyData → Option PyData → PyData → Prop
  | b {o1 o2 oc : Option PyData} : RfIs K BB BN o1 o2 BB [(("cells" : Str), oddM K oc)] → ShowO oc → RfTell K BB BN o1 o2 (.tuple [.str "body", .str (textO oc)])
  | n {o1 o2 : Option PyData} {m : Int} : RfIs K BB BN o1 o2 BN [(("number" : Str), isD K (.int m)), (("what" : Str), isD K (.str "n"))] → RfTell K BB BN o1 o2 (.tuple [.str "n", .int m])
structure RfB where
  o1 : Option PyData
  o2 : Option PyData
  r : PyData
def spRefused (K : PySem.W.Frag) (BB BN : Addr) : Sp := spP (fun x : RfB => RfTell K BB BN x.o1 x.o2 x.r) (fun x => [oddM K x.o1, oddM K x.o2]) (fun x φ => φ = isD K x.r)
structure ExmF (K : PySem.W.Frag) (BB BN : Addr) : Prop where
  bb : PySem.W.exmOne K (.ref BB) (.ref BB) = some true
  nb : PySem.W.exmOne K (.ref BN) (.ref BB) = some false
  nn : PySem.W.exmOne K (.ref BN) (.ref BN) = some true
theorem sc_refused : FnScope ["_law_body", "_law_other", "e"] ["_law_body", "_law_other"] (defScope (top 54)) := ⟨rfl, rfl, rfl, by decide +kernel, rfl, by decide +kernel, by decide +kernel⟩
/-- the caught exception, its fields -/
def isX (a dd : Addr) (fm : List (Str × MP)) : MP := ⟨fun F v => v = .ref a ∧ ∃ fs, F dd = some (.xd fs) ∧ Fm F fm fs, fun e ⟨h1, fs, h2, h3⟩ => ⟨h1, fs, e _ _ h2, h3.mono e⟩⟩
def susB : List Stmt := match defBody (top 54) with
  | .Try _ (.ExceptHandler _ _ b _ :: _) _ _ _ :: _ => b
  | _ => []
def susN : List Stmt := match defBody (top 54) with
  | .Try _ (_ :: .ExceptHandler _ _ b _ :: _) _ _ _ :: _ => b
  | _ => []
def tSu (X : Cx) (ss : List Stmt) : Addr → Value → Option Addr → TS := fun a cls d D σ H => ∀ oe pn, Zc cls d oe → (∃ vs, oe.data = .fields vs) → wpB (X.suite a ((a, oe) :: pn)) ss D σ H
theorem su_ok {X : Cx} {ss : List Stmt} (a : Addr) (oe : Obj) (cls : Value) (d : Option Addr) (pn : List (Addr × Obj)) (hz : Zc cls d oe) (hf : ∃ vs, oe.data = .fields vs) : PSs (X.suite a ((a, oe) :: pn)) ss (tSu X ss a cls d) :=
  ⟨fun pins s σ H D I h => h oe pn hz hf pins s I⟩
theorem fm_look {F : Hp} : ∀ {fm : List (Str × MP)} {fs : List (Str × V)}, Fm F fm fs → ∀ {f : Str} {φ : MP}, fm.lookup f = some φ → ∃ v, fs.lookup f = some v ∧ φ.p F v
  | _, _, .nil, _, _, h => by cases h
  | _, _, .cons (f := g) (φ := ψ) (v := v) (fm := fm) (fs := fs) p t, f, φ, h => by
    rw [List.lookup_cons] at h ⊢
    by_cases e : (f == g) = true
    · rw [e] at h ⊢
      exact ⟨v, rfl, by rw [← Option.some.inj h]; exact p⟩
    · rw [Bool.not_eq_true] at e
      rw [e] at h ⊢
      exact fm_look t h
/-- e.f in a suite -/
theorem ev_xf {X : Cx} {a C dd : Addr} {oe : Obj} {pn : List (Addr × Obj)} {i : Nat} {x f : Str} {fm : List (Str × MP)} {φ : MP} {Γ : Ga} {Ω : Om} {k : Om → MP → Prop} {p pos : Pos} (T : XfC X.K C) (hno : PySem.W.findIn X.K (.ref C) f = some none)
    (hz : Zc (.ref C) (some dd) oe) (hf : ∃ vs, oe.data = .fields vs) (hN : X.N[i]? = some x) (hΓ : Γ[i]? = some (some (isX a dd fm))) (hl : fm.lookup f = some φ) (h : k Ω φ)
    (hv : Vis X.env.scope x := by first | exact Or.inl rfl | exact Or.inr (Or.inl rfl) | exact Or.inr (Or.inr rfl)) (hd : (x == ("__debug__" : Str)) = false := by decide) (hcd : (x == ("__classdict__" : Str)) = false := by decide)
    (hb : attributeBase (.Name x p) f X.env (eval (.Name x p) X.env) = eval (.Name x p) X.env := by rfl) : ev (X.suite a ((a, oe) :: pn)) (.Attribute (.Name x p) f pos) Γ Ω k := fun W w => by
  obtain ⟨v, e, rfl, fs, h1, h2⟩ := w.sl.get hΓ
  obtain ⟨u, hu, pu⟩ := fm_look h2 hl
  refine wpE_of (pe_xf T hno hz hf (pe_var (X := X.suite a ((a, oe) :: pn)) hN hv hd hcd) hb) ?_
  exact ⟨_, e, rfl, rfl, dd, fs, u, rfl, hid_sub _ _ h1, hu, post_pure w h pu⟩
theorem lift_ends {D : SEnd} {W W' : Wd} {Ω : Om} (h0 : W'.H0 = W.H0) (h1 : W'.O0 = W.O0) (sm : Same W.H W'.H) (e : Same (W.F Ω) (W'.F Ω)) {v : V} {H' : Hp} (h : back W' Ω D.rt v H') : back W Ω D.rt v H' := by
  obtain ⟨Ω', φ, a, b, c, d⟩ := h
  obtain ⟨H0, O0, σ, H⟩ := W
  obtain ⟨H0', O0', σ', H2⟩ := W'
  cases h0
  cases h1
  exact ⟨Ω', φ, a, b, e.trans c, d⟩
theorem h_refused {BB BN : Addr} (T : Txt K mg) (B : BodyX K mg BB) (N : NumX K mg BN) (Ex : ExmF K BB BN) : ∃ f fd, FnG P w K mg base 20 f fd ["_law_body", "_law_other"] (spRefused K BB BN) ∧ mg "_law_refused" = some (.ref f) ∧ PySem.W.keepIn K (.ref f) = true ∧ Binds K fd ["_law_body", "_law_other"] [] := by
  obtain ⟨f, fd, F, m⟩ := T.law_refused
  refine ⟨f, fd, defPG F sc_refused (kk := 19) (by decide) (fun _ => rfl) ?_, m, F.kp, F.binds fun _ _ _ _ _ _ us hl => match us, hl with | [_, _], _ => rfl⟩
  rintro cdv A outer s H E hgd hr ⟨o1, o2, r⟩ hx
  replace hx : RfTell K BB BN o1 o2 r := hx
  obtain ⟨fp, fdp, psp, Fp, mp, kp, bp⟩ := (h_planR (P := P) (w := w) (base := base) T B N).ex
  refine stB_cons fun W wk => ?_
  refine wpS_of (ps_try_all (n := "e") (i := 2) (Wout := fun _ _ _ _ => False) rfl rfl sc_refused.nd rfl rfl takes_none5
    (fun W pn xe tk _ => pss_one (ps_expr (pe_callS (E := WE W) Fp (hr.mono (show 17 ≤ 19 by decide)) (by rfl) mp kp bp (fun σ => passAt tk σ) (pa_cons (pe_var (i := 0) rfl (.inl rfl)) (pa_cons (pe_var (i := 1) rfl (.inl rfl)) pa_nil)))))
    (.cons ⟨by rfl, by decide, .inl B.gm⟩ su_ok (.cons ⟨by rfl, by decide, .inl N.gm⟩ su_ok .nil))) ?_
  obtain ⟨v0, e0, p0⟩ := wk.sl.get (i := 0) rfl
  obtain ⟨v1, e1, p1⟩ := wk.sl.get (i := 1) rfl
  refine ⟨v0, e0, v1, e1, ?_⟩
  have O1 : ∀ q ∈ W.O0, W.H q ≠ none := fun q hq => wk.tr1 hq
  have al : Al (hid W.O0 W.H) [oddM K o1, oddM K o2] [v0, v1] := .cons p0 (.cons p1 .nil)
  have made : ∀ {C dd : Addr} {fm : List (Str × MP)} {fs : List (Str × V)} {H' : Hp} (a : Addr), Same W.H H' → W.H dd = none → H' dd = some (.xd fs) → Fm (hid W.O0 H') fm fs →
      (W.st (W.σ.set 2 (some (.ref a))) H').Ok [some (oddM K o1), some (oddM K o2), some (isX a dd fm)] [] := fun {C dd fm fs H'} a sm hn hd hf => by
    have w1 := (wk.same sm).1
    have hdd : dd ∉ W.O0 := fun z => O1 _ z hn
    exact w1.set (φ := isX a dd fm) (v := .ref a) ⟨rfl, fs, by show hid W.O0 H' dd = _; rw [hid_out hdd]; exact hd, hf⟩ 2
  have hG : ∀ a : Addr, ((A.deeper (envOfC "_law_refused" (defScope (top 54)) s.heap.objs.size f cdv)).mark (some (.ref a))).guards = some [] := fun a => hgd
  have hU : ∀ a : Addr, ((A.deeper (envOfC "_law_refused" (defScope (top 54)) s.heap.objs.size f cdv)).mark (some (.ref a))).units + 100 < cLine := fun a => by
    have := hr.un
    show (A.deeper (envOfC "_law_refused" (defScope (top 54)) s.heap.objs.size f cdv)).units + 100 < cLine
    omega
  cases hx with
  | @b oc hR so =>
    refine ⟨⟨o1, o2, BB, _⟩, W.O0, hR, al, O1, ?_⟩
    rintro C d fm fs H' ⟨hC, rfl⟩ sm hn hd hf
    replace hC : BB = C := hC.symm
    subst hC
    refine ⟨true, Ex.bb, fun _ a ha oe pn hz hfv => ?_, fun z => by cases z⟩
    have wk1 := made (C := BB) a sm hn hd hf
    have g : stB ((cxOf CX0 P w K mg base ["_law_body", "_law_other", "e"] "_law_refused" (defScope (top 54)) f cdv A outer s H E).nox.suite a ((a, oe) :: pn)) susB [some (oddM K o1), some (oddM K o2), some (isX a d [(("cells" : Str), oddM K oc)])] []
        { nx := fun _ _ => False, rt := fun _ φ => φ = isD K (.tuple [.str "body", .str (textO oc)]) } :=
      stB_one (st_ret (ev_tup (evA_cons (ev_str (evA_cons (ev_repr (hG a) (hU a) T.n_repr (ev_xf B.xf (B.no _ (by simp)) hz hfv (i := 2) rfl rfl rfl ⟨oc, rfl, so, evA_nil ⟨_, .cons dat_d (.cons dat_d .nil), le1000 (n := 2) rfl (by decide), rfl⟩⟩)))))))
    refine wpB_mono (g _ wk1) ⟨?_, ?_, ?_, ?_⟩
    · rintro σ' H2 ⟨_, _, z, _⟩; exact z.elim
    · rintro v H2 ⟨Ω', φ, q, c1, c2, c3⟩
      exact ⟨Ω', φ, q, c1, (hid_same sm).trans c2, c3⟩
    · rintro σ' H2 ⟨_, _, z, _⟩; exact z.elim
    · rintro σ' H2 ⟨_, _, z, _⟩; exact z.elim
  | @n mm hR =>
    refine ⟨⟨o1, o2, BN, _⟩, W.O0, hR, al, O1, ?_⟩
    rintro C d fm fs H' ⟨hC, rfl⟩ sm hn hd hf
    replace hC : BN = C := hC.symm
    subst hC
    refine ⟨false, Ex.nb, fun z => (by cases z), fun _ => ⟨true, Ex.nn, fun _ a ha oe pn hz hfv => ?_, fun z => by cases z⟩⟩
    have wk1 := made (C := BN) a sm hn hd hf
    have g : stB ((cxOf CX0 P w K mg base ["_law_body", "_law_other", "e"] "_law_refused" (defScope (top 54)) f cdv A outer s H E).nox.suite a ((a, oe) :: pn)) susN [some (oddM K o1), some (oddM K o2), some (isX a d [(("number" : Str), isD K (.int mm)), (("what" : Str), isD K (.str "n"))])] []
        { nx := fun _ _ => False, rt := fun _ φ => φ = isD K (.tuple [.str "n", .int mm]) } :=
      stB_one (st_ret (ev_tup (evA_cons (ev_xf N.xf (N.no _ (by simp)) hz hfv (i := 2) rfl rfl rfl (evA_cons (ev_xf N.xf (N.no _ (by simp)) hz hfv (i := 2) rfl rfl rfl (evA_nil ⟨_, .cons dat_d (.cons dat_d .nil), le1000 (n := 2) rfl (by decide), rfl⟩)))))))
    refine wpB_mono (g _ wk1) ⟨?_, ?_, ?_, ?_⟩
    · rintro σ' H2 ⟨_, _, z, _⟩; exact z.elim
    · rintro v H2 ⟨Ω', φ, q, c1, c2, c3⟩
      exact ⟨Ω', φ, q, c1, (hid_same sm).trans c2, c3⟩
    · rintro σ' H2 ⟨_, _, z, _⟩; exact z.elim
    · rintro σ' H2 ⟨_, _, z, _⟩; exact z.elim
end G
set_option Elab.async false
set_option linter.all false
set_option maxRecDepth 100000
set_option maxHeartbeats 4000000
set_option pp.maxSteps 300
/-! E1: the values that are no bodies; what can be shown. -/
namespace G
open PySem PySem.Spec PyProof.Rows L2
structure ShW (n m : Nat) (x : PyData) : Prop where
  s : x.showable = true
  h : x.hasDict = false
  d : x.depth ≤ n
  l : x.shown.length ≤ m
  k : PySem.PyData.strOk x.shown = true
theorem strOk_app {a b : Str} (h1 : PySem.PyData.strOk a = true) (h2 : PySem.PyData.strOk b = true) : PySem.PyData.strOk (a ++ b) = true := by
  unfold PySem.PyData.strOk at h1 h2 ⊢
  show (a.cps ++ b.cps).all _ = true
  rw [Array.all_append, h1, h2]
  rfl
theorem strOk_join : ∀ ts : List Str, (∀ t ∈ ts, PySem.PyData.strOk t = true) → PySem.PyData.strOk (Str.join ", " ts) = true
  | [], _ => by decide +kernel
  | [x], h => h x List.mem_cons_self
  | x :: y :: r, h => by
    have ih := strOk_join (y :: r) fun t ht => h t (List.mem_cons_of_mem _ ht)
    show PySem.PyData.strOk (x ++ ", " ++ Str.join ", " (y :: r)) = true
    exact strOk_app (strOk_app (h x List.mem_cons_self) (by decide +kernel)) ih
theorem strOk_from : ∀ (ts : List Str) (k : Nat) (acc : Str), PySem.PyData.strOk acc = true → (∀ t ∈ ts, PySem.PyData.strOk t = true) → PySem.PyData.strOk (textFrom k acc ts) = true
  | [], k, acc, h, _ => h
  | t :: r, k, acc, h, ht => by
    refine strOk_from r (k + 1) _ (strOk_app (strOk_app h ?_) (ht t List.mem_cons_self)) fun u hu => ht u (List.mem_cons_of_mem _ hu)
    split <;> decide +kernel
theorem shw_all {n m : Nat} : ∀ {ds : List PyData}, (∀ d ∈ ds, ShW n m d) → PyData.showableAll ds = true ∧ PyData.hasDictAll ds = false ∧ PyData.depthAll ds ≤ n ∧ piled (PyData.shownAll ds) ≤ ds.length * (m + 2) ∧ ∀ t ∈ PyData.shownAll ds, PySem.PyData.strOk t = true
  | [], _ => ⟨by simp only [PyData.showableAll], by simp only [PyData.hasDictAll], by simp only [PyData.depthAll]; exact Nat.zero_le _, by simp only [PyData.shownAll]; exact Nat.zero_le _, by simp only [PyData.shownAll]; exact fun _ z => nomatch z⟩
  | d :: ds, h => by
    have h1 := h d List.mem_cons_self
    obtain ⟨a, b, c, e, g⟩ := shw_all (ds := ds) fun x hx => h x (List.mem_cons_of_mem _ hx)
    have hl := h1.l
    refine ⟨by simp only [PyData.showableAll, h1.s, a, Bool.and_self], by simp only [PyData.hasDictAll, h1.h, b, Bool.or_self], ?_, ?_, ?_⟩
    · simp only [PyData.depthAll]
      exact Nat.max_le.mpr ⟨h1.d, c⟩
    · simp only [PyData.shownAll]
      rw [piled_cons, List.length_cons, Nat.succ_mul]
      omega
    · simp only [PyData.shownAll]
      intro t ht
      rcases List.mem_cons.mp ht with rfl | ht
      · exact h1.k
      · exact g t ht
theorem textFrom_le : ∀ (ts : List Str) (k : Nat) (acc : Str), (textFrom k acc ts).length ≤ acc.length + piled ts
  | [], k, acc => Nat.le_add_right _ _
  | t :: r, k, acc => by
    have ih := textFrom_le r (k + 1) (acc ++ (if k > 0 then ", " else "" : String) ++ t)
    have e : (acc ++ (if k > 0 then ", " else "" : String) ++ t).length ≤ acc.length + 2 + t.length := by
      rw [strLen_append, strLen_append]
      have : (((if k > 0 then ", " else "" : String) : Str)).length ≤ 2 := by split <;> decide
      omega
    rw [piled_cons]
    show (textFrom (k + 1) _ r).length ≤ _
    omega
theorem ShW.lst {n m : Nat} {ds : List PyData} (h : ∀ d ∈ ds, ShW n m d) : ShW (n + 1) (ds.length * (m + 2) + 3) (.list ds) := by
  obtain ⟨a, b, c, e, g⟩ := shw_all h
  refine ⟨by simp only [PyData.showable, a], by simp only [PyData.hasDict, b], by simp only [PyData.depth]; omega, ?_, ?_⟩ <;> simp only [PyData.shown] <;> unfold listText
  rotate_left
  · exact strOk_app (strOk_from _ _ _ (by decide +kernel) g) (by decide +kernel)
  rw [strLen_append]
  have e1 := textFrom_le (PyData.shownAll ds) 0 "["
  have e2 : ((("[" : String) : Str)).length = 1 := rfl
  have e3 : ((("]" : String) : Str)).length = 1 := rfl
  rw [e2] at e1
  rw [e3]
  omega
theorem ShW.tup {n m : Nat} {ds : List PyData} (h : ∀ d ∈ ds, ShW n m d) : ShW (n + 1) (ds.length * (m + 2) + 3) (.tuple ds) := by
  obtain ⟨a, b, c, e, g⟩ := shw_all h
  refine ⟨by simp only [PyData.showable, a], by simp only [PyData.hasDict, b], by simp only [PyData.depth]; omega, ?_, ?_⟩ <;> simp only [PyData.shown] <;> unfold tupleText
  rotate_left
  · refine strOk_app (strOk_app (by decide +kernel) (strOk_join _ g)) ?_
    split <;> decide +kernel
  rw [strLen_append, strLen_append]
  have e1 : ((("(" : String) : Str)).length = 1 := rfl
  have e3 : (((if (PyData.shownAll ds).length == 1 then ",)" else ")" : String) : Str)).length ≤ 2 := by split <;> decide
  rw [e1]
  by_cases z : PyData.shownAll ds = []
  · rw [z] at e3 ⊢
    have e4 : (Str.join ", " ([] : List Str)).length = 0 := rfl
    rw [e4]
    omega
  · have := join_length_add _ z
    omega
theorem ShW.mono {n m n' m' : Nat} {d : PyData} (h : ShW n m d) (h1 : n ≤ n') (h2 : m ≤ m') : ShW n' m' d := ⟨h.s, h.h, Nat.le_trans h.d h1, Nat.le_trans h.l h2, h.k⟩
structure ShowT (o : Option PyData) : Prop where
  s : ShowO o
  t : PySem.PyData.strOk (textO o) = true
theorem ShW.o {n m : Nat} {d : PyData} (h : ShW n m d) (h1 : n ≤ 20) (h2 : m ≤ 16777216) : ShowT (some d) := ⟨⟨fun e q => by
  cases q
  exact ⟨h.s, h.h, Nat.le_trans h.d h1, Nat.le_trans h.l h2⟩⟩, h.k⟩
theorem small_ints : ∀ n : Fin 81, (PyData.int ((n.val : Int) - 40)).showable = true ∧ (PyData.int ((n.val : Int) - 40)).shown.length ≤ 3 ∧ PySem.PyData.strOk (PyData.int ((n.val : Int) - 40)).shown = true := by decide +kernel
theorem shw_int {i : Int} (h1 : -40 ≤ i) (h2 : i ≤ 40) : ShW 0 3 (.int i) := by
  obtain ⟨a, b, g⟩ := small_ints ⟨(i + 40).toNat, by omega⟩
  have e : (((i + 40).toNat : Nat) : Int) - 40 = i := by omega
  simp only [e] at a b g
  exact ⟨a, by simp only [PyData.hasDict], by simp only [PyData.depth]; exact Nat.le_refl _, b, g⟩
theorem shw_cell {c : Cell} (h : smallC 40 c) : ShW 1 13 (cD c) := by
  refine (ShW.tup (n := 0) (m := 3) fun d hd => ?_).mono (Nat.le_refl _) (show 2 * 5 + 3 ≤ 13 by decide)
  simp only [List.mem_cons, List.not_mem_nil, or_false] at hd
  rcases hd with rfl | rfl
  · exact shw_int h.1 h.2.1
  · exact shw_int h.2.2.1 h.2.2.2
theorem shw_body {L : List Cell} (h : ∀ c ∈ L, smallC 40 c) (hl : L.length ≤ 900) : ShowT (some (bD L)) := by
  refine (ShW.tup (n := 1) (m := 13) (ds := L.map cD) fun d hd => ?_).o (by decide) ?_
  · obtain ⟨c, hc, rfl⟩ := List.mem_map.mp hd
    exact shw_cell (h c hc)
  · rw [List.length_map]; omega
/-! ### no bodies -/
theorem head_mem {L : List Cell} {z : Cell} (h : L.head? = some z) : z ∈ L := by
  cases L with
  | nil => cases h
  | cons a l => cases h; exact List.mem_cons_self
theorem hang_nil : hangB [] = false := by
  cases e : hangB [] with
  | false => rfl
  | true => exact absurd rfl (hangB_iff.mp e).1
theorem odd_ok {L : List Cell} (hl : L.length ≤ 900) {o : Option PyData} (h : OddIs L o) : OkO o := by
  have nt : ∀ {d : PyData}, noDict d = true → (∀ ds, d ≠ .tuple ds) → OkO (some d) := fun {d} h1 h2 => ⟨fun e q => by cases q; exact h1, fun ds q => by cases q; exact absurd rfl (h2 ds)⟩
  have tp : ∀ {ds : List PyData}, ds.length ≤ 1000 → (∀ x ∈ ds, noDict x = true ∧ ∀ es, x = .tuple es → ∀ y ∈ es, noDict y = true) → OkO (some (.tuple ds)) := fun {ds} h1 h2 => ⟨fun e q => by cases q; rfl, fun ds q => by cases q; exact ⟨h1, h2⟩⟩
  cases h with
  | a => exact nt rfl fun _ z => by cases z
  | b => exact tp (Nat.zero_le _) fun _ z => nomatch z
  | c => exact nt rfl fun _ z => by cases z
  | d z hz => exact okBody (by rw [List.length_append, List.length_singleton]; omega)
  | e z hz => exact okBody (by rw [List.length_append, List.length_singleton]; omega)
  | f z hz => exact okBody (by rw [List.length_append, List.length_singleton, List.length_reverse]; omega)
  | g z hz =>
    refine tp (show 2 ≤ 1000 by decide) fun x hx => ?_
    simp only [List.mem_cons, List.not_mem_nil, or_false] at hx
    rcases hx with rfl | rfl
    · exact cell_nd z
    · exact ⟨rfl, fun _ q => by cases q⟩
  | h => exact nt rfl fun _ z => by cases z
  | i =>
    refine tp (show 1 ≤ 1000 by decide) fun x hx => ?_
    rw [List.mem_singleton.mp hx]
    refine ⟨rfl, fun es q => ?_⟩
    cases q
    intro y hy
    simp only [List.mem_cons, List.not_mem_nil, or_false] at hy
    rcases hy with rfl | rfl <;> rfl
  | j => exact okBody (show 2 ≤ 1000 by decide)
  | k =>
    refine tp (show 2 ≤ 1000 by decide) fun x hx => ?_
    simp only [List.mem_cons, List.not_mem_nil, or_false] at hx
    rcases hx with rfl | rfl <;> exact ⟨rfl, fun _ q => by cases q⟩
  | l =>
    refine tp (show 1 ≤ 1000 by decide) fun x hx => ?_
    rw [List.mem_singleton.mp hx]
    refine ⟨rfl, fun es q => ?_⟩
    cases q
    intro y hy
    rw [List.mem_singleton.mp hy]
    rfl
  | m => exact ⟨fun d q => (by cases q), fun ds q => (by cases q)⟩
theorem far_no {L : List Cell} (hi : incB L = true) (hne : L ≠ []) {z : Cell} (hz : L.getLast? = some z) : hangB (L ++ [(z.1 + 2, z.2)]) = false := by
  cases e : hangB (L ++ [(z.1 + 2, z.2)]) with
  | false => rfl
  | true =>
    exfalso
    obtain ⟨ys, rfl⟩ := List.getLast?_eq_some_iff.mp hz
    have hle : ∀ b ∈ ys ++ [z], b.1 ≤ z.1 := fun b hb => by
      rcases List.mem_append.mp hb with q | q
      · have := (List.pairwise_append.mp (inc_pair hi)).2.2 b q z List.mem_cons_self
        unfold clt at this
        simp only [decide_eq_true_eq] at this
        omega
      · rw [List.mem_singleton.mp q]
        exact Int.le_refl _
    have stay : ∀ {b : Cell}, Rch (ys ++ [z] ++ [(z.1 + 2, z.2)]) z b → b ∈ ys ++ [z] := fun {b} h => by
      induction h with
      | here => exact List.mem_append_right _ List.mem_cons_self
      | @step b c _ hb hc ih =>
        rcases List.mem_append.mp hc with q | q
        · exact q
        · exfalso
          have h1 := hle b ih
          have h2 := List.mem_singleton.mp q
          obtain ⟨b1, b2⟩ := b
          subst h2
          simp only [besL, List.mem_cons, List.not_mem_nil, or_false, Prod.mk.injEq] at hb
          simp only at h1
          omega
    have := stay ((hangB_iff.mp e).2 z (List.mem_append_left _ (List.mem_append_right _ List.mem_cons_self)) (z.1 + 2, z.2) (List.mem_append_right _ List.mem_cons_self))
    have := hle _ this
    simp only at this
    omega
theorem two_no : hangB [((0, 0) : Cell), (1, 1)] = false := by
  cases e : hangB [((0, 0) : Cell), (1, 1)] with
  | false => rfl
  | true =>
    exfalso
    have stay : ∀ {b : Cell}, Rch [((0, 0) : Cell), (1, 1)] (0, 0) b → b = (0, 0) := fun {b} h => by
      induction h with
      | here => rfl
      | @step b c _ hb hc ih =>
        subst ih
        simp only [besL, List.mem_cons, List.not_mem_nil, or_false] at hb hc
        rcases hc with rfl | rfl
        · rfl
        · simp at hb
    have := stay ((hangB_iff.mp e).2 (0, 0) List.mem_cons_self (1, 1) (List.mem_cons_of_mem _ List.mem_cons_self))
    simp at this
theorem dup_no {L : List Cell} (h : ¬ L.Nodup) : incB L = false := by
  cases e : incB L with
  | false => rfl
  | true => exact absurd (pair_nd (inc_pair e)) h
theorem again_nd {L : List Cell} {z : Cell} (h : z ∈ L) : ¬ (L ++ [z]).Nodup := fun n => (List.nodup_append.mp n).2.2 z h z List.mem_cons_self rfl
theorem odd_no {L : List Cell} (hi : incB L = true) (hne : L ≠ []) {o : Option PyData} (h : OddIs L o) : bodyB o = false := by
  cases h with
  | a => rfl
  | b =>
    have := bodyB_D []
    rw [hang_nil] at this
    exact this
  | c => rfl
  | d z hz => rw [bodyB_D, far_no hi hne hz, Bool.and_false]
  | e z hz => rw [bodyB_D, dup_no (again_nd (head_mem hz))]; rfl
  | f z hz => rw [bodyB_D, dup_no (again_nd (List.mem_reverse.mpr (head_mem hz)))]; rfl
  | g z hz => rfl
  | h => rfl
  | i => rfl
  | j => rw [bodyB_D, two_no, Bool.and_false]
  | k => rfl
  | l => rfl
  | m => rfl
theorem last_mem {L : List Cell} {z : Cell} (h : L.getLast? = some z) : z ∈ L := by
  obtain ⟨ys, rfl⟩ := List.getLast?_eq_some_iff.mp h
  exact List.mem_append_right _ List.mem_cons_self
theorem odd_show {L : List Cell} (hs : ∀ c ∈ L, smallC 30 c) (hl : L.length ≤ 800) {o : Option PyData} (h : OddIs L o) : ShowT o := by
  have wide : ∀ {c : Cell}, smallC 30 c → smallC 40 c := fun {c} q => by unfold smallC at q ⊢; omega
  have lit : ∀ {d : PyData}, d.showable = true → d.hasDict = false → d.depth ≤ 20 → d.shown.length ≤ 100 → PySem.PyData.strOk d.shown = true → ShowT (some d) := fun {d} h1 h2 h3 h4 h5 => (ShW.mk h1 h2 h3 h4 h5 : ShW 20 100 d).o (by decide) (by decide)
  cases h with
  | a => exact lit (by decide +kernel) (by decide +kernel) (by decide +kernel) (by decide +kernel) (by decide +kernel)
  | b => exact lit (by decide +kernel) (by decide +kernel) (by decide +kernel) (by decide +kernel) (by decide +kernel)
  | c =>
    refine (ShW.lst (n := 1) (m := 13) (ds := L.map cD) fun d hd => ?_).o (by decide) ?_
    · obtain ⟨c, hc, rfl⟩ := List.mem_map.mp hd
      exact shw_cell (wide (hs c hc))
    · rw [List.length_map]; omega
  | d z hz =>
    refine shw_body (fun c hc => ?_) (by rw [List.length_append, List.length_singleton]; omega)
    rcases List.mem_append.mp hc with q | q
    · exact wide (hs c q)
    · rw [List.mem_singleton.mp q]
      have := hs z (last_mem hz)
      unfold smallC at this ⊢
      simp only
      omega
  | e z hz =>
    refine shw_body (fun c hc => ?_) (by rw [List.length_append, List.length_singleton]; omega)
    rcases List.mem_append.mp hc with q | q
    · exact wide (hs c q)
    · rw [List.mem_singleton.mp q]
      exact wide (hs z (head_mem hz))
  | f z hz =>
    refine shw_body (fun c hc => ?_) (by rw [List.length_append, List.length_singleton, List.length_reverse]; omega)
    rcases List.mem_append.mp hc with q | q
    · exact wide (hs c (List.mem_reverse.mp q))
    · rw [List.mem_singleton.mp q]
      exact wide (hs z (head_mem hz))
  | g z hz =>
    refine (ShW.tup (n := 1) (m := 13) fun d hd => ?_).o (by decide) (show 2 * 15 + 3 ≤ 16777216 by decide)
    simp only [List.mem_cons, List.not_mem_nil, or_false] at hd
    rcases hd with rfl | rfl
    · exact shw_cell (wide (hs z (head_mem hz)))
    · exact ⟨by decide +kernel, by decide +kernel, by decide +kernel, by decide +kernel, by decide +kernel⟩
  | h => exact lit (by decide +kernel) (by decide +kernel) (by decide +kernel) (by decide +kernel) (by decide +kernel)
  | i => exact lit (by decide +kernel) (by decide +kernel) (by decide +kernel) (by decide +kernel) (by decide +kernel)
  | j => exact lit (by decide +kernel) (by decide +kernel) (by decide +kernel) (by decide +kernel) (by decide +kernel)
  | k => exact lit (by decide +kernel) (by decide +kernel) (by decide +kernel) (by decide +kernel) (by decide +kernel)
  | l => exact lit (by decide +kernel) (by decide +kernel) (by decide +kernel) (by decide +kernel) (by decide +kernel)
  | m => exact ⟨⟨fun d q => by cases q⟩, by decide +kernel⟩
end G
set_option Elab.async false
set_option linter.all false
set_option maxRecDepth 100000
set_option maxHeartbeats 4000000
set_option pp.maxSteps 300
/-! E2: the law's own looks at the plan, in plain words. -/
namespace G
open PySem PySem.Spec PyProof.Rows L2
theorem Grw.mov {L : List Cell} (v : Cell) (h : Grw L) : Grw (movL L v) := by
  induction h with
  | one c => exact .one _
  | @add L c _ hn hx ih =>
    have e : movL (L ++ [c]) v = movL L v ++ [(c.1 + v.1, c.2 + v.2)] := by unfold movL; rw [List.map_append]; rfl
    rw [e]
    refine .add ih (fun z => ?_) ?_
    · unfold movL at z
      obtain ⟨d, hd, q⟩ := List.mem_map.mp z
      obtain ⟨d1, d2⟩ := d
      obtain ⟨c1, c2⟩ := c
      simp only [Prod.mk.injEq] at q
      have : ((d1, d2) : Cell) = (c1, c2) := by rw [Prod.mk.injEq]; omega
      rw [this] at hd
      exact hn hd
    · obtain ⟨x, hxL, hb⟩ := hx
      refine ⟨(x.1 + v.1, x.2 + v.2), List.mem_map.mpr ⟨x, hxL, rfl⟩, ?_⟩
      obtain ⟨x1, x2⟩ := x
      obtain ⟨c1, c2⟩ := c
      simp only [besN, List.mem_cons, List.not_mem_nil, or_false, Prod.mk.injEq] at hb ⊢
      omega
theorem movL_len (L : List Cell) (v : Cell) : (movL L v).length = L.length := List.length_map _
theorem wk_sub {Fl Fl' : Shp → List (Mv × Shp)} (e : ∀ S x, x ∈ Fl S → x ∈ Fl' S) {s0 : Shp} {n : Nat} {T : Shp} (h : Wk Fl s0 n T) : Wk Fl' s0 n T := by
  induction h with
  | zero => exact .zero
  | step _ hm ih => exact .step ih (e _ _ hm)
/-- the row that the law looks into -/
theorem row_has {L M : List Cell} {ms : List Mv} (hiL : incB L = true) (hiM : incB M = true) {U : List Shp} (hr : LpRes ⟨L, M, U⟩ ms) {A : List (BEnt Shp Mv)} {Rs : List (List Shp)} (hA : BfsEnd FlN (shpN L) A) (hR : RowsOk A Rs) (hlt : ∀ T o n, (T, o, n) ∈ A → n < Rs.length) :
    ∃ R, Rs[ms.length]? = some R ∧ shpN M ∈ R := by
  have e1 : shpN L = shpL L := (shp_inc hiL).symm
  have e2 : shpN M = shpL M := (shp_inc hiM).symm
  rw [e1] at hA
  rw [e2]
  have c : Chain FlP (shpL L) ms (shpL M) := hr.ch
  have w := chain_len c .zero
  rw [Nat.zero_add] at w
  obtain ⟨o, l, hm, hl⟩ := hA.wk (wk_sub (fun S x => (FlN_iff S x).mpr) w)
  have back : Wk FlP (shpL L) l (shpL M) := wk_sub (fun S x => (FlN_iff S x).mp) (hA.base.walk l _ o hm)
  have hge : ms.length ≤ l := hr.min l back
  have : l = ms.length := Nat.le_antisymm hl hge
  subst this
  have hl2 := hlt _ _ _ hm
  exact ⟨Rs[ms.length], List.getElem?_eq_getElem hl2, (hR.row _ _ _ (List.getElem?_eq_getElem hl2)).mpr ⟨o, hm⟩⟩
theorem any_of {ds : List PyData} {d : PyData} (hc : d.canLay0 = true) (h : d ∈ ds) : (ds.any fun z => PyData.eqv z d) = true := List.any_eq_true.mpr ⟨d, h, SeqAt.eqv_refl d hc⟩
/-- what the law asks of two drawn bodies -/
structure Two (L M : List Cell) : Prop where
  g1 : Grw L
  g2 : Grw M
  n6 : L.length ≤ 6
  e : M.length = L.length
section
variable {L M : List Cell}
theorem Two.i1 (t : Two L M) : incB (sortC L) = true := sortC_inc t.g1.nd
theorem Two.i2 (t : Two L M) : incB (sortC M) = true := sortC_inc t.g2.nd
theorem Two.lp (t : Two L M) : LpOk ⟨sortC L, sortC M, Us L.length⟩ := lp_ok t.g1 t.g2 t.n6 t.e
theorem srt_ne {L : List Cell} (h : Grw L) : sortC L ≠ [] := fun z => by
  have h1 := grw_len h
  have h2 : (sortC L).length = L.length := sortC_len
  rw [z] at h2
  rw [← h2] at h1
  cases h1
theorem Two.plan (t : Two L M) {ms : List Mv} (r : LpRes ⟨sortC L, sortC M, Us L.length⟩ ms) : PlanOk (sortC (sortC L)) (planL (sortC L) ms).1 (planL (sortC L) ms).2 := by
  rw [sort_id t.i1]
  exact plan_ok (srt_ne t.g1) r.ch
theorem Two.end_ (t : Two L M) {ms : List Mv} (r : LpRes ⟨sortC L, sortC M, Us L.length⟩ ms) : (planL (sortC L) ms).2 = sortC (movL (sortC M) (byL (planL (sortC L) ms).2 (sortC M))) :=
  end_by t.i1 (srt_ne t.g1) t.i2 r.ch
theorem Two.len (t : Two L M) {ms : List Mv} (r : LpRes ⟨sortC L, sortC M, Us L.length⟩ ms) : (planL (sortC L) ms).1.length = ms.length := (chain_end (srt_ne t.g1) r.ch).2.2
theorem Two.s1 (t : Two L M) : shpN (sortC L) ∈ Us L.length := by
  rw [← shp_inc t.i1]
  exact t.lp.s1
theorem Two.row (t : Two L M) {ms : List Mv} (r : LpRes ⟨sortC L, sortC M, Us L.length⟩ ms) {A : List (BEnt Shp Mv)} {Rs : List (List Shp)} (hA : BfsEnd FlN (shpN (sortC L)) A) (hR : RowsOk A Rs) (hlt : ∀ T o n, (T, o, n) ∈ A → n < Rs.length) :
    ∃ R, Rs[(planL (sortC L) ms).1.length]? = some R ∧ shpN (sortC M) ∈ R := by
  rw [t.len r]
  exact row_has t.i1 t.i2 r hA hR hlt
end
/-- a drawn body is one -/
theorem grw_body {L : List Cell} (h : Grw L) : incB (sortC L) = true ∧ hangB (sortC L) = true := ⟨sortC_inc h.nd, hangB_iff.mpr (hang_perm (fun _ => mem_sortC) h.hang)⟩
theorem grs_small {L : List Cell} (h : Grs L) (hl : L.length ≤ 9) : ∀ c ∈ sortC L, smallC 30 c := fun c hc => by
  have := h.small c (mem_sortC.mp hc)
  unfold smallC at this ⊢
  omega
end G
set_option Elab.async false
set_option linter.all false
set_option maxRecDepth 100000
set_option maxHeartbeats 4000000
set_option pp.maxSteps 300
/-! E3: the end of a law whose promise holds where no guard is on. -/
namespace G
open PySem PySem.Spec PyProof.Rows L2
/-- nothing is tracked but the script -/
structure Sole (P : Program) (w : World) (K : PySem.W.Frag) (h : Heap) (p : Addr) (xs : List V) (ob : Obj) (T : Hp) : Prop where
  sq : SqL K T p xs
  ok : HOk P w T h
  on : ∀ b u, T b = some u → b = p ∧ K.lookup b = none ∧ u = .frz ob (.lst xs)
def oneH (p : Addr) (u : HO) : Hp := fun b => if b = p then some u else none
theorem sole_ex {P : Program} {w : World} {K : PySem.W.Frag} {h : Heap} {p : Addr} {its : List Value} {ns : List Int} (kin : K.In h) (hp : h.get? p = some { cls := .type "list", data := .seq its.toArray }) (hi : IntsAre its ns) (hl : ns.length ≤ sizeLine) :
    ∃ T, Sole P w K h p (ns.map V.int) { cls := .type "list", data := .seq its.toArray } T := by
  have rv := vals_ints hi
  cases hk : K.lookup p with
  | none =>
    have at_p : oneH p (.frz { cls := .type "list", data := .seq its.toArray } (.lst (ns.map V.int))) p = some (.frz { cls := .type "list", data := .seq its.toArray } (.lst (ns.map V.int))) := if_pos rfl
    have only : ∀ b u, oneH p (.frz { cls := .type "list", data := .seq its.toArray } (.lst (ns.map V.int))) b = some u → b = p ∧ u = .frz { cls := .type "list", data := .seq its.toArray } (.lst (ns.map V.int)) := fun b u z => by
      by_cases e : b = p
      · subst e
        rw [at_p] at z
        exact ⟨rfl, (Option.some.inj z).symm⟩
      · have z2 : (if b = p then some (HO.frz { cls := .type "list", data := .seq its.toArray } (.lst (ns.map V.int))) else none) = some u := z
        rw [if_neg e] at z2
        cases z2
    refine ⟨_, .inl (.inr ⟨_, at_p⟩), fun b u z => ?_, fun b u z => ?_⟩
    · obtain ⟨rfl, rfl⟩ := only b u z
      exact ⟨hp, by rw [List.length_map]; exact hl, its, _, rv, hp⟩
    · obtain ⟨rfl, rfl⟩ := only b u z
      exact ⟨rfl, hk, rfl⟩
  | some o =>
    have e := kin p o hk
    rw [hp] at e
    cases e
    have no : ∀ (b : Addr) (u : HO), (fun _ => none : Hp) b = some u → False := fun b u z => by
      have z2 : (none : Option HO) = some u := z
      cases z2
    exact ⟨fun _ => none, .inr ⟨_, its.toArray, _, hk, rfl, rfl, rfl, by rw [List.size_toArray, hi.length]; exact hl, by simpa using rv⟩, fun b u z => (no b u z).elim, fun b u z => (no b u z).elim⟩
section
variable {P : Program} {w : World} {K : PySem.W.Frag} {mg mb : Str → Option Value} {s : Shared} {p : Addr} {its : List Value} {xs : List V} {T : Hp}
theorem sole_away (S : Sole P w K s.heap p xs { cls := .type "list", data := .seq its.toArray } T) (hp : s.heap.get? p = some { cls := .type "list", data := .seq its.toArray }) {b : Addr} {o : Obj} (e : s.heap.get? b = some o) (hb : K.lookup b ≠ none ∨ ∀ i n, o.data ≠ .seq i n) : (hidT s.heap T).get? b = some o :=
  hidT_get e (by
    cases q : T b with
    | none => rfl
    | some u =>
      exfalso
      obtain ⟨rfl, hk, _⟩ := S.on b u q
      rcases hb with z | z
      · exact z hk
      · rw [hp] at e
        cases e
        exact z _ _ rfl)
theorem sole_ns (S : Sole P w K s.heap p xs { cls := .type "list", data := .seq its.toArray } T) (hp : s.heap.get? p = some { cls := .type "list", data := .seq its.toArray }) {b : Addr} {m : Str → Option Value} (h : s.heap.Ns b m) : (hidT s.heap T).Ns b m := by
  obtain ⟨o, es, ep, e, d, r⟩ := h
  exact ⟨o, es, ep, sole_away S hp e (.inr fun i n z => by rw [d] at z; cases z), d, r⟩
/-- the law's call, from outside -/
theorem call_G {k : Nat} {fa : Addr} {fd : FuncData} {x : Str} {sp : Sp} (kin : K.In s.heap) (hm : s.heap.Ns mainGlobals mg) (hbu : s.heap.Ns builtinsNs mb) (hbe : ∀ x : Str, x ≠ "__name__" → mb x = bootBuiltins x) (hno : s.heap.NoLimit) (hgn : s.gens = #[])
    (hp : s.heap.get? p = some { cls := .type "list", data := .seq its.toArray }) (S : Sole P w K s.heap p xs { cls := .type "list", data := .seq its.toArray } T) (room : Room k callerA)
    (F : ∀ base : Heap, K.In base → base.Ns mainGlobals mg → FnG P w K mg base k fa fd [x] sp) (bd : ∀ (s : Shared) (u : Value), BindsTo s fd ⟨[u], []⟩ [(x, u)]) (hsp : sp [.ref p] T (fun v _ => v = .bl true) E0) :
    codeAny (model P w) callerA (.call (.ref fa) ⟨[.ref p], []⟩) (fun r s' => r = .ok (.ret (.bool true)) ∧ OldK s.heap s'.heap ∧ s'.os = s.os ∧ AllBare s'.gens) s := by
  have kin2 : K.In (hidT s.heap T) := fun b o e => sole_away S hp (kin b o e) (.inl (by rw [e]; exact Option.some_ne_none _))
  have ns2 := sole_ns S hp hm
  have md : Mod K mg (hidT s.heap T) := ⟨kin2, ns2, ⟨mb, sole_ns S hp hbu, hbe⟩, by obtain ⟨mc, q1, q2⟩ := hno; exact ⟨mc, sole_ns S hp q1, q2⟩⟩
  have env : Env0 P w K mg (hidT s.heap T) callerA [] s T := ⟨rfl, md, fun _ _ q => of_hidT q, Nat.le_of_eq (hidT_size _ _), trivial, fun b q => (nomatch (show b ∈ ([] : List Addr) from q)), S.ok, .of_eq hgn⟩
  refine codeAny_mono ((F _ kin2 ns2).run callerA [] s T ⟨[.ref p], []⟩ [.ref p] [.ref p] (fun v _ => v = .bl true) E0 rfl room env (bd s (.ref p)) (.cons rfl .nil) hsp) fun r s' q => ?_
  match r, q with
  | .error er, q => exact (show False from q).elim
  | .ok .next, q => exact (show False from q).elim
  | .ok .brk, q => exact (show False from q).elim
  | .ok .cont, q => exact (show False from q).elim
  | .ok (.ret u), q =>
    obtain ⟨v, T', eos, bare, un, ok2, rel, rfl⟩ := (show ∃ v T', _ from q)
    have eu : u = Value.bool true := rel
    refine ⟨by rw [eu], OldK.of_keep fun b o e => ?_, eos, bare⟩
    cases z : T b with
    | none => exact un.keep b o e z (fun y => (nomatch (show b ∈ ([] : List Addr) from y))) (by simp)
    | some u =>
      obtain ⟨rfl, _, rfl⟩ := S.on b u z
      have y := (ok2 b _ (un.frzs b _ _ z)).1
      rw [hp] at e
      cases e
      exact y
end
/-- the row's end -/
theorem walk_G {l : PySem.W.OpenLaw} {n k : Nat} {q : Program} {loose : List Str} {XP : (Str → Option Value) → Heap → Prop} {YP : World → Heap → Prop} {d : DefRec} {x : Str} (h1 : l.most = some n) (h2 : n ≤ sizeLine) (h3 : d.params.defaults = []) (room : Room k callerA)
    (F : ∀ (w : World) (mg : Str → Option Value) (fa : Addr) (h : Heap), YP w h → h.Ns mainGlobals mg → mg d.name = some (.ref fa) → ∃ (K : PySem.W.Frag) (fd : FuncData) (sp : Sp), K.In h ∧ (∀ (s : Shared) (u : Value), BindsTo s fd ⟨[u], []⟩ [(x, u)]) ∧
      (∀ (T : Hp) (p : Addr) (ns : List Int), ns.length ≤ n → SqL K T p (ns.map V.int) → sp [.ref p] T (fun v _ => v = .bl true) E0) ∧ ∀ base : Heap, K.In base → base.Ns mainGlobals mg → FnG l.prog w K mg base k fa fd [x] sp) :
    PySem.W.WalkO q loose XP YP l.row.toRowW d [] (fun f vs => PySem.call f vs) :=
  Att.attach_call h1 h3 fun w t₀ t₁ mg mb fa o pm cd doc p its ns Gr Y e1 e2 e3 e4 e5 e6 e7 e8 => by
    obtain ⟨K, fd, sp, kin, bd, hsp, hF⟩ := F w mg fa _ Y Gr.T.g e4
    obtain ⟨T, S⟩ := sole_ex (P := l.prog) (w := w) kin e5 e6 (Nat.le_trans e7 h2)
    exact call_G kin Gr.T.g Gr.T.b Gr.T.builtins Gr.T.nolimit e8 e5 S room hF bd (hsp T p ns e7 S.sq)
end G
set_option Elab.async false
set_option linter.all false
set_option maxRecDepth 100000
set_option maxHeartbeats 4000000
set_option pp.maxSteps 300
/-! E4: rules for the law's own body. -/
namespace G
open PySem PySem.Spec PyProof.Rows L2 RZ
/-- an own class whose objects isinstance knows -/
structure IsC (K : PySem.W.Frag) (C : Addr) : Prop where
  cls : Cls K C
  ha : PySem.W.findIn K (.ref C) "__class__" = some (some (.builtin "object.__class__"))
  hn : PySem.W.specialIn K (.builtin "object.__class__") "__get__" = some (some (.builtin "getset_descriptor.__get__"))
  ht : PySem.W.takesIn K (.builtin "object.__class__") = some true
  hm : PySem.W.mroIn K C (.type "object") = some true
  kit : PySem.W.kitOne K (.ref C) (.ref C) = some true
section
variable {X : Cx} {a b e : Expr} {Γ : Ga} {Ω : Om} {k : Om → MP → Prop} {pos p1 p2 : Pos}
theorem ev_isiC {x : Str} {C : Addr} (hm : X.mg "isinstance" = none) (hx : X.mg x = some (.ref C)) (T : IsC X.K C) (h : ev X e Γ Ω fun Ω1 φ => ∃ fs, φ = isI C fs ∧ k Ω1 (isD X.K (.bool true)))
    (hg : Gl X "isinstance" := by rfl) (hgx : Gl X x := by rfl) (hd : (x == ("__debug__" : Str)) = false := by decide)
    (he : starEach [e, .Name x p1] X.env = (false, eval e X.env) :: starEach [.Name x p1] X.env := by rfl) (he2 : starEach [.Name x p1] X.env = (false, eval (.Name x p1) X.env) :: starEach [] X.env := by rfl)
    (hpl : (backTo pos (starEach [.Name x p1] X.env)).any (·.1) = false := by rfl) : ev X (.Call (.Name "isinstance" p2) [e, .Name x p1] [] pos) Γ Ω k :=
  ev_callB call_isi hm boot_isinstance (evA_cons (ev_imp h fun Ω1 φ g => evA_cons (ev_glob (v := .ref C) (φ := isV (.ref C)) hx rfl (fun _ => rfl) (evA_nil fun W vs Q _ w al z => by
    obtain ⟨fs, rfl, g⟩ := g
    obtain ⟨v, u, rfl, q1, q2⟩ := al2 al
    obtain rfl := q2
    obtain ⟨p, dx, vs, rfl, e1, _⟩ := q1
    exact ⟨.ref p, .ref C, .ref C, .ref C, true, rfl, .own C, .base (.ins (hid_sub _ _ e1) T.cls T.ha T.hn T.ht T.hm), T.kit, z _ _ (post_pure w g (.bl true))⟩) hgx hd) he2) he) hg (he := he) (hpl := hpl)
/-- list * number -/
theorem dpAll_rep {K : PySem.W.Frag} {F : Hp} {vs : List V} {ds : List PyData} (h : DpAll K F vs ds) : ∀ n : Nat, DpAll K F (List.replicate n vs).flatten (List.replicate n ds).flatten
  | 0 => .nil
  | n + 1 => by
    rw [List.replicate_succ, List.replicate_succ, List.flatten_cons, List.flatten_cons]
    exact dpAll_append h (dpAll_rep h n)
theorem ev_repL (h : ev X a Γ Ω fun Ω1 φ => ev X b Γ Ω1 fun Ω2 ψ => ∃ (xs : List PyData) (n : Nat), Lt X.K Ω2 φ xs ∧ ψ = isD X.K (.int (n : Nat)) ∧ n ≤ 1000 ∧ xs.length * n ≤ sizeLine ∧ k Ω2 (isL X.K (List.replicate n xs).flatten)) : ev X (.BinOp a .Mult b pos) Γ Ω k :=
  ev_bin op_rep (ev_imp h fun Ω1 φ h => ev_imp h fun Ω2 ψ ⟨xs, n, l1, e2, hn, hz, g⟩ => fun W x y Q _ w p q z => by
    subst e2
    obtain ⟨a1, x1, rfl, e1, d1⟩ := l1.at_ w p
    obtain rfl := dp_int q
    have en : ((n : Nat) : Int).toNat = n := Int.toNat_natCast n
    refine ⟨a1, (n : Nat), x1, rfl, rfl, e1, by omega, by omega, by rw [en, dpAll_length d1]; exact hz, fun r hr => ?_⟩
    rw [en]
    refine z _ _ (post_new w hr g fun F e q => ?_)
    exact ⟨r, _, rfl, q, _, rfl, dpAllS e (dpAll_rep d1 n)⟩)
end
end G
set_option Elab.async false
set_option linter.all false
set_option maxRecDepth 100000
set_option maxHeartbeats 4000000
set_option pp.maxSteps 300
/-! E5: the law's own body. -/
namespace G
open PySem PySem.Spec PyProof.Rows L2 RZ
variable {P : Program} {w : World} {K : PySem.W.Frag} {mg : Str → Option Value} {base : Heap}
theorem atI_nat {α : Type} {xs : List α} {n : Nat} {d : α} (h : xs[n]? = some d) : atI xs (n : Nat) = some d := by
  have hl := (List.getElem?_eq_some_iff.mp h).1
  unfold atI ixN
  rw [if_pos (Int.natCast_nonneg n), if_pos (by omega)]
  exact h
theorem outp_none {α : Type} (as : List α) (f : α → PyData) : outp as (fun _ => false) f = [] := by
  unfold outp
  rw [List.filter_eq_nil_iff.mpr fun _ _ => Bool.false_ne_true]
  rfl
theorem dp_ints_all {K : PySem.W.Frag} {F : Hp} : ∀ ns : List Int, DpAll K F (ns.map V.int) (ns.map PyData.int)
  | [] => .nil
  | n :: ns => .cons (.int n) (dp_ints_all ns)
def tB (o : Option PyData) : PyData := .tuple [.str "body", .str (textO o)]
def tN (m : Int) : PyData := .tuple [.str "n", .int m]
theorem shTB {o : Option PyData} (h : PySem.PyData.strOk (textO o) = true) : ShD 1 (tB o) := ⟨by
  show (PySem.PyData.strOk "body" && (PySem.PyData.strOk (textO o) && true)) = true
  rw [h, show PySem.PyData.strOk "body" = true by decide +kernel]
  rfl, by show (1 : Nat) ≤ 1; decide⟩
theorem shTN (m : Int) : ShD 1 (tN m) := ⟨by
  show (PySem.PyData.strOk "n" && (true && true)) = true
  rw [show PySem.PyData.strOk "n" = true by decide +kernel]
  rfl, by show (1 : Nat) ≤ 1; decide⟩
section
variable {BB BN : Addr}
theorem tell_big {L M : List Cell} {k : Nat} (hL : Grw L) (hM : Grw M) (e : L.length = k) (h7 : 7 < k) (h9 : k ≤ 9) (m9 : M.length ≤ 9) : RfTell K BB BN (some (bD (sortC L))) (some (bD (sortC M))) (tN (k : Nat)) := by
  have h := RfIs.n1 (K := K) (BB := BB) (BN := BN) (L := sortC L) (M := sortC M) (grw_body hL).1 (grw_body hL).2 (by rw [sortC_len]; omega) (grw_body hM).1 (grw_body hM).2 (by rw [sortC_len]; omega) (by rw [sortC_len]; omega)
  rw [sortC_len, e] at h
  exact .n h
theorem tell_ne {L M : List Cell} {k : Nat} (hL : Grw L) (hM : Grw M) (e : M.length = k) (l7 : L.length ≤ 7) (m9 : k ≤ 9) (ne : k ≠ L.length) : RfTell K BB BN (some (bD (sortC L))) (some (bD (sortC M))) (tN (k : Nat)) := by
  have h := RfIs.n2 (K := K) (BB := BB) (BN := BN) (L := sortC L) (M := sortC M) (grw_body hL).1 (grw_body hL).2 (by rw [sortC_len]; omega) (by rw [sortC_len]; exact grw_len hL) (grw_body hM).1 (grw_body hM).2 (by rw [sortC_len]; omega) (by rw [sortC_len, sortC_len, e]; exact ne)
  rw [sortC_len, e] at h
  exact .n h
end
def spLaw (K : PySem.W.Frag) : Sp := spP (fun ns : List Int => ns.length ≤ 63) (fun ns => [isD K (.list (ns.map .int))]) (fun _ φ => φ = isD K (.bool true))
abbrev NLaw : List Str := ["_law_script", "_law_pen_here", "_law_many", "_law_body", "_law_other", "_law_told", "_law_end_here", "_law_rows", "_law_great", "_law_odd", "_law_found", "_law_x", "_law_y", "_law_move", "_law_one"]
theorem sc_law : FnScope NLaw ["_law_script"] (defScope (top 57)) := ⟨rfl, rfl, rfl, by decide +kernel, rfl, by decide +kernel, by decide +kernel⟩
theorem h_law {C BB BN f : Addr} {fd : FuncData} (T : Txt K mg) (U : Arnd K mg) (Lf : LeastF K mg C) (I : IsC K C) (B : BodyX K mg BB) (N : NumX K mg BN) (Ex : ExmF K BB BN) (F : Fun K "law" "law" (top 57) f fd) : FnG P w K mg base 21 f fd ["_law_script"] (spLaw K) := by
  refine defPG F sc_law (kk := 20) (by decide) (fun _ => rfl) ?_
  rintro cdv A outer s0 H E hgd hr ns -
  have hX := nor_of (P := P) (w := w) (K := K) (mg := mg) (base := base) (CX := CX0) (outer := outer) (H := H) (E := E) sc_law.nd hr (by decide)
  have hu : (cxOf CX0 P w K mg base NLaw "law" (defScope (top 57)) f cdv A outer s0 H E).nox.A.units + 100 < cLine := by
    have h1 : (A.deeper (envOfC "law" (defScope (top 57)) s0.heap.objs.size f cdv)).units + 16 * 20 + 200 < cLine := hr.un
    show (A.deeper (envOfC "law" (defScope (top 57)) s0.heap.objs.size f cdv)).units + 100 < cLine
    omega
  obtain ⟨fr, fdr, Fr, mr, kr, br⟩ := h_refused (P := P) (w := w) (base := base) T B N Ex
  have CG : CalG (cxOf CX0 P w K mg base NLaw "law" (defScope (top 57)) f cdv A outer s0 H E).nox "_law_refused" (spRefused K BB BN) := ⟨20, fr, fdr, _, Fr, hr, mr, kr, br⟩
  refine stB_cons (st_set (i := 1) hX rfl (ev_callN ((h_pen T).cal hr) (evA_cons (ev_name (i := 0) rfl rfl (evA_nil ⟨ns, trivial, Subs.rfl, ?_⟩)))))
  rintro p ψ ⟨pen0, hp0, rfl⟩
  refine stB_cons (st_set (i := 2) hX rfl (ev_callM ((h_pick T).cal hr) (evA_cons (ev_name (i := 1) rfl rfl (evA_cons (ev_lstM (evA_cons (ev_int (evA_cons (ev_int (evA_cons (ev_int (evA_cons (ev_int (evA_cons (ev_int (evA_cons (ev_int (evA_cons (ev_int (evA_cons (ev_int (evA_nil
    ⟨le1000 (n := 8) rfl (by decide), evA_nil ⟨⟨pen0, 0, _⟩, 0, p, _, rfl, rfl, ⟨hp0, (by show 0 ≤ 1000000; decide), (by show 0 < 8; decide), (by show 8 ≤ 1000; decide)⟩, Subs.rfl, ?_⟩⟩)))))))))))))))))))))))
  rintro ψ φ ⟨⟨pen1, hp1, rfl⟩, hφ⟩
  replace hp1 : PenOk pen1 1 := hp1
  obtain ⟨many, rfl, hm1, hm6⟩ : ∃ many : Nat, φ = isD K (.int (many : Nat)) ∧ 1 ≤ many ∧ many ≤ 6 := by
    have hφ : φ ∈ [isD K (.int 1), isD K (.int 2), isD K (.int 3), isD K (.int 4), isD K (.int 4), isD K (.int 5), isD K (.int 5), isD K (.int 6)] := hφ
    simp only [List.mem_cons, List.not_mem_nil, or_false] at hφ
    rcases hφ with rfl | rfl | rfl | rfl | rfl | rfl | rfl | rfl
    · exact ⟨1, rfl, by decide, by decide⟩
    · exact ⟨2, rfl, by decide, by decide⟩
    · exact ⟨3, rfl, by decide, by decide⟩
    · exact ⟨4, rfl, by decide, by decide⟩
    · exact ⟨4, rfl, by decide, by decide⟩
    · exact ⟨5, rfl, by decide, by decide⟩
    · exact ⟨5, rfl, by decide, by decide⟩
    · exact ⟨6, rfl, by decide, by decide⟩
  refine stB_cons (st_par2 (i := 3) (j := 4) hX rfl rfl (by decide) (evA_cons (ev_callM ((h_drawn T).cal hr) (evA_cons (ev_name (i := 1) rfl rfl (evA_cons (ev_name (i := 2) rfl rfl (evA_nil ⟨⟨pen1, 1, many⟩, 0, p, _, rfl, rfl, ⟨hp1, (by show 1 ≤ 90000; decide), hm1, (by show many ≤ 9; omega)⟩, Subs.rfl, ?_⟩))))))))
  rintro ψ φ ⟨⟨pen2, hp2, rfl⟩, L, rfl, hL, hLl⟩
  replace hp2 : PenOk pen2 22 := hp2
  replace hLl : L.length = many := hLl
  refine evA_cons (ev_callM ((h_drawn T).cal hr) (evA_cons (ev_name (i := 1) rfl rfl (evA_cons (ev_name (i := 2) rfl rfl (evA_nil ⟨⟨pen2, 22, many⟩, 0, p, _, rfl, rfl, ⟨hp2, (by show 22 ≤ 90000; decide), hm1, (by show many ≤ 9; omega)⟩, Subs.rfl, ?_⟩))))))
  rintro ψ φ ⟨⟨pen3, hp3, rfl⟩, M0, rfl, hM0, hMl0⟩
  replace hp3 : PenOk pen3 43 := hp3
  replace hMl0 : M0.length = many := hMl0
  refine evA_nil ⟨_, _, rfl, ?_⟩
  have hlS : (sortC L).length = many := by rw [sortC_len]; exact hLl
  -- behind the choice of the second body
  have rest : ∀ (M : List Cell) (pen4 : Pen), PenOk pen4 44 → Grw M → M.length = many → stB (cxOf CX0 P w K mg base NLaw "law" (defScope (top 57)) f cdv A outer s0 H E).nox (List.drop 4 (defBody (top 57)))
      [some (isD K (.list (ns.map .int))), some (isV (.ref p)), some (isD K (.int (many : Nat))), some (isD K (bD (sortC L))), some (isD K (bD (sortC M))), none, none, none, none, none, none, none, none, none, none] [(p, dkO (penF K pen4))]
      { nx := fun _ _ => isD K .none = isD K (.bool true), rt := fun _ φ => φ = isD K (.bool true) } := by
    intro M pen4 hp4 hM hMl
    have tw : Two L M := ⟨hL.grw, hM, by omega, by omega⟩
    have hlM : (sortC M).length = many := by rw [sortC_len]; exact hMl
    refine stB_cons (st_set (i := 5) hX rfl (ev_call ((h_plan T U Lf).cal hr) (evA_cons (ev_name (i := 3) rfl rfl (evA_cons (ev_name (i := 4) rfl rfl (evA_nil ⟨⟨sortC L, sortC M, Us L.length⟩, tw.lp, Subs.rfl, ?_⟩)))))))
    rintro φ ⟨ms, hms, rfl⟩
    have e1 := tw.plan hms
    have e2 := tw.end_ hms
    have e3 := fun {Ar Rs} => tw.row hms (A := Ar) (Rs := Rs)
    generalize planL (sortC L) ms = pr at e1 e2 e3
    refine stB_cons (st_if (evW_pt (evW_or (evT_not (evT_val (ev_isiC T.n_isinstance Lf.gl I (ev_name (i := 5) rfl rfl ⟨_, rfl, true, rfl, (if_neg (by decide)).mpr ?_⟩)))))))
    refine evW_or (evT_not (evT_val (ev_isi T.n_isinstance T.n_tuple boot_tuple (ev_fld Lf.cls Lf.n1 (ev_name (i := 5) rfl rfl ⟨_, _, rfl, rfl, _, true, rfl, kt6, true, rfl, (if_neg (by decide)).mpr ?_⟩)))))
    refine evW_or1 (evT_not (evT_val (ev_isi T.n_isinstance T.n_tuple boot_tuple (ev_fld Lf.cls Lf.n2 (ev_name (i := 5) rfl rfl ⟨_, _, rfl, rfl, _, true, rfl, kt6, true, rfl, (if_neg (by decide)).mpr (stB_nil ?_)⟩)))))
    refine stB_cons (st_if (evT_neD hX (ev_lc hX pr.1 mD mD (fun _ => false) (fun x => [some (isD K (.list (ns.map .int))), some (isV (.ref p)), some (isD K (.int (many : Nat))), some (isD K (bD (sortC L))), some (isD K (bD (sortC M))), some (isI C (leastFs K (msD pr.1) (cD (byL pr.2 (sortC M))))), none, none, none, none, none, none, none, some (isD K (mD x)), none]) (own := [("_law_move", 13)]) (fun σ => wipe_wipe1 σ 13)
      (show BlkOk NLaw (defScope (top 57)) _ [("_law_move", 13)] from blkOk_by (by decide +kernel)) (evI_tup (ev_fld Lf.cls Lf.n1 (ev_name (i := 5) rfl rfl ⟨_, _, rfl, rfl, _, rfl, rfl, ?_, ?_⟩))))))
    · intro s' H0 C' cl fp x hx
      exact ⟨tgB_name hX.nd rfl, evTs_one (evT_not (evT_val (ev_isi T.n_isinstance T.n_tuple boot_tuple (ev_name (i := 13) rfl rfl ⟨_, true, rfl, kt6, true, rfl, rfl, rfl⟩)))), fun h => absurd h Bool.false_ne_true⟩
    rw [outp_none]
    refine ev_lst (evA_nil ⟨[], .nil, by decide, _, _, true, dq_l, dq_l, rfl, rfl, rfl, (if_neg (by decide)).mpr (stB_nil ?_)⟩)
    refine stB_cons (st_set (i := 6) hX rfl (ev_call ((h_end T).cal hr) (evA_cons (ev_name (i := 3) rfl rfl (evA_cons (ev_fld Lf.cls Lf.n1 (ev_name (i := 5) rfl rfl ⟨_, _, rfl, rfl, evA_nil ⟨⟨sortC L, pr.1, pr.2⟩, ⟨sortC_nd hL.nd, (by show (sortC L).length ≤ 900; omega), e1⟩, Subs.rfl, ?_⟩⟩)))))))
    rintro φ rfl
    refine stB_cons (st_if (evT_neD hX (ev_name (i := 6) rfl rfl (ev_tupL T.n_tuple boot_tuple (ev_sorted hX T.n_sorted (ev_lc hX (sortC M) cD (fun c => cD (c.1 + (byL pr.2 (sortC M)).1, c.2 + (byL pr.2 (sortC M)).2)) (fun _ => true) (fun x => [some (isD K (.list (ns.map .int))), some (isV (.ref p)), some (isD K (.int (many : Nat))), some (isD K (bD (sortC L))), some (isD K (bD (sortC M))), some (isI C (leastFs K (msD pr.1) (cD (byL pr.2 (sortC M))))), some (isD K (bD pr.2)), none, none, none, none, some (isD K (.int x.1)), some (isD K (.int x.2)), none, none]) (own := [("_law_x", 11), ("_law_y", 12)]) (fun σ => wipe_wipe2 σ 11 12)
      (show BlkOk NLaw (defScope (top 57)) _ [("_law_x", 11), ("_law_y", 12)] from blkOk_by (by decide +kernel)) (evI_tup (ev_name (i := 4) rfl rfl ⟨_, rfl, rfl, ?_, _, .q (.l .l), ?_, ?_⟩))))))))
    · intro s' H0 C' cl fp x hx
      refine ⟨tgB_pair (i := 11) (j := 12) hX.calm hX.nd rfl rfl (by decide), evTs_nil ⟨rfl, rfl⟩, fun _ => ev_tup2 (ev_addI (ev_name (i := 11) rfl rfl (ev_ixT (ev_fld Lf.cls Lf.n2 (ev_name (i := 5) rfl rfl ⟨_, _, rfl, rfl, ev_int ⟨_, 0, _, rfl, rfl, rfl, _, _, rfl, rfl, ?_⟩⟩)))))⟩
      exact ev_addI (ev_name (i := 12) rfl rfl (ev_ixT (ev_fld Lf.cls Lf.n2 (ev_name (i := 5) rfl rfl ⟨_, _, rfl, rfl, ev_int ⟨_, 1, _, rfl, rfl, rfl, _, _, rfl, rfl, _, _, dat_d, dat_d, rfl, dat_d⟩⟩))))
    all_goals rw [outp_all]
    all_goals rw [show ((sortC M).map fun c => cD (c.1 + (byL pr.2 (sortC M)).1, c.2 + (byL pr.2 (sortC M)).2)) = (movL (sortC M) (byL pr.2 (sortC M))).map cD by unfold movL; rw [List.map_map]; rfl]
    · rintro ds rfl
      exact ⟨canS_cells _, by rw [List.length_map, movL_len, sizeLine_eq]; omega⟩
    rintro ds rfl
    rw [sortD_cells, ← e2]
    refine ⟨_, .l, _, _, true, dq_d, dq_d, (shB _).ok (by decide), (shB _).ok (by decide), SeqAt.eqv_refl _ (shB _).lay, (if_neg (by decide)).mpr (stB_nil ?_)⟩
    refine stB_cons (st_set (i := 7) hX rfl (ev_call ((h_layers T).cal hr) (evA_cons (ev_call ((h_shpN T).cal hr) (evA_cons (ev_name (i := 3) rfl rfl (evA_nil ⟨(true, sortC L), ⟨srt_ne hL.grw, (by show (sortC L).length ≤ 1000; omega)⟩, Subs.rfl, ?_⟩)))))))
    rintro φ rfl
    refine evA_nil ⟨(shpN (sortC L), Us L.length), ⟨Us_uniN _, tw.s1⟩, Subs.rfl, ?_⟩
    rintro φ ⟨Ar, Rs, rfl, hA, hR, hlt⟩
    obtain ⟨R, hRi, hRm⟩ := e3 hA hR hlt
    refine stB_cons (st_if (evT_niL hX (ev_call ((h_shpN T).cal hr) (evA_cons (ev_name (i := 4) rfl rfl (evA_nil ⟨(true, sortC M), ⟨srt_ne hM, (by show (sortC M).length ≤ 1000; omega)⟩, Subs.rfl, ?_⟩))))))
    rintro φ rfl
    refine ev_ixL (ev_name (i := 7) rfl rfl (ev_len T.n_len (ev_fld Lf.cls Lf.n1 (ev_name (i := 5) rfl rfl ⟨_, _, rfl, rfl, _, .t, rowsD Rs, _, .list (R.map bD), .l, rfl, ?_, true, ⟨_, _, dq_d, dq_d, (shB _).ok (by decide), ?_, any_of (shB _).lay (List.mem_map.mpr ⟨_, hRm, rfl⟩)⟩, (if_neg (by decide)).mpr (stB_nil ?_)⟩))))
    · refine atI_nat ?_
      rw [List.length_map, List.getElem?_map, hRi]
      rfl
    · exact (ShD.lst (n := 2) fun d hd => by
        obtain ⟨S, _, rfl⟩ := List.mem_map.mp hd
        exact shB S).ok (by decide)
    -- the values that are refused
    refine stB_cons (st_par2 (i := 8) (j := 9) hX rfl rfl (by decide) (evA_cons (ev_callM ((h_drawn T).cal hr) (evA_cons (ev_name (i := 1) rfl rfl (evA_cons (ev_int (evA_nil ⟨⟨pen4, 44, 8⟩, 0, p, _, rfl, rfl, ⟨hp4, (by show 44 ≤ 90000; decide), (by show 1 ≤ 8; decide), (by show 8 ≤ 9; decide)⟩, Subs.rfl, ?_⟩))))))))
    rintro ψ φ ⟨⟨pen5, hp5, rfl⟩, Gt, rfl, hG, hGl⟩
    replace hp5 : PenOk pen5 65 := hp5
    replace hGl : Gt.length = 8 := hGl
    refine evA_cons (ev_callM ((h_odd T).cal hr) (evA_cons (ev_name (i := 1) rfl rfl (evA_cons (ev_name (i := 3) rfl rfl (evA_nil ⟨⟨pen5, 65, sortC L⟩, 0, p, _, rfl, rfl, ⟨hp5, (by show 65 ≤ 90000; decide), srt_ne hL.grw, (by show (sortC L).length ≤ 900; omega)⟩, Subs.rfl, ?_⟩))))))
    rintro ψ φ ⟨⟨pen6, hp6, rfl⟩, o, ho, hodd⟩
    replace hp6 : PenOk pen6 66 := hp6
    replace ho : Sub φ (oddM K o) := ho
    replace hodd : OddIs (sortC L) o := hodd
    refine evA_nil ⟨_, _, rfl, ?_⟩
    refine stB_wk (Γ' := [none, some (isV (.ref p)), some (isD K (.int (many : Nat))), some (isD K (bD (sortC L))), none, none, none, none, some (isD K (bD (sortC Gt))), some (oddM K o), none, none, none, none, none]) (.no (.yes Sub.rfl (.yes Sub.rfl (.yes Sub.rfl (.no (.no (.no (.no (.yes Sub.rfl (.yes ho (.no (.no (.no (.no (.no .nil))))))))))))))) (List.Sublist.refl _) ?_
    have hno := odd_no tw.i1 (srt_ne hL.grw) hodd
    have hok := odd_ok (by omega) hodd
    have hst := odd_show (grs_small hL (by omega)) (by omega) hodd
    have hsh := hst.s
    have okL : OkO (some (bD (sortC L))) := okBody (by omega)
    have okG : OkO (some (bD (sortC Gt))) := okBody (by rw [sortC_len]; omega)
    have bL := okBD (grw_body hL.grw).1 (grw_body hL.grw).2
    have bG := okBD (grw_body hG.grw).1 (grw_body hG.grw).2
    refine stB_cons (st_set (i := 10) hX rfl (ev_lstO (evA_cons (ev_callG hgd CG (evA_cons (ev_name (i := 9) rfl rfl (evA_cons (ev_none (evA_nil ⟨⟨o, some .none, tB o⟩, .b (.b1 hok hno) hsh, Subs.rfl, ?_⟩)))))))))
    rintro φ rfl
    refine evA_cons (ev_callG hgd CG (evA_cons (ev_name (i := 3) rfl rfl (evA_cons (ev_name (i := 9) rfl rfl (evA_nil ⟨⟨some (bD (sortC L)), o, tB o⟩, .b (.b2 okL bL hok hno) hsh, Subs.rfl, ?_⟩))))))
    rintro φ rfl
    refine evA_cons (ev_callG hgd CG (evA_cons (ev_name (i := 8) rfl rfl (evA_cons (ev_name (i := 9) rfl rfl (evA_nil ⟨⟨some (bD (sortC Gt)), o, tB o⟩, .b (.b2 okG bG hok hno) hsh, Subs.rfl, ?_⟩))))))
    rintro φ rfl
    refine evA_cons (ev_callG hgd CG (evA_cons (ev_name (i := 8) rfl rfl (evA_cons (ev_name (i := 3) rfl rfl (evA_nil ⟨⟨some (bD (sortC Gt)), some (bD (sortC L)), tN (8 : Nat)⟩, tell_big hG.grw hL.grw hGl (by decide) (by decide) (by omega), Subs.rfl, ?_⟩))))))
    rintro φ rfl
    refine evA_nil ⟨[tB o, tB o, tB o, tN (8 : Nat)], .cons dat_d (.cons dat_d (.cons dat_d (.cons dat_d .nil))), by show 4 ≤ 1000; decide, fun q => ?_⟩
    refine stB_cons (st_expr (ev_append (ev_name (i := 10) rfl rfl ⟨1, q, _, rfl, rfl, ev_callG hgd CG (evA_cons (ev_name (i := 3) rfl rfl (evA_cons (ev_name (i := 8) rfl rfl (evA_nil ⟨⟨some (bD (sortC L)), some (bD (sortC Gt)), tN (8 : Nat)⟩, tell_ne hL.grw hG.grw hGl (by omega) (by decide) (by omega), Subs.rfl, ?_⟩)))))⟩)))
    rintro φ rfl
    refine ⟨1, _, _, rfl, dat_d, by rw [sizeLine_eq]; show 4 < _; decide, ?_⟩
    refine stB_cons (st_expr (ev_append (ev_name (i := 10) rfl rfl ⟨1, q, _, rfl, rfl, ev_callG hgd CG (evA_cons (ev_name (i := 3) rfl rfl (evA_cons (ev_callM ((h_drawn T).cal hr) (evA_cons (ev_name (i := 1) rfl rfl (evA_cons (ev_addI (ev_name (i := 2) rfl rfl (ev_int ⟨_, _, rfl, rfl, evA_nil ⟨⟨pen6, 66, many + 1⟩, 0, p, _, rfl, rfl, ⟨hp6, (by show 66 ≤ 90000; decide), (by show 1 ≤ many + 1; omega), (by show many + 1 ≤ 9; omega)⟩, Subs.rfl, ?_⟩⟩))))))))))⟩)))
    rintro ψ φ ⟨⟨pen7, hp7, rfl⟩, D1, rfl, hD1, hD1l⟩
    replace hp7 : PenOk pen7 87 := hp7
    replace hD1l : D1.length = many + 1 := hD1l
    refine evA_nil ⟨⟨some (bD (sortC L)), some (bD (sortC D1)), tN ((many + 1 : Nat) : Int)⟩, tell_ne hL.grw hD1.grw hD1l (by omega) (by omega) (by omega), Subs.rfl, ?_⟩
    rintro φ rfl
    refine ⟨1, _, _, rfl, dat_d, by rw [sizeLine_eq]; show 5 < _; decide, ?_⟩
    refine stB_cons (st_expr (ev_append (ev_name (i := 10) rfl rfl ⟨1, q, _, rfl, rfl, ev_callG hgd CG (evA_cons (ev_name (i := 8) rfl rfl (evA_cons (ev_callM ((h_drawn T).cal hr) (evA_cons (ev_name (i := 1) rfl rfl (evA_cons (ev_int (evA_nil ⟨⟨pen7, 87, 9⟩, 0, p, _, rfl, rfl, ⟨hp7, (by show 87 ≤ 90000; decide), (by show 1 ≤ 9; decide), (by show 9 ≤ 9; decide)⟩, Subs.rfl, ?_⟩)))))))))⟩)))
    rintro ψ φ ⟨⟨pen8, hp8, rfl⟩, D2, rfl, hD2, hD2l⟩
    replace hp8 : PenOk pen8 108 := hp8
    replace hD2l : D2.length = 9 := hD2l
    refine evA_nil ⟨⟨some (bD (sortC Gt)), some (bD (sortC D2)), tN (8 : Nat)⟩, tell_big hG.grw hD2.grw hGl (by decide) (by decide) (by omega), Subs.rfl, ?_⟩
    rintro φ rfl
    refine ⟨1, _, _, rfl, dat_d, by rw [sizeLine_eq]; show 6 < _; decide, ?_⟩
    refine stB_cons (st_expr (ev_append (ev_name (i := 10) rfl rfl ⟨1, q, _, rfl, rfl, ev_callG hgd CG (evA_cons (ev_callM ((h_drawn T).cal hr) (evA_cons (ev_name (i := 1) rfl rfl (evA_cons (ev_addI (ev_name (i := 2) rfl rfl (ev_int ⟨_, _, rfl, rfl, evA_nil ⟨⟨pen8, 108, many + 1⟩, 0, p, _, rfl, rfl, ⟨hp8, (by show 108 ≤ 90000; decide), (by show 1 ≤ many + 1; omega), (by show many + 1 ≤ 9; omega)⟩, Subs.rfl, ?_⟩⟩))))))))⟩)))
    rintro ψ φ ⟨⟨pen9, hp9, rfl⟩, D3, rfl, hD3, hD3l⟩
    replace hD3l : D3.length = many + 1 := hD3l
    refine evA_cons (ev_name (i := 3) rfl rfl (evA_nil ⟨⟨some (bD (sortC D3)), some (bD (sortC L)), tN (many : Nat)⟩, tell_ne hD3.grw hL.grw hLl (by omega) (by omega) (by omega), Subs.rfl, ?_⟩))
    rintro φ rfl
    refine ⟨1, _, _, rfl, dat_d, by rw [sizeLine_eq]; show 7 < _; decide, ?_⟩
    refine stB_one (st_ret (ev_eqD hX (ev_name (i := 10) rfl rfl (ev_catL (ev_repL (ev_lst (evA_cons (ev_tup (evA_cons (ev_str (evA_cons (ev_repr hgd hu T.n_repr (ev_name (i := 9) rfl rfl ⟨o, rfl, hsh, evA_nil ⟨_, .cons dat_d (.cons dat_d .nil), le1000 (n := 2) rfl (by decide), evA_nil ⟨[tB o], .cons dat_d .nil, le1000 (n := 1) rfl (by decide), ev_int ⟨_, 3, .l, rfl, by decide, by rw [sizeLine_eq]; show 1 * 3 ≤ _; decide, ?_⟩⟩⟩⟩)))))))))))))
    refine ev_lc hX ([8, 8, (many : Int) + 1, 8, (many : Int)] : List Int) PyData.int tN (fun _ => true) (fun x => [none, some (isV (.ref p)), some (isD K (.int (many : Nat))), some (isD K (bD (sortC L))), none, none, none, none, some (isD K (bD (sortC Gt))), some (oddM K o), some (isV (.ref q)), none, none, none, some (isD K (.int x))]) (own := [("_law_one", 14)]) (fun σ => wipe_wipe1 σ 14)
      (show BlkOk NLaw (defScope (top 57)) _ [("_law_one", 14)] from blkOk_by (by decide +kernel)) (evI_list (ev_lst (evA_cons (ev_int (evA_cons (ev_int (evA_cons (ev_addI (ev_name (i := 2) rfl rfl (ev_int ⟨_, _, rfl, rfl, evA_cons (ev_int (evA_cons (ev_name (i := 2) rfl rfl (evA_nil ⟨_, .cons dat_d (.cons dat_d (.cons dat_d (.cons dat_d (.cons dat_d .nil)))), le1000 (n := 5) rfl (by decide), _, .l, rfl, ?_, ?_⟩))))⟩))))))))))
    · intro s' H0 C' cl fp x hx
      exact ⟨tgB_name hX.nd rfl, evTs_nil ⟨rfl, rfl⟩, fun _ => ev_tup2 (ev_str (ev_name (i := 14) rfl rfl ⟨_, _, dat_d, dat_d, rfl, dat_d⟩))⟩
    rw [outp_all]
    have shL : ShD 2 (.list [tB o, tB o, tB o, tN (8 : Nat), tN (8 : Nat), tN ((many + 1 : Nat) : Int), tN (8 : Nat), tN (many : Nat)]) := ShD.lst fun d hd => by
      simp only [List.mem_cons, List.not_mem_nil, or_false] at hd
      rcases hd with rfl | rfl | rfl | rfl | rfl | rfl | rfl | rfl <;> first | exact shTB hst.t | exact shTN _
    have shAllT := shL.ok (by decide)
    refine ⟨_, _, .l, .l, by rw [sizeLine_eq]; show 3 + 5 ≤ _; decide, .list [tB o, tB o, tB o, tN (8 : Nat), tN (8 : Nat), tN ((many + 1 : Nat) : Int), tN (8 : Nat), tN (many : Nat)], .list [tB o, tB o, tB o, tN (8 : Nat), tN (8 : Nat), tN ((many + 1 : Nat) : Int), tN (8 : Nat), tN (many : Nat)], true, dq_o (j := 1) rfl, dq_l, shAllT, shAllT, SeqAt.eqv_refl _ shL.lay, rfl⟩
  refine stB_cons (st_if (evT_eqD hX (ev_callM ((h_draw T).cal hr) (evA_cons (ev_name (i := 1) rfl rfl (evA_cons (ev_int (evA_nil ⟨⟨pen3, 43, 6⟩, 0, p, _, rfl, rfl, ⟨hp3, (by show 43 ≤ 1000000; decide), (show (0 : Int) < 6 by decide), (show (6 : Int) < 1073741824 by decide)⟩, Subs.rfl, ?_⟩))))))))
  rintro ψ φ ⟨⟨pen4, hp4, rfl⟩, r, rfl, _, _⟩
  replace hp4 : PenOk pen4 44 := hp4
  refine ev_int ⟨_, _, _, dq_d, dq_d, rfl, rfl, eqv_int _ _, ?_⟩
  refine ite2 (fun q => ?_) (fun q => stB_nil (rest M0 pen4 hp4 hM0.grw hMl0))
  refine stB_one (st_set (i := 4) hX rfl (ev_tupL T.n_tuple boot_tuple (ev_sorted hX T.n_sorted (ev_lc hX (sortC L) cD (fun c => cD (c.1 + 7, c.2 - 2)) (fun _ => true) (fun x => [some (isD K (.list (ns.map .int))), some (isV (.ref p)), some (isD K (.int (many : Nat))), some (isD K (bD (sortC L))), some (isD K (bD (sortC M0))), none, none, none, none, none, none, some (isD K (.int x.1)), some (isD K (.int x.2)), none, none]) (own := [("_law_x", 11), ("_law_y", 12)]) (fun σ => wipe_wipe2 σ 11 12)
    (show BlkOk NLaw (defScope (top 57)) _ [("_law_x", 11), ("_law_y", 12)] from blkOk_by (by decide +kernel)) (evI_tup (ev_name (i := 3) rfl rfl ⟨_, rfl, rfl, ?_, _, .q (.l .l), ?_, ?_⟩))))))
  · intro s' H0 C' cl fp x hx
    exact ⟨tgB_pair (i := 11) (j := 12) hX.calm hX.nd rfl rfl (by decide), evTs_nil ⟨rfl, rfl⟩, fun _ => ev_tup2 (ev_addI (ev_name (i := 11) rfl rfl (ev_int ⟨_, _, rfl, rfl, ev_subI (ev_name (i := 12) rfl rfl (ev_int ⟨_, _, rfl, rfl, _, _, dat_d, dat_d, rfl, dat_d⟩))⟩)))⟩
  all_goals rw [outp_all]
  all_goals rw [show ((sortC L).map fun c => cD (c.1 + 7, c.2 - 2)) = (movL (sortC L) (7, -2)).map cD by unfold movL; rw [List.map_map]; rfl]
  · rintro ds rfl
    exact ⟨canS_cells _, by rw [List.length_map, movL_len, sizeLine_eq]; omega⟩
  rintro ds rfl
  rw [sortD_cells, sort_mov, sort_id (sortC_inc hL.nd), ← sort_mov]
  exact ⟨_, .l, rest (movL L (7, -2)) pen4 hp4 (hL.grw.mov _) (by rw [movL_len]; exact hLl)⟩
end G
set_option Elab.async false
set_option linter.all false
set_option maxRecDepth 100000
set_option maxHeartbeats 0
/-! H1: the head. -/
namespace G
open PySem PySem.Spec PyProof.Rows L2
/-! ### what is looked at besides -/
def eqOb (a b : Option Bool) : Bool := decide (a = b)
theorem eqOb_ok {a b : Option Bool} (h : eqOb a b = true) : a = b := of_decide_eq_true h
theorem and2 {a b : Bool} (h : (a && b) = true) : a = true ∧ b = true := Bool.and_eq_true_iff.mp h
/-- a class object of an own error -/
def objXB (C : Addr) : Obj → Bool
  | ⟨.type t, _, .cls ⟨_, _, .ref C2 :: bm, _, _, hd, _, _, _, _, hx⟩, ⟨[_, _, _, _, some (.builtin n), _]⟩⟩ => decide (t = "type") && (decide (C2 = C) && (PySem.HandSPX.refsVE bm && (hd && (!hx && decide (n = "ValueError.__new__")))))
  | _ => false
def clsXB (K : PySem.W.Frag) (C : Addr) : Bool := match K.lookup C with
  | some o => objXB C o
  | none => false
theorem clsXB_ok {K : PySem.W.Frag} {C : Addr} (h : clsXB K C = true) : ∃ nm q N bs bm sn sub ab col dd k0 k1 k2 k3 k5, K.lookup C = some (excClassObj nm q C N bs bm true sn sub ab col dd k0 k1 k2 k3 k5 "ValueError.__new__") ∧ PySem.HandSPX.refsVE bm = true := by
  unfold clsXB at h
  cases e : K.lookup C with
  | none => rw [e] at h; cases h
  | some o =>
    rw [e] at h
    have h : objXB C o = true := h
    unfold objXB at h
    split at h
    · rename_i t dd nm bs C2 bm N q hd sn sub ab col hx k0 k1 k2 k3 n k5 hz
      obtain ⟨a1, h⟩ := and2 h
      obtain ⟨a2, h⟩ := and2 h
      obtain ⟨a3, h⟩ := and2 h
      obtain ⟨a4, h⟩ := and2 h
      obtain ⟨a5, a6⟩ := and2 h
      obtain rfl := of_decide_eq_true a1
      obtain rfl := of_decide_eq_true a2
      obtain rfl := of_decide_eq_true a6
      obtain rfl : hd = true := a4
      obtain rfl : hx = false := by
        cases hx with
        | false => rfl
        | true => cases a5
      exact ⟨nm, q, N, bs, bm, sn, sub, ab, col, dd, k0, k1, k2, k3, k5, rfl, a3⟩
    · cases h
def errB (K : PySem.W.Frag) (C : Addr) (ns : List Str) : Bool := clsXB K C && (He.eqO (PySem.W.findIn K (.ref C) "__setattr__") (some (some (.builtin "object.__setattr__"))) && (eqOb (PySem.W.subIn K (.ref C) (.type "BaseException")) (some true) &&
  (decide (PySem.W.typeIn K (.ref C) = some (.type "type")) && (PySem.W.keepIn K (.ref C) && (He.eqO (PySem.W.findIn K (.ref C) "__init__") (some (some (.ref (He.ma K C "__init__")))) && (decide (PySem.W.typeIn K (.ref (He.ma K C "__init__")) = some (.type "function")) &&
  ((ns.all fun n => He.eqO (PySem.W.findIn K (.ref C) n) (some none)) && xfB K C)))))))
theorem errB_ok {mg : Str → Option Value} {K : PySem.W.Frag} {x qual : Str} {C : Addr} {i : Nat} {ns : List Str} (h : errB K C ns = true) (gm : mg x = some (.ref C)) {fd : FuncData} (F : Fun K "__init__" qual (mthS (top i) 0) (He.ma K C "__init__") fd) : XFct K mg x qual C i ns := by
  obtain ⟨a1, h⟩ := and2 h
  obtain ⟨a2, h⟩ := and2 h
  obtain ⟨a3, h⟩ := and2 h
  obtain ⟨a4, h⟩ := and2 h
  obtain ⟨a5, h⟩ := and2 h
  obtain ⟨a6, h⟩ := and2 h
  obtain ⟨a7, h⟩ := and2 h
  obtain ⟨a8, a9⟩ := and2 h
  exact ⟨⟨clsXB_ok a1, He.eqO_ok a2, eqOb_ok a3, of_decide_eq_true a4, a5⟩, gm, ⟨_, fd, He.eqO_ok a6, of_decide_eq_true a7, F⟩, fun n hn => He.eqO_ok (List.all_eq_true.mp a8 n hn), xfB_ok a9⟩
/-- a class that isinstance asks for -/
def isiB (K : PySem.W.Frag) (C : Addr) : Bool := He.eqO (PySem.W.findIn K (.ref C) "__class__") (some (some (.builtin "object.__class__"))) && (He.eqO (PySem.W.specialIn K (.builtin "object.__class__") "__get__") (some (some (.builtin "getset_descriptor.__get__"))) &&
  (eqOb (PySem.W.takesIn K (.builtin "object.__class__")) (some true) && (eqOb (PySem.W.mroIn K C (.type "object")) (some true) && eqOb (PySem.W.kitOne K (.ref C) (.ref C)) (some true))))
theorem isiB_ok {K : PySem.W.Frag} {C : Addr} (h : isiB K C = true) (cl : Cls K C) : IsC K C := by
  obtain ⟨a1, h⟩ := and2 h
  obtain ⟨a2, h⟩ := and2 h
  obtain ⟨a3, h⟩ := and2 h
  obtain ⟨a4, a5⟩ := and2 h
  exact ⟨cl, He.eqO_ok a1, He.eqO_ok a2, eqOb_ok a3, eqOb_ok a4, eqOb_ok a5⟩
/-- a tuple of cells -/
def pairB (c : Cell) : Obj → Bool
  | ⟨.type n, _, .seq its _, _⟩ => decide (n = "tuple") && (decide (its.size ≤ sizeLine) && He.relAll [.int c.1, .int c.2] its.toList)
  | _ => false
def cellAt (K : PySem.W.Frag) (u : Value) (c : Cell) : Bool := match u with
  | .ref t => (match K.lookup t with
    | some o => pairB c o
    | none => false)
  | _ => false
def cellsAt (K : PySem.W.Frag) : List Value → List Cell → Bool
  | [], [] => true
  | u :: us, c :: cs => cellAt K u c && cellsAt K us cs
  | _, _ => false
def rowB (K : PySem.W.Frag) (cs : List Cell) : Obj → Bool
  | ⟨.type n, _, .seq its _, _⟩ => decide (n = "tuple") && (decide (its.size ≤ sizeLine) && cellsAt K its.toList cs)
  | _ => false
def rowAt (K : PySem.W.Frag) (a : Addr) (cs : List Cell) : Bool := match K.lookup a with
  | some o => rowB K cs o
  | none => false
theorem cellAt_ok {K : PySem.W.Frag} {u : Value} {c : Cell} (h : cellAt K u c = true) (F : Hp) : ∃ v, RelV v u ∧ Dp K F v (cD c) := by
  unfold cellAt at h
  split at h
  · rename_i t
    split at h
    · rename_i o e
      unfold pairB at h
      split at h
      · rename_i n dd its ep sl
        obtain ⟨a1, h⟩ := and2 h
        obtain ⟨a2, a3⟩ := and2 h
        obtain rfl := of_decide_eq_true a1
        exact ⟨.ref t, rfl, .tup (.inr ⟨_, its, ep, e, rfl, rfl, of_decide_eq_true a2, He.relAll_ok a3⟩) (.cons (.int _) (.cons (.int _) .nil))⟩
      · cases h
    · cases h
  · cases h
theorem cellsAt_ok {K : PySem.W.Frag} (F : Hp) : ∀ {us : List Value} {cs : List Cell}, cellsAt K us cs = true → ∃ vs, Vals vs us ∧ DpAll K F vs (cs.map cD)
  | [], [], _ => ⟨[], .nil, .nil⟩
  | [], _ :: _, h => by cases h
  | _ :: _, [], h => by cases h
  | u :: us, c :: cs, h => by
    obtain ⟨h1, h2⟩ := and2 (show (cellAt K u c && cellsAt K us cs) = true from h)
    obtain ⟨v, r1, d1⟩ := cellAt_ok h1 F
    obtain ⟨vs, r2, d2⟩ := cellsAt_ok F h2
    exact ⟨v :: vs, .cons r1 r2, .cons d1 d2⟩
theorem rowAt_ok {K : PySem.W.Frag} {a : Addr} {cs : List Cell} (h : rowAt K a cs = true) (F : Hp) : Dp K F (.ref a) (bD cs) := by
  unfold rowAt at h
  split at h
  · rename_i o e
    unfold rowB at h
    split at h
    · rename_i n dd its ep sl
      obtain ⟨a1, h⟩ := and2 h
      obtain ⟨a2, a3⟩ := and2 h
      obtain rfl := of_decide_eq_true a1
      obtain ⟨vs, r, d⟩ := cellsAt_ok F a3
      exact .tup (.inr ⟨_, its, ep, e, rfl, rfl, of_decide_eq_true a2, r⟩) d
    · cases h
  · cases h
def exB (K : PySem.W.Frag) : Bool := errB K (He.ga K "BadBody") ["cells"] && (errB K (He.ga K "BadNumber") ["what", "number"] && (isiB K (He.ga K "Least") && rowAt K (He.ga K "AROUND") aroundL))
theorem fun_of {K : PySem.W.Frag} {x qual : Str} {sd : Stmt} {f : Addr} {fd : FuncData} (F : FunD K x qual (defArgs sd) (defBody sd) (defScope sd) [] [] f fd) : Fun K x qual sd f fd := by
  obtain ⟨oc, od, dV, kV, doc, pm, an, cdv, ct, osl, e1, e2, e3, e4, _⟩ := F.ex
  have e5 : dV = .none := by
    rcases e4 with z | z
    · exact z.2
    · exact absurd rfl z.1
  subst e5
  exact ⟨⟨oc, od, kV, doc, pm, an, cdv, ct, osl, e1, e2, e3⟩, F.kp⟩
abbrev s_is_whole : Stmt := top 7
def d_is_whole : He.DefD := ⟨("is_whole", none), "is_whole", "is_whole", defArgs s_is_whole, defBody s_is_whole, defScope s_is_whole, [], []⟩
abbrev s_is_between : Stmt := top 8
def d_is_between : He.DefD := ⟨("is_between", none), "is_between", "is_between", defArgs s_is_between, defBody s_is_between, defScope s_is_between, [], []⟩
abbrev s_is_cell : Stmt := top 9
def d_is_cell : He.DefD := ⟨("is_cell", none), "is_cell", "is_cell", defArgs s_is_cell, defBody s_is_cell, defScope s_is_cell, [], []⟩
abbrev s_check_cell : Stmt := top 11
def d_check_cell : He.DefD := ⟨("check_cell", none), "check_cell", "check_cell", defArgs s_check_cell, defBody s_check_cell, defScope s_check_cell, [], []⟩
abbrev s_beside : Stmt := top 12
def d_beside : He.DefD := ⟨("beside", none), "beside", "beside", defArgs s_beside, defBody s_beside, defScope s_beside, [], []⟩
abbrev s_taken_part : Stmt := top 13
def d_taken_part : He.DefD := ⟨("taken_part", none), "taken_part", "taken_part", defArgs s_taken_part, defBody s_taken_part, defScope s_taken_part, [], []⟩
abbrev s_parts_of : Stmt := top 14
def d_parts_of : He.DefD := ⟨("parts_of", none), "parts_of", "parts_of", defArgs s_parts_of, defBody s_parts_of, defScope s_parts_of, [], []⟩
abbrev s_hangs : Stmt := top 15
def d_hangs : He.DefD := ⟨("hangs", none), "hangs", "hangs", defArgs s_hangs, defBody s_hangs, defScope s_hangs, [], []⟩
abbrev s_is_body : Stmt := top 16
def d_is_body : He.DefD := ⟨("is_body", none), "is_body", "is_body", defArgs s_is_body, defBody s_is_body, defScope s_is_body, [], []⟩
abbrev s_is_free : Stmt := top 17
def d_is_free : He.DefD := ⟨("is_free", none), "is_free", "is_free", defArgs s_is_free, defBody s_is_free, defScope s_is_free, [], []⟩
abbrev s_free_squares : Stmt := top 18
def d_free_squares : He.DefD := ⟨("free_squares", none), "free_squares", "free_squares", defArgs s_free_squares, defBody s_free_squares, defScope s_free_squares, [], []⟩
abbrev s_frame_of : Stmt := top 19
def d_frame_of : He.DefD := ⟨("frame_of", none), "frame_of", "frame_of", defArgs s_frame_of, defBody s_frame_of, defScope s_frame_of, [], []⟩
abbrev s_moved : Stmt := top 20
def d_moved : He.DefD := ⟨("moved", none), "moved", "moved", defArgs s_moved, defBody s_moved, defScope s_moved, [], []⟩
abbrev s_shape_of : Stmt := top 21
def d_shape_of : He.DefD := ⟨("shape_of", none), "shape_of", "shape_of", defArgs s_shape_of, defBody s_shape_of, defScope s_shape_of, [], []⟩
abbrev s_check_body : Stmt := top 23
def d_check_body : He.DefD := ⟨("check_body", none), "check_body", "check_body", defArgs s_check_body, defBody s_check_body, defScope s_check_body, [], []⟩
abbrev s_supports_of : Stmt := top 26
def d_supports_of : He.DefD := ⟨("supports_of", none), "supports_of", "supports_of", defArgs s_supports_of, defBody s_supports_of, defScope s_supports_of, [], []⟩
abbrev s_squares_of : Stmt := top 27
def d_squares_of : He.DefD := ⟨("squares_of", none), "squares_of", "squares_of", defArgs s_squares_of, defBody s_squares_of, defScope s_squares_of, [], []⟩
abbrev s_kind_of : Stmt := top 28
def d_kind_of : He.DefD := ⟨("kind_of", none), "kind_of", "kind_of", defArgs s_kind_of, defBody s_kind_of, defScope s_kind_of, [], []⟩
abbrev s_moves_of : Stmt := top 29
def d_moves_of : He.DefD := ⟨("moves_of", none), "moves_of", "moves_of", defArgs s_moves_of, defBody s_moves_of, defScope s_moves_of, [], []⟩
abbrev s_done : Stmt := top 30
def d_done : He.DefD := ⟨("done", none), "done", "done", defArgs s_done, defBody s_done, defScope s_done, [], []⟩
abbrev s_corner_of : Stmt := top 34
def d_corner_of : He.DefD := ⟨("corner_of", none), "corner_of", "corner_of", defArgs s_corner_of, defBody s_corner_of, defScope s_corner_of, [], []⟩
abbrev s_check_number : Stmt := top 35
def d_check_number : He.DefD := ⟨("check_number", none), "check_number", "check_number", defArgs s_check_number, defBody s_check_number, defScope s_check_number, [], []⟩
abbrev s_followers : Stmt := top 36
def d_followers : He.DefD := ⟨("followers", none), "followers", "followers", defArgs s_followers, defBody s_followers, defScope s_followers, [], []⟩
abbrev s_spread : Stmt := top 37
def d_spread : He.DefD := ⟨("spread", none), "spread", "spread", defArgs s_spread, defBody s_spread, defScope s_spread, [], []⟩
abbrev s_least_plan : Stmt := top 38
def d_least_plan : He.DefD := ⟨("least_plan", none), "least_plan", "least_plan", defArgs s_least_plan, defBody s_least_plan, defScope s_least_plan, [], []⟩
abbrev s__law_pen : Stmt := top 40
def d__law_pen : He.DefD := ⟨("_law_pen", none), "_law_pen", "_law_pen", defArgs s__law_pen, defBody s__law_pen, defScope s__law_pen, [], []⟩
abbrev s__law_draw : Stmt := top 41
def d__law_draw : He.DefD := ⟨("_law_draw", none), "_law_draw", "_law_draw", defArgs s__law_draw, defBody s__law_draw, defScope s__law_draw, [], []⟩
abbrev s__law_pick : Stmt := top 42
def d__law_pick : He.DefD := ⟨("_law_pick", none), "_law_pick", "_law_pick", defArgs s__law_pick, defBody s__law_pick, defScope s__law_pick, [], []⟩
abbrev s__law_nb_beside : Stmt := top 43
def d__law_nb_beside : He.DefD := ⟨("_law_nb_beside", none), "_law_nb_beside", "_law_nb_beside", defArgs s__law_nb_beside, defBody s__law_nb_beside, defScope s__law_nb_beside, [], []⟩
abbrev s__law_nb_lots : Stmt := top 44
def d__law_nb_lots : He.DefD := ⟨("_law_nb_lots", none), "_law_nb_lots", "_law_nb_lots", defArgs s__law_nb_lots, defBody s__law_nb_lots, defScope s__law_nb_lots, [], []⟩
abbrev s__law_nb_free : Stmt := top 45
def d__law_nb_free : He.DefD := ⟨("_law_nb_free", none), "_law_nb_free", "_law_nb_free", defArgs s__law_nb_free, defBody s__law_nb_free, defScope s__law_nb_free, [], []⟩
abbrev s__law_nb_steps : Stmt := top 46
def d__law_nb_steps : He.DefD := ⟨("_law_nb_steps", none), "_law_nb_steps", "_law_nb_steps", defArgs s__law_nb_steps, defBody s__law_nb_steps, defScope s__law_nb_steps, [], []⟩
abbrev s__law_nb_both : Stmt := top 47
def d__law_nb_both : He.DefD := ⟨("_law_nb_both", none), "_law_nb_both", "_law_nb_both", defArgs s__law_nb_both, defBody s__law_nb_both, defScope s__law_nb_both, [], []⟩
abbrev s__law_nb_grown : Stmt := top 48
def d__law_nb_grown : He.DefD := ⟨("_law_nb_grown", none), "_law_nb_grown", "_law_nb_grown", defArgs s__law_nb_grown, defBody s__law_nb_grown, defScope s__law_nb_grown, [], []⟩
abbrev s__law_nb_crosses : Stmt := top 49
def d__law_nb_crosses : He.DefD := ⟨("_law_nb_crosses", none), "_law_nb_crosses", "_law_nb_crosses", defArgs s__law_nb_crosses, defBody s__law_nb_crosses, defScope s__law_nb_crosses, [], []⟩
abbrev s__law_nb_odd : Stmt := top 50
def d__law_nb_odd : He.DefD := ⟨("_law_nb_odd", none), "_law_nb_odd", "_law_nb_odd", defArgs s__law_nb_odd, defBody s__law_nb_odd, defScope s__law_nb_odd, [], []⟩
abbrev s__law_nb_shape : Stmt := top 51
def d__law_nb_shape : He.DefD := ⟨("_law_nb_shape", none), "_law_nb_shape", "_law_nb_shape", defArgs s__law_nb_shape, defBody s__law_nb_shape, defScope s__law_nb_shape, [], []⟩
abbrev s__law_nb_moves : Stmt := top 52
def d__law_nb_moves : He.DefD := ⟨("_law_nb_moves", none), "_law_nb_moves", "_law_nb_moves", defArgs s__law_nb_moves, defBody s__law_nb_moves, defScope s__law_nb_moves, [], []⟩
abbrev s__law_nb_layers : Stmt := top 53
def d__law_nb_layers : He.DefD := ⟨("_law_nb_layers", none), "_law_nb_layers", "_law_nb_layers", defArgs s__law_nb_layers, defBody s__law_nb_layers, defScope s__law_nb_layers, [], []⟩
abbrev s__law_refused : Stmt := top 54
def d__law_refused : He.DefD := ⟨("_law_refused", none), "_law_refused", "_law_refused", defArgs s__law_refused, defBody s__law_refused, defScope s__law_refused, [], []⟩
abbrev s__law_end : Stmt := top 55
def d__law_end : He.DefD := ⟨("_law_end", none), "_law_end", "_law_end", defArgs s__law_end, defBody s__law_end, defScope s__law_end, [], []⟩
abbrev s__law_drawn : Stmt := top 56
def d__law_drawn : He.DefD := ⟨("_law_drawn", none), "_law_drawn", "_law_drawn", defArgs s__law_drawn, defBody s__law_drawn, defScope s__law_drawn, [], []⟩
abbrev s_law : Stmt := top 57
def d_law : He.DefD := ⟨("law", none), "law", "law", defArgs s_law, defBody s_law, defScope s_law, [], []⟩
abbrev s_iBadBody : Stmt := mthS (top 4) 0
def d_iBadBody : He.DefD := ⟨("BadBody", some "__init__"), "__init__", "BadBody.__init__", defArgs s_iBadBody, defBody s_iBadBody, defScope s_iBadBody, [], []⟩
abbrev s_iBadNumber : Stmt := mthS (top 2) 0
def d_iBadNumber : He.DefD := ⟨("BadNumber", some "__init__"), "__init__", "BadNumber.__init__", defArgs s_iBadNumber, defBody s_iBadNumber, defScope s_iBadNumber, [], []⟩
abbrev s_iLeast : Stmt := mthS (top 33) 0
def d_iLeast : He.DefD := ⟨("Least", some "__init__"), "__init__", "Least.__init__", defArgs s_iLeast, defBody s_iLeast, defScope s_iLeast, [], []⟩
def fn : List He.DefD := [d_is_whole, d_is_between, d_is_cell, d_check_cell, d_beside, d_taken_part, d_parts_of, d_hangs, d_is_body, d_is_free, d_free_squares, d_frame_of, d_moved, d_shape_of, d_check_body, d_supports_of, d_squares_of, d_kind_of, d_moves_of, d_done, d_corner_of, d_check_number, d_followers, d_spread, d_least_plan, d__law_pen, d__law_draw, d__law_pick, d__law_nb_beside, d__law_nb_lots, d__law_nb_free, d__law_nb_steps, d__law_nb_both, d__law_nb_grown, d__law_nb_crosses, d__law_nb_odd, d__law_nb_shape, d__law_nb_moves, d__law_nb_layers, d__law_refused, d__law_end, d__law_drawn, d_law, d_iBadBody, d_iBadNumber, d_iLeast]
def fa : List He.Fa := [.glo "SlideError", .glo "BadNumber", .glo "BadCell", .glo "BadBody", .glo "NotThere", .glo "NoMove", .glo "is_whole", .glo "is_between", .glo "is_cell", .glo "check_cell", .glo "beside", .glo "taken_part", .glo "parts_of", .glo "hangs", .glo "is_body", .glo "is_free", .glo "free_squares", .glo "frame_of", .glo "moved", .glo "shape_of", .glo "check_body", .glo "AROUND", .glo "supports_of", .glo "squares_of", .glo "kind_of", .glo "moves_of", .glo "done", .glo "Least", .glo "corner_of", .glo "check_number", .glo "followers", .glo "spread", .glo "least_plan", .glo "_law_pen", .glo "_law_draw", .glo "_law_pick", .glo "_law_nb_beside", .glo "_law_nb_lots", .glo "_law_nb_free", .glo "_law_nb_steps", .glo "_law_nb_both", .glo "_law_nb_grown", .glo "_law_nb_crosses", .glo "_law_nb_odd", .glo "_law_nb_shape", .glo "_law_nb_moves", .glo "_law_nb_layers", .glo "_law_refused", .glo "_law_end", .glo "_law_drawn", .glo "law", .free "len", .free "isinstance", .free "int", .free "bool", .free "tuple", .free "list", .free "sorted", .free "all", .free "zip", .free "abs", .free "min", .free "max", .free "dict", .free "set", .free "repr", .int "MOST" 7, .cls "Least", .noat "Least" "plan", .noat "Least" "by", .mkr "Least", .exm "BadBody" "BadBody" true, .exm "BadNumber" "BadBody" false, .exm "BadNumber" "BadNumber" true]
def lo1 : List Str := ["SlideError", "BadNumber", "BadCell", "BadBody", "NotThere", "NoMove", "is_whole", "is_between", "is_cell", "check_cell", "beside", "taken_part", "parts_of", "hangs", "is_body", "is_free", "free_squares", "frame_of", "moved", "shape_of", "check_body", "AROUND", "supports_of", "squares_of", "kind_of"]
def lo2 : List Str := ["moves_of", "done", "MOST", "Least", "corner_of", "check_number", "followers", "spread", "least_plan", "_law_pen", "_law_draw", "_law_pick", "_law_nb_beside", "_law_nb_lots", "_law_nb_free", "_law_nb_steps", "_law_nb_both", "_law_nb_grown", "_law_nb_crosses", "_law_nb_odd", "_law_nb_shape", "_law_nb_moves", "_law_nb_layers", "_law_refused", "_law_end", "_law_drawn"]
def lo : List Str := lo1 ++ lo2
abbrev R : PySem.W.OpenRow := PySem.W.OpenLaw.row PySem.Challenge.rw_slideinto_k40_whole_least_plans
abbrev hk : PySem.W.Hook := He.hookX 5 fa fn [] [] exB
def ob (s : PySem.W.SharedT) : He.AlX := He.obsX 5 fa fn [] [] exB (HandSHeadRun.getT s)
theorem ob_eq (s : PySem.W.SharedT) : ob s = hk.obs s.abs := He.obsX_eq (HandSHeadRun.getT_eq s)
theorem run (w : World) : HandSHeadRun.RunEq R (PySem.W.view R.prog [57]) hk ob 20000 lo w := by
  intro os
  kernel_rfl
section
variable {K : PySem.W.Frag} {h : Heap} {mg : Str → Option Value}
theorem df_of {d : He.DefD} {x : Str} {i j l : Nat} (kin : K.In h) (Gn : h.Ns mainGlobals mg) (c : He.SaysD fa fn K) (e1 : fn[j]? = some ⟨(x, none), x, x, defArgs (top i), defBody (top i), defScope (top i), [], []⟩) (e2 : fa[l]? = some (.glo x)) : Df K mg x i := by
  obtain ⟨fd, F⟩ := c.def_ j e1
  exact ⟨He.ga K x, fd, fun_of F, He.glo_ok kin Gn (c.fact l e2)⟩
theorem txt_of (kin : K.In h) (Gn : h.Ns mainGlobals mg) (c : He.SaysD fa fn K) : Txt K mg where
  is_whole := df_of (d := d_is_whole) (j := 0) (l := 6) kin Gn c rfl rfl
  is_between := df_of (d := d_is_between) (j := 1) (l := 7) kin Gn c rfl rfl
  is_cell := df_of (d := d_is_cell) (j := 2) (l := 8) kin Gn c rfl rfl
  check_cell := df_of (d := d_check_cell) (j := 3) (l := 9) kin Gn c rfl rfl
  beside := df_of (d := d_beside) (j := 4) (l := 10) kin Gn c rfl rfl
  taken_part := df_of (d := d_taken_part) (j := 5) (l := 11) kin Gn c rfl rfl
  parts_of := df_of (d := d_parts_of) (j := 6) (l := 12) kin Gn c rfl rfl
  hangs := df_of (d := d_hangs) (j := 7) (l := 13) kin Gn c rfl rfl
  is_body := df_of (d := d_is_body) (j := 8) (l := 14) kin Gn c rfl rfl
  is_free := df_of (d := d_is_free) (j := 9) (l := 15) kin Gn c rfl rfl
  free_squares := df_of (d := d_free_squares) (j := 10) (l := 16) kin Gn c rfl rfl
  frame_of := df_of (d := d_frame_of) (j := 11) (l := 17) kin Gn c rfl rfl
  moved := df_of (d := d_moved) (j := 12) (l := 18) kin Gn c rfl rfl
  shape_of := df_of (d := d_shape_of) (j := 13) (l := 19) kin Gn c rfl rfl
  check_body := df_of (d := d_check_body) (j := 14) (l := 20) kin Gn c rfl rfl
  supports_of := df_of (d := d_supports_of) (j := 15) (l := 22) kin Gn c rfl rfl
  squares_of := df_of (d := d_squares_of) (j := 16) (l := 23) kin Gn c rfl rfl
  kind_of := df_of (d := d_kind_of) (j := 17) (l := 24) kin Gn c rfl rfl
  moves_of := df_of (d := d_moves_of) (j := 18) (l := 25) kin Gn c rfl rfl
  done := df_of (d := d_done) (j := 19) (l := 26) kin Gn c rfl rfl
  corner_of := df_of (d := d_corner_of) (j := 20) (l := 28) kin Gn c rfl rfl
  check_number := df_of (d := d_check_number) (j := 21) (l := 29) kin Gn c rfl rfl
  followers := df_of (d := d_followers) (j := 22) (l := 30) kin Gn c rfl rfl
  spread := df_of (d := d_spread) (j := 23) (l := 31) kin Gn c rfl rfl
  least_plan := df_of (d := d_least_plan) (j := 24) (l := 32) kin Gn c rfl rfl
  law_pen := df_of (d := d__law_pen) (j := 25) (l := 33) kin Gn c rfl rfl
  law_draw := df_of (d := d__law_draw) (j := 26) (l := 34) kin Gn c rfl rfl
  law_pick := df_of (d := d__law_pick) (j := 27) (l := 35) kin Gn c rfl rfl
  law_nb_beside := df_of (d := d__law_nb_beside) (j := 28) (l := 36) kin Gn c rfl rfl
  law_nb_lots := df_of (d := d__law_nb_lots) (j := 29) (l := 37) kin Gn c rfl rfl
  law_nb_free := df_of (d := d__law_nb_free) (j := 30) (l := 38) kin Gn c rfl rfl
  law_nb_steps := df_of (d := d__law_nb_steps) (j := 31) (l := 39) kin Gn c rfl rfl
  law_nb_both := df_of (d := d__law_nb_both) (j := 32) (l := 40) kin Gn c rfl rfl
  law_nb_grown := df_of (d := d__law_nb_grown) (j := 33) (l := 41) kin Gn c rfl rfl
  law_nb_crosses := df_of (d := d__law_nb_crosses) (j := 34) (l := 42) kin Gn c rfl rfl
  law_nb_odd := df_of (d := d__law_nb_odd) (j := 35) (l := 43) kin Gn c rfl rfl
  law_nb_shape := df_of (d := d__law_nb_shape) (j := 36) (l := 44) kin Gn c rfl rfl
  law_nb_moves := df_of (d := d__law_nb_moves) (j := 37) (l := 45) kin Gn c rfl rfl
  law_nb_layers := df_of (d := d__law_nb_layers) (j := 38) (l := 46) kin Gn c rfl rfl
  law_refused := df_of (d := d__law_refused) (j := 39) (l := 47) kin Gn c rfl rfl
  law_end := df_of (d := d__law_end) (j := 40) (l := 48) kin Gn c rfl rfl
  law_drawn := df_of (d := d__law_drawn) (j := 41) (l := 49) kin Gn c rfl rfl
  n_len := He.free_ok kin Gn (c.fact 51 (f := .free "len") rfl)
  n_isinstance := He.free_ok kin Gn (c.fact 52 (f := .free "isinstance") rfl)
  n_int := He.free_ok kin Gn (c.fact 53 (f := .free "int") rfl)
  n_bool := He.free_ok kin Gn (c.fact 54 (f := .free "bool") rfl)
  n_tuple := He.free_ok kin Gn (c.fact 55 (f := .free "tuple") rfl)
  n_list := He.free_ok kin Gn (c.fact 56 (f := .free "list") rfl)
  n_sorted := He.free_ok kin Gn (c.fact 57 (f := .free "sorted") rfl)
  n_all := He.free_ok kin Gn (c.fact 58 (f := .free "all") rfl)
  n_zip := He.free_ok kin Gn (c.fact 59 (f := .free "zip") rfl)
  n_abs := He.free_ok kin Gn (c.fact 60 (f := .free "abs") rfl)
  n_min := He.free_ok kin Gn (c.fact 61 (f := .free "min") rfl)
  n_max := He.free_ok kin Gn (c.fact 62 (f := .free "max") rfl)
  n_dict := He.free_ok kin Gn (c.fact 63 (f := .free "dict") rfl)
  n_set := He.free_ok kin Gn (c.fact 64 (f := .free "set") rfl)
  n_repr := He.free_ok kin Gn (c.fact 65 (f := .free "repr") rfl)
  most := He.int_ok kin Gn (c.fact 66 (f := .int "MOST" 7) rfl)
theorem all_of {P : Program} {w : World} {f : Addr} (kin : K.In h) (Gn : h.Ns mainGlobals mg) (hf : mg "law" = some (.ref f)) (sx : He.SaysX fa fn [] [] exB w h K) : ∃ fd : FuncData, (∀ (s : Shared) (u : Value), BindsTo s fd ⟨[u], []⟩ [("_law_script", u)]) ∧
    ∀ base : Heap, K.In base → base.Ns mainGlobals mg → FnG P w K mg base 21 f fd ["_law_script"] (spLaw K) := by
  have c : He.SaysD fa fn K := sx.t.d
  obtain ⟨b1, q⟩ := and2 sx.more
  obtain ⟨b2, q⟩ := and2 q
  obtain ⟨b3, b4⟩ := and2 q
  obtain ⟨fd, F⟩ := c.def_ 42 (d := d_law) rfl
  have e := hf.symm.trans (He.glo_ok kin Gn (c.fact 50 (f := .glo "law") rfl))
  cases e
  have F2 : Fun K "law" "law" (top 57) (He.ga K "law") fd := fun_of F
  have bd := FunD.bindsA (ps := ["_law_script"]) F fun _ _ _ _ _ _ us hl => match us, hl with | [_], _ => rfl
  obtain ⟨fdB, FB⟩ := c.def_ 43 (d := d_iBadBody) rfl
  obtain ⟨fdN, FN⟩ := c.def_ 44 (d := d_iBadNumber) rfl
  obtain ⟨fdL, FL⟩ := c.def_ 45 (d := d_iLeast) rfl
  have B : BodyX K mg (He.ga K "BadBody") := errB_ok b1 (He.glo_ok kin Gn (c.fact 3 (f := .glo "BadBody") rfl)) (fun_of FB)
  have N : NumX K mg (He.ga K "BadNumber") := errB_ok b2 (He.glo_ok kin Gn (c.fact 1 (f := .glo "BadNumber") rfl)) (fun_of FN)
  have Cl : Cls K (He.ga K "Least") := He.cls_ok (c.fact 67 (f := .cls "Least") rfl)
  have L : LeastF K mg (He.ga K "Least") := ⟨He.glo_ok kin Gn (c.fact 27 (f := .glo "Least") rfl), Cl, He.noat_ok (c.fact 68 (f := .noat "Least" "plan") rfl), He.noat_ok (c.fact 69 (f := .noat "Least" "by") rfl), _, fdL, He.mkr_ok (c.fact 70 (f := .mkr "Least") rfl), fun_of FL⟩
  have A : Arnd K mg := ⟨_, He.glo_ok kin Gn (c.fact 21 (f := .glo "AROUND") rfl), fun F => rowAt_ok b4 F⟩
  have X : ExmF K (He.ga K "BadBody") (He.ga K "BadNumber") := ⟨He.exm_ok (c.fact 71 (f := .exm "BadBody" "BadBody" true) rfl), He.exm_ok (c.fact 72 (f := .exm "BadNumber" "BadBody" false) rfl), He.exm_ok (c.fact 73 (f := .exm "BadNumber" "BadNumber" true) rfl)⟩
  exact ⟨fd, fun s u => bd s [u] rfl, fun base _ _ => h_law (txt_of kin Gn c) A L (isiB_ok b3 Cl) B N X F2⟩
end
end G
open PySem PySem.W PySem.Calls PyProof.Rows
theorem PySem.Challenge.cw_slideinto_k40_whole_least_plans_holds : PySem.Challenge.rw_slideinto_k40_whole_least_plans.Holds := by
  w_on; o_law
  refine HandSHeadRun.head_any (r := OpenLaw.row PySem.Challenge.rw_slideinto_k40_whole_least_plans) (q := view (OpenLaw.row PySem.Challenge.rw_slideinto_k40_whole_least_plans).prog [57]) (H := G.hk) (ob := G.ob) (M := 20000) (loose := G.lo) (d := HandSHeadRun.topDef (OpenLaw.row PySem.Challenge.rw_slideinto_k40_whole_least_plans).prog 57) (kwd := []) G.ob_eq
    (by kernel_rfl) (fun s => by kernel_rfl) G.run (by kernel_rfl) (by kernel_rfl) (by kernel_rfl) (by rfl) (by first | assumption | decide +kernel) (by decide +kernel) ⟨rfl, rfl, rfl, rfl, rfl, by decide +kernel⟩ ?hw ?hc
  case hw => w_witness2
  case hc =>
    refine G.walk_G (l := PySem.Challenge.rw_slideinto_k40_whole_least_plans) (n := 63) (k := 21) (x := "_law_script") rfl (by decide) (by kernel_rfl) ⟨rfl, by decide, by decide⟩ ?_
    intro w mg fa h Y Gn hmg0
    obtain ⟨K, kin, sx⟩ := Y
    have hmg : mg ("law" : PySem.Str) = some (.ref fa) := by
      have e : (HandSHeadRun.topDef (OpenLaw.row PySem.Challenge.rw_slideinto_k40_whole_least_plans).prog 57).name = ("law" : PySem.Str) := by kernel_rfl
      rw [← e]
      exact hmg0
    obtain ⟨fd, bd, hF⟩ := G.all_of (P := (PySem.Challenge.rw_slideinto_k40_whole_least_plans).prog) (w := w) kin Gn hmg sx
    exact ⟨K, fd, G.spLaw K, kin, bd, fun T p ns hl sq => ⟨ns, [], hl, .cons (.lst sq (G.dp_ints_all _)) .nil, fun a z => (nomatch z), fun v H' φ e _ z => by
      subst e
      exact G.dp_bool z⟩, hF⟩

