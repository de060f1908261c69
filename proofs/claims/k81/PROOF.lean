import PyProof.Rows.All
import Wide.All
import OpenK.AllK
import Wide.FinOn
import HandS.ForMost
import HandS.Deep
import HandS.TupAny
import HandS.TupMul
import HandS.Rev
import HandS.RevRange
import HandS.Conv
import HandS.IsInst
import HandS.Lambda
import HandS.EndTab
import HandS.Strs
import HandS.TupLe
import HandS.More
import HandS.Style
import KE.SortKeyHeap
import KE.DataMinMax
import KE.KDictKeyed
import KE.DatumIndex
import KE.GoesEnum
import HandS.SortInts
import HandS.FStrTup
import PyProof.ReprRoads
import KE.KLam
import HandS.Ends
import HandS.EndBits
import KE.KNestM
import PySem.Challenge.RW_slotwise_k81_whole_conflicts_cross_corre
set_option Elab.async false
set_option linter.all false
set_option maxRecDepth 100000
set_option maxHeartbeats 4000000
/-! ## K81Math -/
namespace K81

/-! ### families, weights -/
structure Vr where
  plug : Nat
  slots : List Nat
  price : Option Nat
deriving DecidableEq

structure Fm where
  count : Nat
  roots : List Nat
  vars : List Vr

structure Fm.Wf (f : Fm) : Prop where
  pos : 1 ≤ f.count
  cnt : f.count ≤ 4
  vars : ∀ v ∈ f.vars, v.plug < f.count ∧ (∀ s ∈ v.slots, s < f.count) ∧ v.slots.length ≤ 3
  roots : ∀ r ∈ f.roots, r < f.count
  nv : f.vars.length ≤ 11
  nr : f.roots.length ≤ 4

abbrev Wt := Nat × Nat
def WLe (a b : Wt) : Prop := a.1 < b.1 ∨ (a.1 = b.1 ∧ a.2 ≤ b.2)
def WLt (a b : Wt) : Prop := a.1 < b.1 ∨ (a.1 = b.1 ∧ a.2 < b.2)
instance (a b : Wt) : Decidable (WLt a b) := inferInstanceAs (Decidable (_ ∨ _))
instance (a b : Wt) : Decidable (WLe a b) := inferInstanceAs (Decidable (_ ∨ _))
theorem WLe.refl (a : Wt) : WLe a a := .inr ⟨rfl, Nat.le_refl _⟩
theorem WLe.trans {a b c : Wt} (h : WLe a b) (h' : WLe b c) : WLe a c := by unfold WLe at *; omega
theorem WLe.anti {a b : Wt} (h : WLe a b) (h' : WLe b a) : a = b := by
  unfold WLe at *
  exact Prod.ext (by omega) (by omega)
theorem WLe.of_not {a b : Wt} (h : ¬ WLt a b) : WLe b a := by unfold WLe WLt at *; omega
theorem WLt.le {a b : Wt} (h : WLt a b) : WLe a b := by unfold WLe WLt at *; omega
theorem WLt.not {a b : Wt} (h : WLt a b) : ¬ WLe b a := by unfold WLe WLt at *; omega
theorem WLt.trans {a b c : Wt} (h : WLt a b) (h' : WLt b c) : WLt a c := by unfold WLt at *; omega
theorem WLt.irrefl (a : Wt) : ¬ WLt a a := by unfold WLt; omega

/-- none is the greatest -/
def OLe (x y : Option Wt) : Prop := ∀ b, y = some b → ∃ a, x = some a ∧ WLe a b
theorem OLe.refl (x : Option Wt) : OLe x x := fun b e => ⟨b, e, .refl b⟩
theorem OLe.trans {x y z : Option Wt} (h : OLe x y) (h' : OLe y z) : OLe x z := fun c e => by
  obtain ⟨b, e1, l1⟩ := h' c e
  obtain ⟨a, e2, l2⟩ := h b e1
  exact ⟨a, e2, l2.trans l1⟩
theorem OLe.anti {x y : Option Wt} (h : OLe x y) (h' : OLe y x) : x = y := by
  cases x with
  | none =>
    cases y with
    | none => rfl
    | some b => obtain ⟨a, e, _⟩ := h b rfl; cases e
  | some a =>
    obtain ⟨b, e, l⟩ := h' a rfl
    subst e
    obtain ⟨a', e', l'⟩ := h b rfl
    cases e'
    rw [l'.anti l]
theorem OLe.top (x : Option Wt) : OLe x none := fun b e => nomatch e

def sumO : List (Option Wt) → Wt → Option Wt
  | [], a => some a
  | none :: _, _ => none
  | some x :: r, a => sumO r (a.1 + x.1, a.2 + x.2)
theorem sumO_mono : ∀ {l m : List (Option Wt)} {a b : Wt}, l.length = m.length → (∀ i : Nat, i < l.length → OLe (l.getD i none) (m.getD i none)) → WLe a b → OLe (sumO l a) (sumO m b)
  | [], [], a, b, _, _, h => fun c e => ⟨a, rfl, by cases e; exact h⟩
  | [], _ :: _, _, _, h, _, _ => by simp at h
  | _ :: _, [], _, _, h, _, _ => by simp at h
  | x :: l, y :: m, a, b, hl, h, hab => by
    have h0 : OLe x y := h 0 (by simp)
    have ht : ∀ i : Nat, i < l.length → OLe (l.getD i none) (m.getD i none) := fun i hi => by
      have q := h (i + 1) (by simp only [List.length_cons]; omega)
      simpa using q
    cases y with
    | none => exact OLe.top _
    | some y =>
      obtain ⟨x', e, l'⟩ := h0 y rfl
      subst e
      exact sumO_mono (l := l) (m := m) (by simpa using hl) ht (by unfold WLe at *; simp only; omega)
/-- each part of a sum, and what it weighs -/
theorem sumO_parts : ∀ {l : List (Option Wt)} {a x : Wt}, sumO l a = some x → (∀ y ∈ l, ∃ z, y = some z ∧ a.1 + z.1 ≤ x.1 ∧ a.2 + z.2 ≤ x.2) ∧ a.1 ≤ x.1 ∧ a.2 ≤ x.2
  | [], a, x, h => by
    cases h
    exact ⟨fun y hy => (nomatch hy), Nat.le_refl _, Nat.le_refl _⟩
  | none :: _, a, x, h => by cases h
  | some y :: r, a, x, h => by
    obtain ⟨h1, h2, h3⟩ := sumO_parts (l := r) h
    simp only at h2 h3
    refine ⟨fun z hz => ?_, by omega, by omega⟩
    rcases List.mem_cons.mp hz with e | hz
    · subst e
      exact ⟨y, rfl, h2, h3⟩
    · obtain ⟨u, e, q1, q2⟩ := h1 z hz
      exact ⟨u, e, by simp only at q1; omega, by simp only at q2; omega⟩
theorem sumO_none : ∀ {l : List (Option Wt)} {a : Wt}, none ∈ l → sumO l a = none
  | none :: _, _, _ => rfl
  | some y :: r, a, h => by
    rcases List.mem_cons.mp h with e | h
    · cases e
    · exact sumO_none (l := r) h
theorem sumO_all : ∀ {l : List Wt} {a : Wt}, sumO (l.map some) a = some (a.1 + (l.map (·.1)).sum, a.2 + (l.map (·.2)).sum)
  | [], a => by simp [sumO]
  | y :: r, a => by
    show sumO (r.map some) _ = _
    rw [sumO_all (l := r)]
    simp only [List.map_cons, List.sum_cons]
    exact congrArg some (Prod.ext (by simp only; omega) (by simp only; omega))
theorem sumO_append : ∀ {l m : List (Option Wt)} {a : Wt}, sumO (l ++ m) a = (sumO l a).bind (sumO m)
  | [], m, a => rfl
  | none :: _, m, a => rfl
  | some y :: r, m, a => by
    show sumO (r ++ m) _ = (sumO r _).bind _
    exact sumO_append

/-- the weight of a variant by a table -/
def vw (g : Nat → Option Wt) (v : Vr) : Option Wt := match v.price with
  | none => none
  | some p => sumO (v.slots.map g) (p, 1)
theorem getD_map {α β : Type} (f : α → β) (d : β) (d' : α) : ∀ (l : List α) (i : Nat), i < l.length → (l.map f).getD i d = f (l.getD i d')
  | [], i, h => by simp at h
  | _ :: _, 0, _ => rfl
  | _ :: r, i + 1, h => by
    have := getD_map f d d' r i (by simpa using h)
    simpa using this
theorem vw_mono {g h : Nat → Option Wt} {v : Vr} (q : ∀ s ∈ v.slots, OLe (g s) (h s)) : OLe (vw g v) (vw h v) := by
  unfold vw
  cases v.price with
  | none => exact OLe.top _
  | some p =>
    refine sumO_mono (by simp) (fun i hi => ?_) (.refl _)
    have hi' : i < v.slots.length := by simpa using hi
    rw [getD_map g none 0 _ _ hi', getD_map h none 0 _ _ hi']
    refine q _ ?_
    rw [List.getD_eq_getElem?_getD, List.getElem?_eq_getElem hi']
    exact List.getElem_mem hi'
theorem vw_congr {g h : Nat → Option Wt} {v : Vr} (q : ∀ s ∈ v.slots, g s = h s) : vw g v = vw h v := by
  unfold vw
  rw [List.map_congr_left q]
theorem vw_slots {g : Nat → Option Wt} {v : Vr} {x : Wt} (h : vw g v = some x) : ∀ s ∈ v.slots, ∃ y, g s = some y ∧ WLt y x := fun s hs => by
  unfold vw at h
  cases hp : v.price with
  | none => rw [hp] at h; cases h
  | some p =>
    rw [hp] at h
    obtain ⟨h1, _⟩ := sumO_parts h
    obtain ⟨z, e, q1, q2⟩ := h1 (g s) (List.mem_map.mpr ⟨s, hs, rfl⟩)
    exact ⟨z, e, by unfold WLt; simp only at q1 q2; omega⟩
theorem vw_pos {g : Nat → Option Wt} {v : Vr} {x : Wt} (h : vw g v = some x) : 1 ≤ x.2 := by
  unfold vw at h
  cases hp : v.price with
  | none => rw [hp] at h; cases h
  | some p =>
    rw [hp] at h
    obtain ⟨_, _, h3⟩ := sumO_parts h
    exact h3

/-! ### the least weights: the fixpoint -/
structure IsFix (f : Fm) (L : Nat → Option Wt) : Prop where
  closed : ∀ v ∈ f.vars, OLe (L v.plug) (vw L v)
  att : ∀ s y, L s = some y → ∃ v ∈ f.vars, v.plug = s ∧ vw L v = some y

def TrH (f : Fm) : Nat → Nat → Wt → Prop
  | 0, _, _ => False
  | h + 1, s, w => ∃ v ∈ f.vars, v.plug = s ∧ ∃ g : Nat → Option Wt, (∀ t ∈ v.slots, ∀ y, g t = some y → TrH f h t y) ∧ vw g v = some w
theorem TrH.mono {f : Fm} : ∀ {h h' : Nat} {s : Nat} {w : Wt}, h ≤ h' → TrH f h s w → TrH f h' s w
  | 0, _, _, _, _, x => x.elim
  | h + 1, 0, _, _, l, _ => by omega
  | h + 1, h' + 1, s, w, l, x => by
    obtain ⟨v, hv, e, g, q, z⟩ := x
    exact ⟨v, hv, e, g, fun t ht y hy => TrH.mono (by omega) (q t ht y hy), z⟩
theorem nat_min (P : Nat → Prop) : ∀ n, P n → ∃ m, P m ∧ ∀ k, P k → m ≤ k := fun n => by
  induction n using Nat.strongRecOn with
  | ind n ih =>
    intro h
    by_cases q : ∃ k, k < n ∧ P k
    · obtain ⟨k, l, hk⟩ := q
      exact ih k l hk
    · exact ⟨n, h, fun k hk => Nat.le_of_not_lt fun l => q ⟨k, l, hk⟩⟩
theorem wt_min (P : Wt → Prop) (h : ∃ w, P w) : ∃ w, P w ∧ ∀ u, P u → WLe w u := by
  obtain ⟨w, hw⟩ := h
  obtain ⟨a, ⟨b, hab⟩, ha⟩ := nat_min (fun a => ∃ b, P (a, b)) w.1 ⟨w.2, hw⟩
  obtain ⟨c, hc, hc'⟩ := nat_min (fun b => P (a, b)) b hab
  refine ⟨(a, c), hc, fun u hu => ?_⟩
  have h1 := ha u.1 ⟨u.2, hu⟩
  by_cases e : a = u.1
  · have h2 := hc' u.2 (by rw [e]; exact hu)
    exact .inr ⟨e, h2⟩
  · exact .inl (by simp only; omega)
theorem max_all {P : Nat → Nat → Prop} (hm : ∀ t h h', h ≤ h' → P t h → P t h') : ∀ l : List Nat, (∀ t ∈ l, ∃ h, P t h) → ∃ h, ∀ t ∈ l, P t h
  | [], _ => ⟨0, fun t ht => by cases ht⟩
  | a :: l, q => by
    obtain ⟨h1, p1⟩ := q a List.mem_cons_self
    obtain ⟨h2, p2⟩ := max_all hm l fun t ht => q t (List.mem_cons_of_mem _ ht)
    refine ⟨h1 + h2, fun t ht => ?_⟩
    rcases List.mem_cons.mp ht with e | ht
    · subst e; exact hm _ _ _ (by omega) p1
    · exact hm _ _ _ (by omega) (p2 t ht)
theorem exists_fix (f : Fm) : ∃ L, IsFix f L := by
  have dec : ∀ s, ∃ o : Option Wt, (∀ y, o = some y → (∃ h, TrH f h s y) ∧ ∀ h u, TrH f h s u → WLe y u) ∧ (o = none → ∀ h u, ¬ TrH f h s u) := fun s => by
    by_cases q : ∃ w, ∃ h, TrH f h s w
    · obtain ⟨w, hw, hm⟩ := wt_min _ q
      exact ⟨some w, fun y e => (by cases e; exact ⟨hw, fun h u x => hm u ⟨h, x⟩⟩), fun e => (nomatch e)⟩
    · exact ⟨none, fun y e => (nomatch e), fun _ h u x => q ⟨u, h, x⟩⟩
  let L : Nat → Option Wt := fun s => (dec s).choose
  have h1 : ∀ s y, L s = some y → (∃ h, TrH f h s y) ∧ ∀ h u, TrH f h s u → WLe y u := fun s => (dec s).choose_spec.1
  have h2 : ∀ s, L s = none → ∀ h u, ¬ TrH f h s u := fun s => (dec s).choose_spec.2
  have closed : ∀ v ∈ f.vars, OLe (L v.plug) (vw L v) := fun v hv b hb => by
    have hs := vw_slots hb
    obtain ⟨H, hH⟩ := max_all (P := fun t h => ∀ y, L t = some y → TrH f h t y) (fun t h h' l p y e => (p y e).mono l) v.slots fun t ht => by
      obtain ⟨y, e, _⟩ := hs t ht
      obtain ⟨⟨h, x⟩, _⟩ := h1 t y e
      exact ⟨h, fun y' e' => by rw [e] at e'; cases e'; exact x⟩
    have x : TrH f (H + 1) v.plug b := ⟨v, hv, rfl, L, fun t ht y e => hH t ht y e, hb⟩
    cases q : L v.plug with
    | none => exact (h2 _ q _ _ x).elim
    | some a => exact ⟨a, rfl, (h1 _ a q).2 _ _ x⟩
  refine ⟨L, closed, fun s y e => ?_⟩
  obtain ⟨⟨h, x⟩, hm⟩ := h1 s y e
  cases h with
  | zero => exact x.elim
  | succ h =>
    obtain ⟨v, hv, es, g, hg, hw⟩ := x
    have le : OLe (vw L v) (vw g v) := vw_mono fun t ht b hb => by
      have tr := hg t ht b hb
      cases q : L t with
      | none => exact (h2 _ q _ _ tr).elim
      | some a => exact ⟨a, rfl, (h1 _ a q).2 _ _ tr⟩
    obtain ⟨y', e', l'⟩ := le y hw
    obtain ⟨a, ea, la⟩ := closed v hv y' e'
    rw [es, e] at ea
    cases ea
    exact ⟨v, hv, es, by rw [e', l'.anti la]⟩
noncomputable def least (f : Fm) : Nat → Option Wt := (exists_fix f).choose
theorem least_fix (f : Fm) : IsFix f (least f) := (exists_fix f).choose_spec

/-! ### ranks -/
theorem filter_le {α : Type} {p q : α → Bool} (h : ∀ x, p x = true → q x = true) : ∀ l : List α, (l.filter p).length ≤ (l.filter q).length
  | [] => Nat.le_refl _
  | x :: l => by
    have ih := filter_le h l
    rw [List.filter_cons, List.filter_cons]
    by_cases hp : p x = true
    · rw [if_pos hp, if_pos (h x hp)]
      simp only [List.length_cons]; omega
    · rw [if_neg hp]
      split
      · simp only [List.length_cons]; omega
      · exact ih
theorem filter_lt {α : Type} {p q : α → Bool} (h : ∀ x, p x = true → q x = true) : ∀ {l : List α} {t : α}, t ∈ l → p t = false → q t = true → (l.filter p).length < (l.filter q).length
  | [], _, ht, _, _ => by cases ht
  | x :: l, t, ht, hp, hq => by
    rw [List.filter_cons, List.filter_cons]
    rcases List.mem_cons.mp ht with e | ht
    · subst e
      rw [if_neg (by rw [hp]; decide), if_pos hq]
      have := filter_le h l
      simp only [List.length_cons]; omega
    · have ih := filter_lt h ht hp hq
      by_cases hx : p x = true
      · rw [if_pos hx, if_pos (h x hx)]
        simp only [List.length_cons]; omega
      · rw [if_neg hx]
        split
        · simp only [List.length_cons]; omega
        · exact ih
def olt (x y : Option Wt) : Bool := match x, y with
  | some a, some b => decide (WLt a b)
  | _, _ => false
def rank (n : Nat) (L : Nat → Option Wt) (s : Nat) : Nat := ((List.range n).filter fun t => olt (L t) (L s)).length
theorem olt_some {a b : Wt} : olt (some a) (some b) = decide (WLt a b) := rfl
theorem rank_lt {n : Nat} {L : Nat → Option Wt} {s t : Nat} {x y : Wt} (ht : t < n) (hs : L s = some x) (hy : L t = some y) (l : WLt y x) : rank n L t < rank n L s := by
  unfold rank
  refine filter_lt (t := t) (fun u hu => ?_) (List.mem_range.mpr ht) ?_ ?_
  · rw [hs]
    rw [hy] at hu
    cases q : L u with
    | none => rw [q] at hu; cases hu
    | some z =>
      rw [q, olt_some] at hu
      rw [olt_some]
      exact decide_eq_true ((of_decide_eq_true hu).trans l)
  · rw [hy, olt_some]
    exact decide_eq_false (WLt.irrefl y)
  · rw [hs, hy, olt_some]
    exact decide_eq_true l
theorem rank_bound {n : Nat} {L : Nat → Option Wt} {s : Nat} (hs : s < n) : rank n L s < n := by
  have q := filter_lt (p := fun t => olt (L t) (L s)) (q := fun _ => true) (fun _ _ => rfl) (List.mem_range.mpr hs)
    (by cases h : L s with
      | none => rfl
      | some x => rw [olt_some]; exact decide_eq_false (WLt.irrefl x)) rfl
  unfold rank
  have e : ((List.range n).filter fun _ => true).length = n := by rw [List.filter_eq_self.mpr (fun _ _ => rfl), List.length_range]
  omega

/-! ### tables on the way to the fixpoint -/
/-- what stands is the weight of something -/
def Sound (L w : Nat → Option Wt) : Prop := ∀ s, OLe (L s) (w s)
/-- the states of rank below i are done -/
def Conv (n : Nat) (L : Nat → Option Wt) (i : Nat) (w : Nat → Option Wt) : Prop := ∀ s, s < n → rank n L s < i → OLe (w s) (L s)
theorem Sound.top (L : Nat → Option Wt) : Sound L fun _ => none := fun s => OLe.top _
theorem Conv.zero (n : Nat) (L w : Nat → Option Wt) : Conv n L 0 w := fun s _ h => absurd h (by omega)
theorem Conv.done {n : Nat} {L w : Nat → Option Wt} (h : Conv n L n w) (hs : Sound L w) : ∀ s, s < n → w s = L s := fun s l => (h s l (rank_bound l)).anti (hs s)
section
variable {f : Fm} {L w w' : Nat → Option Wt}
theorem sound_vw (F : IsFix f L) (hs : Sound L w) {v : Vr} (hv : v ∈ f.vars) : OLe (L v.plug) (vw w v) := (F.closed v hv).trans (vw_mono fun s _ => hs s)
/-- whatever lies below all its variants is below the fixpoint -/
theorem closed_le (F : IsFix f L) (hw : f.Wf) (hc : ∀ v ∈ f.vars, OLe (w v.plug) (vw w v)) : ∀ s, OLe (w s) (L s) := by
  have key : ∀ k x s, s < f.count → rank f.count L s = k → L s = some x → OLe (w s) (some x) := by
    intro k
    induction k using Nat.strongRecOn with
    | ind k ih =>
      intro x s hs hk e
      obtain ⟨v, hv, es, ev⟩ := F.att s x e
      have q : OLe (vw w v) (vw L v) := vw_mono fun t ht => by
        obtain ⟨y, ey, ly⟩ := vw_slots ev t ht
        have htn := (hw.vars v hv).2.1 t ht
        have := ih _ (by rw [← hk]; exact rank_lt htn e ey ly) y t htn rfl ey
        rw [ey]; exact this
      rw [← ev, ← es]
      exact (hc v hv).trans q
  intro s b hb
  obtain ⟨v, hv, es, _⟩ := F.att s b hb
  have hs : s < f.count := by rw [← es]; exact (hw.vars v hv).1
  exact key _ b s hs rfl hb b rfl
/-- a round by all the variants -/
structure Round (f : Fm) (w w' : Nat → Option Wt) : Prop where
  le : ∀ v ∈ f.vars, OLe (w' v.plug) (vw w v)
  att : ∀ s y, w' s = some y → ∃ v ∈ f.vars, v.plug = s ∧ vw w v = some y
theorem Round.sound (R : Round f w w') (F : IsFix f L) (hs : Sound L w) : Sound L w' := fun s y e => by
  obtain ⟨v, hv, es, ev⟩ := R.att s y e
  have := sound_vw F hs hv y ev
  rw [es] at this
  exact this
theorem Round.conv (R : Round f w w') (F : IsFix f L) (hw : f.Wf) {i : Nat} (h : Conv f.count L i w) : Conv f.count L (i + 1) w' := fun s hs hr x e => by
  obtain ⟨v, hv, es, ev⟩ := F.att s x e
  have q : OLe (vw w v) (vw L v) := vw_mono fun t ht => by
    obtain ⟨y, ey, ly⟩ := vw_slots ev t ht
    have htn := (hw.vars v hv).2.1 t ht
    have := rank_lt htn e ey ly
    exact h t htn (by omega)
  have := (R.le v hv).trans q x ev
  rw [es] at this
  exact this
end
/-! ### tables as lists -/
abbrev Tb := List (Option Wt)
def tf (w : Tb) (s : Nat) : Option Wt := w.getD s none
theorem tf_set {w : Tb} {i s : Nat} {x : Option Wt} (h : i < w.length) : tf (w.set i x) s = if s = i then x else tf w s := by
  unfold tf
  rw [List.getD_eq_getElem?_getD, List.getD_eq_getElem?_getD]
  by_cases e : s = i
  · subst e
    rw [if_pos rfl, List.getElem?_set_self h]
    rfl
  · rw [if_neg e, List.getElem?_set_ne (Ne.symm e)]
theorem tf_rep (n s : Nat) : tf (List.replicate n none) s = none := by
  unfold tf
  rw [List.getD_eq_getElem?_getD, List.getElem?_replicate]
  split <;> rfl
theorem tf_out {w : Tb} {s : Nat} (h : w.length ≤ s) : tf w s = none := by
  unfold tf
  rw [List.getD_eq_getElem?_getD, List.getElem?_eq_none h]
  rfl
theorem tb_ext {w w' : Tb} (hl : w.length = w'.length) (h : ∀ s, s < w.length → tf w s = tf w' s) : w = w' := by
  refine List.ext_getElem hl fun i h1 h2 => ?_
  have := h i h1
  unfold tf at this
  rw [List.getD_eq_getElem?_getD, List.getD_eq_getElem?_getD, List.getElem?_eq_getElem h1, List.getElem?_eq_getElem h2] at this
  exact this
def tbl (n : Nat) (L : Nat → Option Wt) : Tb := (List.range n).map L
theorem tbl_len (n : Nat) (L : Nat → Option Wt) : (tbl n L).length = n := by unfold tbl; rw [List.length_map, List.length_range]
theorem tf_tbl {n : Nat} {L : Nat → Option Wt} {s : Nat} (h : s < n) : tf (tbl n L) s = L s := by
  unfold tf tbl
  rw [getD_map L none 0 _ _ (by rw [List.length_range]; exact h)]
  rw [List.getD_eq_getElem?_getD, List.getElem?_range h]
  rfl

/-- x is taken if it is less -/
def better (b x : Option Wt) : Option Wt := match x with
  | none => b
  | some a => match b with
    | none => some a
    | some c => if WLt a c then some a else some c
theorem better_le1 (b x : Option Wt) : OLe (better b x) b := by
  cases x with
  | none => exact OLe.refl _
  | some a =>
    cases b with
    | none => exact OLe.top _
    | some c =>
      show OLe (if WLt a c then some a else some c) _
      by_cases h : WLt a c
      · rw [if_pos h]; exact fun d e => by cases e; exact ⟨a, rfl, h.le⟩
      · rw [if_neg h]; exact OLe.refl _
theorem better_le2 (b x : Option Wt) : OLe (better b x) x := by
  cases x with
  | none => exact OLe.top _
  | some a =>
    cases b with
    | none => exact OLe.refl _
    | some c =>
      show OLe (if WLt a c then some a else some c) _
      by_cases h : WLt a c
      · rw [if_pos h]; exact OLe.refl _
      · rw [if_neg h]; exact fun d e => by cases e; exact ⟨c, rfl, .of_not h⟩
theorem better_or (b x : Option Wt) : better b x = b ∨ better b x = x := by
  cases x with
  | none => exact .inl rfl
  | some a =>
    cases b with
    | none => exact .inr rfl
    | some c =>
      show (if WLt a c then some a else some c) = _ ∨ (if WLt a c then some a else some c) = _
      by_cases h : WLt a c
      · rw [if_pos h]; exact .inr rfl
      · rw [if_neg h]; exact .inl rfl
/-- the least of some weights -/
def bestOf (l : List (Option Wt)) : Option Wt := l.foldl better none
theorem best_fold : ∀ (l : List (Option Wt)) (b : Option Wt), OLe (l.foldl better b) b ∧ (∀ x ∈ l, OLe (l.foldl better b) x) ∧ (l.foldl better b = b ∨ l.foldl better b ∈ l)
  | [], b => ⟨OLe.refl _, fun x h => (nomatch h), .inl rfl⟩
  | x :: l, b => by
    obtain ⟨h1, h2, h3⟩ := best_fold l (better b x)
    refine ⟨h1.trans (better_le1 b x), fun y hy => ?_, ?_⟩
    · rcases List.mem_cons.mp hy with e | hy
      · subst e; exact h1.trans (better_le2 b y)
      · exact h2 y hy
    · show l.foldl better (better b x) = b ∨ l.foldl better (better b x) ∈ x :: l
      rcases h3 with e | h3
      · rw [e]
        rcases better_or b x with e | e
        · exact .inl e
        · rw [e]; exact .inr List.mem_cons_self
      · exact .inr (List.mem_cons_of_mem _ h3)
theorem best_le {l : List (Option Wt)} {x : Option Wt} (h : x ∈ l) : OLe (bestOf l) x := (best_fold l none).2.1 x h
theorem best_mem {l : List (Option Wt)} {y : Wt} (h : bestOf l = some y) : some y ∈ l := by
  rcases (best_fold l none).2.2 with e | e
  · rw [show l.foldl better none = bestOf l from rfl, h] at e; cases e
  · rw [show l.foldl better none = bestOf l from rfl, h] at e; exact e
/-- below all and below nothing else: that is the least one -/
theorem best_eq {l : List (Option Wt)} {x : Option Wt} (h1 : ∀ y ∈ l, OLe x y) (h2 : ∀ b, x = some b → x ∈ l) : bestOf l = x := by
  refine OLe.anti (fun b e => ?_) (fun b e => ?_)
  · subst e
    exact best_le (h2 b rfl) b rfl
  · exact h1 _ (best_mem e) b rfl
theorem best_none {l : List (Option Wt)} (h : ∀ y ∈ l, y = none) : bestOf l = none := best_eq (fun y hy => by rw [h y hy]; exact OLe.refl _) fun b e => nomatch e
theorem best_mono {α : Type} {l : List α} {F G : α → Option Wt} (h : ∀ x ∈ l, OLe (F x) (G x)) : OLe (bestOf (l.map F)) (bestOf (l.map G)) := fun b e => by
  obtain ⟨x, hx, ex⟩ := List.mem_map.mp (best_mem e)
  obtain ⟨a, ea, la⟩ := h x hx b ex
  exact ((best_le (List.mem_map.mpr ⟨x, hx, rfl⟩)).trans (h x hx)) b ex

/-- a table of the least weights by states -/
def tabOf (n : Nat) (ps : List (Nat × Option Wt)) : Tb := ps.foldl (fun b p => b.set p.1 (better (tf b p.1) p.2)) (List.replicate n none)
theorem tab_fold (n : Nat) : ∀ (ps : List (Nat × Option Wt)) (b : Tb), b.length = n → (∀ p ∈ ps, p.1 < n) →
    (ps.foldl (fun b p => b.set p.1 (better (tf b p.1) p.2)) b).length = n ∧ ∀ s, tf (ps.foldl (fun b p => b.set p.1 (better (tf b p.1) p.2)) b) s = ((ps.filter fun p => decide (p.1 = s)).map (·.2)).foldl better (tf b s)
  | [], b, hb, _ => ⟨hb, fun s => rfl⟩
  | p :: ps, b, hb, hp => by
    have hp1 : p.1 < b.length := by rw [hb]; exact hp p List.mem_cons_self
    obtain ⟨h1, h2⟩ := tab_fold n ps (b.set p.1 (better (tf b p.1) p.2)) (by rw [List.length_set]; exact hb) fun q hq => hp q (List.mem_cons_of_mem _ hq)
    refine ⟨h1, fun s => ?_⟩
    rw [List.foldl_cons, h2 s, tf_set hp1, List.filter_cons]
    by_cases e : p.1 = s
    · subst e
      rw [if_pos rfl, if_pos (by simp)]
      rfl
    · rw [if_neg (fun q => e q.symm), if_neg (by simpa using e)]
theorem tab_len {n : Nat} {ps : List (Nat × Option Wt)} (hp : ∀ p ∈ ps, p.1 < n) : (tabOf n ps).length = n := (tab_fold n ps _ (by simp) hp).1
theorem tab_at {n : Nat} {ps : List (Nat × Option Wt)} (hp : ∀ p ∈ ps, p.1 < n) (s : Nat) : tf (tabOf n ps) s = bestOf ((ps.filter fun p => decide (p.1 = s)).map (·.2)) := by
  have := (tab_fold n ps (List.replicate n none) (by simp) hp).2 s
  rw [tf_rep] at this
  exact this

/-! ### the program's rounds -/
def jr (f : Fm) (w : Tb) : Tb := tabOf f.count (f.vars.map fun v => (v.plug, vw (tf w) v))
def lwLoop (f : Fm) : Nat → Tb → Tb
  | 0, w => w
  | n + 1, w => if jr f w = w then w else lwLoop f n (jr f w)
def lw (f : Fm) : Tb := lwLoop f f.count (List.replicate f.count none)
section
variable {f : Fm} {L : Nat → Option Wt}
theorem jr_pairs (hw : f.Wf) (w : Tb) : ∀ p ∈ (f.vars.map fun v => (v.plug, vw (tf w) v)), p.1 < f.count := fun p hp => by
  obtain ⟨v, hv, e⟩ := List.mem_map.mp hp
  subst e
  exact (hw.vars v hv).1
theorem jr_len (hw : f.Wf) (w : Tb) : (jr f w).length = f.count := tab_len (jr_pairs hw w)
theorem jr_round (hw : f.Wf) (w : Tb) : Round f (tf w) (tf (jr f w)) where
  le := fun v hv => by
    rw [jr, tab_at (jr_pairs hw w)]
    exact best_le (List.mem_map.mpr ⟨(v.plug, vw (tf w) v), List.mem_filter.mpr ⟨List.mem_map.mpr ⟨v, hv, rfl⟩, by simp⟩, rfl⟩)
  att := fun s y e => by
    rw [jr, tab_at (jr_pairs hw w)] at e
    obtain ⟨p, hp, ep⟩ := List.mem_map.mp (best_mem e)
    obtain ⟨h1, h2⟩ := List.mem_filter.mp hp
    obtain ⟨v, hv, ev⟩ := List.mem_map.mp h1
    subst ev
    exact ⟨v, hv, by simpa using h2, ep⟩
theorem tb_done (F : IsFix f L) {w : Tb} (hl : w.length = f.count) (h : ∀ s, s < f.count → tf w s = L s) : w = tbl f.count L :=
  tb_ext (by rw [hl, tbl_len]) fun s hs => by rw [tf_tbl (by omega)]; exact h s (by omega)
theorem fixed_done (F : IsFix f L) (hw : f.Wf) {w : Tb} (hl : w.length = f.count) (hs : Sound L (tf w)) (hc : ∀ v ∈ f.vars, OLe (tf w v.plug) (vw (tf w) v)) : w = tbl f.count L :=
  tb_done F hl fun s _ => (closed_le F hw hc s).anti (hs s)
theorem lwLoop_eq (F : IsFix f L) (hw : f.Wf) : ∀ (n i : Nat) (w : Tb), i + n = f.count → w.length = f.count → Sound L (tf w) → Conv f.count L i (tf w) → lwLoop f n w = tbl f.count L
  | 0, i, w, hi, hl, hs, hc => by
    have e : i = f.count := by omega
    subst e
    exact tb_done F hl (hc.done hs)
  | n + 1, i, w, hi, hl, hs, hc => by
    show (if jr f w = w then w else lwLoop f n (jr f w)) = _
    by_cases e : jr f w = w
    · rw [if_pos e]
      refine fixed_done F hw hl hs fun v hv => ?_
      have := (jr_round hw w).le v hv
      rw [e] at this
      exact this
    · rw [if_neg e]
      exact lwLoop_eq F hw n (i + 1) _ (by omega) (jr_len hw w) ((jr_round hw w).sound F hs) ((jr_round hw w).conv F hw hc)
theorem lw_eq (hw : f.Wf) : lw f = tbl f.count (least f) :=
  lwLoop_eq (least_fix f) hw f.count 0 _ (by omega) (by simp) (fun s => by rw [tf_rep]; exact OLe.top _) (Conv.zero _ _ _)

/-! ### the law's rounds: in place, with a flag -/
def gstep (b : Tb × Bool) (v : Vr) : Tb × Bool := match vw (tf b.1) v with
  | none => b
  | some a => match tf b.1 v.plug with
    | none => (b.1.set v.plug (some a), true)
    | some c => if WLt a c then (b.1.set v.plug (some a), true) else b
def gr (f : Fm) (w : Tb) : Tb × Bool := f.vars.foldl gstep (w, false)
def gLoop (f : Fm) : Nat → Tb → Tb
  | 0, w => w
  | n + 1, w => if (gr f w).2 = false then (gr f w).1 else gLoop f n (gr f w).1
def gw (f : Fm) : Tb := gLoop f (f.count + 1) (List.replicate f.count none)
theorem gstep_len (b : Tb × Bool) (v : Vr) : (gstep b v).1.length = b.1.length := by
  unfold gstep
  split
  · rfl
  · split
    · simp
    · split
      · simp
      · rfl
theorem gstep_spec {b : Tb × Bool} {v : Vr} (hv : v.plug < b.1.length) : (∀ s, tf (gstep b v).1 s = if s = v.plug then better (tf b.1 s) (vw (tf b.1) v) else tf b.1 s) ∧ ((gstep b v).2 = false → (gstep b v).1 = b.1 ∧ b.2 = false ∧ OLe (tf b.1 v.plug) (vw (tf b.1) v)) := by
  unfold gstep
  cases h : vw (tf b.1) v with
  | none =>
    refine ⟨fun s => ?_, fun e => ⟨rfl, e, OLe.top _⟩⟩
    show tf b.1 s = if s = v.plug then better (tf b.1 s) none else tf b.1 s
    by_cases e : s = v.plug
    · rw [if_pos e]; rfl
    · rw [if_neg e]
  | some a =>
    simp only
    cases q : tf b.1 v.plug with
    | none =>
      refine ⟨fun s => ?_, fun e => (nomatch e)⟩
      rw [tf_set hv]
      by_cases e : s = v.plug
      · rw [if_pos e, if_pos e, e, q]; rfl
      · rw [if_neg e, if_neg e]
    | some c =>
      by_cases l : WLt a c
      · simp only [if_pos l]
        refine ⟨fun s => ?_, fun e => (nomatch e)⟩
        rw [tf_set hv]
        by_cases e : s = v.plug
        · rw [if_pos e, if_pos e, e, q]; exact (if_pos l).symm
        · rw [if_neg e, if_neg e]
      · simp only [if_neg l]
        refine ⟨fun s => ?_, fun e => ⟨trivial, e, fun d ed => by cases ed; exact ⟨c, rfl, .of_not l⟩⟩⟩
        by_cases e : s = v.plug
        · rw [if_pos e, e, q]; exact (if_neg l).symm
        · rw [if_neg e]
theorem grF_spec (F : IsFix f L) (hw : f.Wf) (i : Nat) : ∀ (l : List Vr) (b : Tb × Bool), (∀ v ∈ l, v ∈ f.vars) → b.1.length = f.count → Sound L (tf b.1) → Conv f.count L i (tf b.1) →
    (l.foldl gstep b).1.length = f.count ∧ Sound L (tf (l.foldl gstep b).1) ∧ (∀ s, OLe (tf (l.foldl gstep b).1 s) (tf b.1 s)) ∧
      (∀ v ∈ l, ∀ x, vw L v = some x → (∀ t ∈ v.slots, rank f.count L t < i) → OLe (tf (l.foldl gstep b).1 v.plug) (some x)) ∧
      ((l.foldl gstep b).2 = false → (l.foldl gstep b).1 = b.1 ∧ b.2 = false ∧ ∀ v ∈ l, OLe (tf b.1 v.plug) (vw (tf b.1) v))
  | [], b, _, hl, hs, hc => ⟨hl, hs, fun s => OLe.refl _, fun v hv => (nomatch hv), fun e => ⟨rfl, e, fun v hv => (nomatch hv)⟩⟩
  | v :: l, b, hm, hl, hs, hc => by
    have hv := hm v List.mem_cons_self
    have hp : v.plug < b.1.length := by rw [hl]; exact (hw.vars v hv).1
    obtain ⟨g1, g2⟩ := gstep_spec (b := b) (v := v) hp
    have le1 : ∀ s, OLe (tf (gstep b v).1 s) (tf b.1 s) := fun s => by
      rw [g1 s]
      split
      · exact better_le1 _ _
      · exact OLe.refl _
    have hs1 : Sound L (tf (gstep b v).1) := fun s => by
      rw [g1 s]
      by_cases e : s = v.plug
      · rw [if_pos e]
        rcases better_or (tf b.1 s) (vw (tf b.1) v) with q | q
        · rw [q]; exact hs s
        · rw [q, e]; exact sound_vw F hs hv
      · rw [if_neg e]; exact hs s
    have hc1 : Conv f.count L i (tf (gstep b v).1) := fun s h1 h2 => (le1 s).trans (hc s h1 h2)
    obtain ⟨k1, k2, k3, k4, k5⟩ := grF_spec F hw i l (gstep b v) (fun u hu => hm u (List.mem_cons_of_mem _ hu)) (by rw [gstep_len]; exact hl) hs1 hc1
    refine ⟨k1, k2, fun s => (k3 s).trans (le1 s), fun u hu x hx hr => ?_, fun e => ?_⟩
    · rcases List.mem_cons.mp hu with e | hu
      · subst e
        refine (k3 _).trans ?_
        rw [g1, if_pos rfl]
        refine (better_le2 _ _).trans ?_
        rw [← hx]
        exact vw_mono fun t ht => hc t ((hw.vars u hv).2.1 t ht) (hr t ht)
      · exact k4 u hu x hx hr
    · obtain ⟨e1, e2, e3⟩ := k5 e
      obtain ⟨q1, q2, q3⟩ := g2 e2
      refine ⟨e1.trans q1, q2, fun u hu => ?_⟩
      rcases List.mem_cons.mp hu with e | hu
      · subst e; exact q3
      · have := e3 u hu
        rw [q1] at this
        exact this
theorem gLoop_eq (F : IsFix f L) (hw : f.Wf) : ∀ (n i : Nat) (w : Tb), f.count ≤ i + n → w.length = f.count → Sound L (tf w) → Conv f.count L i (tf w) → gLoop f n w = tbl f.count L
  | 0, i, w, hi, hl, hs, hc => tb_done F hl fun s h => (hc s h (by have := rank_bound (L := L) h; omega)).anti (hs s)
  | n + 1, i, w, hi, hl, hs, hc => by
    obtain ⟨k1, k2, k3, k4, k5⟩ := grF_spec F hw i f.vars (w, false) (fun v hv => hv) hl hs hc
    show (if (gr f w).2 = false then (gr f w).1 else gLoop f n (gr f w).1) = _
    by_cases e : (gr f w).2 = false
    · rw [if_pos e]
      obtain ⟨e1, _, e3⟩ := k5 e
      have e1 : (gr f w).1 = w := e1
      rw [e1]
      exact fixed_done F hw hl hs e3
    · rw [if_neg e]
      refine gLoop_eq F hw n (i + 1) _ (by omega) k1 k2 fun s hn hr x ex => ?_
      obtain ⟨v, hv, es, ev⟩ := F.att s x ex
      have := k4 v hv x ev (fun t ht => by
        obtain ⟨y, ey, ly⟩ := vw_slots ev t ht
        have := rank_lt ((hw.vars v hv).2.1 t ht) ex ey ly
        omega) x rfl
      rw [es] at this
      exact this
theorem gw_eq (hw : f.Wf) : gw f = tbl f.count (least f) :=
  gLoop_eq (least_fix f) hw (f.count + 1) 0 _ (by omega) (by simp) (fun s => by rw [tf_rep]; exact OLe.top _) (Conv.zero _ _ _)
theorem gw_lw (hw : f.Wf) : gw f = lw f := (gw_eq hw).trans (lw_eq hw).symm
/-- the base table is a fixpoint -/
theorem lw_fix (hw : f.Wf) : IsFix f (tf (lw f)) := by
  have F := least_fix f
  have e : ∀ s, s < f.count → tf (lw f) s = least f s := fun s h => by rw [lw_eq hw, tf_tbl h]
  have ev : ∀ v ∈ f.vars, vw (tf (lw f)) v = vw (least f) v := fun v hv => vw_congr fun s hs => e s ((hw.vars v hv).2.1 s hs)
  refine ⟨fun v hv => ?_, fun s y h => ?_⟩
  · rw [e _ (hw.vars v hv).1, ev v hv]; exact F.closed v hv
  · by_cases hs : s < f.count
    · rw [e s hs] at h
      obtain ⟨v, hv, es, q⟩ := F.att s y h
      exact ⟨v, hv, es, by rw [ev v hv]; exact q⟩
    · rw [tf_out (by rw [lw_eq hw, tbl_len]; omega)] at h
      cases h
theorem lw_len (hw : f.Wf) : (lw f).length = f.count := by rw [lw_eq hw, tbl_len]
end

/-! ### demands on paths -/
section
variable {W : Type} [DecidableEq W]
structure Dm (W : Type) where
  path : List W
  ok : List Nat
def hasPre (D : List (Dm W)) (p : List W) : Bool := D.any fun d => decide (d.path.take p.length = p)
/-- one demand lets a variant with these slot names stand at p -/
def lets (nk : List W) (k : Nat) (p : List W) (d : Dm W) : Bool :=
  !(decide (d.path = p) && !decide (k ∈ d.ok)) && !(decide (p.length < d.path.length) && decide (d.path.take p.length = p) && !(d.path.drop p.length).head?.any (fun x => decide (x ∈ nk)))
def stands (names : List (List W)) (D : List (Dm W)) (k : Nat) (p : List W) : Bool := D.all fun d => lets (names.getD k []) k p d
/-- what a variant weighs at p, by what its slots weigh -/
def partsAt (names : List (List W)) (rec : Nat → List W → Option Wt) (k : Nat) (p : List W) (slots : List Nat) : List (Option Wt) := (slots.zip (names.getD k [])).map fun sn => rec sn.1 (p ++ [sn.2])
def weighs (names : List (List W)) (rec : Nat → List W → Option Wt) (k : Nat) (p : List W) (v : Vr) : Option Wt := match v.price with
  | none => none
  | some q => sumO (partsAt names rec k p v.slots) (q, 1)
def worth (names : List (List W)) (D : List (Dm W)) (rec : Nat → List W → Option Wt) (k : Nat) (p : List W) (v : Vr) : Option Wt := if stands names D k p then weighs names rec k p v else none
def zipIx (l : List Vr) : List (Nat × Vr) := (List.range l.length).zip l
theorem zipIx_mem {l : List Vr} {k : Nat} {v : Vr} (h : (k, v) ∈ zipIx l) : v ∈ l := (List.of_mem_zip h).2
theorem zipIx_ex {l : List Vr} {v : Vr} (h : v ∈ l) : ∃ k, (k, v) ∈ zipIx l := by
  obtain ⟨i, hi, e⟩ := List.mem_iff_getElem.mp h
  refine ⟨i, List.mem_iff_getElem.mpr ⟨i, by simp [zipIx, hi], ?_⟩⟩
  simp [zipIx, e]
def pairsAt (f : Fm) (names : List (List W)) (D : List (Dm W)) (rec : Nat → List W → Option Wt) (p : List W) : List (Nat × Option Wt) := (zipIx f.vars).map fun kv => (kv.2.plug, worth names D rec kv.1 p kv.2)
def full (f : Fm) (names : List (List W)) (D : List (Dm W)) (rec : Nat → List W → Option Wt) (s : Nat) (p : List W) : Option Wt := bestOf (((pairsAt f names D rec p).filter fun q => decide (q.1 = s)).map (·.2))
/-- the least weight of a tree at s that stands at p, demands met -/
def lp (f : Fm) (names : List (List W)) (D : List (Dm W)) (base : Nat → Option Wt) : Nat → Nat → List W → Option Wt
  | 0, s, _ => base s
  | n + 1, s, p => if hasPre D p then full f names D (lp f names D base n) s p else base s

variable {f : Fm} {names : List (List W)} {D D' : List (Dm W)} {base : Nat → Option Wt} {rec rec' : Nat → List W → Option Wt} {p : List W}
theorem lets_nopre {nk : List W} {k : Nat} {d : Dm W} (h : ¬ d.path.take p.length = p) : lets nk k p d = true := by
  have h1 : ¬ d.path = p := fun e => h (by rw [e, List.take_length])
  unfold lets
  rw [decide_eq_false h, decide_eq_false h1]
  simp
theorem stands_nopre {k : Nat} (h : hasPre D p = false) : stands names D k p = true := by
  unfold hasPre at h
  unfold stands
  rw [List.all_eq_true]
  intro d hd
  refine lets_nopre fun e => ?_
  have : (D.any fun d => decide (d.path.take p.length = p)) = true := List.any_eq_true.mpr ⟨d, hd, decide_eq_true e⟩
  rw [h] at this
  cases this
theorem stands_sub {k : Nat} (h : ∀ d ∈ D, d ∈ D') (hs : stands names D' k p = true) : stands names D k p = true := by
  unfold stands at *
  rw [List.all_eq_true] at *
  exact fun d hd => hs d (h d hd)
theorem hasPre_sub (h : ∀ d ∈ D, d ∈ D') (hs : hasPre D' p = false) : hasPre D p = false := by
  cases q : hasPre D p with
  | false => rfl
  | true =>
    unfold hasPre at q
    obtain ⟨d, hd, e⟩ := List.any_eq_true.mp q
    have : hasPre D' p = true := List.any_eq_true.mpr ⟨d, h d hd, e⟩
    rw [hs] at this
    cases this
theorem hasPre_snoc {x : W} (h : hasPre D p = false) : hasPre D (p ++ [x]) = false := by
  cases q : hasPre D (p ++ [x]) with
  | false => rfl
  | true =>
    unfold hasPre at q
    obtain ⟨d, hd, e⟩ := List.any_eq_true.mp q
    have e := of_decide_eq_true e
    have e2 : d.path.take p.length = p := by
      have := congrArg (List.take p.length) e
      rw [List.take_take, List.length_append, Nat.min_eq_left (by omega), List.take_append_of_le_length (Nat.le_refl _), List.take_length] at this
      exact this
    have : hasPre D p = true := List.any_eq_true.mpr ⟨d, hd, decide_eq_true e2⟩
    rw [h] at this
    cases this
theorem parts_mono {k : Nat} {slots : List Nat} (h : ∀ s ∈ slots, ∀ x, OLe (rec s (p ++ [x])) (rec' s (p ++ [x]))) {a : Wt} : OLe (sumO (partsAt names rec k p slots) a) (sumO (partsAt names rec' k p slots) a) := by
  refine sumO_mono (by simp [partsAt]) (fun i hi => ?_) (.refl _)
  unfold partsAt at *
  have hi' : i < (slots.zip (names.getD k [])).length := by simpa using hi
  simp only [List.getD_eq_getElem?_getD (l := List.map _ _), List.getElem?_map, List.getElem?_eq_getElem hi']
  exact h _ (List.of_mem_zip (List.getElem_mem hi')).1 _
theorem weighs_mono {k : Nat} {v : Vr} (h : ∀ s ∈ v.slots, ∀ x, OLe (rec s (p ++ [x])) (rec' s (p ++ [x]))) : OLe (weighs names rec k p v) (weighs names rec' k p v) := by
  unfold weighs
  cases v.price with
  | none => exact OLe.top _
  | some q => exact parts_mono h
theorem weighs_congr {k : Nat} {v : Vr} (h : ∀ s ∈ v.slots, ∀ x, rec s (p ++ [x]) = rec' s (p ++ [x])) : weighs names rec k p v = weighs names rec' k p v :=
  OLe.anti (weighs_mono fun s hs x => by rw [h s hs x]; exact OLe.refl _) (weighs_mono fun s hs x => by rw [h s hs x]; exact OLe.refl _)
/-- the names tell as many slots as there are -/
def NamesOk (f : Fm) (names : List (List W)) : Prop := ∀ k v, (k, v) ∈ zipIx f.vars → (names.getD k []).length = v.slots.length
theorem weighs_base {k : Nat} {v : Vr} (hn : (names.getD k []).length = v.slots.length) (h : ∀ s ∈ v.slots, ∀ x, rec s (p ++ [x]) = base s) : weighs names rec k p v = vw base v := by
  unfold weighs vw
  cases v.price with
  | none => rfl
  | some q =>
    have e : partsAt names rec k p v.slots = v.slots.map base := by
      unfold partsAt
      refine List.ext_getElem (by rw [List.length_map, List.length_map, List.length_zip, hn, Nat.min_self]) fun i h1 h2 => ?_
      rw [List.getElem_map, List.getElem_map, List.getElem_zip]
      exact h _ (List.getElem_mem _) _
    show sumO _ _ = sumO _ _
    rw [e]
theorem full_mem {s : Nat} {y : Wt} (h : full f names D rec s p = some y) : ∃ k v, (k, v) ∈ zipIx f.vars ∧ v.plug = s ∧ worth names D rec k p v = some y := by
  obtain ⟨q, hq, e⟩ := List.mem_map.mp (best_mem h)
  obtain ⟨h1, h2⟩ := List.mem_filter.mp hq
  obtain ⟨⟨k, v⟩, hkv, e2⟩ := List.mem_map.mp h1
  subst e2
  exact ⟨k, v, hkv, by simpa using h2, e⟩
theorem full_le {k : Nat} {v : Vr} (h : (k, v) ∈ zipIx f.vars) : OLe (full f names D rec v.plug p) (worth names D rec k p v) :=
  best_le (List.mem_map.mpr ⟨(v.plug, worth names D rec k p v), List.mem_filter.mpr ⟨List.mem_map.mpr ⟨(k, v), h, rfl⟩, by simp⟩, rfl⟩)
/-- where no demand has the path, the whole is the base -/
theorem full_base (F : IsFix f base) (hN : NamesOk f names) (h : hasPre D p = false) (hr : ∀ s x, rec s (p ++ [x]) = base s) (s : Nat) : full f names D rec s p = base s := by
  have wv : ∀ k v, (k, v) ∈ zipIx f.vars → worth names D rec k p v = vw base v := fun k v hkv => by
    unfold worth
    rw [stands_nopre h, if_pos rfl]
    exact weighs_base (hN k v hkv) fun s _ x => hr s x
  refine OLe.anti (fun b e => ?_) (fun b e => ?_)
  · obtain ⟨v, hv, es, ev⟩ := F.att s b e
    obtain ⟨k, hk⟩ := zipIx_ex hv
    have := full_le (names := names) (D := D) (rec := rec) (p := p) hk
    rw [wv k v hk, es] at this
    exact this b ev
  · obtain ⟨k, v, hk, es, ev⟩ := full_mem e
    rw [wv k v hk] at ev
    have := F.closed v (zipIx_mem hk) b ev
    rw [es] at this
    exact this
theorem lp_nopre {n s : Nat} (h : hasPre D p = false) : lp f names D base n s p = base s := by
  cases n with
  | zero => rfl
  | succ n =>
    show (if hasPre D p = true then _ else _) = _
    rw [h]
    rfl
/-- one more turn, whatever the demands -/
theorem lp_full (F : IsFix f base) (hN : NamesOk f names) (n s : Nat) (p : List W) : lp f names D base (n + 1) s p = full f names D (lp f names D base n) s p := by
  by_cases h : hasPre D p = true
  · show (if hasPre D p = true then _ else _) = _
    rw [if_pos h]
  · have h : hasPre D p = false := by simpa using h
    rw [lp_nopre h]
    exact (full_base F hN h (fun s x => lp_nopre (hasPre_snoc h)) s).symm
/-- more demands, no less weight -/
theorem lp_mono (F : IsFix f base) (hN : NamesOk f names) (hD : ∀ d ∈ D, d ∈ D') : ∀ (n s : Nat) (p : List W), OLe (lp f names D base n s p) (lp f names D' base n s p)
  | 0, s, p => OLe.refl _
  | n + 1, s, p => by
    rw [lp_full F hN, lp_full F hN]
    intro b e
    obtain ⟨k, v, hk, es, ev⟩ := full_mem e
    have q : OLe (worth names D (lp f names D base n) k p v) (worth names D' (lp f names D' base n) k p v) := by
      unfold worth
      by_cases h : stands names D' k p = true
      · rw [if_pos h, if_pos (stands_sub hD h)]
        exact weighs_mono fun s _ x => lp_mono F hN hD n s (p ++ [x])
      · rw [if_neg h]; exact OLe.top _
    have := (full_le (names := names) (D := D) (rec := lp f names D base n) (p := p) hk).trans q
    rw [es] at this
    exact this b ev
/-- the lightest product -/
def lightest (f : Fm) (names : List (List W)) (D : List (Dm W)) (base : Nat → Option Wt) : Option Wt := bestOf (f.roots.map fun r => lp f names D base 5 r [])
def within (o : Option Wt) (budget : Option Nat) : Bool := match o with
  | none => false
  | some w => match budget with
    | none => true
    | some b => decide (w.1 ≤ b)
def feas (f : Fm) (names : List (List W)) (D : List (Dm W)) (base : Nat → Option Wt) (budget : Option Nat) : Bool := within (lightest f names D base) budget
theorem within_mono {x y : Option Wt} {b : Option Nat} (h : OLe x y) (hy : within y b = true) : within x b = true := by
  cases y with
  | none => cases hy
  | some c =>
    obtain ⟨a, e, l⟩ := h c rfl
    subst e
    cases b with
    | none => rfl
    | some b =>
      have hy : decide (c.1 ≤ b) = true := hy
      show decide (a.1 ≤ b) = true
      have := of_decide_eq_true hy
      exact decide_eq_true (by unfold WLe at l; omega)
theorem feas_mono (F : IsFix f base) (hN : NamesOk f names) (hD : ∀ d ∈ D, d ∈ D') {b : Option Nat} (h : feas f names D' base b = true) : feas f names D base b = true :=
  within_mono (best_mono fun r _ => lp_mono F hN hD 5 r []) h
theorem feas_set (F : IsFix f base) (hN : NamesOk f names) (h1 : ∀ d ∈ D, d ∈ D') (h2 : ∀ d ∈ D', d ∈ D) (b : Option Nat) : feas f names D base b = feas f names D' base b := by
  cases q : feas f names D base b with
  | true => exact (feas_mono F hN h2 q).symm
  | false =>
    cases q' : feas f names D' base b with
    | false => rfl
    | true => rw [feas_mono F hN h1 q'] at q; cases q
end
end K81
/-! ## KM -/
namespace K81
section
variable {W : Type} [DecidableEq W] {names : List (List W)} {D : List (Dm W)} {p : List W} {k : Nat}
theorem pre_iff : hasPre D p = true ↔ ∃ d ∈ D, d.path.take p.length = p := by
  unfold hasPre
  rw [List.any_eq_true]
  exact ⟨fun ⟨d, h1, h2⟩ => ⟨d, h1, of_decide_eq_true h2⟩, fun ⟨d, h1, h2⟩ => ⟨d, h1, decide_eq_true h2⟩⟩
theorem lets_iff {nk : List W} {d : Dm W} : lets nk k p d = true ↔ (d.path = p → k ∈ d.ok) ∧ ∀ x, d.path.take (p.length + 1) = p ++ [x] → x ∈ nk := by
  have key : (!(decide (p.length < d.path.length) && decide (d.path.take p.length = p) && !(d.path.drop p.length).head?.any (fun x => decide (x ∈ nk)))) = true ↔ ∀ x, d.path.take (p.length + 1) = p ++ [x] → x ∈ nk := by
    by_cases h1 : p.length < d.path.length
    · by_cases h2 : d.path.take p.length = p
      · have h3 : (d.path.drop p.length).head? = some d.path[p.length] := by
          rw [List.head?_drop, List.getElem?_eq_getElem h1]
        have h4 : d.path.take (p.length + 1) = p ++ [d.path[p.length]] := by
          rw [List.take_succ, List.getElem?_eq_getElem h1, h2]; rfl
        rw [h3, decide_eq_true h1, decide_eq_true h2, h4]
        simp
      · rw [decide_eq_false h2]
        simp only [Bool.and_false, Bool.false_and, Bool.not_false, true_iff]
        intro x e
        refine absurd ?_ h2
        have := congrArg (List.take p.length) e
        rw [List.take_take, Nat.min_eq_left (by omega), List.take_append_of_le_length (Nat.le_refl _), List.take_length] at this
        exact this
    · rw [decide_eq_false h1]
      simp only [Bool.false_and, Bool.not_false, true_iff]
      intro x e
      have := congrArg List.length e
      rw [List.length_take, List.length_append, List.length_singleton] at this
      omega
  unfold lets
  rw [Bool.and_eq_true, key]
  refine and_congr ?_ Iff.rfl
  by_cases h1 : d.path = p
  · rw [decide_eq_true h1]; simp [h1]
  · rw [decide_eq_false h1]; simp [h1]
theorem stands_iff : stands names D k p = true ↔ (∀ d ∈ D, d.path = p → k ∈ d.ok) ∧ ∀ x, hasPre D (p ++ [x]) = true → x ∈ names.getD k [] := by
  unfold stands
  rw [List.all_eq_true]
  constructor
  · intro h
    refine ⟨fun d hd => (lets_iff.mp (h d hd)).1, fun x hx => ?_⟩
    obtain ⟨d, hd, e⟩ := pre_iff.mp hx
    exact (lets_iff.mp (h d hd)).2 x (by rw [List.length_append, List.length_singleton] at e; exact e)
  · rintro ⟨h1, h2⟩ d hd
    exact lets_iff.mpr ⟨h1 d hd, fun x e => h2 x (pre_iff.mpr ⟨d, hd, by rw [List.length_append, List.length_singleton]; exact e⟩)⟩
end
end K81
/-! ## KM2 -/
namespace K81
section
variable {W : Type} [DecidableEq W] {f : Fm} {names : List (List W)} {D : List (Dm W)} {base : Nat → Option Wt} {rec rec' : Nat → List W → Option Wt} {p : List W}
def vAt (f : Fm) (k : Nat) : Vr := f.vars.getD k ⟨0, [], none⟩
theorem vAt_eq {k : Nat} {v : Vr} (h : f.vars[k]? = some v) : vAt f k = v := by unfold vAt; rw [List.getD_eq_getElem?_getD, h]; rfl
theorem vAt_get {k : Nat} (h : k < f.vars.length) : f.vars[k]? = some (vAt f k) := by
  rw [vAt_eq (List.getElem?_eq_getElem h)]; exact List.getElem?_eq_getElem h
theorem zip_iff {l : List Vr} {k : Nat} {v : Vr} : (k, v) ∈ zipIx l ↔ l[k]? = some v := by
  unfold zipIx
  constructor
  · intro h
    obtain ⟨i, hi, e⟩ := List.mem_iff_getElem.mp h
    rw [List.getElem_zip] at e
    have e1 : i = k := by simpa using congrArg Prod.fst e
    have e2 : l[i]'(by simp at hi; exact hi) = v := congrArg Prod.snd e
    subst e1
    rw [← e2]; exact List.getElem?_eq_getElem _
  · intro h
    obtain ⟨hk, e⟩ := List.getElem?_eq_some_iff.mp h
    refine List.mem_iff_getElem.mpr ⟨k, by simp [hk], ?_⟩
    simp [e]
theorem full_congr (h : ∀ s x, rec s (p ++ [x]) = rec' s (p ++ [x])) (s : Nat) : full f names D rec s p = full f names D rec' s p := by
  have : pairsAt f names D rec p = pairsAt f names D rec' p := by
    unfold pairsAt
    refine List.map_congr_left fun kv _ => ?_
    unfold worth
    rw [weighs_congr fun s _ x => h s x]
  unfold full
  rw [this]
def stPairs (f : Fm) (names : List (List W)) (rec : Nat → List W → Option Wt) (p : List W) (ms : List Nat) : List (Nat × Option Wt) := ms.map fun k => ((vAt f k).plug, weighs names rec k p (vAt f k))
def members (f : Fm) (names : List (List W)) (D : List (Dm W)) (p : List W) : List Nat := (List.range f.vars.length).filter fun k => stands names D k p
def wTab (f : Fm) (names : List (List W)) (D : List (Dm W)) (rec : Nat → List W → Option Wt) (p : List W) : Tb := tabOf f.count (stPairs f names rec p (members f names D p))
theorem members_lt {k : Nat} (h : k ∈ members f names D p) : k < f.vars.length := by
  unfold members at h
  exact List.mem_range.mp (List.mem_filter.mp h).1
theorem st_lt (hw : f.Wf) {ms : List Nat} (h : ∀ k ∈ ms, k < f.vars.length) : ∀ q ∈ stPairs f names rec p ms, q.1 < f.count := fun q hq => by
  obtain ⟨k, hk, rfl⟩ := List.mem_map.mp hq
  exact (hw.vars _ (List.mem_of_getElem? (vAt_get (h k hk)))).1
theorem wTab_len (hw : f.Wf) : (wTab f names D rec p).length = f.count := tab_len (st_lt hw fun _ h => members_lt h)
theorem wTab_at (hw : f.Wf) (s : Nat) : tf (wTab f names D rec p) s = full f names D rec s p := by
  unfold wTab
  rw [tab_at (st_lt hw fun _ h => members_lt h)]
  refine best_eq (fun y hy => ?_) fun b e => ?_
  · obtain ⟨q, hq, rfl⟩ := List.mem_map.mp hy
    obtain ⟨hq, es⟩ := List.mem_filter.mp hq
    obtain ⟨k, hk, rfl⟩ := List.mem_map.mp hq
    have es : (vAt f k).plug = s := of_decide_eq_true es
    have st : stands names D k p = true := (List.mem_filter.mp hk).2
    have z := vAt_get (members_lt hk)
    have := full_le (f := f) (names := names) (D := D) (rec := rec) (p := p) (zip_iff.mpr z)
    rw [es] at this
    unfold worth at this
    rw [if_pos st] at this
    exact this
  · obtain ⟨k, v, hz, es, ew⟩ := full_mem e
    have hv := zip_iff.mp hz
    have hk := (List.getElem?_eq_some_iff.mp hv).1
    unfold worth at ew
    by_cases st : stands names D k p = true
    · rw [if_pos st] at ew
      rw [e]
      refine List.mem_map.mpr ⟨(v.plug, weighs names rec k p v), List.mem_filter.mpr ⟨List.mem_map.mpr ⟨k, List.mem_filter.mpr ⟨List.mem_range.mpr hk, st⟩, ?_⟩, decide_eq_true es⟩, ew⟩
      rw [vAt_eq hv]
    · rw [if_neg st] at ew; cases ew
/-- what is told of the paths that were seen -/
structure Told (f : Fm) (names : List (List W)) (D : List (Dm W)) (tb : Tb) (T : List W → Option Tb) (done : List (List W)) : Prop where
  yes : ∀ p ∈ done, ∃ t, T p = some t ∧ t.length = f.count ∧ ∀ s, tf t s = lp f names D (tf tb) (5 - p.length) s p
  no : ∀ p, p ∉ done → T p = none
def recT (T : List W → Option Tb) (tb : Tb) : Nat → List W → Option Wt := fun s q => match T q with
  | some t => tf t s
  | none => tf tb s
variable {tb : Tb} {T : List W → Option Tb} {done : List (List W)}
theorem Told.recEq (t : Told f names D tb T done) (hp : p.length ≤ 4) (h : ∀ x, hasPre D (p ++ [x]) = true → p ++ [x] ∈ done) (s : Nat) (x : W) : recT T tb s (p ++ [x]) = lp f names D (tf tb) (4 - p.length) s (p ++ [x]) := by
  unfold recT
  by_cases hd : p ++ [x] ∈ done
  · obtain ⟨u, e, _, q⟩ := t.yes _ hd
    rw [e, show 4 - p.length = 5 - (p ++ [x]).length by rw [List.length_append, List.length_singleton]; omega]
    exact q s
  · rw [t.no _ hd]
    show tf tb s = _
    exact (lp_nopre (base := tf tb) (by
      cases e : hasPre D (p ++ [x]) with
      | false => rfl
      | true => exact absurd (h x e) hd)).symm
theorem Told.step (t : Told f names D tb T done) (hw : f.Wf) (F : IsFix f (tf tb)) (hN : NamesOk f names) (hp : p.length ≤ 4) (h : ∀ x, hasPre D (p ++ [x]) = true → p ++ [x] ∈ done) :
    Told f names D tb (fun q => if q = p then some (wTab f names D (recT T tb) p) else T q) (done ++ [p]) where
  yes q hq := by
    by_cases e : q = p
    · subst e
      refine ⟨_, if_pos rfl, wTab_len hw, fun s => ?_⟩
      rw [wTab_at hw, full_congr (rec' := lp f names D (tf tb) (4 - q.length)) (fun s x => t.recEq hp h s x), ← lp_full F hN, show 4 - q.length + 1 = 5 - q.length by omega]
    · rcases List.mem_append.mp hq with m | m
      · obtain ⟨u, e1, e2⟩ := t.yes q m
        exact ⟨u, by rw [if_neg e]; exact e1, e2⟩
      · exact absurd (List.mem_singleton.mp m) e
  no q hq := by
    have e : q ≠ p := fun e => hq (List.mem_append_right _ (List.mem_singleton.mpr e))
    rw [if_neg e]
    exact t.no q fun m => hq (List.mem_append_left _ m)
theorem Told.start : Told f names D tb (fun _ => none) ([] : List (List W)) := ⟨fun _ h => (nomatch h), fun _ _ => rfl⟩
/-- the longer stand behind: seen from the end they came before -/
theorem rev_done {ps : List (List W)} (ord : ps.Pairwise fun a b => a.length ≤ b.length) {i : Nat} (hi : ps.reverse[i]? = some p) {q : List W} (hq : q ∈ ps) (hl : p.length < q.length) : q ∈ ps.reverse.take i := by
  obtain ⟨j, hj, e⟩ := List.mem_iff_getElem.mp (List.mem_reverse.mpr hq)
  obtain ⟨hi', ei⟩ := List.getElem?_eq_some_iff.mp hi
  have ord2 : ps.reverse.Pairwise fun a b => b.length ≤ a.length := List.pairwise_reverse.mpr ord
  have lt : j < i := by
    apply Classical.byContradiction
    intro n
    rcases Nat.lt_or_ge i j with h | h
    · have := List.pairwise_iff_getElem.mp ord2 i j hi' hj h
      rw [e, ei] at this; omega
    · have : i = j := by omega
      subst this
      rw [e] at ei; rw [ei] at hl; omega
  exact List.mem_take_iff_getElem.mpr ⟨j, by omega, e⟩
/-- the least price from the roots' weights -/
theorem lightest_of {t : Tb} (h : ∀ s, tf t s = lp f names D base 5 s []) : lightest f names D base = bestOf (f.roots.map (tf t)) := by
  unfold lightest
  congr 1
  exact List.map_congr_left fun r _ => (h r).symm
end
end K81
/-! ## KS -/
namespace K81
/-! ### sets of numbers, as rising lists -/
def raw : Nat → List (List Nat)
  | 0 => [[]]
  | n + 1 => raw n ++ (raw n).map fun r => r ++ [n]
theorem raw_len : ∀ n, (raw n).length = 2 ^ n
  | 0 => rfl
  | n + 1 => by rw [raw, List.length_append, List.length_map, raw_len n, Nat.pow_succ]; omega
theorem sub_one {n : Nat} : ∀ {l : List Nat}, l.Sublist [n] → l = [] ∨ l = [n]
  | [], _ => .inl rfl
  | a :: l, h => by
    cases h with
    | cons _ h => exact absurd (List.sublist_nil.mp h) (by simp)
    | cons_cons _ h => rw [List.sublist_nil.mp h]; exact .inr rfl
theorem raw_iff : ∀ (n : Nat) (s : List Nat), s ∈ raw n ↔ s.Sublist (List.range n)
  | 0, s => by
    rw [raw, List.mem_singleton, List.range_zero, List.sublist_nil]
  | n + 1, s => by
    rw [raw, List.mem_append, List.mem_map, List.range_succ, List.sublist_append_iff]
    constructor
    · rintro (h | ⟨r, h, rfl⟩)
      · exact ⟨s, [], by simp, (raw_iff n s).mp h, List.nil_sublist _⟩
      · exact ⟨r, [n], rfl, (raw_iff n r).mp h, List.Sublist.refl _⟩
    · rintro ⟨l1, l2, rfl, h1, h2⟩
      rcases sub_one h2 with e | e
      · subst e; exact .inl (by rw [List.append_nil]; exact (raw_iff n l1).mpr h1)
      · subst e; exact .inr ⟨l1, (raw_iff n l1).mpr h1, rfl⟩
def outside (s : List Nat) (n : Nat) : List Nat := (List.range n).filter fun k => !s.contains k
def smaller (s : List Nat) : List (List Nat) := (List.range s.length).map fun k => s.take k ++ s.drop (k + 1)
theorem outside_sub (s : List Nat) (n : Nat) : (outside s n).Sublist (List.range n) := List.filter_sublist
theorem smaller_sub {s t : List Nat} (h : t ∈ smaller s) : t.Sublist s ∧ t.length + 1 = s.length := by
  obtain ⟨k, hk, rfl⟩ := List.mem_map.mp h
  have hk := List.mem_range.mp hk
  rw [← List.eraseIdx_eq_take_drop_succ]
  refine ⟨List.eraseIdx_sublist _ _, ?_⟩
  rw [List.length_eraseIdx, if_pos hk]; omega
theorem mem_outside {s : List Nat} {n k : Nat} : k ∈ outside s n ↔ k < n ∧ k ∉ s := by
  unfold outside
  rw [List.mem_filter, List.mem_range]
  simp
theorem sub_lt {s : List Nat} {n k : Nat} (h : s.Sublist (List.range n)) (hk : k ∈ s) : k < n := List.mem_range.mp (h.subset hk)
theorem sub_nodup {s : List Nat} {n : Nat} (h : s.Sublist (List.range n)) : s.Nodup := h.nodup List.nodup_range
theorem nodup_inj {s : List Nat} (hn : s.Nodup) {i j : Nat} (hi : i < s.length) (hj : j < s.length) (e : s[i] = s[j]) : i = j := by
  have p := List.pairwise_iff_getElem.mp hn
  rcases Nat.lt_trichotomy i j with h | h | h
  · exact absurd e (p i j hi hj h)
  · exact h
  · exact absurd e.symm (p j i hj hi h)
/-- what was erased is gone -/
theorem erase_mem {s : List Nat} (hn : s.Nodup) {i k : Nat} {x : Nat} (hi : s[i]? = some x) : k ∈ s.take i ++ s.drop (i + 1) ↔ k ∈ s ∧ k ≠ x := by
  rw [← List.eraseIdx_eq_take_drop_succ]
  have hl := (List.getElem?_eq_some_iff.mp hi).1
  have hx := (List.getElem?_eq_some_iff.mp hi).2
  constructor
  · intro h
    refine ⟨(List.eraseIdx_sublist _ _).subset h, fun e => ?_⟩
    obtain ⟨j, hj, e2⟩ := List.mem_eraseIdx_iff_getElem?.mp h
    rw [e] at e2
    obtain ⟨hjl, e3⟩ := List.getElem?_eq_some_iff.mp e2
    exact hj (nodup_inj hn hjl hl (e3.trans hx.symm))
  · rintro ⟨h, e⟩
    obtain ⟨j, hj, e2⟩ := List.mem_iff_getElem.mp h
    refine List.mem_eraseIdx_iff_getElem?.mpr ⟨j, fun z => e ?_, ?_⟩
    · subst z; rw [← e2, hx]
    · rw [List.getElem?_eq_getElem hj, e2]
theorem smaller_mem {s t : List Nat} (hn : s.Nodup) (h : t ∈ smaller s) : ∃ x ∈ s, ∀ k, k ∈ t ↔ k ∈ s ∧ k ≠ x := by
  obtain ⟨i, hi, rfl⟩ := List.mem_map.mp h
  have hi := List.mem_range.mp hi
  exact ⟨s[i], List.getElem_mem hi, fun k => erase_mem hn (List.getElem?_eq_getElem hi)⟩
theorem smaller_of {s : List Nat} (hn : s.Nodup) {x : Nat} (hx : x ∈ s) : ∃ t ∈ smaller s, ∀ k, k ∈ t ↔ k ∈ s ∧ k ≠ x := by
  obtain ⟨i, hi, e⟩ := List.mem_iff_getElem.mp hx
  exact ⟨_, List.mem_map.mpr ⟨i, List.mem_range.mpr hi, rfl⟩, fun k => erase_mem hn (by rw [List.getElem?_eq_getElem hi, e])⟩
/-! ### conflicts and corrections of a word that goes down -/
section
variable (F : List Nat → Bool) (n : Nat)
/-- F hangs on the members alone, and what has fewer has it sooner -/
def Dn : Prop := ∀ s t : List Nat, s.Sublist (List.range n) → t.Sublist (List.range n) → (∀ k ∈ t, k ∈ s) → F s = true → F t = true
def isConf (s : List Nat) : Bool := !F s && (smaller s).all F
def isCorr (s : List Nat) : Bool := !((smaller s).any fun t => F (outside t n)) && F (outside s n)
def meet (s t : List Nat) : Bool := t.any fun k => s.contains k
def crosses (s : List Nat) (others : List (List Nat)) : Bool := others.all fun t => meet s t
def isCross (others : List (List Nat)) (s : List Nat) : Bool := crosses s others && !(smaller s).any fun t => crosses t others
variable {F n}
theorem meet_iff {s t : List Nat} : meet s t = true ↔ ∃ k ∈ t, k ∈ s := by
  unfold meet
  rw [List.any_eq_true]
  simp
/-- a least one that does not have it -/
theorem least_conf : ∀ (m : Nat) (s : List Nat), s.length ≤ m → F s = false → ∃ c, c.Sublist s ∧ isConf F c = true
  | m, s, hm, hs => by
    cases q : (smaller s).all F with
    | true => exact ⟨s, .refl s, by unfold isConf; rw [hs, q]; rfl⟩
    | false =>
      obtain ⟨t, ht, hf⟩ := List.all_eq_false.mp q
      obtain ⟨h1, h2⟩ := smaller_sub ht
      match m, hm with
      | 0, hm => omega
      | m + 1, hm =>
        obtain ⟨c, h3, h4⟩ := least_conf m t (by omega) (by simpa using hf)
        exact ⟨c, h3.trans h1, h4⟩
theorem least_corr : ∀ (m : Nat) (s : List Nat), s.length ≤ m → F (outside s n) = true → ∃ c, c.Sublist s ∧ isCorr F n c = true
  | m, s, hm, hs => by
    cases q : (smaller s).any fun t => F (outside t n) with
    | false => exact ⟨s, .refl s, by unfold isCorr; rw [hs, q]; rfl⟩
    | true =>
      obtain ⟨t, ht, hf⟩ := List.any_eq_true.mp q
      obtain ⟨h1, h2⟩ := smaller_sub ht
      match m, hm with
      | 0, hm => omega
      | m + 1, hm =>
        obtain ⟨c, h3, h4⟩ := least_corr m t (by omega) hf
        exact ⟨c, h3.trans h1, h4⟩
theorem cross_conf (h : Dn F n) {cs : List (List Nat)} (hc : ∀ c, c ∈ cs ↔ c.Sublist (List.range n) ∧ isConf F c = true) {s : List Nat} (hs : s.Sublist (List.range n)) : crosses s cs = F (outside s n) := by
  cases q : F (outside s n) with
  | true =>
    unfold crosses
    rw [List.all_eq_true]
    intro c hcc
    obtain ⟨h1, h2⟩ := (hc c).mp hcc
    refine meet_iff.mpr (Classical.byContradiction fun no => ?_)
    have : F c = true := h _ _ (outside_sub s n) h1 (fun k hk => mem_outside.mpr ⟨sub_lt h1 hk, fun z => no ⟨k, hk, z⟩⟩) q
    unfold isConf at h2
    rw [this] at h2
    cases h2
  | false =>
    obtain ⟨c, h1, h2⟩ := least_conf _ _ (Nat.le_refl _) q
    have hcc := (hc c).mpr ⟨h1.trans (outside_sub s n), h2⟩
    refine Bool.eq_false_iff.mpr fun e => ?_
    obtain ⟨k, hk, hks⟩ := meet_iff.mp (List.all_eq_true.mp e c hcc)
    exact (mem_outside.mp (h1.subset hk)).2 hks
theorem cross_corr (h : Dn F n) {cs : List (List Nat)} (hc : ∀ c, c ∈ cs ↔ c.Sublist (List.range n) ∧ isCorr F n c = true) {s : List Nat} (hs : s.Sublist (List.range n)) : crosses s cs = !F s := by
  cases q : F s with
  | false =>
    unfold crosses
    show _ = true
    rw [List.all_eq_true]
    intro c hcc
    obtain ⟨h1, h2⟩ := (hc c).mp hcc
    refine meet_iff.mpr (Classical.byContradiction fun no => ?_)
    unfold isCorr at h2
    rw [Bool.and_eq_true] at h2
    have : F s = true := h _ _ (outside_sub c n) hs (fun k hk => mem_outside.mpr ⟨sub_lt hs hk, fun z => no ⟨k, z, hk⟩⟩) h2.2
    rw [this] at q
    cases q
  | true =>
    have e2 : F (outside (outside s n) n) = true := h _ _ hs (outside_sub _ n) (fun k hk => by
      obtain ⟨h1, h2⟩ := mem_outside.mp hk
      exact Classical.byContradiction fun z => h2 (mem_outside.mpr ⟨h1, z⟩)) q
    obtain ⟨c, h1, h2⟩ := least_corr _ _ (Nat.le_refl _) e2
    have hcc := (hc c).mpr ⟨h1.trans (outside_sub s n), h2⟩
    refine Bool.eq_false_iff.mpr fun e => ?_
    obtain ⟨k, hk, hks⟩ := meet_iff.mp (List.all_eq_true.mp e c hcc)
    exact (mem_outside.mp (h1.subset hk)).2 hks
theorem any_congr {α : Type} {f g : α → Bool} {l : List α} (h : ∀ x ∈ l, f x = g x) : l.any f = l.any g := by
  induction l with
  | nil => rfl
  | cons a l ih => rw [List.any_cons, List.any_cons, h a (List.mem_cons_self ..), ih fun x hx => h x (List.mem_cons_of_mem _ hx)]
/-- the first half of the law -/
theorem corr_is (h : Dn F n) {cs : List (List Nat)} (hc : ∀ c, c ∈ cs ↔ c.Sublist (List.range n) ∧ isConf F c = true) {s : List Nat} (hs : s.Sublist (List.range n)) : isCross cs s = isCorr F n s := by
  unfold isCross isCorr
  rw [cross_conf h hc hs, any_congr (g := fun t => F (outside t n)) fun t ht => cross_conf h hc ((smaller_sub ht).1.trans hs), Bool.and_comm]
theorem conf_is (h : Dn F n) {cs : List (List Nat)} (hc : ∀ c, c ∈ cs ↔ c.Sublist (List.range n) ∧ isCorr F n c = true) {s : List Nat} (hs : s.Sublist (List.range n)) : isCross cs s = isConf F s := by
  unfold isCross isConf
  rw [cross_corr h hc hs, any_congr (g := fun t => !F t) fun t ht => cross_corr h hc ((smaller_sub ht).1.trans hs)]
  congr 1
  rw [List.not_any_eq_all_not]
  simp
end
end K81
/-! ## KS2 -/
namespace K81
section
variable {α : Type} (G : List α → Bool) (D : List α) (d : α)
def pick (l : List Nat) : List α := l.filterMap fun k => D[k]?
def exStep (l : List Nat) (i : Nat) : List Nat := if G (pick D (l.filter fun k => decide (k ≠ i)) ++ [d]) then l else l.filter fun k => decide (k ≠ i)
def exLoop (is : List Nat) : List Nat := is.foldl (exStep G D d) (List.range D.length)
def exOf : List Nat := exLoop G D d (List.range D.length).reverse
def kStep (st : List α × List Nat) (i : Nat) : List α × List Nat := match D[i]? with
  | none => st
  | some a => if G (st.1 ++ [a]) then (st.1 ++ [a], st.2 ++ [i]) else st
def kLoop (is : List Nat) : List α × List Nat := is.foldl (kStep G D) ([d], [])
def keptOf : List Nat := (kLoop G D d (List.range D.length).reverse).2
variable {G D d}
theorem mem_pick {l : List Nat} {a : α} : a ∈ pick D l ↔ ∃ k ∈ l, D[k]? = some a := List.mem_filterMap
theorem pick_range : pick D (List.range D.length) = D := by
  unfold pick
  refine List.ext_getElem? fun i => ?_
  have : ∀ n, n ≤ D.length → (List.range n).filterMap (fun k => D[k]?) = D.take n := fun n hn => by
    induction n with
    | zero => rfl
    | succ n ih =>
      rw [List.range_succ, List.filterMap_append, ih (by omega), List.take_succ]
      simp [List.getElem?_eq_getElem (by omega : n < D.length)]
  rw [this _ (Nat.le_refl _), List.take_length]
theorem pick_app {l m : List Nat} : pick D (l ++ m) = pick D l ++ pick D m := List.filterMap_append
variable (hG : ∀ A B : List α, (∀ a ∈ A, a ∈ B) → G B = true → G A = true)
include hG
theorem gf {A B : List α} (h : ∀ a ∈ A, a ∈ B) (e : G A = false) : G B = false := by
  cases q : G B with
  | false => rfl
  | true => rw [hG A B h q] at e; cases e
/-- what the members say -/
theorem dn_pick (n : Nat) : Dn (fun s => G (pick D s)) n := fun s t _ _ h e => hG _ _ (fun a ha => by
  obtain ⟨k, hk, ea⟩ := mem_pick.mp ha
  exact mem_pick.mpr ⟨k, h k hk, ea⟩) e
theorem ex_inv (h0 : G (D ++ [d]) = false) : ∀ is : List Nat, (exLoop G D d is).Sublist (List.range D.length) ∧ G (pick D (exLoop G D d is) ++ [d]) = false ∧ ∀ i ∈ is, i ∈ exLoop G D d is → G (pick D ((exLoop G D d is).filter fun k => decide (k ≠ i)) ++ [d]) = true := by
  intro is
  suffices H : ∀ (is seen l : List Nat), l.Sublist (List.range D.length) → G (pick D l ++ [d]) = false → (∀ i ∈ seen, i ∈ l → G (pick D (l.filter fun k => decide (k ≠ i)) ++ [d]) = true) →
      (is.foldl (exStep G D d) l).Sublist (List.range D.length) ∧ G (pick D (is.foldl (exStep G D d) l) ++ [d]) = false ∧ ∀ i ∈ seen ++ is, i ∈ is.foldl (exStep G D d) l → G (pick D ((is.foldl (exStep G D d) l).filter fun k => decide (k ≠ i)) ++ [d]) = true by
    have := H is [] (List.range D.length) (.refl _) (by rw [pick_range]; exact h0) fun i hi => (nomatch hi)
    exact this
  intro is
  induction is with
  | nil => exact fun seen l h1 h2 h3 => ⟨h1, h2, fun i hi => h3 i (by simpa using hi)⟩
  | cons i is ih =>
    intro seen l h1 h2 h3
    have e : seen ++ i :: is = (seen ++ [i]) ++ is := by simp
    rw [List.foldl_cons, e]
    unfold exStep
    cases q : G (pick D (l.filter fun k => decide (k ≠ i)) ++ [d]) with
    | true =>
      rw [if_pos rfl]
      refine ih _ _ h1 h2 fun j hj hl => ?_
      rcases List.mem_append.mp hj with m | m
      · exact h3 j m hl
      · rw [List.mem_singleton.mp m]; exact q
    | false =>
      rw [if_neg (by decide)]
      refine ih _ _ (List.filter_sublist.trans h1) q fun j hj hl => ?_
      have hl' := List.mem_filter.mp hl
      have jne : j ≠ i := of_decide_eq_true hl'.2
      have js : j ∈ seen := (List.mem_append.mp hj).resolve_right fun z => jne (List.mem_singleton.mp z)
      refine hG _ _ (fun a ha => ?_) (h3 j js hl'.1)
      rcases List.mem_append.mp ha with m | m
      · obtain ⟨k, hk, ek⟩ := mem_pick.mp m
        obtain ⟨h4, h5⟩ := List.mem_filter.mp hk
        exact List.mem_append_left _ (mem_pick.mpr ⟨k, List.mem_filter.mpr ⟨(List.mem_filter.mp h4).1, h5⟩, ek⟩)
      · exact List.mem_append_right _ m
/-- the explanation and the further one are a conflict -/
theorem ex_conf (h1 : G D = true) (h0 : G (D ++ [d]) = false) : (exOf G D d ++ [D.length]).Sublist (List.range (D.length + 1)) ∧ isConf (fun s => G (pick (D ++ [d]) s)) (exOf G D d ++ [D.length]) = true := by
  obtain ⟨i1, i2, i3⟩ := ex_inv hG h0 (List.range D.length).reverse
  have sub : (exOf G D d ++ [D.length]).Sublist (List.range (D.length + 1)) := by
    rw [List.range_succ]; exact List.Sublist.append i1 (.refl _)
  have i1 : (exOf G D d).Sublist (List.range D.length) := i1
  have i2 : G (pick D (exOf G D d) ++ [d]) = false := i2
  have i3 : ∀ i ∈ (List.range D.length).reverse, i ∈ exOf G D d → G (pick D ((exOf G D d).filter fun k => decide (k ≠ i)) ++ [d]) = true := i3
  refine ⟨sub, ?_⟩
  generalize exOf G D d = l at *
  have at_old : ∀ k, k < D.length → (D ++ [d])[k]? = D[k]? := fun k hk => List.getElem?_append_left hk
  have at_new : (D ++ [d])[D.length]? = some d := by rw [List.getElem?_append_right (Nat.le_refl _)]; simp
  unfold isConf
  rw [Bool.and_eq_true, List.all_eq_true]
  constructor
  · have : G (pick (D ++ [d]) (l ++ [D.length])) = false := gf hG (fun a ha => by
      rcases List.mem_append.mp ha with m | m
      · obtain ⟨k, hk, ek⟩ := mem_pick.mp m
        exact mem_pick.mpr ⟨k, List.mem_append_left _ hk, by rw [at_old k (sub_lt i1 hk)]; exact ek⟩
      · rw [List.mem_singleton.mp m]
        exact mem_pick.mpr ⟨D.length, List.mem_append_right _ (List.mem_singleton.mpr rfl), at_new⟩) i2
    simp [this]
  · intro t ht
    obtain ⟨x, hx, hm⟩ := smaller_mem (sub_nodup sub) ht
    have tl : ∀ k ∈ t, k < D.length + 1 := fun k hk => sub_lt sub ((hm k).mp hk).1
    rcases List.mem_append.mp hx with m | m
    · have xl := sub_lt i1 m
      refine hG _ _ (fun a ha => ?_) (i3 x (List.mem_reverse.mpr (List.mem_range.mpr xl)) m)
      obtain ⟨k, hk, ek⟩ := mem_pick.mp ha
      obtain ⟨h4, h5⟩ := (hm k).mp hk
      rcases List.mem_append.mp h4 with z | z
      · rw [at_old k (sub_lt i1 z)] at ek
        exact List.mem_append_left _ (mem_pick.mpr ⟨k, List.mem_filter.mpr ⟨z, decide_eq_true h5⟩, ek⟩)
      · rw [List.mem_singleton.mp z, at_new] at ek
        rw [← Option.some.inj ek]
        exact List.mem_append_right _ (List.mem_singleton.mpr rfl)
    · refine hG _ _ (fun a ha => ?_) h1
      obtain ⟨k, hk, ek⟩ := mem_pick.mp ha
      obtain ⟨h4, h5⟩ := (hm k).mp hk
      have kl : k < D.length := by
        have := tl k hk
        have : k ≠ D.length := fun z => h5 (z.trans (List.mem_singleton.mp m).symm)
        omega
      rw [at_old k kl] at ek
      exact List.mem_of_getElem? ek
theorem k_inv (h0 : G [d] = true) : ∀ is : List Nat, (∀ i ∈ is, i < D.length) → G (kLoop G D d is).1 = true ∧ (∀ a, a ∈ (kLoop G D d is).1 ↔ a = d ∨ a ∈ pick D (kLoop G D d is).2) ∧ (∀ k ∈ (kLoop G D d is).2, k ∈ is) ∧
    ∀ i ∈ is, i ∉ (kLoop G D d is).2 → ∀ a, D[i]? = some a → G ((kLoop G D d is).1 ++ [a]) = false := by
  intro is his
  suffices H : ∀ (is seen : List Nat) (st : List α × List Nat), G st.1 = true → (∀ a, a ∈ st.1 ↔ a = d ∨ a ∈ pick D st.2) → (∀ k ∈ st.2, k ∈ seen) → (∀ i ∈ seen, i ∉ st.2 → ∀ a, D[i]? = some a → G (st.1 ++ [a]) = false) →
      G (is.foldl (kStep G D) st).1 = true ∧ (∀ a, a ∈ (is.foldl (kStep G D) st).1 ↔ a = d ∨ a ∈ pick D (is.foldl (kStep G D) st).2) ∧ (∀ k ∈ (is.foldl (kStep G D) st).2, k ∈ seen ++ is) ∧
        ∀ i ∈ seen ++ is, i ∉ (is.foldl (kStep G D) st).2 → ∀ a, D[i]? = some a → G ((is.foldl (kStep G D) st).1 ++ [a]) = false by
    exact H is [] ([d], []) h0 (fun a => by simp [pick]) (fun k hk => (nomatch hk)) fun i hi => (nomatch hi)
  clear his is
  intro is
  induction is with
  | nil => exact fun seen st h1 h2 h3 h4 => ⟨h1, h2, fun k hk => by simpa using h3 k hk, fun i hi => h4 i (by simpa using hi)⟩
  | cons i is ih =>
    intro seen st h1 h2 h3 h4
    have e : seen ++ i :: is = (seen ++ [i]) ++ is := by simp
    rw [List.foldl_cons, e]
    unfold kStep
    cases qi : D[i]? with
    | none =>
      refine ih _ _ h1 h2 (fun k hk => List.mem_append_left _ (h3 k hk)) fun j hj hn a ha => ?_
      rcases List.mem_append.mp hj with m | m
      · exact h4 j m hn a ha
      · rw [List.mem_singleton.mp m, qi] at ha; cases ha
    | some b =>
      cases q : G (st.1 ++ [b]) with
      | true =>
        show _ ∧ _ ∧ _ ∧ _
        simp only [q, if_true]
        refine ih _ _ q (fun a => ?_) (fun k hk => ?_) fun j hj hn a ha => ?_
        · show a ∈ st.1 ++ [b] ↔ a = d ∨ a ∈ pick D (st.2 ++ [i])
          rw [List.mem_append, h2 a, pick_app, List.mem_append]
          have : pick D [i] = [b] := by unfold pick; rw [List.filterMap_cons_some qi]; rfl
          rw [this, or_assoc]
        · rcases List.mem_append.mp hk with m | m
          · exact List.mem_append_left _ (h3 k m)
          · exact List.mem_append_right _ m
        · have hn1 : j ∉ st.2 := fun z => hn (List.mem_append_left _ z)
          have hn2 : j ≠ i := fun z => hn (List.mem_append_right _ (List.mem_singleton.mpr z))
          have js : j ∈ seen := (List.mem_append.mp hj).resolve_right fun z => hn2 (List.mem_singleton.mp z)
          refine gf hG (fun c hc => ?_) (h4 j js hn1 a ha)
          rcases List.mem_append.mp hc with m | m
          · exact List.mem_append_left _ (List.mem_append_left _ m)
          · exact List.mem_append_right _ m
      | false =>
        show _ ∧ _ ∧ _ ∧ _
        simp only [q]
        refine ih _ _ h1 h2 (fun k hk => List.mem_append_left _ (h3 k hk)) fun j hj hn a ha => ?_
        rcases List.mem_append.mp hj with m | m
        · exact h4 j m hn a ha
        · rw [List.mem_singleton.mp m, qi] at ha
          rw [← Option.some.inj ha]; exact q
/-- what is not kept is a correction -/
theorem kept_corr (h0 : G [d] = true) : (outside (keptOf G D d) D.length).Sublist (List.range (D.length + 1)) ∧ isCorr (fun s => G (pick (D ++ [d]) s)) (D.length + 1) (outside (keptOf G D d) D.length) = true := by
  obtain ⟨i1, i2, i3, i4⟩ := k_inv hG (D := D) h0 (List.range D.length).reverse (fun i hi => List.mem_range.mp (List.mem_reverse.mp hi))
  have sub : (outside (keptOf G D d) D.length).Sublist (List.range (D.length + 1)) := by
    rw [List.range_succ]; exact (outside_sub _ _).trans (List.sublist_append_left _ _)
  refine ⟨sub, ?_⟩
  unfold keptOf at sub ⊢
  generalize kLoop G D d (List.range D.length).reverse = st at *
  have at_old : ∀ k, k < D.length → (D ++ [d])[k]? = D[k]? := fun k hk => List.getElem?_append_left hk
  have at_new : (D ++ [d])[D.length]? = some d := by rw [List.getElem?_append_right (Nat.le_refl _)]; simp
  unfold isCorr
  rw [Bool.and_eq_true]
  constructor
  · rw [Bool.not_eq_true']
    refine Bool.eq_false_iff.mpr fun e => ?_
    obtain ⟨t, ht, hF⟩ := List.any_eq_true.mp e
    obtain ⟨x, hx, hm⟩ := smaller_mem (sub_nodup sub) ht
    obtain ⟨xl, xn⟩ := mem_outside.mp hx
    have gx := i4 x (List.mem_reverse.mpr (List.mem_range.mpr xl)) xn D[x] (List.getElem?_eq_getElem xl)
    have : G (st.1 ++ [D[x]]) = true := hG _ _ (fun a ha => by
      have put : ∀ k, k < D.length + 1 → k ∉ t → (D ++ [d])[k]? = some a → a ∈ pick (D ++ [d]) (outside t (D.length + 1)) := fun k h1 h2 h3 => mem_pick.mpr ⟨k, mem_outside.mpr ⟨h1, h2⟩, h3⟩
      rcases List.mem_append.mp ha with m | m
      · rcases (i2 a).mp m with z | z
        · exact put D.length (by omega) (fun q => by have := (mem_outside.mp ((hm _).mp q).1).1; omega) (by rw [at_new, z])
        · obtain ⟨k, hk, ek⟩ := mem_pick.mp z
          have kl := (List.getElem?_eq_some_iff.mp ek).1
          exact put k (by omega) (fun q => (mem_outside.mp ((hm _).mp q).1).2 hk) (by rw [at_old k kl]; exact ek)
      · rw [List.mem_singleton.mp m]
        refine mem_pick.mpr ⟨x, mem_outside.mpr ⟨by omega, fun q => ((hm _).mp q).2 rfl⟩, by rw [at_old x xl]; exact List.getElem?_eq_getElem xl⟩) hF
    rw [gx] at this; cases this
  · refine hG _ _ (fun a ha => ?_) i1
    obtain ⟨k, hk, ek⟩ := mem_pick.mp ha
    obtain ⟨kl, kn⟩ := mem_outside.mp hk
    by_cases e : k = D.length
    · rw [e, at_new] at ek
      exact (i2 a).mpr (.inl (Option.some.inj ek).symm)
    · have kl2 : k < D.length := by omega
      rw [at_old k kl2] at ek
      have : k ∈ st.2 := Classical.byContradiction fun z => kn (mem_outside.mpr ⟨kl2, z⟩)
      exact (i2 a).mpr (.inr (mem_pick.mpr ⟨k, this, ek⟩))
end
end K81
/-! ## KB -/
namespace K81
open PySem PySem.Spec PyProof.Rows L2

/-! ### the text -/
def topS (i : Nat) : Stmt := PySem.Challenge.pw_slotwise_k81_whole_conflicts_cross_corre.main.body.getD i (.Pass ⟨0, 0, 0, 0⟩)

/-! ### related lists -/
inductive All2 {α β : Type} (R : α → β → Prop) : List α → List β → Prop
  | nil : All2 R [] []
  | cons {x : α} {y : β} {xs : List α} {ys : List β} : R x y → All2 R xs ys → All2 R (x :: xs) (y :: ys)
section
variable {α β : Type} {R S : α → β → Prop}
theorem All2.len : ∀ {xs : List α} {ys : List β}, All2 R xs ys → xs.length = ys.length
  | _, _, .nil => rfl
  | _, _, .cons _ t => congrArg Nat.succ t.len
theorem All2.mono (f : ∀ x y, R x y → S x y) : ∀ {xs : List α} {ys : List β}, All2 R xs ys → All2 S xs ys
  | _, _, .nil => .nil
  | _, _, .cons r t => .cons (f _ _ r) (t.mono f)
theorem All2.get : ∀ {xs : List α} {ys : List β} {i : Nat} {y : β}, All2 R xs ys → ys[i]? = some y → ∃ x, xs[i]? = some x ∧ R x y
  | _, _, i, _, .nil, e => by simp at e
  | _, _, 0, _, .cons r _, e => by
    simp at e; subst e; exact ⟨_, rfl, r⟩
  | _, _, i + 1, y, .cons _ t, e => by
    obtain ⟨x, e1, r⟩ := t.get (i := i) (y := y) (by simpa using e)
    exact ⟨x, by simpa using e1, r⟩
theorem All2.getL : ∀ {xs : List α} {ys : List β} {i : Nat} {x : α}, All2 R xs ys → xs[i]? = some x → ∃ y, ys[i]? = some y ∧ R x y
  | _, _, i, _, .nil, e => by simp at e
  | _, _, 0, _, .cons r _, e => by
    simp at e; subst e; exact ⟨_, rfl, r⟩
  | _, _, i + 1, x, .cons _ t, e => by
    obtain ⟨y, e1, r⟩ := t.getL (i := i) (x := x) (by simpa using e)
    exact ⟨y, by simpa using e1, r⟩
theorem All2.app : ∀ {xs xs' : List α} {ys ys' : List β}, All2 R xs ys → All2 R xs' ys' → All2 R (xs ++ xs') (ys ++ ys')
  | _, _, _, _, .nil, s => s
  | _, _, _, _, .cons r t, s => .cons r (t.app s)
theorem All2.snoc {xs : List α} {ys : List β} {x : α} {y : β} (h : All2 R xs ys) (r : R x y) : All2 R (xs ++ [x]) (ys ++ [y]) := h.app (.cons r .nil)
theorem All2.set : ∀ {xs : List α} {ys : List β} {x : α} {y : β} (i : Nat), All2 R xs ys → R x y → All2 R (xs.set i x) (ys.set i y)
  | _, _, _, _, _, .nil, _ => .nil
  | _, _, _, _, 0, .cons _ t, r => .cons r t
  | _, _, _, _, i + 1, .cons q t, r => .cons q (All2.set i t r)
theorem All2.rep {x : α} {y : β} (r : R x y) : ∀ n : Nat, All2 R (List.replicate n x) (List.replicate n y)
  | 0 => .nil
  | n + 1 => by rw [List.replicate_succ, List.replicate_succ]; exact .cons r (All2.rep r n)
theorem All2.drop : ∀ {xs : List α} {ys : List β} (n : Nat), All2 R xs ys → All2 R (xs.drop n) (ys.drop n)
  | _, _, 0, h => h
  | _, _, _ + 1, .nil => .nil
  | _, _, n + 1, .cons _ t => All2.drop n t
theorem All2.take : ∀ {xs : List α} {ys : List β} (n : Nat), All2 R xs ys → All2 R (xs.take n) (ys.take n)
  | _, _, 0, _ => .nil
  | _, _, _ + 1, .nil => .nil
  | _, _, n + 1, .cons r t => .cons r (All2.take n t)
theorem All2.rev : ∀ {xs : List α} {ys : List β}, All2 R xs ys → All2 R xs.reverse ys.reverse
  | _, _, .nil => .nil
  | _, _, .cons r t => by rw [List.reverse_cons, List.reverse_cons]; exact t.rev.snoc r
theorem All2.map {γ δ : Type} {T : γ → δ → Prop} (f : α → γ) (g : β → δ) (h : ∀ x y, R x y → T (f x) (g y)) : ∀ {xs : List α} {ys : List β}, All2 R xs ys → All2 T (xs.map f) (ys.map g)
  | _, _, .nil => .nil
  | _, _, .cons r t => .cons (h _ _ r) (t.map f g h)
theorem All2.mapR {γ : Type} {T : α → γ → Prop} (g : β → γ) (h : ∀ x y, R x y → T x (g y)) : ∀ {xs : List α} {ys : List β}, All2 R xs ys → All2 T xs (ys.map g)
  | _, _, .nil => .nil
  | _, _, .cons r t => .cons (h _ _ r) (t.mapR g h)
end

/-! ### heaps: what stays -/
/-- all that is tracked stays -/
structure Ex (H H' : Hp) : Prop where
  old : ∀ b o, H b = some o → H' b = some o
/-- all but the object at t stays -/
structure E1 (t : Addr) (H H' : Hp) : Prop where
  old : ∀ b o, b ≠ t → H b = some o → H' b = some o
  fr : H' t = none → H t = none
/-- the tuples stay -/
def Tps (H H' : Hp) : Prop := ∀ b xs, H b = some (.tup xs) → H' b = some (.tup xs)
/-- all but the tables of code objects stays -/
structure Kp (T : List (Addr × Str)) (H H' : Hp) : Prop where
  old : ∀ b o, H b = some o → (∀ ps, o ≠ .tbl ps) → H' b = some o
  tab : LamX.Tabs T H → LamX.Tabs T H'
/-- nothing stands there but perhaps a table of code objects -/
def Nw (H : Hp) (p : Addr) : Prop := ∀ o, H p = some o → ∃ ps, o = .tbl ps
section
variable {H H' H1 H2 H3 : Hp} {t p : Addr} {o u : HO} {T : List (Addr × Str)}
theorem Ex.refl (H : Hp) : Ex H H := ⟨fun _ _ h => h⟩
theorem Ex.trans (a : Ex H1 H2) (b : Ex H2 H3) : Ex H1 H3 := ⟨fun x o h => b.old x o (a.old x o h)⟩
theorem Ex.fr (a : Ex H H') (h : H' p = none) : H p = none := by
  cases q : H p with
  | none => rfl
  | some o => rw [a.old _ _ q] at h; cases h
theorem Ex.new (h : H p = none) (o : HO) : Ex H (upd H p o) := ⟨fun b u e => by rw [upd_ne (ne_of_none e h)]; exact e⟩
theorem Ex.nw (a : Ex H H') (h : H' p = none) (o : HO) : Ex H (upd H' p o) := a.trans (.new h o)
/-- a new thing that was changed -/
theorem Ex.mut (a : Ex H H') (h : H p = none) (o : HO) : Ex H (upd H' p o) := ⟨fun b u e => by rw [upd_ne (ne_of_none e h)]; exact a.old b u e⟩
theorem Ex.ts (a : Ex H H') : Tps H H' := fun b xs h => a.old b _ h
theorem Tps.refl (H : Hp) : Tps H H := fun _ _ h => h
theorem Tps.trans (a : Tps H1 H2) (b : Tps H2 H3) : Tps H1 H3 := fun x o h => b x o (a x o h)
theorem E1.refl (t : Addr) (H : Hp) : E1 t H H := ⟨fun _ _ _ h => h, fun h => h⟩
theorem E1.trans (a : E1 t H1 H2) (b : E1 t H2 H3) : E1 t H1 H3 := ⟨fun x o n h => b.old x o n (a.old x o n h), fun h => a.fr (b.fr h)⟩
theorem Ex.e1 (a : Ex H H') (t : Addr) : E1 t H H' := ⟨fun x o _ h => a.old x o h, fun h => a.fr h⟩
theorem E1.free (a : E1 t H H') (h : H' p = none) : H p = none := by
  by_cases e : p = t
  · subst e; exact a.fr h
  · cases q : H p with
    | none => rfl
    | some o => rw [a.old _ _ e q] at h; cases h
theorem E1.nw (a : E1 t H H') (h : H' p = none) (o : HO) : E1 t H (upd H' p o) := a.trans ((Ex.new h o).e1 t)
theorem E1.mut (a : E1 t H H') (h : H p = none) (o : HO) : E1 t H (upd H' p o) := ⟨fun b u n e => by rw [upd_ne (ne_of_none e h)]; exact a.old b u n e, fun q => by
  by_cases e : t = p
  · subst e; exact h
  · rw [upd_ne e] at q; exact a.fr q⟩
theorem E1.put (a : E1 t H H') (o : HO) : E1 t H (upd H' t o) := ⟨fun b u n e => by rw [upd_ne n]; exact a.old b u n e, fun q => by rw [upd_same] at q; cases q⟩
/-- the tuples stay where a list is changed -/
theorem E1.ts {xs : List V} (a : E1 t H H') (h : H t = some (.lst xs)) : Tps H H' := fun b ys e => a.old b _ (ne_of e h (by intro z; cases z)) e
theorem E1.tsN (a : E1 t H H') (h : ∀ ys, H t ≠ some (.tup ys)) : Tps H H' := fun b ys e => a.old b _ (fun z => h ys (by rw [← z]; exact e)) e
theorem Nw.of (h : H p = none) : Nw H p := fun o e => by rw [h] at e; cases e
theorem Nw.ne {b : Addr} (h : Nw H p) (e : H b = some o) (n : ∀ ps, o ≠ .tbl ps) : b ≠ p := fun z => by
  subst z
  obtain ⟨ps, q⟩ := h o e
  exact n ps q
theorem Kp.refl (T : List (Addr × Str)) (H : Hp) : Kp T H H := ⟨fun _ _ h _ => h, fun h => h⟩
theorem Kp.trans (a : Kp T H1 H2) (b : Kp T H2 H3) : Kp T H1 H3 := ⟨fun x o h n => b.old x o (a.old x o h n) n, fun h => b.tab (a.tab h)⟩
theorem Kp.nwB (a : Kp T H H') (h : Nw H' p) : Nw H p := fun o e => by
  by_cases q : ∃ ps, o = .tbl ps
  · exact q
  · exact h o (a.old _ _ e fun ps z => q ⟨ps, z⟩)
theorem Ex.kp (a : Ex H H') (T : List (Addr × Str)) : Kp T H H' := ⟨fun x o h _ => a.old x o h, fun h => h.ext a.old⟩
theorem Kp.ts (a : Kp T H H') : Tps H H' := fun b xs h => a.old b _ h (by intro ps z; cases z)
theorem Kp.nw (a : Kp T H H') (h : H' p = none) (o : HO) : Kp T H (upd H' p o) := a.trans ((Ex.new h o).kp T)
/-- a list, a dict, an instance that came new is changed -/
theorem Kp.mut (a : Kp T H H') (h : Nw H p) {u o : HO} (hp : H' p = some u) (n1 : ∀ ps, u ≠ .tbl ps) (n2 : ∀ c q, u ≠ LamX.CodeO c q) : Kp T H (upd H' p o) := by
  refine ⟨fun b v e n => by rw [upd_ne (h.ne e n)]; exact a.old b v e n, fun q => ?_⟩
  intro x hx
  obtain ⟨ps, h1, h2, h3⟩ := a.tab q x hx
  have nP : x.1 ≠ p := fun z => by rw [z, hp] at h1; exact n1 ps (Option.some.inj h1)
  refine ⟨ps, by rw [upd_ne nP]; exact h1, h2, fun pos cv hc => ?_⟩
  obtain ⟨c, e1, e2⟩ := h3 pos cv hc
  have nc : c ≠ p := fun z => by rw [z, hp] at e2; exact n2 _ _ (Option.some.inj e2)
  exact ⟨c, e1, by rw [upd_ne nc]; exact e2⟩
theorem Kp.mutL (a : Kp T H H') (h : Nw H p) {xs : List V} {o : HO} (hp : H' p = some (.lst xs)) : Kp T H (upd H' p o) := a.mut h hp (fun _ z => by cases z) (fun _ _ z => by unfold LamX.CodeO at z; cases z)
theorem Kp.mutD (a : Kp T H H') (h : Nw H p) {kvs : List (List Key × V)} {o : HO} (hp : H' p = some (.dT kvs)) : Kp T H (upd H' p o) := a.mut h hp (fun _ z => by cases z) (fun _ _ z => by unfold LamX.CodeO at z; cases z)
theorem Kp.mutI (a : Kp T H H') (h : Nw H p) {C dx : Addr} {fs : List (Str × V)} {o : HO} (hp : H' p = some (.ins C dx fs)) : Kp T H (upd H' p o) := a.mut h hp (fun _ z => by cases z) (fun _ _ z => by unfold LamX.CodeO at z; cases z)
end

/-! ### the data in the heap -/
def nI (n : Nat) : V := .int (n : Int)
def oI : Option Nat → V
  | none => .non
  | some n => nI n
/-- a tuple of numbers | of texts -/
def TupI (H : Hp) (x : V) (l : List Nat) : Prop := ∃ a, x = .ref a ∧ H a = some (.tup (l.map nI))
def TupS (H : Hp) (x : V) (l : List Str) : Prop := ∃ a, x = .ref a ∧ H a = some (.tup (l.map V.str))
def VarAt (H : Hp) (x : V) (v : Vr) : Prop := ∃ a s, x = .ref a ∧ H a = some (.tup [nI v.plug, .ref s, oI v.price]) ∧ H s = some (.tup (v.slots.map nI))
structure FamAt (H : Hp) (a : Addr) (f : Fm) : Prop where
  ex : ∃ r b xs, H a = some (.tup [nI f.count, .ref r, .ref b]) ∧ H r = some (.tup (f.roots.map nI)) ∧ H b = some (.tup xs) ∧ All2 (VarAt H) xs f.vars
def OW (H : Hp) (x : V) (w : Option Wt) : Prop := match w with
  | none => x = .non
  | some (p, n) => ∃ a, x = .ref a ∧ H a = some (.tup [nI p, nI n])
/-- the slot names: tuples known to the object -/
def NmAt (H : Hp) (x : V) (l : List Str) : Prop := ∃ a o, x = .ref a ∧ H a = some (.frz o (.tup (l.map V.str))) ∧ o.dict = none
def NamesAt (H : Hp) (a : Addr) (names : List (List Str)) : Prop := ∃ xs, H a = some (.tup xs) ∧ All2 (NmAt H) xs names
abbrev Dem := Dm Str
def DmAt (H : Hp) (x : V) (d : Dem) : Prop := ∃ a p k, x = .ref a ∧ H a = some (.tup [.ref p, .ref k]) ∧ H p = some (.tup (d.path.map V.str)) ∧ H k = some (.tup (d.ok.map nI))
def DsAt (H : Hp) (a : Addr) (D : List Dem) : Prop := ∃ xs, H a = some (.tup xs) ∧ All2 (DmAt H) xs D
/-- tuples of tuples of numbers -/
def SetsAt (H : Hp) (a : Addr) (l : List (List Nat)) : Prop := ∃ xs, H a = some (.tup xs) ∧ All2 (TupI H) xs l
section
variable {H H' : Hp}
theorem TupI.ts {x : V} {l : List Nat} (k : Tps H H') (h : TupI H x l) : TupI H' x l := let ⟨a, e, q⟩ := h; ⟨a, e, k _ _ q⟩
theorem TupS.ts {x : V} {l : List Str} (k : Tps H H') (h : TupS H x l) : TupS H' x l := let ⟨a, e, q⟩ := h; ⟨a, e, k _ _ q⟩
theorem VarAt.ts {x : V} {v : Vr} (k : Tps H H') (h : VarAt H x v) : VarAt H' x v := let ⟨a, s, e, q1, q2⟩ := h; ⟨a, s, e, k _ _ q1, k _ _ q2⟩
theorem FamAt.ts {a : Addr} {f : Fm} (k : Tps H H') (h : FamAt H a f) : FamAt H' a f := let ⟨r, b, xs, q1, q2, q3, q4⟩ := h.ex; ⟨r, b, xs, k _ _ q1, k _ _ q2, k _ _ q3, q4.mono fun _ _ z => z.ts k⟩
theorem OW.ts {x : V} {w : Option Wt} (k : Tps H H') (h : OW H x w) : OW H' x w := by
  cases w with
  | none => exact h
  | some y => obtain ⟨a, e, q⟩ := h; exact ⟨a, e, k _ _ q⟩
theorem DmAt.ts {x : V} {d : Dem} (k : Tps H H') (h : DmAt H x d) : DmAt H' x d := let ⟨a, p, b, e, q1, q2, q3⟩ := h; ⟨a, p, b, e, k _ _ q1, k _ _ q2, k _ _ q3⟩
theorem DsAt.ts {a : Addr} {D : List Dem} (k : Tps H H') (h : DsAt H a D) : DsAt H' a D := let ⟨xs, q1, q2⟩ := h; ⟨xs, k _ _ q1, q2.mono fun _ _ z => z.ts k⟩
theorem SetsAt.ts {a : Addr} {l : List (List Nat)} (k : Tps H H') (h : SetsAt H a l) : SetsAt H' a l := let ⟨xs, q1, q2⟩ := h; ⟨xs, k _ _ q1, q2.mono fun _ _ z => z.ts k⟩
/-- locked things stay -/
def Fzs (H H' : Hp) : Prop := ∀ b o u, H b = some (.frz o u) → H' b = some (.frz o u)
theorem Ex.fs (a : Ex H H') : Fzs H H' := fun b o u h => a.old b _ h
theorem E1.fs {t : Addr} {xs : List V} (a : E1 t H H') (h : H t = some (.lst xs)) : Fzs H H' := fun b o u e => a.old b _ (ne_of e h (by intro z; cases z)) e
theorem E1.fsN {t : Addr} (a : E1 t H H') (h : ∀ o u, H t ≠ some (.frz o u)) : Fzs H H' := fun b o u e => a.old b _ (fun z => h o u (by rw [← z]; exact e)) e
theorem Kp.fs {T : List (Addr × Str)} (a : Kp T H H') : Fzs H H' := fun b o u h => a.old b _ h (by intro ps z; cases z)
theorem NmAt.fs {x : V} {l : List Str} (k : Fzs H H') (h : NmAt H x l) : NmAt H' x l := let ⟨a, o, e, q, d⟩ := h; ⟨a, o, e, k _ _ _ q, d⟩
theorem NamesAt.ts {a : Addr} {names : List (List Str)} (k : Tps H H') (k' : Fzs H H') (h : NamesAt H a names) : NamesAt H' a names := let ⟨xs, q1, q2⟩ := h; ⟨xs, k _ _ q1, q2.mono fun _ _ z => z.fs k'⟩
end

/-! ### built-ins' names, defs that are called -/
structure Blt (mg : Str → Option Value) : Prop where
  len : mg "len" = none
  range : mg "range" = none
  tuple : mg "tuple" = none
  list : mg "list" = none
  sorted : mg "sorted" = none
  all : mg "all" = none
  any : mg "any" = none
  sum : mg "sum" = none
  min : mg "min" = none
  max : mg "max" = none
  abs : mg "abs" = none
  int : mg "int" = none
  repr : mg "repr" = none
  isinstance : mg "isinstance" = none
  reversed : mg "reversed" = none
  enumerate : mg "enumerate" = none

/-- a def of the text that keeps the promise sp -/
structure Cal (P : Program) (w : World) (K : PySem.W.Frag) (mg : Str → Option Value) (base : Heap) (k : Nat) (x : Str) (ps : List Str) (sp : Sp) : Prop where
  ex : ∃ f fd, FnOk P w K mg base CX0 k f fd ps sp ∧ Binds K fd ps [] ∧ PySem.W.keepIn K (.ref f) = true ∧ mg x = some (.ref f)
theorem pe_cal {X : Cx} {k : Nat} {x : Str} {ps : List Str} {sp : Sp} {e : Expr} {es : List Expr} {t : TA} {p pos : Pos} (C : Cal X.prog X.w X.K X.mg X.base k x ps sp) (hr : Room k X.A) (hg : Gl X x) (ha : PA X (e :: es) t)
    (hdb : (x == ("__debug__" : Str)) = false := by decide) (he : starEach (e :: es) X.env = (false, eval e X.env) :: starEach es X.env := by rfl) (hpl : (backTo pos (starEach es X.env)).any (·.1) = false := by rfl) :
    PE X (.Call (.Name x p) (e :: es) [] pos) (tCall sp [] E0 t) := by
  obtain ⟨f, fd, F, b, kp, m⟩ := C.ex
  exact pe_call F hr hg m kp b .nil pass0 ha hdb he hpl
end K81
/-! ## KR1 -/
namespace K81
open PySem PySem.Spec PyProof.Rows L2

section
variable {X : Cx}
/-! ### walked: a list or a tuple -/
def iSeq (K : PySem.W.Frag) (te : TE) : TI := fun σ H R => iList K te σ H R ∨ iTup K te σ H R
theorem pi_seq {tg l : Expr} {tl : TE} (hl : PE X l tl) : PI X tg l (iSeq X.K tl) :=
  ⟨fun pins s σ H R I h => h.elim (fun q => (pi_list hl).run pins s σ H R I q) fun q => (pi_tup hl).run pins s σ H R I q⟩

/-! ### in, not in: data in a tuple -/
def rInT (K : PySem.W.Frag) : R2 := fun x y H Q => ∃ d ds, Dp K H x d ∧ Dp K H y (.tuple ds) ∧ SeqAt.shaped d = true ∧ SeqAt.shaped (.tuple ds) = true ∧ Q (.bl (ds.any fun z => PyData.eqv z d)) H
def rNotInT (K : PySem.W.Frag) : R2 := fun x y H Q => ∃ d ds, Dp K H x d ∧ Dp K H y (.tuple ds) ∧ SeqAt.shaped d = true ∧ SeqAt.shaped (.tuple ds) = true ∧ Q (.bl (!ds.any fun z => PyData.eqv z d)) H
theorem room_shape {d : PyData} {n m : Nat} (h : SeqAt.shaped d = true) (hu : n + 65 < cLine) : n + 1 + min m d.depth < cLine := by
  have h2 : (d.canLay0 && decide (d.depth ≤ 64)) = true := h
  rw [Bool.and_eq_true] at h2
  have h3 := of_decide_eq_true h2.2
  have h4 := Nat.min_le_right m d.depth
  omega
theorem op_inT (hu : X.A.units + 65 < cLine) : OpR X (compareOp .In) (rInT X.K) := fun pins s σ H x y v u Q I rx ry ⟨d, ds, hd, he, sd, se, q⟩ => by
  obtain ⟨as, r1⟩ := Dp.reads I d x v hd rx
  obtain ⟨bs, r2⟩ := Dp.reads I (.tuple ds) y u he ry
  exact SeqAt.in_tuple_reads r2 r1 (SeqAt.canLay_of_shaped se) (SeqAt.canLay_of_shaped sd) (room_shape sd hu) ⟨.bl _, H, I, rfl, q⟩
theorem op_notInT (hu : X.A.units + 65 < cLine) : OpR X (compareOp .NotIn) (rNotInT X.K) := fun pins s σ H x y v u Q I rx ry ⟨d, ds, hd, he, sd, se, q⟩ => by
  obtain ⟨as, r1⟩ := Dp.reads I d x v hd rx
  obtain ⟨bs, r2⟩ := Dp.reads I (.tuple ds) y u he ry
  exact SeqAt.notIn_tuple_reads r2 r1 (SeqAt.canLay_of_shaped se) (SeqAt.canLay_of_shaped sd) (room_shape sd hu) ⟨.bl _, H, I, rfl, q⟩

/-! ### tuple(list): the new tuple's object has no dict -/
def rTupF (K : PySem.W.Frag) : List V → Hp → VK → Prop := fun xs H Q => ∃ p ys, xs = [.ref p] ∧ SqL K H p ys ∧ ∀ l o, H l = none → o.dict = none → Q (.ref l) (upd H l (.frz o (.tup ys)))
theorem call_tupF : CallR X (.type "tuple") (rTupF X.K) := fun pins s σ H xs us Q I r h => by
  obtain ⟨p, ys, rfl, hq, q⟩ := h
  obtain ⟨u, rfl, rx⟩ := vals1 r
  cases rx
  obtain ⟨its, r', pl, hz⟩ := I.list hq
  have hlen := r'.length
  refine call_tuple_list pl.isList (fun h' kp => ?_) (by simp only [List.size_toArray] <;> omega)
  have J := I.kept (t' := s.toks) kp
  let ob : Obj := { cls := .type "tuple", data := .seq its.toArray }
  have new : ObjOk X.prog X.w (upd H h'.objs.size (.frz ob (.tup ys))) (h'.push ob) h'.objs.size (.frz ob (.tup ys)) := ⟨Heap.get?_push_size _ rfl, hz, its, r', IsTup.new _ _⟩
  exact ⟨.ref h'.objs.size, _, J.laid (t' := s.toks) (fun b o e => Heap.get?_push_of_some _ e) (Nat.le_refl _) new, rfl, q _ ob (J.hok.fresh (Nat.le_refl _)) rfl⟩

/-! ### t.index(x): a tuple known to its object -/
def tIdx (to : TE) (ta : TA) : TE := fun σ H Q => to σ H fun x H1 => ∃ p o u, x = .ref p ∧ H1 p = some (.frz o (.tup u)) ∧ o.dict = none ∧ ta σ H1 fun vs H2 => H2 p = some (.frz o (.tup u)) ∧
  ∃ (ys : List Str) (z : Str) (j : Nat), u = ys.map V.str ∧ vs = [.str z] ∧ ys[j]? = some z ∧ (∀ m, m < j → ys[m]? ≠ some z) ∧ Q (.int (j : Nat)) H2
theorem pe_tidx {o e : Expr} {to : TE} {ta : TA} {apos cpos : Pos} (ho : PE X o to) (he : PA X [e] ta)
    (hbase : attributeBase o "index" X.env (eval o X.env) = eval o X.env := by rfl)
    (hfew : ((backTo cpos (starEach [e] X.env)).all (fun x => !x.1) && (backToKw cpos (keywordEach [] X.env)).all (fun x => x.1.isSome) && decide (([e] : List Expr).length + ([] : List Keyword).length + (if ([] : List Keyword).isEmpty then 0 else 1) < 30)) = true := by rfl)
    (hline : (apos.endLine == cpos.line) = true := by rfl) (hs : starEach [e] X.env = (false, eval e X.env) :: starEach [] X.env := by rfl) :
    PE X (.Call (.Attribute o "index" apos) [e] [] cpos) (tIdx to ta) := by
  refine ⟨fun pins s σ H Q I h => wpAny_Call_method_late hbase hfew hline rfl (thn (ho.run pins s σ H _ I h) fun v s1 hv => ?_)⟩
  obtain ⟨x, H1, I1, r1, p, ob, u, rfl, hp, hd, q1⟩ := hv
  obtain rfl : v = Value.ref p := r1
  obtain ⟨e1, hz, its, rv, hT⟩ := I1.hok p _ hp
  obtain ⟨o2, e2, hc, n, hdt⟩ := hT
  rw [e1] at e2
  cases e2
  refine ⟨"tuple", "tuple.index", PySem.F.plainAttrs_tuple, PySem.F.slot_tuple_index, PySem.F.type_tuple_index, ⟨_, e1, hc⟩, fun a ea => by cases ea; exact ⟨_, e1, hd⟩, ?_⟩
  have hA := he.run cpos pins s1 σ H1 _ I1 q1
  rw [hs] at hA ⊢
  refine Calls.callWith_builtin (by rfl) (Calls.evalArgs_plain (thn hA fun us s2 h2 => ?_))
  obtain ⟨vs, H2, I2, r2, hp2, ys, z, j, eu, ev, k1, k2, k3⟩ := h2
  subst eu ev
  exact mt_tup_index pins s2 σ H2 (.ref p) [.str z] (.ref p) us Q I2 rfl r2 ⟨p, ys, z, j, rfl, rfl, .inl (.inr ⟨ob, hp2⟩), k1, k2, k3⟩

/-! ### t * 1 is t itself -/
theorem tup_mul1 (l : Addr) (items : Array Value) (n : Nat) (dd : Option Addr) (sl : Array (Option Value)) (u : Tok) (hi : items.isEmpty = false) :
    Meets (Builtin.«tuple.__mul__» ⟨[.ref l, .int 1 u], []⟩) (fun _ R s => s.heap.get? l = some { cls := .type "tuple", dict := dd, data := .seq items n, slots := sl } ∧ R (.ok (.ret (Value.ref l))) s) :=
  .of_wp fun prog w A R s h => by
    obtain ⟨hp, g, d, tk, os⟩ := s
    obtain ⟨hl, h⟩ := h
    have f1 := AutoSeq1.idx_int
    wp_walk using wpAny_loadPart' hl
    exact ⟨_, rfl, h⟩
def rRep1 (K : PySem.W.Frag) : R2 := fun x y H Q => ∃ l xs, x = .ref l ∧ y = .int 1 ∧ SqT K H l xs ∧ xs ≠ [] ∧ Q (.ref l) H
theorem op_rep1 : OpR X (binaryOp .Mult) (rRep1 X.K) := fun pins s σ H x y v u Q I rx ry ⟨l, xs, ex, ey, hT, hne, q⟩ => by
  subst ex ey
  cases rx
  obtain ⟨t, rfl⟩ := ry
  obtain ⟨its, r, ⟨⟨cls, dd, data, sl⟩, ho, hc, n, hd⟩, hs⟩ := I.tuple hT
  simp only at hc hd
  subst hc hd
  have hi : its.toArray.isEmpty = false := by
    cases r with
    | nil => exact absurd rfl hne
    | cons _ _ => rfl
  exact wpAny_binaryOp_repeat_ref (T := "tuple") (U := "int") (by decide) ⟨_, ho, rfl⟩ (fun s' => typeIs_int s' 1 t) noFill_tuple_mul F.fills_int_mul F.slot_int_rmul repeat_tuple F.slot_int_index.lookup
    (call_meets F.slot_int_rmul (typeIs_int s 1 t) F.entry_int_rmul (F.args_int_rmul_2 _ _) (int_rmul_tuple 1 t l its.toArray n dd sl)
      ⟨ho, rfl, ⟨_, ho, rfl⟩, call_meets F.slot_tuple_mul ⟨_, ho, rfl⟩ F.entry_tuple_mul (F.args_tuple_mul_2 _ _) (tup_mul1 l its.toArray n dd sl t hi) ⟨ho, .ref l, H, I, rfl, q⟩⟩)
/-- (None,) * n, n from 1 on -/
def rNones (K : PySem.W.Frag) : R2 := fun x y H Q => ∃ l n, x = .ref l ∧ y = .int ((n : Nat) : Int) ∧ H l = some (.tup [.non]) ∧ 1 ≤ n ∧ n ≤ 1000 ∧ ∀ p H', Ex H H' → H' p = some (.tup (List.replicate n .non)) → Q (.ref p) H'
theorem op_nones : OpR X (binaryOp .Mult) (rNones X.K) := fun pins s σ H x y v u Q I rx ry ⟨l, n, ex, ey, hT, h1, h2, q⟩ => by
  by_cases e : n = 1
  · subst e
    exact op_rep1 pins s σ H x y v u Q I rx ry ⟨l, _, ex, ey, SqT.of hT, by simp, q l H (.refl H) hT⟩
  · refine op_repT pins s σ H x y v u Q I rx ry ⟨l, (n : Int), _, ex, ey, SqT.of hT, by simp, by omega, by omega, by simp, fun p hp => q p _ (.new hp _) ?_⟩
    rw [upd_same]
    have e2 : ∀ k : Nat, (List.replicate k ([.non] : List V)).flatten = List.replicate k .non := fun k => by
      induction k with
      | zero => rfl
      | succ k ih => rw [List.replicate_succ, List.flatten_cons, ih]; rfl
    rw [show ((n : Int)).toNat = n from rfl, e2]

/-! ### for i, x in enumerate(t), t a tuple -/
end
theorem meets_enum_tup {v : Value} {o : Obj} {H : Heap → Prop} (B : Begins v o H) :
    Meets (Builtin.«enumerate.__new__» ⟨[.type "enumerate", v], []⟩) (fun _ R s => H s.heap ∧
      R (.ok (.ret (.ref (s.heap.push o).objs.size))) { s with heap := (s.heap.push o).push { cls := .type "enumerate", data := .fields #[.none, .bool false, .ref s.heap.objs.size, rawInt 0, .none, .none] } }) :=
  .of_wp fun prog w A R s h => by
    obtain ⟨hp, g, d, tk, os⟩ := s
    obtain ⟨hH, hR⟩ := h
    have hsub := sub_enumerate
    have it : ∀ {A1 : Around} {E1 : Value → Shared → Prop} {Q1 : Value → Shared → Prop}, Q1 (.ref hp.objs.size) ⟨hp.push o, g, d, tk, os⟩ → wpAny (model prog w) A1 (pyIter v) Q1 E1 ⟨hp, g, d, tk, os⟩ :=
      fun k => B.iter prog w _ _ ⟨hp, g, d, tk, os⟩ _ hH k
    wp_walk using it
    refine wpAny_stack_any fun st => wpAny_pure ?_
    split
    · rename_i c _ _ _ _ _
      by_cases hc : (c == Value.type "enumerate") = true
      · wp_walk using it
        exact ⟨_, rfl, hR⟩
      · wp_walk using it
        exact ⟨_, rfl, hR⟩
    · wp_walk using it
      exact ⟨_, rfl, hR⟩
end K81
/-! ## KR2 -/
namespace K81
open PySem PySem.Spec PyProof.Rows L2

theorem begin_enum {prog : Program} {w : World} {A : Around} {E : Value → Shared → Prop} {s : Shared} {t : Addr} {items : Array Value} {Q : Value → Shared → Prop} (hT : s.heap.IsTuple t items)
    (h : ∀ h', IsEnum h' (s.heap.objs.size + 1) s.heap.objs.size 0 .none → h'.IsTupleIter s.heap.objs.size t 0 → (∀ b o, s.heap.get? b = some o → h'.get? b = some o) → Q (.ref (s.heap.objs.size + 1)) { s with heap := h' }) :
    wpAny (model prog w) A (call (.type "enumerate") [.ref t]) Q E s := by
  let o1 : Obj := { cls := .type "tuple_iterator", data := .fields #[.ref t, .int 0 0] }
  let o2 : Obj := { cls := .type "enumerate", data := .fields #[.none, .bool false, .ref s.heap.objs.size, rawInt 0, .none, .none] }
  refine callType_new F.called_enumerate (by decide) (F.typeCall_enumerate_1 _) (F.newCall_enumerate_1 _) (fun obj => F.args_object_init_2 obj _) F.entry_enumerate_new (meets_enum_tup (begins_tuple t items)) ⟨hT, ?_⟩
  have hz : (s.heap.push o1).objs.size = s.heap.objs.size + 1 := Heap.size_push ..
  have he : ((s.heap.push o1).push o2).get? (s.heap.objs.size + 1) = some o2 := by
    have q := Heap.get?_push_size (s.heap.push o1) (o := o2) rfl
    rw [hz] at q
    exact q
  show _ ∧ _
  rw [hz]
  exact ⟨⟨o2, he, rfl⟩, h _ he ⟨o1, Heap.get?_push_of_some _ (Heap.get?_push_size _ rfl), rfl, rfl⟩ fun b o e => Heap.get?_push_of_some _ (Heap.get?_push_of_some _ e)⟩

/-- the tuple at a, each item in a new pair with its place -/
def ItE (K : PySem.W.Frag) (a : Addr) : It :=
  ⟨fun i H => ∃ (xs : List V) (x : V), SqT K H a xs ∧ xs[i]? = some x, fun i H v H' => ∃ T x, v = .ref T ∧ H T = none ∧ H' = upd H T (.tup [.int (i : Nat), x]) ∧ ∀ xs, SqT K H a xs → xs[i]? = some x, fun i H => ∃ xs : List V, SqT K H a xs ∧ xs.length = i⟩
def TnE (a e it : Addr) (i : Nat) (h : Heap) : Prop := (∃ old, IsEnum h e it ((i : Nat) : Int) old) ∧ h.IsTupleIter it a i ∧ e ≠ it
theorem turnE {P : Program} {w : World} {K : PySem.W.Frag} {elts : List Expr} {kk : Nat} {tpos : Pos} (a e it : Addr) : Turn P w K (.Tuple elts kk tpos) (ItE K a) [e, it] e (TnE a e it) where
  mem := List.mem_cons_self
  obj := fun i h ⟨⟨old, he⟩, ⟨o, ho, _, hd⟩, _⟩ b hb => by
    rcases List.mem_cons.mp hb with z | z
    · subst z; exact ⟨_, he, fun v q => nomatch q⟩
    · cases List.mem_singleton.mp z
      exact ⟨o, ho, fun v q => by rw [hd] at q; cases q⟩
  keep := fun i h h' ⟨⟨old, he⟩, hi, hne⟩ k => ⟨⟨old, k e (by simp) _ he⟩, hi.at fun o q => k it (by simp) o q, hne⟩
  item := by
    intro X eP ew eK hc i pins s σ H E I hf st hg
    subst eP ew eK
    obtain ⟨⟨old, he⟩, hit, hne⟩ := st
    obtain ⟨xs, x, hq, hx⟩ := hg
    obtain ⟨its, rv, p, hz⟩ := I.tuple hq
    obtain ⟨u, hu, ru⟩ := rv.get hx
    have pT : s.heap.IsTuple a its.toArray := p
    have nea : e ≠ a := fun z => by
      obtain ⟨o, ho, hcl, _⟩ := p
      have he' : s.heap.get? e = _ := he
      rw [z, ho] at he'
      rw [Option.some.inj he'] at hcl
      injection hcl with z3
      exact absurd z3 (by decide)
    have nia : a ≠ it := fun z => by
      obtain ⟨o, ho, hcl, _⟩ := p
      obtain ⟨o2, ho2, hc2, _⟩ := hit
      rw [z, ho2] at ho
      cases ho
      rw [hc2] at hcl
      injection hcl with z3
      exact absurd z3 (by decide)
    have hel : e < s.heap.objs.size := Heap.lt_size he
    have hil : it < s.heap.objs.size := by obtain ⟨_, q, _⟩ := hit; exact Heap.lt_size q
    have hlt : i < its.toArray.size := by
      obtain ⟨h1, _⟩ := List.getElem?_eq_some_iff.mp hu
      simpa using h1
    refine wpAny_pyNext_enum_itemD (Draws.tuple (A := X.A.in1) (I.ok.hd hc) it a nia its.toArray) he ⟨hit, pT⟩ hlt hne (by simp [hne, nea]) fun y h' tk hy ho st' hT hsz hk => ?_
    obtain rfl : y = u := by
      have h1 : its.toArray[i]? = some u := by simpa using hu
      rw [h1] at hy
      exact (Option.some.inj hy).symm
    refine ⟨_, rfl, wpAny_letOwnedTupleGo_enum (s := { s with heap := h', toks := tk + 1 }) ho fun h2 he2 sb => ?_⟩
    have hT2 : h2.get? s.heap.objs.size = some { cls := .type "tuple", data := .seq #[.int i tk, y] } := (sb.2 _ (Nat.ne_of_gt hel)).trans hT
    have new : ObjOk X.prog X.w (upd H s.heap.objs.size (.tup [.int (i : Nat), x])) h2 s.heap.objs.size (.tup [.int (i : Nat), x]) :=
      ⟨by show 2 ≤ sizeLine; decide, [.int i tk, y], .cons ⟨_, rfl⟩ (.cons ru .nil), ⟨_, hT2, rfl, _, rfl⟩⟩
    have J := I.turnedNew (t' := tk + 1) (h' := h2) (ch := [e, it]) (fun b ob hb q => (sb.2 b (fun z => hb (by simp [z]))).trans (hk b ob (fun z => hb (by simp [z])) (fun z => hb (by simp [z])) q)) hf (Nat.le_refl _) new
    refine ⟨.ref s.heap.objs.size, _, J, rfl, ⟨_, x, rfl, I.hok.fresh (Nat.le_refl _), rfl, fun ys hy => by rw [I.tuple_inj hy hq]; exact hx⟩, ⟨⟨y, ?_⟩, st'.1.at fun o q => (sb.2 it (Ne.symm hne)).trans q, hne⟩, fun b hb => ?_⟩
    · rw [show ((i + 1 : Nat) : Int) = (i : Int) + 1 by omega]
      exact he2
    · have hlb : b < s.heap.objs.size := by
        rcases List.mem_cons.mp hb with z | z
        · rw [z]; exact hel
        · rw [List.mem_singleton.mp z]; exact hil
      rw [upd_ne (Nat.ne_of_lt hlb)]
      exact (hf b hb).1
  done := by
    intro X eP ew eK hc i pins s σ H E I hf st hg
    subst eP ew eK
    obtain ⟨⟨old, he⟩, hit, hne⟩ := st
    obtain ⟨xs, hq, hx⟩ := hg
    obtain ⟨its, rv, p, hz⟩ := I.tuple hq
    have pT : s.heap.IsTuple a its.toArray := p
    have nia : a ≠ it := fun z => by
      obtain ⟨o, ho, hcl, _⟩ := p
      obtain ⟨o2, ho2, hc2, _⟩ := hit
      rw [z, ho2] at ho
      cases ho
      rw [hc2] at hcl
      injection hcl with z3
      exact absurd z3 (by decide)
    have hl : its.toArray.size = i := by
      have h1 := rv.length
      rw [List.size_toArray]
      omega
    obtain ⟨f0, f1, f2, f3, f4, f5⟩ := hf it (by simp)
    refine wpAny_pyNext_enum_endD (Draws.tuple (A := X.A.in1) (I.ok.hd hc) it a nia its.toArray) he ⟨by rw [hl]; exact hit, pT⟩ fun h' eb => ⟨rfl, I.turned (t' := s.toks) (fun b o hb q => eb b o hb q) f0 f1 f3 f4 f5⟩
  self := fun A i s Q E ⟨⟨_, he⟩, _⟩ h => wpAny_pyIter_enum he h
def iEnT (K : PySem.W.Frag) (ta : TA) : TI := fun σ H R => ta σ H fun vs H1 => ∃ a xs, vs = [.ref a] ∧ SqT K H1 a xs ∧ R (ItE K a) H1
theorem pi_enumT {X : Cx} {e : Expr} {ta : TA} {p pos tpos : Pos} {elts : List Expr} {kk : Nat} (hg : Gl X "enumerate") (hm : X.mg "enumerate" = none) (ha : PA X [e] ta) (hs : starEach [e] X.env = [(false, eval e X.env)] := by rfl) :
    PI X (.Tuple elts kk tpos) (.Call (.Name "enumerate" p) [e] [] pos) (iEnT X.K ta) := by
  refine ⟨fun pins s σ H R I h => Call_ (ld_blt I hg hm boot_enumerate (PyProof.Rows.callWith_type1 (thn (ha.run pos pins s σ H _ I h) fun us s1 hu => ?_) hs rfl))⟩
  obtain ⟨vs, H1, I1, r1, a, xs, ev, hq, q⟩ := hu
  subst ev
  obtain rfl := Vals.ref1 r1
  obtain ⟨its, rv, p', hz⟩ := I1.tuple hq
  refine begin_enum (show s1.heap.IsTuple a its.toArray from p') fun h' he' hit hk => wpAny_pyIter_enum he' ?_
  refine ⟨s1.heap.objs.size + 1, [s1.heap.objs.size + 1, s1.heap.objs.size], _, _, H1, rfl, I1.kept (t' := s1.toks) hk, turnE a (s1.heap.objs.size + 1) s1.heap.objs.size, ⟨⟨.none, he'⟩, hit, Nat.succ_ne_self _⟩, fun b hb => ?_, q⟩
  have hle : s1.heap.objs.size ≤ b := by
    rcases List.mem_cons.mp hb with z | z
    · rw [z]; exact Nat.le_succ _
    · rw [List.mem_singleton.mp z]; exact Nat.le_refl _
  exact I1.fpOk hle (I1.hok.fresh hle)
/-- a for over it: each item with its place, in a new pair -/
theorem for_enumT {K : PySem.W.Frag} {a : Addr} {xs : List V} {g : TG} {tb : TS} {D : Ends} {σ : L2.St} {H : Hp} (Pv : Nat → L2.St → Hp → Prop) (h0 : Pv 0 σ H) (hl : ∀ i σ H, Pv i σ H → SqT K H a xs)
    (hs : ∀ i x σ H T, xs[i]? = some x → Pv i σ H → H T = none → g (.ref T) σ (upd H T (.tup [.int (i : Nat), x])) fun σ2 H2 => tb { D with nx := Pv (i + 1), ct := Pv (i + 1), bk := D.nx } σ2 H2) (hd : ∀ σ H, Pv xs.length σ H → D.nx σ H) :
    ∃ W : Nat → Nat → L2.St → Hp → Prop, (∃ m, W 0 m σ H) ∧ ∀ i m σ H, W i m σ H →
      ((ItE K a).stop i H ∧ D.nx σ H) ∨ ((ItE K a).go i H ∧ ∃ N : L2.St → Hp → Prop, (∀ σ' H', N σ' H' → ∃ m', m' < m ∧ W (i + 1) m' σ' H') ∧ ∀ x H', (ItE K a).yld i H x H' → g x σ H' fun σ2 H2 => tb { D with nx := N, ct := N, bk := D.nx } σ2 H2) := by
  refine ⟨fun i m σ H => m + i = xs.length ∧ Pv i σ H, ⟨xs.length, Nat.add_zero _, h0⟩, ?_⟩
  rintro i m σ H ⟨em, p⟩
  have q := hl i σ H p
  cases m with
  | zero =>
    have e : i = xs.length := by omega
    subst e
    exact .inl ⟨⟨xs, q, rfl⟩, hd σ H p⟩
  | succ m =>
    have hi : i < xs.length := by omega
    refine .inr ⟨⟨xs, xs[i], q, List.getElem?_eq_getElem hi⟩, Pv (i + 1), fun σ' H' p' => ⟨m, Nat.lt_succ_self _, by omega, p'⟩, ?_⟩
    rintro y H' ⟨T, x, rfl, hT, rfl, hx⟩
    exact hs i x σ H T (hx xs q) p hT
end K81
/-! ## KR3 -/
namespace K81
open PySem PySem.Spec PyProof.Rows L2

/-! ### data of numbers, texts, None, tuples -/
def dN (n : Nat) : PyData := .int (n : Int)
theorem dp_ints {K : PySem.W.Frag} {H : Hp} : ∀ l : List Nat, DpAll K H (l.map nI) (l.map dN)
  | [] => .nil
  | n :: l => .cons (.int _) (dp_ints l)
theorem dp_strs {K : PySem.W.Frag} {H : Hp} : ∀ l : List Str, DpAll K H (l.map V.str) (l.map PyData.str)
  | [] => .nil
  | x :: l => .cons (.str _) (dp_strs l)
def dI (l : List Nat) : PyData := .tuple (l.map dN)
def dS (l : List Str) : PyData := .tuple (l.map PyData.str)
def dW : Option Wt → PyData
  | none => .none
  | some (p, n) => .tuple [.int (p : Int), .int (n : Int)]
theorem TupI.dp {K : PySem.W.Frag} {H : Hp} {x : V} {l : List Nat} (h : TupI H x l) : Dp K H x (dI l) := let ⟨a, e, q⟩ := h; e ▸ .tup (SqT.of q) (dp_ints l)
theorem TupS.dp {K : PySem.W.Frag} {H : Hp} {x : V} {l : List Str} (h : TupS H x l) : Dp K H x (dS l) := let ⟨a, e, q⟩ := h; e ▸ .tup (SqT.of q) (dp_strs l)
theorem OW.dp {K : PySem.W.Frag} {H : Hp} {x : V} {w : Option Wt} (h : OW H x w) : Dp K H x (dW w) := by
  cases w with
  | none => cases h; exact .non
  | some y => obtain ⟨a, e, q⟩ := h; rw [e]; exact .tup (SqT.of q) (.cons (.int _) (.cons (.int _) .nil))
theorem dp_all {α : Type} {K : PySem.W.Frag} {H : Hp} {R : V → α → Prop} {d : α → PyData} (h : ∀ x y, R x y → Dp K H x (d y)) : ∀ {xs : List V} {ys : List α}, All2 R xs ys → DpAll K H xs (ys.map d)
  | _, _, .nil => .nil
  | _, _, .cons r t => .cons (h _ _ r) (dp_all h t)
/-! their shape -/
def WsOk (l : List Str) : Prop := ∀ x ∈ l, PyData.strOk x = true
theorem lay_ints : ∀ l : List Nat, PyData.canLayAll0 (l.map dN) = true
  | [] => by simp [PyData.canLayAll0]
  | n :: l => by simp [PyData.canLayAll0, PyData.canLay0, dN, lay_ints l]
theorem lay_strs : ∀ l : List Str, WsOk l → PyData.canLayAll0 (l.map PyData.str) = true
  | [], _ => by simp [PyData.canLayAll0]
  | n :: l, h => by simp [PyData.canLayAll0, PyData.canLay0, lay_strs l fun x hx => h x (List.mem_cons_of_mem _ hx), h n List.mem_cons_self]
theorem dep_ints : ∀ l : List Nat, PyData.depthAll (l.map dN) = 0
  | [] => by simp [PyData.depthAll]
  | n :: l => by simp [PyData.depthAll, PyData.depth, dN, dep_ints l]
theorem dep_strs : ∀ l : List Str, PyData.depthAll (l.map PyData.str) = 0
  | [] => by simp [PyData.depthAll]
  | n :: l => by simp [PyData.depthAll, PyData.depth, dep_strs l]
theorem lay_all {α : Type} {d : α → PyData} : ∀ l : List α, (∀ x ∈ l, (d x).canLay0 = true) → PyData.canLayAll0 (l.map d) = true
  | [], _ => by simp [PyData.canLayAll0]
  | n :: l, h => by simp [PyData.canLayAll0, h n List.mem_cons_self, lay_all l fun x hx => h x (List.mem_cons_of_mem _ hx)]
theorem dep_all {α : Type} {d : α → PyData} {k : Nat} (h : ∀ x, (d x).depth ≤ k) : ∀ l : List α, PyData.depthAll (l.map d) ≤ k
  | [] => by simp [PyData.depthAll]
  | n :: l => by
    have h1 := h n
    have h2 := dep_all h l
    simp only [List.map_cons, PyData.depthAll]
    omega
theorem lay_dI (l : List Nat) : (dI l).canLay0 = true := by simp [dI, PyData.canLay0, lay_ints l]
theorem lay_dS {l : List Str} (h : WsOk l) : (dS l).canLay0 = true := by simp [dS, PyData.canLay0, lay_strs l h]
theorem lay_dW (w : Option Wt) : (dW w).canLay0 = true := by
  cases w with
  | none => simp [dW, PyData.canLay0]
  | some y => simp [dW, PyData.canLay0, PyData.canLayAll0]
theorem dep_dI (l : List Nat) : (dI l).depth = 1 := by simp [dI, PyData.depth, dep_ints l]
theorem dep_dS (l : List Str) : (dS l).depth = 1 := by simp [dS, PyData.depth, dep_strs l]
theorem dep_dW (w : Option Wt) : (dW w).depth ≤ 1 := by
  cases w with
  | none => simp [dW, PyData.depth]
  | some y => simp [dW, PyData.depth, PyData.depthAll]
theorem shaped_of {d : PyData} (h1 : d.canLay0 = true) (h2 : d.depth ≤ 64) : SeqAt.shaped d = true := by
  show (d.canLay0 && decide (d.depth ≤ 64)) = true
  rw [h1, decide_eq_true h2]
  rfl
theorem sh_dI (l : List Nat) : SeqAt.shaped (dI l) = true := shaped_of (lay_dI l) (by rw [dep_dI]; omega)
theorem sh_dS {l : List Str} (h : WsOk l) : SeqAt.shaped (dS l) = true := shaped_of (lay_dS h) (by rw [dep_dS]; omega)
theorem sh_dW (w : Option Wt) : SeqAt.shaped (dW w) = true := shaped_of (lay_dW w) (by have := dep_dW w; omega)
theorem sh_tup {α : Type} {d : α → PyData} {l : List α} (h : ∀ x ∈ l, (d x).canLay0 = true) (h' : ∀ x, (d x).depth ≤ 1) : SeqAt.shaped (.tuple (l.map d)) = true :=
  shaped_of (by simp [PyData.canLay0, lay_all l h]) (by have := dep_all h' l; simp [PyData.depth]; omega)
theorem sh_lst {α : Type} {d : α → PyData} {l : List α} (h : ∀ x ∈ l, (d x).canLay0 = true) (h' : ∀ x, (d x).depth ≤ 1) : SeqAt.shaped (.list (l.map d)) = true :=
  shaped_of (by simp [PyData.canLay0, lay_all l h]) (by have := dep_all h' l; simp [PyData.depth]; omega)
/-! equal data are equal -/
theorem eqv_all {α : Type} {d : α → PyData} (h : ∀ x y, PyData.eqv (d x) (d y) = true ↔ x = y) : ∀ l m : List α, PyData.eqvAll (l.map d) (m.map d) = true ↔ l = m
  | [], [] => by simp [PyData.eqvAll]
  | [], _ :: _ => by simp [PyData.eqvAll]
  | _ :: _, [] => by simp [PyData.eqvAll]
  | x :: l, y :: m => by simp [PyData.eqvAll, h x y, eqv_all h l m]
theorem eqv_int (n m : Nat) : PyData.eqv (.int (n : Int)) (.int (m : Int)) = true ↔ n = m := by simp [PyData.eqv]; omega
theorem eqv_dI (l m : List Nat) : PyData.eqv (dI l) (dI m) = true ↔ l = m := by
  have := eqv_all (d := dN) eqv_int l m
  simpa [dI, PyData.eqv] using this
theorem eqv_dS (l m : List Str) : PyData.eqv (dS l) (dS m) = true ↔ l = m := by
  have := eqv_all (d := PyData.str) (fun x y => by simp [PyData.eqv]) l m
  simpa [dS, PyData.eqv] using this
theorem eqv_dW (x y : Option Wt) : PyData.eqv (dW x) (dW y) = true ↔ x = y := by
  cases x with
  | none =>
    cases y with
    | none => simp [dW, PyData.eqv]
    | some b => simp [dW, PyData.eqv]
  | some a =>
    cases y with
    | none => simp [dW, PyData.eqv]
    | some b =>
      obtain ⟨a1, a2⟩ := a
      obtain ⟨b1, b2⟩ := b
      simp [dW, PyData.eqv, PyData.eqvAll]
      omega
theorem eqv_dec {x y : PyData} {p : Prop} [Decidable p] (h : PyData.eqv x y = true ↔ p) : PyData.eqv x y = decide p := by
  by_cases q : p
  · rw [decide_eq_true q]; exact h.mpr q
  · rw [decide_eq_false q]
    cases e : PyData.eqv x y with
    | false => rfl
    | true => exact absurd (h.mp e) q
theorem any_eqv {α : Type} [DecidableEq α] {d : α → PyData} (h : ∀ x y, PyData.eqv (d x) (d y) = true ↔ x = y) (l : List α) (y : α) : ((l.map d).any fun z => PyData.eqv z (d y)) = decide (y ∈ l) := by
  by_cases q : y ∈ l
  · rw [decide_eq_true q, List.any_eq_true]
    exact ⟨d y, List.mem_map.mpr ⟨y, q, rfl⟩, (h y y).mpr rfl⟩
  · rw [decide_eq_false q, List.any_eq_false]
    intro z hz
    obtain ⟨x, hx, e⟩ := List.mem_map.mp hz
    subst e
    intro e
    exact q ((h x y).mp e ▸ hx)
end K81
/-! ## KR4 -/
namespace K81
open PySem PySem.Spec PyProof.Rows L2
section
variable {X : Cx}

/-! ### a < b of weights -/
def rLtW : R2 := fun x y H Q => ∃ a b : Wt, OW H x (some a) ∧ OW H y (some b) ∧ Q (.bl (decide (WLt a b))) H
theorem lex_w (a b : Wt) : HT.lexLt [(a.1 : Int), (a.2 : Int)] [(b.1 : Int), (b.2 : Int)] = decide (WLt a b) := by
  rw [HT.lexLt_cons]
  by_cases h : (a.1 : Int) = (b.1 : Int)
  · rw [if_pos h, HT.lexLt_cons]
    by_cases h' : (a.2 : Int) = (b.2 : Int)
    · rw [if_pos h', HT.lexLt_nil_nil]
      exact (decide_eq_false (by unfold WLt; omega)).symm
    · rw [if_neg h']
      exact decide_eq_decide.mpr (by unfold WLt; omega)
  · rw [if_neg h]
    exact decide_eq_decide.mpr (by unfold WLt; omega)
theorem op_ltW (hu : X.A.units < cLine) : OpR X (compareOp .Lt) rLtW := fun pins s σ H x y v u Q I rx ry ⟨a, b, ⟨p, ex, hp⟩, ⟨q, ey, hq⟩, k⟩ =>
  op_ltT hu pins s σ H x y v u Q I rx ry ⟨p, q, [(a.1 : Int), (a.2 : Int)], [(b.1 : Int), (b.2 : Int)], ex, ey, SqT.of hp, SqT.of hq, by rw [lex_w]; exact k⟩

/-! ### min of a list of weights -/
def rMinW (K : PySem.W.Frag) : List V → Hp → VK → Prop := fun vs H Q => ∃ (a : Addr) (xs : List V) (ws : List Wt), vs = [.ref a] ∧ SqL K H a xs ∧ All2 (fun x w => OW H x (some w)) xs ws ∧ ws ≠ [] ∧
  ∀ v m, m ∈ ws → (∀ w ∈ ws, WLe m w) → OW H v (some m) → Q v H
theorem minD_fold (l : List Wt) : ∀ a : Wt, ∃ m, PySem.W.minD (dW (some a)) (l.map fun w => dW (some w)) = dW (some m) ∧ m ∈ a :: l ∧ ∀ w ∈ a :: l, WLe m w := by
  have lt : ∀ a b : Wt, PySem.W.dataLt (dW (some a)) (dW (some b)) = decide (WLt a b) := fun a b => by
    show PySem.W.dataLt (.tuple [.int _, .int _]) (.tuple [.int _, .int _]) = _
    rw [PySem.W.dataLt_ii]
    exact decide_eq_decide.mpr (by unfold WLt; omega)
  induction l with
  | nil => exact fun a => ⟨a, rfl, List.mem_cons_self, fun w hw => by rw [List.mem_singleton.mp hw]; exact WLe.refl _⟩
  | cons b l ih =>
    intro a
    have e : PySem.W.minD (dW (some a)) ((b :: l).map fun w => dW (some w)) = PySem.W.minD (if PySem.W.dataLt (dW (some b)) (dW (some a)) then dW (some b) else dW (some a)) (l.map fun w => dW (some w)) := rfl
    rw [e, lt]
    by_cases h : WLt b a
    · rw [decide_eq_true h]
      obtain ⟨m, e1, h1, h2⟩ := ih b
      refine ⟨m, e1, List.mem_cons_of_mem _ h1, fun w hw => ?_⟩
      rcases List.mem_cons.mp hw with q | q
      · rw [q]; exact (h2 b List.mem_cons_self).trans h.le
      · exact h2 w q
    · rw [decide_eq_false h]
      obtain ⟨m, e1, h1, h2⟩ := ih a
      have hb : WLe a b := .of_not h
      refine ⟨m, e1, ?_, fun w hw => ?_⟩
      · rcases List.mem_cons.mp h1 with q | q
        · rw [q]; exact List.mem_cons_self
        · exact List.mem_cons_of_mem _ (List.mem_cons_of_mem _ q)
      · rcases List.mem_cons.mp hw with q | q
        · rw [q]; exact h2 a List.mem_cons_self
        · rcases List.mem_cons.mp q with q | q
          · rw [q]; exact (h2 a List.mem_cons_self).trans hb
          · exact h2 w (List.mem_cons_of_mem _ q)
theorem readsAll_look {h : Heap} : ∀ {vs : List Value} {ds : List PyData} {as : List Addr} {i : Nat} {v : Value}, ReadsAll h vs ds as → vs[i]? = some v → ∃ d bs, ds[i]? = some d ∧ Reads h v d bs
  | _, _, _, i, _, .nil, e => by simp at e
  | _, _, _, 0, _, .cons r _, e => by
    simp at e; subst e; exact ⟨_, _, rfl, r⟩
  | _, _, _, i + 1, v, .cons _ t, e => by
    obtain ⟨d, bs, e1, r⟩ := readsAll_look (i := i) (v := v) t (by simpa using e)
    exact ⟨d, bs, by simpa using e1, r⟩
theorem reads_int {h : Heap} {v : Value} {i : Int} {as : List Addr} (r : Reads h v (.int i) as) : ∃ t, v = .int i t := by
  cases r
  exact ⟨_, rfl⟩
theorem cr_minW (hc : X.calm = true) (hu : X.A.units + 10 < cLine) : CallR X (.builtin "min") (rMinW X.K) := fun pins s σ H vs us Q I r ⟨a, xs, ws, ev, hq, hx, hne, k⟩ => by
  subst ev
  obtain rfl := Vals.ref1 r
  obtain ⟨its, rv, hl, hz⟩ := I.list hq
  obtain ⟨as, hr⟩ := Dp.readsAll I (ws.map fun w => dW (some w)) xs its (dp_all (d := fun w => dW (some w)) (fun x y h => OW.dp h) hx) rv
  cases ws with
  | nil => exact absurd rfl hne
  | cons w0 wr =>
    have dep : PyData.depthAll ((w0 :: wr).map fun w => dW (some w)) ≤ 1 := dep_all (d := fun w => dW (some w)) (fun w => dep_dW (some w)) _
    refine PySem.W.min_list_data (x := dW (some w0)) (xs := wr.map fun w => dW (some w)) (I.ok.hd hc) hl.isList (by simpa using hr) ⟨fun x hx y hy => ?_, fun x hx => ?_⟩ (by
      show X.A.units + 1 + PyData.depthAll ((w0 :: wr).map fun w => dW (some w)) < cLine
      omega) fun i v h' tk bs hv hrd hk => ?_
    · obtain ⟨p, _, e1⟩ := List.mem_map.mp (show x ∈ (w0 :: wr).map fun w => dW (some w) from hx)
      obtain ⟨q, _, e2⟩ := List.mem_map.mp (show y ∈ (w0 :: wr).map fun w => dW (some w) from hy)
      subst e1 e2
      rfl
    · obtain ⟨p, _, e1⟩ := List.mem_map.mp (show x ∈ (w0 :: wr).map fun w => dW (some w) from hx)
      subst e1
      exact fun z => by cases z
    · obtain ⟨m, em, hm1, hm2⟩ := minD_fold wr w0
      rw [em] at hrd
      have hv' : its[i]? = some v := by simpa using hv
      obtain ⟨x, e1, rx⟩ : ∃ x, xs[i]? = some x ∧ RelV x v := by
        have hi : i < xs.length := by
          rw [rv.length]
          exact (List.getElem?_eq_some_iff.mp hv').1
        obtain ⟨u, hu1, ru⟩ := rv.get (List.getElem?_eq_getElem hi)
        rw [hv'] at hu1
        cases hu1
        exact ⟨_, List.getElem?_eq_getElem hi, ru⟩
      obtain ⟨w1, e2, hw1⟩ := hx.getL e1
      obtain ⟨b, ex, hb⟩ := hw1
      -- the item reads as w1 and as the least one
      have emw : w1 = m := by
        obtain ⟨bs', hr1⟩ : ∃ bs', Reads h' v (dW (some w1)) bs' := by
          obtain ⟨d, bs1, e3, r3⟩ := readsAll_look hr hv'
          rw [List.getElem?_map, e2] at e3
          cases e3
          exact ⟨bs1, PySem.W.reads_keeps hk r3⟩
        subst ex
        obtain rfl : v = Value.ref b := rx
        cases hr1 with
        | tuple h1 h2 h3 h4 =>
          cases hrd with
          | tuple g1 g2 g3 g4 =>
            rw [h1] at g1
            cases g1
            rw [h3] at g3
            injection g3 with g5 _
            subst g5
            rename_i vsA _ _ _
            generalize vsA.toList = L at h4 g4
            cases h4 with
            | cons a1 t1 =>
              cases t1 with
              | cons a2 t2 =>
                cases g4 with
                | cons b1 t3 =>
                  cases t3 with
                  | cons b2 t4 =>
                    obtain ⟨t5, e5⟩ := reads_int a1
                    obtain ⟨t6, e6⟩ := reads_int a2
                    obtain ⟨t7, e7⟩ := reads_int b1
                    obtain ⟨t8, e8⟩ := reads_int b2
                    rw [e5] at e7
                    rw [e6] at e8
                    injection e7 with e9 _
                    injection e8 with e10 _
                    exact Prod.ext (by omega) (by omega)
      subst emw
      exact ⟨x, H, I.kept (t' := tk) hk, rx, k x w1 hm1 hm2 ⟨b, ex, hb⟩⟩
end
end K81
/-! ## KR5 -/
namespace K81
open PySem PySem.Spec PyProof.Rows L2

/-! ### t[::-1] of a tuple -/
theorem rev_pick (xs : Array Value) : ((List.range xs.size).filterMap fun (k : Nat) => xs[(((xs.size : Int) - 1) + (k : Int) * (-1)).toNat]?).toArray = xs.toList.reverse.toArray := by
  have e : ∀ l : List Nat, (∀ k ∈ l, k < xs.size) → (l.filterMap fun (k : Nat) => xs[(((xs.size : Int) - 1) + (k : Int) * (-1)).toNat]?) = (l.map fun k => xs.size - 1 - k).filterMap fun k => xs[k]? := fun l => by
    induction l with
    | nil => intro _; rfl
    | cons a l ih =>
      intro h
      have ha := h a List.mem_cons_self
      rw [List.filterMap_cons, List.map_cons, List.filterMap_cons, ih fun k hk => h k (List.mem_cons_of_mem _ hk), show (((xs.size : Int) - 1) + (a : Int) * (-1)).toNat = xs.size - 1 - a by omega]
  rw [e _ fun k hk => List.mem_range.mp hk, PySem.W.krv_range, List.filterMap_reverse, PySem.W.krv_all]
theorem rev_places (n : Nat) : Builtin.Slice.slicePlaces ((n : Int) - 1) (-1) (-1) = n := by
  unfold Builtin.Slice.slicePlaces
  rw [if_neg (by decide)]
  by_cases h : (n : Int) - 1 > -1
  · rw [if_pos h]
    have e : ((n : Int) - 1 - -1 - 1) / - -1 + 1 = (n : Int) := by
      rw [show (- -1 : Int) = 1 by decide, Int.ediv_one]
      omega
    rw [e]
    rfl
  · rw [if_neg h]
    omega
theorem getItem_rev {prog : Program} {w : World} {A : Around} {E : Value → Shared → Prop} {s : Shared} {t sl : Addr} {items : Array Value} {tk : Tok} {Q : Value → Shared → Prop} (ht : IsTup s.heap t items) (hs : s.heap.IsSliceOf sl .none .none (.int (-1) tk)) (hsz : items.size ≤ sizeLine)
    (h : Q (.ref s.heap.objs.size) { s with heap := s.heap.push { cls := .type "tuple", data := .seq items.toList.reverse.toArray } }) : wpAny (model prog w) A (getItem (.ref t) (.ref sl)) Q E s := by
  have hok : sizeOk (.seq items.toList.reverse.toArray) := by
    show items.toList.reverse.toArray.size ≤ sizeLine
    rw [List.size_toArray, List.length_reverse, Array.length_toList]
    exact hsz
  obtain ⟨os, hos, hcs, hds⟩ := id hs
  have hTs : s.TypeIs (.ref sl) "slice" := ⟨os, hos, hcs⟩
  unfold getItem
  try with_reducible refine wpAny_holding ?_
  first | refine wpAny_bind (wpAny_pure ?_) | skip
  refine wpAny_bind (wpAny_sequenceKey ht.typeIs (by decide) ?_)
  refine wpAny_bind (wpAny_callSpecial?_slot (name := Str.ofString "__getitem__") ht.typeIs PyProof.Rows.slot_tuple_getitem (wpAny_call_entry PyProof.Rows.slot_tuple_getitem ht.typeIs entry_tuple_getitem ?_ (args_tuple_getitem _ _)))
  show wpAny _ _ (Builtin.Tuple.tupleItemsOf (.ref t) >>= _) _ _ s
  refine wpAny_bind (tupleItemsOf_ ht (wpAny_bind (wpAny_typeOf hTs ?_)))
  rw [if_pos (by decide)]
  refine wpAny_bind ?_
  unfold Builtin.Slice.sliceApplied Builtin.Slice.sliceFields
  refine wpAny_bind (wpAny_bind (wpAny_field hos hds (x := .none) rfl (wpAny_bind (wpAny_field hos hds (x := .none) rfl (wpAny_bind (wpAny_field hos hds (x := .int (-1) tk) rfl (wpAny_pure ?_)))))))
  refine wpAny_bind (HT.slicePart_ (IsPart.int (-1) tk) ?_)
  show wpAny _ _ (if ((-1 : Int) == 0) = true then _ else _) _ _ s
  rw [if_neg (by decide)]
  refine wpAny_bind (HT.slicePart_ IsPart.none (wpAny_bind (HT.slicePart_ IsPart.none (wpAny_bind (wpAny_pure ?_)))))
  show wpAny _ _ (pure ((items.size : Int) - 1, (-1 : Int), Builtin.Slice.slicePlaces ((items.size : Int) - 1) (-1) (-1))) _ _ s
  rw [rev_places]
  refine wpAny_pure ?_
  have hno : ¬ ((((items.size : Int) - 1) == 0 && (-1 : Int) == 1 && items.size == items.size) = true) := by
    rw [show ((-1 : Int) == 1) = false by decide, Bool.and_false, Bool.false_and]
    exact Bool.false_ne_true
  show wpAny _ _ (if (((items.size : Int) - 1) == 0 && (-1 : Int) == 1 && items.size == items.size) = true then _ else _) _ _ s
  rw [if_neg hno, rev_pick]
  first
    | exact wpAny_bind (m := Builtin.Tuple.tupleExact _) (wpAny_newObj_type (wpAny_pure ⟨_, rfl, wpAny_pure h⟩) hok)
    | exact wpAny_bind (wpAny_bind (m := Builtin.Tuple.tupleExact _) (wpAny_newObj_type (wpAny_pure (wpAny_pure ⟨_, rfl, wpAny_pure h⟩)) hok))
section
variable {X : Cx}
def tRevT (K : PySem.W.Frag) (te : TE) : TE := fun σ H Q => te σ H fun x H1 => ∃ a xs, x = .ref a ∧ SqT K H1 a xs ∧ ∀ p, H1 p = none → Q (.ref p) (upd H1 p (.tup xs.reverse))
theorem pe_revT {e : Expr} {te : TE} {k : Nat} {p1 p2 p3 pos : Pos} (he : PE X e te) : PE X (.Subscript e (.Slice none none (some (.UnaryOp .USub (.Constant (.int 1) k p1) p2)) p3) pos) (tRevT X.K te) := by
  refine ⟨fun pins s σ H Q I h => Subscript_ (thn (he.run pins s σ H _ I h) fun v s1 hv => ?_)⟩
  obtain ⟨x, H1, I1, r1, a, xs, ex, hx, q⟩ := hv
  subst ex
  obtain rfl : v = Value.ref a := r1
  have hst : PO X (some (.UnaryOp .USub (.Constant (.int 1) k p1) p2)) (tPart (tUn (rU fun i => .int (-i)) (tC (.int 1)))) := po_some (pe_un un_neg pe_int)
  refine wpAny_Slice (thn (po_none.run pins s1 σ H1 (fun o H2 => o = none ∧ H2 = H1) I1 ⟨rfl, rfl⟩) fun vl s2 h2 => ?_)
  obtain ⟨l, H2, I2, pl, el, e2⟩ := h2
  subst el e2
  refine thn (po_none.run pins s2 σ H2 (fun o H3 => o = none ∧ H3 = H2) I2 ⟨rfl, rfl⟩) fun vu s3 h3 => ?_
  obtain ⟨u, H3, I3, pu, eu, e3⟩ := h3
  subst eu e3
  refine thn (hst.run pins s3 σ H3 (fun o H4 => o = some (-1) ∧ H4 = H3) I3 ⟨1, rfl, -1, rfl, rfl, rfl⟩) fun vs s4 h4 => ?_
  obtain ⟨o, H4, I4, ps, eo, e4⟩ := h4
  subst eo e4
  cases pl
  cases pu
  obtain ⟨tk, rfl⟩ : ∃ tk, vs = Value.int (-1) tk := by cases ps; exact ⟨_, rfl⟩
  have J : Inv X pins σ H4 { s4 with heap := s4.heap.push { cls := .type "slice", data := .fields #[.none, .none, .int (-1) tk] } } := I4.kept (t' := s4.toks) fun b ob e => Heap.get?_push_of_some _ e
  obtain ⟨its, r, ht, hz⟩ := J.tuple hx
  have hlen := r.length
  show wpAny (model X.prog X.w) X.A (subscriptTail e _ (.ref a) (.ref s4.heap.objs.size)) (EP X pins σ Q) X.xe _
  refine tail_any (ops := [.ref a, .ref s4.heap.objs.size]) ht.typeIs PyProof.Rows.slot_tuple_getitem.lookup ?_ (by with_unfolding_all rfl)
  refine getItem_rev ht (Heap.IsSliceOf.new _ _ _ _) (by rw [List.size_toArray]; omega) ?_
  refine ⟨.ref _, _, J.laid (t' := s4.toks) (o := .tup xs.reverse) (fun b ob e => Heap.get?_push_of_some _ e) (Nat.le_refl _) ?_, rfl, q _ (J.hok.fresh (Nat.le_refl _))⟩
  exact ⟨by rw [List.length_reverse]; exact hz, its.reverse, r.reverse, IsTup.new _ _⟩
end
end K81
/-! ## KR6 -/
namespace K81
open PySem PySem.Spec PyProof.Rows L2

/-! ### sorted -/
/-- an item in the heap that tells b -/
def ItemR {β : Type} (R : V → β → Prop) (u : Value) (b : β) : Prop := ∃ x, RelV x u ∧ R x b
theorem each_of {β : Type} {R : V → β → Prop} : ∀ {xs : List V} {us : List Value} {bs : List β}, Vals xs us → All2 R xs bs → PySem.W.EachIs (ItemR R) us bs
  | _, _, _, .nil, .nil => .nil
  | _, _, _, .cons r t, .cons q s => .cons ⟨_, r, q⟩ (each_of t s)
theorem each_back {β : Type} {R : V → β → Prop} : ∀ {us : List Value} {bs : List β}, PySem.W.EachIs (ItemR R) us bs → ∃ xs, Vals xs us ∧ All2 R xs bs
  | _, _, .nil => ⟨[], .nil, .nil⟩
  | _, _, .cons ⟨x, r, q⟩ t => let ⟨xs, h1, h2⟩ := each_back t; ⟨x :: xs, .cons r h1, .cons q h2⟩
section
variable {X : Cx} {β : Type}
/-- sorted(xs): the items tell b, and are the data enc b -/
def rSortD (K : PySem.W.Frag) (R : Hp → V → β → Prop) (enc : β → PyData) : List V → Hp → VK → Prop := fun vs H Q => ∃ (a : Addr) (xs : List V) (bs : List β), vs = [.ref a] ∧ SqL K H a xs ∧ All2 (R H) xs bs ∧ (∀ x b, b ∈ bs → R H x b → Dp K H x (enc b)) ∧
  PySem.W.AllAlike (bs.map enc) ∧ PySem.W.Sortable (bs.map enc) ∧ bs.length ≤ 1000 ∧ (∀ b, b ∈ bs → (enc b).depth ≤ 8) ∧ ∀ p ys, H p = none → All2 (R H) ys (bs.mergeSort (PySem.W.dataLe false enc)) → Q (.ref p) (upd H p (.lst ys))
theorem cr_sortD (R : Hp → V → β → Prop) (enc : β → PyData) (hu : X.A.units + 20 < cLine) : CallR X (.builtin "sorted") (rSortD X.K R enc) := fun pins s σ H vs us Q I r ⟨a, xs, bs, ev, hq, hx, hd, hal, hs, hn, hdep, k⟩ => by
  subst ev
  obtain rfl := Vals.ref1 r
  obtain ⟨its, rv, hl, hz⟩ := I.list hq
  have hlen : its.length = bs.length := rv.length.symm.trans hx.len
  have mem : ∀ {xs : List V} {bs : List β}, All2 (R H) xs bs → All2 (fun x b => R H x b ∧ b ∈ bs) xs bs := fun {xs bs} h => by
    induction h with
    | nil => exact .nil
    | cons r t ih => exact .cons ⟨r, List.mem_cons_self⟩ (ih.mono fun _ _ z => ⟨z.1, List.mem_cons_of_mem _ z.2⟩)
  have e := each_of rv (mem hx)
  have er : PySem.W.EachIs (fun v b => ∃ as, Reads s.heap v (enc b) as) its bs := e.mono fun v b ⟨x, rx, q, hb⟩ => Dp.reads I (enc b) x v (hd x b hb q) rx
  refine PySem.W.sorted_data (enc := enc) hl.isList e er hal hs (Nat.le_trans hn (by rw [sizeLine_eq]; omega)) (fun b hb => by have := hdep b hb; omega) fun out ho he => ?_
  obtain ⟨ys, h1, h2⟩ := each_back he
  obtain ⟨ep, hob⟩ := PyProof.Rows.sortedAll_at s.heap its (List.toArray out)
  have hy : ys.length ≤ sizeLine := by
    rw [h1.length, ho]
    exact Nat.le_trans hn (by rw [sizeLine_eq]; omega)
  exact ⟨.ref (s.heap.objs.size + 1), _, I.laid (a := s.heap.objs.size + 1) (o := .lst ys) (t' := s.toks) (fun _ _ => PyProof.Rows.sortedAll_old) (Nat.le_succ _) ⟨hy, out, ep, h1, hob⟩, rfl, k _ ys (I.hok.fresh (Nat.le_succ _)) (h2.mono fun _ _ z => z.1)⟩
end
end K81
/-! ## KR7 -/
namespace K81
open PySem PySem.Spec PyProof.Rows L2

/-! ### sorted(xs, key=lambda z: (len(z), z)) -/
/-- the key of a row: its length, then itself -/
def keyD {β : Type} (n : β → Nat) (d : β → PyData) (b : β) : PyData := .tuple [.int (n b : Int), d b]
/-- the body of the lambda, at the value v of its parameter, a tuple that stays -/
theorem key_body {prog : Program} {w : World} {A : Around} {s : Shared} {env : Env} {z : Str} {a : Addr} {items : Array Value} {d : PyData} {mg mb : Str → Option Value} {m : Str → Option Value} {p1 p2 p3 p4 p5 : Pos} {k : Nat} {Q : Value → Shared → Prop} {E : Value → Shared → Prop}
    (hk : env.scope.kind = .function) (hz : env.kindOf z = some .local) (hL : env.kindOf "len" = some .globalImplicit) (hd : (z == ("__debug__" : Str)) = false)
    (hm : s.heap.Ns env.locals m) (hv : m z = some (.ref a)) (hg : s.heap.Ns env.globals mg) (hlen : mg "len" = none) (hb : s.heap.Ns env.builtins mb) (hbl : mb "len" = some (.builtin "len"))
    (hT : IsTup s.heap a items) (hsz : items.size ≤ sizeLine) (hr : Reads s.heap (.ref a) d [])
    (hs1 : starEach [.Call (.Name "len" p1) [.Name z p2] [] p3, .Name z p4] env = [(false, eval (.Call (.Name "len" p1) [.Name z p2] [] p3) env), (false, eval (.Name z p4) env)]) (hs2 : starEach [.Name z p2] env = (false, eval (.Name z p2) env) :: starEach [] env)
    (h : ∀ h' tk u, (∀ b o, s.heap.get? b = some o → h'.get? b = some o) → Reads h' u (.tuple [.int (items.size : Int), d]) [] → Q u { s with heap := h', toks := tk }) :
    wpAny (model prog w) A (eval (.Tuple [.Call (.Name "len" p1) [.Name z p2] [] p3, .Name z p4] k p5) env) Q E s := by
  have hline : (sizeLine : Nat) < 2 ^ 63 := line63
  refine Tuple_ ?_
  rw [hs1]
  show wpAny _ _ (spliced ((false, eval (.Call (.Name "len" p1) [.Name z p2] [] p3) env) :: [(false, eval (.Name z p4) env)])) _ _ s
  refine Calls.spliced_cons ?_
  refine wpAny_Call_Name_kw (Calls.Name_function_global hk hL (Calls.loadGlobal_builtin hg hlen hb hbl ?_))
  refine PyProof.Rows.callWith_builtin1 ?_ hs2 (by rfl)
  rw [hs2]
  refine Calls.spliced_cons (wpAny_Name (wpAny_loadName_local hk hz hm hv (Calls.spliced_nil ?_)) hd)
  refine len_tuple hT (by omega) ?_
  refine Calls.spliced_cons (wpAny_Name (wpAny_loadName_local hk hz hm hv (Calls.spliced_nil ?_)) hd)
  refine wpAny_newObj_type ?_ (by show 2 ≤ sizeLine; decide)
  have kp : ∀ b o, s.heap.get? b = some o → (s.heap.push { cls := .type "tuple", data := .seq [Value.int (items.size : Int) (s.toks + 1), .ref a].toArray }).get? b = some o := fun b o e => Heap.get?_push_of_some _ e
  refine h _ _ _ kp ?_
  have ra := Reads.keeps kp hr
  exact Reads.tuple (as := []) (Heap.get?_push_size _ rfl) rfl rfl (.cons (as := []) (bs := []) (.int _ _) (.cons (as := []) (bs := []) ra .nil))

section
variable {X : Cx} {β : Type}
/-- what an item of the list is: a tuple that reads as d b, of n b items -/
def KeyItem (R : Hp → V → β → Prop) (n : β → Nat) (d : β → PyData) : Prop :=
  ∀ (X : Cx) (pins : List (Addr × Obj)) (σ : L2.St) (H : Hp) (s : Shared) (x : V) (b : β) (u : Value), Inv X pins σ H s → R H x b → RelV x u → ∃ (a : Addr) (items : Array Value), u = .ref a ∧ IsTup s.heap a items ∧ items.size = n b ∧ items.size ≤ sizeLine ∧ Reads s.heap u (d b) []
def tSortL (K : PySem.W.Frag) (T : List (Addr × Str)) (R : Hp → V → β → Prop) (n : β → Nat) (d : β → PyData) (ta : TA) : TE := fun σ H Q => ta σ H fun vs H1 => ∃ (a : Addr) (xs : List V) (bs : List β), vs = [.ref a] ∧ LamX.Tabs T H1 ∧ SqL K H1 a xs ∧ All2 (R H1) xs bs ∧
  PySem.W.AllAlike (bs.map (keyD n d)) ∧ bs.length ≤ 1000 ∧ (∀ b, b ∈ bs → (keyD n d b).depth ≤ 8) ∧
  ∀ p ys H2, Kp T H1 H2 → Nw H1 p → H2 p = some (.lst ys) → All2 (R H2) ys (bs.mergeSort (PySem.W.dataLe false (keyD n d))) → Q (.ref p) H2
theorem pe_sortL {T : List (Addr × Str)} {R : Hp → V → β → Prop} {n : β → Nat} {d : β → PyData} {c P : Addr} {e : Expr} {ta : TA} {z : Str} {params : Arguments} {scope : Scope} {p p1 p2 p3 p4 p5 lpos kpos pos : Pos} {kk : Nat} {kx : Nat}
    (hR : KeyItem R n d) (hmono : ∀ H H' x b, Tps H H' → R H x b → R H' x b) (TB : LamX.TabB X.base X.mg c P) (hcode : X.env.code = .ref c) (hmT : (P, X.env.qual ++ "<lambda>") ∈ T) (hu : ∀ q ∈ T, q.1 = P → q.2 = X.env.qual ++ "<lambda>")
    (hr : Room kx X.A) (hg : Gl X "sorted") (hm : X.mg "sorted" = none) (hlen : X.mg "len" = none) (ha : PA X [e] ta)
    (hdef : defaultsOf params X.env = ([], [])) (hfree : ∀ y ∈ scope.names, y.2 ≠ .free) (hsz : scope.names.lookup z = some .local) (hsl : scope.names.lookup ("len" : Str) = some .globalImplicit) (hsk : scope.kind = .function) (hco : scope.isCoroutine = false) (hgen : scope.isGenerator = false) (hcell : ∀ x ∈ scope.names, x.2 ≠ .cell)
    (hbind : ∀ (q : Str) (cl : List (Str × Addr)) (pm cv ctv v : Value), bindArgs (PySem.W.kla_fn "<lambda>" q params (.Tuple [.Call (.Name "len" p1) [.Name z p2] [] p3, .Name z p4] kk p5) scope cl pm cv ctv) ⟨[v], []⟩ = pure [(z, v)])
    (hd : (z == ("__debug__" : Str)) = false)
    (hst : ∀ env : Env, starEach [.Call (.Name "len" p1) [.Name z p2] [] p3, .Name z p4] env = [(false, eval (.Call (.Name "len" p1) [.Name z p2] [] p3) env), (false, eval (.Name z p4) env)]) (hst2 : ∀ env : Env, starEach [.Name z p2] env = (false, eval (.Name z p2) env) :: starEach [] env)
    (he : backTo pos (starEach [e] X.env) = (false, eval e X.env) :: backTo pos (starEach [] X.env) := by rfl) (hpl : (backTo pos (starEach [e] X.env)).any (·.1) = false := by rfl) :
    PE X (.Call (.Name "sorted" p) [e] [⟨some "key", .Lambda params (.Tuple [.Call (.Name "len" p1) [.Name z p2] [] p3, .Name z p4] kk p5) scope lpos, kpos⟩] pos) (tSortL X.K T R n d ta) := by
  refine ⟨fun pins s σ H Q I h => ?_⟩
  have hsorted : bootBuiltins "sorted" = some (.builtin "sorted") := by decide +kernel
  refine wpAny_Call_Name_kw (ld_blt I hg hm hsorted ?_)
  refine PyProof.Rows.callWith_kw (thn (ha.run pos pins s σ H _ I h) fun us s1 hv => ?_) he hpl (by rfl) (by rfl)
  obtain ⟨vs, H1, I1, r1, a, xs, bs, ev, hT, hq, hx, hal, hn, hdep, k⟩ := hv
  subst ev
  obtain rfl := Vals.ref1 r1
  show wpAny _ _ (evalAll ((do let v ← eval (.Lambda params (.Tuple [.Call (.Name "len" p1) [.Name z p2] [] p3, .Name z p4] kk p5) scope lpos) X.env; standAt pos; pure v) :: [])) _ _ s1
  refine wpAny_evalAll_cons (wpAny_bind (LamX.lam_make2 I1 TB hcode hmT hu hT hdef (fun y hy hf => absurd hf (hfree y hy)) fun f c' pm ctv H2 s2 I2 eN T2 hf hfn hfr hco2 => wpAny_bind (wpAny_standAt (wpAny_pure (wpAny_pure ?_)))))
  show wpAny _ _ (call (.builtin "sorted") [.ref a] [(Str.ofString "key", .ref f)]) _ _ s2
  have kp12 : Kp T H1 H2 := ⟨fun b o e n => eN b o e n, fun _ => T2⟩
  have hx2 : All2 (R H2) xs bs := hx.mono fun x b q => hmono _ _ x b kp12.ts q
  have hq2 : SqL X.K H2 a xs := by
    rcases hq with (q | ⟨o, q⟩) | q
    · exact .inl (.inl (eN _ _ q fun ps z => by cases z))
    · exact .inl (.inr ⟨o, eN _ _ q fun ps z => by cases z⟩)
    · exact .inr q
  obtain ⟨its, rv, hl, hz⟩ := I2.list hq2
  have hlenb : its.length = bs.length := rv.length.symm.trans hx2.len
  have hun : X.A.units + 16 * kx + 200 < cLine := hr.un
  refine PySem.W.sorted_key_data (b := false) (keyD n d) hl.isList (each_of rv hx2) hal (.inl fun q hq => ?_) (Nat.le_trans hn (by rw [sizeLine_eq]; omega)) (fun b hb => by have := hdep b hb; omega) (PyProof.Rows.ksk_s1 _ _) (fun _ => PyProof.Rows.ksk_l1 _ _) (fun _ => PyProof.Rows.ksk_t1 _ _)
    (fun v b hvb hb h tk kp => ?_) fun out cc h' tk kp hfresh hD hol hout => ?_
  · obtain ⟨b, _, eb⟩ := List.mem_map.mp hq
    subst eb
    exact ⟨_, _, rfl⟩
  · obtain ⟨x, rx, hRx⟩ := hvb
    obtain ⟨ai, items, ev, hTi, hsi, hszi, hrd⟩ := hR X pins σ H2 s2 x b v I2 hRx rx
    subst ev
    obtain ⟨oc, vs', t', hoc, hdc, hvc⟩ := (I2.hok c' _ hco2).1
    refine wpAny_call ?_
    refine PySem.W.kla_callFunE (A := X.A.in1.in1) (by show X.A.depth < recursionLimit; have := hr.dp; omega) (kp _ _ hf) rfl hco hgen rfl ⟨c', oc, vs', t', rfl, kp _ _ hoc, hdc, hvc⟩ ?_
    rw [hbind]
    refine wpAny_pure (wpAny_newFunctionEnv hcell (fun y hy => by rw [List.mem_singleton.mp hy]; exact hsz) (fun h₁ hns hsb => ⟨(I2.nolimit.keeps kp).fresh _ hsb, ?_⟩) hsk)
    have kp1 : ∀ b o, h.get? b = some o → h₁.get? b = some o := fun b o e => hsb.extBut b o (Nat.ne_of_lt (Heap.lt_size e)) (Heap.get?_push_of_some _ e)
    have kpa : ∀ b o, s2.heap.get? b = some o → h₁.get? b = some o := fun b o e => kp1 b o (kp b o e)
    obtain ⟨mb, hb1, hb2⟩ := I2.mod.blt
    obtain ⟨ot, hot⟩ := hTi
    refine PySem.W.kla_codeExpr (key_body (mg := X.mg) (mb := mb) (a := ai) (items := items) (d := d b) hsk hsz hsl hd hns (by simp) ((I2.mod.glob.keeps I2.bk).keeps kpa) hlen ((hb1.keeps I2.bk).keeps kpa) ((hb2 "len" (by decide)).trans (by decide +kernel)) ⟨ot, kpa _ _ hot.1, hot.2⟩ hszi (Reads.keeps kpa hrd) (hst _) (hst2 _) fun h2 tk2 u k2 r2 => ?_)
    refine ⟨h2, tk2, rfl, fun b o e => k2 b o (kp1 b o e), ?_⟩
    rw [hsi] at r2
    exact r2
  · obtain ⟨ys, h1, h2⟩ := each_back hout
    have hy : ys.length ≤ sizeLine := by
      rw [h1.length, hol]
      exact Nat.le_trans hn (by rw [sizeLine_eq]; omega)
    have I3 := I2.laid (a := s2.heap.objs.size + 1) (o := .lst ys) (t' := tk) (h' := h') kp (Nat.le_succ _) ⟨hy, out, cc, h1, hD⟩
    have hnone : H2 (s2.heap.objs.size + 1) = none := I2.hok.fresh (Nat.le_succ _)
    exact ⟨.ref (s2.heap.objs.size + 1), _, I3, rfl, k _ ys _ (kp12.nw hnone _) (kp12.nwB (.of hnone)) upd_same (h2.mono fun x b q => hmono _ _ x b ((Ex.new hnone _).ts) q)⟩
end
end K81
/-! ## KR8 -/
namespace K81
open PySem PySem.Spec PyProof.Rows L2

/-! ### a dict whose keys are (state, path) -/
abbrev NKey := Nat × List Str
def nk (k : NKey) : NestedKey := .tup [.num (k.1 : Int), .tup (k.2.map NestedKey.text)]
theorem texts_inj : ∀ {l m : List Str}, l.map NestedKey.text = m.map NestedKey.text → l = m
  | [], [], _ => rfl
  | [], _ :: _, e => by simp at e
  | _ :: _, [], e => by simp at e
  | x :: l, y :: m, e => by
    simp only [List.map_cons, List.cons.injEq, NestedKey.text.injEq] at e
    rw [e.1, texts_inj e.2]
theorem nk_inj {k j : NKey} (e : nk k = nk j) : k = j := by
  unfold nk at e
  simp only [NestedKey.tup.injEq, List.cons.injEq, NestedKey.num.injEq, and_true] at e
  exact Prod.ext (by omega) (texts_inj e.2)
def KnO (P : Program) (w : World) (a : Addr) (xs : List (NestedKey × Addr × Value)) : HO :=
  .ext fun h => ∃ o es ep, h.get? a = some o ∧ o.ExactDict ∧ o.data = .dict es ep ∧ es.toList = xs.map (entryOfKey (nestedKind P w)) ∧ (xs.map (·.1)).Nodup ∧ (a == sysModules) = false ∧ xs.length ≤ sizeLine
def KeyAt (H : Hp) (b : Addr) (k : NKey) : Prop := ∃ p, H b = some (.tup [nI k.1, .ref p]) ∧ H p = some (.tup (k.2.map V.str))
def KnIs (H : Hp) (xs : List (NestedKey × Addr × Value)) (kvs : List (NKey × V)) : Prop := All2 (fun x kv => x.1 = nk kv.1 ∧ KeyAt H x.2.1 kv.1 ∧ RelV kv.2 x.2.2) xs kvs
def kget (kvs : List (NKey × V)) (k : NKey) : Option V := (kvs.find? fun kv => decide (kv.1 = k)).map (·.2)
def kput (kvs : List (NKey × V)) (k : NKey) (v : V) : List (NKey × V) := if (kget kvs k).isSome then kvs.map (fun kv => if kv.1 = k then (kv.1, v) else kv) else kvs ++ [(k, v)]
theorem KeyAt.ts {H H' : Hp} {b : Addr} {k : NKey} (t : Tps H H') (h : KeyAt H b k) : KeyAt H' b k := let ⟨p, h1, h2⟩ := h; ⟨p, t _ _ h1, t _ _ h2⟩
theorem KnIs.ts {H H' : Hp} {xs : List (NestedKey × Addr × Value)} {kvs : List (NKey × V)} (t : Tps H H') (h : KnIs H xs kvs) : KnIs H' xs kvs := h.mono fun _ _ z => ⟨z.1, z.2.1.ts t, z.2.2⟩
theorem kput_len (kvs : List (NKey × V)) (k : NKey) (v : V) : (kput kvs k v).length ≤ kvs.length + 1 := by
  unfold kput
  split
  · rw [List.length_map]; omega
  · rw [List.length_append]; simp
theorem kput_mem {kvs : List (NKey × V)} {k : NKey} {v : V} {kv : NKey × V} (h : kv ∈ kput kvs k v) : kv ∈ kvs ∨ kv = (k, v) := by
  unfold kput at h
  split at h
  · obtain ⟨q, hq, e⟩ := List.mem_map.mp h
    by_cases z : q.1 = k
    · rw [if_pos z, z] at e
      exact .inr e.symm
    · rw [if_neg z] at e
      exact .inl (e ▸ hq)
  · rcases List.mem_append.mp h with q | q
    · exact .inl q
    · exact .inr (List.mem_singleton.mp q)
theorem kget_mem {kvs : List (NKey × V)} {k : NKey} {v : V} (h : kget kvs k = some v) : (k, v) ∈ kvs := by
  unfold kget at h
  obtain ⟨q, hq, e⟩ := Option.map_eq_some_iff.mp h
  have h1 := List.mem_of_find?_eq_some hq
  have h2 : q.1 = k := of_decide_eq_true (List.find?_some (p := fun kv : NKey × V => decide (kv.1 = k)) hq)
  rw [← h2, ← e]
  exact h1
theorem kget_put (kvs : List (NKey × V)) (k : NKey) (v : V) : kget (kput kvs k v) k = some v := by
  unfold kput
  split
  · rename_i h
    have h : (kget kvs k).isSome = true := h
    have : ∀ l : List (NKey × V), (kget l k).isSome = true → kget (l.map fun kv => if kv.1 = k then (kv.1, v) else kv) k = some v := fun l => by
      induction l with
      | nil => intro q; cases q
      | cons a l ih =>
        intro q
        by_cases e : a.1 = k
        · simp [kget, List.find?_cons, e]
        · have q' : (kget l k).isSome = true := by simpa [kget, List.find?_cons, e] using q
          have := ih q'
          simpa [kget, List.find?_cons, e] using this
    exact this kvs h
  · rename_i h
    have h : kget kvs k = none := by simpa using h
    have : ∀ l : List (NKey × V), kget l k = none → kget (l ++ [(k, v)]) k = some v := fun l => by
      induction l with
      | nil => intro _; simp [kget]
      | cons a l ih =>
        intro q
        by_cases e : a.1 = k
        · simp [kget, List.find?_cons, e] at q
        · have q' : kget l k = none := by simpa [kget, List.find?_cons, e] using q
          have := ih q'
          simpa [kget, List.find?_cons, e] using this
    exact this kvs h
theorem kn_find {H : Hp} {k : NKey} : ∀ {xs : List (NestedKey × Addr × Value)} {kvs : List (NKey × V)}, KnIs H xs kvs → (kget kvs k = none ∧ atKey xs (nk k) = none) ∨ ∃ v p, kget kvs k = some v ∧ atKey xs (nk k) = some p ∧ RelV v p.2
  | _, _, .nil => .inl ⟨rfl, rfl⟩
  | x :: xs, kv :: kvs, .cons r t => by
    by_cases e : kv.1 = k
    · refine .inr ⟨kv.2, x.2, by simp [kget, List.find?_cons, e], ?_, r.2.2⟩
      have e2 : x.1 = nk k := by rw [r.1, e]
      simp [atKey, List.find?_cons, e2]
    · have e2 : ¬ x.1 = nk k := fun z => e (nk_inj (r.1.symm.trans z))
      rcases kn_find (k := k) t with ⟨h1, h2⟩ | ⟨v, p, h1, h2, h3⟩
      · exact .inl ⟨by simpa [kget, List.find?_cons, e] using h1, by simpa [atKey, List.find?_cons, e2] using h2⟩
      · exact .inr ⟨v, p, by simpa [kget, List.find?_cons, e] using h1, by simpa [atKey, List.find?_cons, e2] using h2, h3⟩

section
variable {X : Cx} {pins : List (Addr × Obj)} {σ : L2.St} {H : Hp} {s : Shared} {a b : Addr} {k : NKey} {xs : List (NestedKey × Addr × Value)} {kvs : List (NKey × V)}
theorem texts_nested {h : Heap} : ∀ {l : List Str} {us : List Value}, Vals (l.map V.str) us → NestedAll h (l.map NestedKey.text) us
  | [], _, r => by
    cases r
    exact .nil
  | x :: l, _, r => by
    cases r with
    | cons q t =>
      obtain ⟨tk, rfl⟩ := q
      exact .cons (.text _ _) (texts_nested t)
theorem depth_texts : ∀ l : List Str, NestedKey.depthAll (l.map NestedKey.text) = 0
  | [] => by simp [NestedKey.depthAll]
  | x :: l => by simp [NestedKey.depthAll, NestedKey.depth, depth_texts l]
theorem kn_is (ok : HOk X.prog X.w H s.heap) (h : KeyAt H b k) : (nestedKind X.prog X.w).is s.heap (nk k) b := by
  obtain ⟨p, h1, h2⟩ := h
  obtain ⟨_, its, rv, o, ho, hc, n, hd⟩ := ok b _ h1
  obtain ⟨_, its2, rv2, o2, ho2, hc2, n2, hd2⟩ := ok p _ h2
  obtain ⟨u1, u2, rfl, r1, r2⟩ := vals2 rv
  obtain ⟨t1, rfl⟩ := r1
  obtain rfl : u2 = Value.ref p := r2
  refine ⟨.tup ho hc hd (.cons (.int _ _) (.cons (.tup ho2 hc2 hd2 (by simpa using texts_nested rv2)) .nil)), ?_⟩
  show NestedKey.depth (.tup [.num _, .tup (k.2.map NestedKey.text)]) ≤ 8
  simp [NestedKey.depth, NestedKey.depthAll, depth_texts]
theorem kn_of (ok : HOk X.prog X.w H s.heap) (h : H a = some (KnO X.prog X.w a xs)) (r : KnIs H xs kvs) : s.heap.DictOfH (nestedKind X.prog X.w) a xs ∧ (a == sysModules) = false ∧ xs.length ≤ sizeLine := by
  obtain ⟨⟨o, es, ep, h1, h2, h3, h4, h5, h6, h7⟩, _⟩ := ok a _ h
  refine ⟨⟨o, es, ep, h1, h2, h3, h4, fun x hx => ?_, h5⟩, h6, h7⟩
  have all : ∀ {l : List (NestedKey × Addr × Value)} {m : List (NKey × V)}, KnIs H l m → ∀ x ∈ l, (nestedKind X.prog X.w).is s.heap x.1 x.2.1 := by
    intro l m q
    induction q with
    | nil => intro x hx; cases hx
    | cons q t ih =>
      intro x hx
      rcases List.mem_cons.mp hx with e | hx
      · subst e
        rw [q.1]
        exact kn_is ok q.2.1
      · exact ih x hx
  exact all r x hx
theorem kn_room {A : Around} (hu : A.units + 10 < cLine) : (nestedKind X.prog X.w).room A.in1 := by
  show A.units + 1 + 8 < cLine
  omega
/-- {} -/
theorem pe_knNew {pos : Pos} : PE X (.Dict [] [] pos) (fun _ H Q => ∀ p, H p = none → Q (.ref p) (upd H p (KnO X.prog X.w p []))) := by
  refine ⟨fun pins s σ H Q I h => wpAny_Dict_empty ?_⟩
  have hb : sysModules < s.heap.objs.size := I.big
  have new : ObjOk X.prog X.w (upd H s.heap.objs.size (KnO X.prog X.w s.heap.objs.size [])) (s.heap.push { cls := .type "dict", data := .dict #[] }) s.heap.objs.size (KnO X.prog X.w s.heap.objs.size []) :=
    ⟨⟨_, #[], 0, Heap.get?_push_size _ rfl, ⟨rfl, rfl, rfl⟩, rfl, rfl, List.nodup_nil, beq_eq_false_iff_ne.mpr (Ne.symm (Nat.ne_of_lt hb)), Nat.zero_le _⟩, ⟨_, Heap.get?_push_size _ rfl⟩,
      fun h1 h2 ⟨o, es, ep, q1, q2⟩ st => ⟨o, es, ep, st o q1, q2⟩⟩
  exact ⟨.ref s.heap.objs.size, _, I.laid (t' := s.toks) (fun _ _ q => Heap.get?_push_of_some _ q) (Nat.le_refl _) new, rfl, h _ (I.hok.fresh (Nat.le_refl _))⟩
/-- k not in d -/
def rKnNot (P : Program) (w : World) : R2 := fun x y H Q => ∃ (b a : Addr) (k : NKey) (xs : List (NestedKey × Addr × Value)) (kvs : List (NKey × V)), x = .ref b ∧ y = .ref a ∧ KeyAt H b k ∧ H a = some (KnO P w a xs) ∧ KnIs H xs kvs ∧ Q (.bl (!(kget kvs k).isSome)) H
theorem op_knNot (hu : X.A.units + 10 < cLine) : OpR X (compareOp .NotIn) (rKnNot X.prog X.w) := fun pins s σ H x y v u Q I rx ry ⟨b, a, k, xs, kvs, ex, ey, hb, ha, hr, q⟩ => by
  subst ex ey
  obtain rfl : v = Value.ref b := rx
  obtain rfl : u = Value.ref a := ry
  obtain ⟨hD, hs, hl⟩ := kn_of I.hok ha hr
  refine wpAny_notIn_heap (kn_room hu) (kn_is I.hok hb) hs hD ?_
  have e : (atKey xs (nk k)).isSome = (kget kvs k).isSome := by
    rcases kn_find (k := k) hr with ⟨h1, h2⟩ | ⟨v, p, h1, h2, _⟩ <;> rw [h1, h2] <;> rfl
  exact ⟨.bl _, H, I.tok _, by rw [e]; rfl, q⟩
/-- d[k] -/
def tKnGet (P : Program) (w : World) (td ty : TE) : TE := fun σ H Q => td σ H fun x H1 => ty σ H1 fun y H2 => ∃ (b a : Addr) (k : NKey) (xs : List (NestedKey × Addr × Value)) (kvs : List (NKey × V)) (v : V), x = .ref a ∧ y = .ref b ∧ KeyAt H2 b k ∧ H2 a = some (KnO P w a xs) ∧ KnIs H2 xs kvs ∧ kget kvs k = some v ∧ Q v H2
theorem pe_knGet {o i : Expr} {td ty : TE} {pos : Pos} (hu : X.A.units + 10 < cLine) (ho : PE X o td) (hi : PE X i ty) (hs : NoSl i) : PE X (.Subscript o i pos) (tKnGet X.prog X.w td ty) := by
  refine ⟨fun pins s σ H Q I h => subD_of PySem.F.slot_dict_getitem.lookup hs (thn (ho.run pins s σ H _ I h) fun u s1 h1 => ?_)⟩
  obtain ⟨x, H1, I1, rx, q1⟩ := h1
  refine thn (hi.run pins s1 σ H1 _ I1 q1) fun iv s2 h2 => ?_
  obtain ⟨y, H2, I2, ry, b, a, k, xs, kvs, v, ex, ey, hb, ha, hr, hk, q⟩ := h2
  subst ex ey
  obtain rfl : iv = Value.ref b := ry
  obtain rfl : u = Value.ref a := rx
  obtain ⟨hD, hsm, hl⟩ := kn_of I2.hok ha hr
  refine ⟨hD.typeIs, ?_⟩
  rcases kn_find (k := k) hr with ⟨z1, z2⟩ | ⟨v', p, z1, z2, z3⟩
  · rw [z1] at hk; cases hk
  · rw [z1] at hk
    cases hk
    exact wpAny_getItem_heap (kn_room hu) (kn_is I2.hok hb) hD z2 ⟨v, H2, I2.tok _, z3, q⟩
/-- d[k] = v -/
def rKnSet (P : Program) (w : World) : TSet := fun o i v H Q => ∃ (b a : Addr) (k : NKey) (xs : List (NestedKey × Addr × Value)) (kvs : List (NKey × V)), o = .ref a ∧ i = .ref b ∧ KeyAt H b k ∧ H a = some (KnO P w a xs) ∧ KnIs H xs kvs ∧ kvs.length < 16000000 ∧
  ∀ xs', KnIs H xs' (kput kvs k v) → Q (upd H a (KnO P w a xs'))
theorem kn_stored {k : NKey} {v : V} {u : Value} {H : Hp} {xs : List (NestedKey × Addr × Value)} {kvs : List (NKey × V)} (hr : KnIs H xs kvs) (hb : KeyAt H b k) (ru : RelV v u) : KnIs H (storedH xs (nk k) b u) (kput kvs k v) := by
  rcases kn_find (k := k) hr with ⟨z1, z2⟩ | ⟨v', p, z1, z2, z3⟩
  · rw [storedH_new z2]
    unfold kput
    rw [z1]
    exact hr.snoc ⟨rfl, hb, ru⟩
  · rw [storedH_old z2]
    unfold kput
    rw [z1]
    show KnIs H _ (kvs.map _)
    refine hr.map _ _ fun x kv q => ?_
    by_cases e : kv.1 = k
    · have e2 : x.1 = nk k := by rw [q.1, e]
      rw [if_pos e]
      unfold putAt
      rw [if_pos e2]
      exact ⟨q.1, q.2.1, ru⟩
    · have e2 : ¬ x.1 = nk k := fun z => e (nk_inj (q.1.symm.trans z))
      rw [if_neg e]
      unfold putAt
      rw [if_neg e2]
      exact q
theorem set_kn (hu : X.A.units + 10 < cLine) : PSet X (rKnSet X.prog X.w) := by
  intro pins s σ H o i v ov iv u Q I ro ri ru h
  obtain ⟨b, a, k, xs, kvs, eo, ei, hb, ha, hr, hn, q⟩ := h
  subst eo ei
  obtain rfl : ov = Value.ref a := ro
  obtain rfl : iv = Value.ref b := ri
  obtain ⟨hD, hsm, hl⟩ := kn_of I.hok ha hr
  have hst := kn_stored hr hb ru
  have hlen : (storedH xs (nk k) b u).length ≤ sizeLine := by
    rw [hst.len]
    have := kput_len kvs k v
    rw [sizeLine_eq]
    omega
  refine wpAny_setItem_heap (hsz := hl) (kn_room hu) (kn_is I.hok hb) hD fun h' hD' hs => ?_
  obtain ⟨ob, es, ep, h1, h2, h3, h4, _, h5⟩ := hD'
  have new : ObjOk X.prog X.w (upd H a (KnO X.prog X.w a (storedH xs (nk k) b u))) h' a (KnO X.prog X.w a (storedH xs (nk k) b u)) :=
    ⟨⟨ob, es, ep, h1, h2, h3, h4, h5, hsm, hlen⟩, ⟨ob, h1⟩, fun g1 g2 ⟨o, es, ep, q1, q2⟩ st => ⟨o, es, ep, st o q1, q2⟩⟩
  exact ⟨_, d_write I (by rw [ha]; exact True.intro) hs ⟨ob, h1⟩ new, q _ hst⟩
end
end K81
/-! ## KW -/
namespace K81
open PySem PySem.Spec PyProof.Rows L2
theorem hu_le {A : Around} {k n : Nat} (hr : Room k A) (h : n ≤ 200) : A.units + n < cLine := by have := hr.un; omega
theorem hu_le0 {A : Around} {k : Nat} (hr : Room k A) : A.units < cLine := by have := hr.un; omega
section
variable {K : PySem.W.Frag} {H : Hp} {a b p : Addr} {xs ys : List V} {i : Nat} {v x y : V} {Q : VK}
/-! ### the tuples and lists that stand in the heap -/
theorem sqt (h : H a = some (.tup xs)) : SqT K H a xs := SqT.of h
theorem sql (h : H a = some (.lst xs)) : SqL K H a xs := SqL.of h
/-- xs[i], i from the left -/
theorem atI_n (e : xs[i]? = some v) : atI xs ((i : Nat) : Int) = some v := atI_nat e
theorem q_ixT (h : H a = some (.tup xs)) (e : xs[i]? = some v) (q : Q v H) : rIx K (.ref a) (.int ((i : Nat) : Int)) H Q := .inr (.inl ⟨a, xs, _, v, rfl, rfl, sqt h, atI_n e, q⟩)
theorem q_ixS (h : SqT K H a xs) (e : xs[i]? = some v) (q : Q v H) : rIx K (.ref a) (.int ((i : Nat) : Int)) H Q := .inr (.inl ⟨a, xs, _, v, rfl, rfl, h, atI_n e, q⟩)
theorem q_ixL (h : H a = some (.lst xs)) (e : xs[i]? = some v) (q : Q v H) : rIx K (.ref a) (.int ((i : Nat) : Int)) H Q := .inl ⟨a, xs, _, v, rfl, rfl, sql h, atI_n e, q⟩
theorem q_ixT0 (h : H a = some (.tup xs)) (e : xs[0]? = some v) (q : Q v H) : rIx K (.ref a) (.int 0) H Q := q_ixT (i := 0) h e q
theorem q_ixT1 (h : H a = some (.tup xs)) (e : xs[1]? = some v) (q : Q v H) : rIx K (.ref a) (.int 1) H Q := q_ixT (i := 1) h e q
theorem q_ixT2 (h : H a = some (.tup xs)) (e : xs[2]? = some v) (q : Q v H) : rIx K (.ref a) (.int 2) H Q := q_ixT (i := 2) h e q
/-- t + u of tuples: the sum stands somewhere, all else as it was -/
theorem q_catA (ha : H a = some (.tup xs)) (hb : H b = some (.tup ys)) (hl : xs.length + ys.length ≤ sizeLine) (q : ∀ p H', Ex H H' → H' p = some (.tup (xs ++ ys)) → Q (.ref p) H') : rCatA K (.ref a) (.ref b) H Q := by
  refine ⟨a, b, xs, ys, rfl, rfl, sqt ha, sqt hb, hl, fun e => ?_, fun n e => ?_, fun n m p hp => ?_⟩
  · subst e; exact q b H (.refl H) (by simpa using hb)
  · subst e; exact q a H (.refl H) (by simpa using ha)
  · exact q p _ (.new hp _) upd_same
theorem q_slA {lo hi : Option Int} {zs : List V} (ha : H a = some (.tup xs)) (e : cutV xs lo hi = zs) (q : ∀ p H', Ex H H' → H' p = some (.tup zs) → Q (.ref p) H') : rSlA K (.ref a) lo hi H Q := by
  refine ⟨a, xs, rfl, sqt ha, fun hw => ?_, fun _ p hp => ?_⟩
  · refine q a H (.refl H) ?_
    have : cutV xs lo hi = xs := by
      unfold cutV
      rw [hw.1, hw.2]
      simp
    rw [← e, this]
    exact ha
  · rw [e]; exact q p _ (.new hp _) upd_same
end
section
variable {K : PySem.W.Frag} {H : Hp} {a b p l : Addr} {xs ys : List V} {i n : Nat} {v x y : V} {Q : VK}
theorem line_le {n : Nat} (h : n ≤ 1000) : n ≤ sizeLine := Nat.le_trans h (by decide)
theorem q_rep (h : H l = some (.lst [x])) (hn : n ≤ 1000) (q : ∀ p, H p = none → Q (.ref p) (upd H p (.lst (List.replicate n x)))) : rRep (.ref l) (nI n) H Q := by
  refine ⟨l, _, _, rfl, rfl, h, by omega, by omega, ?_, fun p hp => ?_⟩
  · rw [Int.toNat_natCast, List.length_singleton, Nat.one_mul]; exact line_le hn
  · rw [Int.toNat_natCast]
    have : (List.replicate n [x]).flatten = List.replicate n x := by
      clear q h
      induction n with
      | zero => rfl
      | succ n ih => rw [List.replicate_succ, List.flatten_cons, ih (by omega)]; rfl
    rw [this]
    exact q p hp
theorem q_setL {R : Hp → Prop} (h : H p = some (.lst xs)) (hi : i < xs.length) (q : R (upd H p (.lst (xs.set i v)))) : rSetL (.ref p) (nI i) v H R := by
  refine ⟨p, xs, _, i, rfl, rfl, h, ?_, q⟩
  unfold ixN
  rw [if_pos (by omega), if_pos (by omega), Int.toNat_natCast]
end
theorem any_iff {α : Type} {d : α → PyData} (h : ∀ x y, PyData.eqv (d x) (d y) = true ↔ x = y) (l : List α) (y : α) : ((l.map d).any fun z => PyData.eqv z (d y)) = true ↔ y ∈ l := by
  rw [List.any_map, List.any_eq_true]
  constructor
  · rintro ⟨x, hx, e⟩; rw [← (h x y).mp e]; exact hx
  · exact fun hy => ⟨y, hy, (h y y).mpr rfl⟩
theorem any_t {α : Type} {d : α → PyData} (h : ∀ x y, PyData.eqv (d x) (d y) = true ↔ x = y) {l : List α} {y : α} (hy : y ∈ l) : ((l.map d).any fun z => PyData.eqv z (d y)) = true := (any_iff h l y).mpr hy
theorem any_f {α : Type} {d : α → PyData} (h : ∀ x y, PyData.eqv (d x) (d y) = true ↔ x = y) {l : List α} {y : α} (hy : ¬ y ∈ l) : ((l.map d).any fun z => PyData.eqv z (d y)) = false := Bool.eq_false_iff.mpr fun e => hy ((any_iff h l y).mp e)
theorem ty_l {K : PySem.W.Frag} {H : Hp} {p : Addr} {xs : List V} (h : H p = some (.lst xs)) : tyV K "list" (.ref p) H := .inl ⟨rfl, xs, SqL.of h⟩
theorem cut_take {xs : List V} (n : Nat) : cutV xs none (some ((n : Nat) : Int)) = xs.take n := by
  unfold cutV
  rw [HT.sIx_none, HT.sIx_nat, List.drop_zero, Nat.sub_zero]
  by_cases h : n ≤ xs.length
  · rw [Nat.min_eq_left h]
  · rw [Nat.min_eq_right (by omega), List.take_length, List.take_of_length_le (by omega)]
theorem cut_drop {xs : List V} (n : Nat) : cutV xs (some ((n : Nat) : Int)) none = xs.drop n := by
  unfold cutV
  rw [HT.sIx_none, HT.sIx_nat]
  by_cases h : n ≤ xs.length
  · rw [Nat.min_eq_left h, List.take_of_length_le (by rw [List.length_drop]; omega)]
  · rw [Nat.min_eq_right (by omega), List.drop_length, List.drop_of_length_le (by omega)]; simp
theorem cut_last {xs : List V} : cutV xs none (some (-1)) = xs.dropLast := by
  unfold cutV
  have : HT.sIx xs.length xs.length (some (-1)) = xs.length - 1 := by
    show (if ((-1 : Int) < 0) then ((-1 : Int) + (xs.length : Int)).toNat else min (-1 : Int).toNat xs.length) = _
    rw [if_pos (by decide)]; omega
  rw [HT.sIx_none, this, List.drop_zero, Nat.sub_zero, List.dropLast_eq_take]
section
variable {K : PySem.W.Frag} {H : Hp} {x y : V} {l m : List Str} {Q : VK}
theorem q_eqS (hx : TupS H x l) (hy : TupS H y m) (wl : WsOk l) (wm : WsOk m) (q1 : l = m → Q (.bl true) H) (q2 : l ≠ m → Q (.bl false) H) : rEqD K x y H Q := by
  refine ⟨_, _, hx.dp, hy.dp, sh_dS wl, sh_dS wm, ?_⟩
  by_cases h : l = m
  · rw [(eqv_dS l m).mpr h]; exact q1 h
  · rw [Bool.eq_false_iff.mpr fun e => h ((eqv_dS l m).mp e)]; exact q2 h
theorem q_neS (hx : TupS H x l) (hy : TupS H y m) (wl : WsOk l) (wm : WsOk m) (q1 : l ≠ m → Q (.bl true) H) (q2 : l = m → Q (.bl false) H) : rNeD K x y H Q := by
  refine ⟨_, _, hx.dp, hy.dp, sh_dS wl, sh_dS wm, ?_⟩
  by_cases h : l = m
  · rw [(eqv_dS l m).mpr h]; exact q2 h
  · rw [Bool.eq_false_iff.mpr fun e => h ((eqv_dS l m).mp e)]; exact q1 h
theorem q_ixLast {a : Addr} {xs : List V} {v : V} (h : H a = some (.tup xs)) (e : xs.getLast? = some v) (q : Q v H) : rIx K (.ref a) (.int (-1)) H Q := by
  refine .inr (.inl ⟨a, xs, _, v, rfl, rfl, sqt h, ?_, q⟩)
  have hn : xs ≠ [] := by intro z; rw [z] at e; cases e
  have hl : 0 < xs.length := List.length_pos_iff.mpr hn
  unfold atI ixN
  rw [if_neg (by decide), if_pos (by omega)]
  show xs[((-1 : Int) + (xs.length : Int)).toNat]? = some v
  rw [← e, List.getLast?_eq_getElem?]
  congr 1
  omega
theorem q_eqI {l m : List Nat} (hx : TupI H x l) (hy : TupI H y m) (q1 : l = m → Q (.bl true) H) (q2 : l ≠ m → Q (.bl false) H) : rEqD K x y H Q := by
  refine ⟨_, _, hx.dp, hy.dp, sh_dI _, sh_dI _, ?_⟩
  by_cases h : l = m
  · rw [(eqv_dI l m).mpr h]; exact q1 h
  · rw [Bool.eq_false_iff.mpr fun e => h ((eqv_dI l m).mp e)]; exact q2 h
end
/-- in a block, where the written part is told -/
theorem pi_seqK {X : Cx} {tg l : Expr} {tl : TE} (K : PySem.W.Frag) (hK : K = X.K) (hl : PE X l tl) : PI X tg l (iSeq K tl) := by
  subst hK; exact pi_seq hl
def tTruK (K : PySem.W.Frag) (ta : TE) : TT := fun σ H Q => ta σ H fun x H' => ∃ k, TruV K x H' k ∧ Q k H'
theorem pt_truthK {X : Cx} {a : Expr} {ta : TE} (K : PySem.W.Frag) (hK : K = X.K) (ha : PE X a ta) (he : ∀ whole, isTrue a X.env whole = (do let v ← whole; standAt a.pos; holding [v] (truthy v))) : PT X a (tTruK K ta) := by
  subst hK; exact pt_truth ha he
def rLenQ (K : PySem.W.Frag) : List V → Hp → VK → Prop := fun xs H Q => ∃ p ys, xs = [.ref p] ∧ (SqL K H p ys ∨ SqT K H p ys) ∧ Q (.int ys.length) H
theorem call_lenQ {X : Cx} : CallR X (.builtin "len") (rLenQ X.K) := call_len_seq
theorem ite_t {c : Bool} {a b : Prop} (h : c = true) (q : a) : if c = true then a else b := by rw [if_pos h]; exact q
theorem ite_f {c : Bool} {a b : Prop} (h : c = false) (q : b) : if c = true then a else b := by rw [if_neg (by rw [h]; decide)]; exact q
theorem ite_tt {a b : Prop} (q : a) : if true = true then a else b := ite_t rfl q
theorem ite_ff {a b : Prop} (q : b) : if false = true then a else b := ite_f rfl q
end K81
/-! ## KW2 -/
namespace K81
open PySem PySem.Spec PyProof.Rows L2
/-! ### the tape of the law's script -/
def TapeOk (H : Hp) (t sc : Addr) : Prop := ∃ (ns : List Int) (pl rs st : Int), H t = some (.lst [.ref sc, .int pl, .int rs, .int st]) ∧ H sc = some (.lst (ns.map V.int)) ∧ sc ≠ t ∧ 0 ≤ pl ∧ 0 ≤ rs ∧ 0 ≤ st ∧ st < 2147483647
structure TR (t sc : Addr) (H H' : Hp) : Prop where
  e : E1 t H H'
  tp : TapeOk H t sc → TapeOk H' t sc
section
variable {H H' A B C H1 : Hp} {t sc p : Addr} {o : HO} {xs : List V}
theorem TapeOk.fr (h : TapeOk H t sc) (q : H p = none) : p ≠ t ∧ p ≠ sc := by
  obtain ⟨ns, pl, rs, st, h1, h2, _⟩ := h
  exact ⟨fun e => (by rw [e, h1] at q; cases q), fun e => (by rw [e, h2] at q; cases q)⟩
theorem TapeOk.ext (h : TapeOk H t sc) (q : ∀ b o, H b = some o → H' b = some o) : TapeOk H' t sc := by
  obtain ⟨ns, pl, rs, st, h1, h2, h3⟩ := h
  exact ⟨ns, pl, rs, st, q _ _ h1, q _ _ h2, h3⟩
theorem TapeOk.lst (h : TapeOk H t sc) : ∃ xs, H t = some (.lst xs) := let ⟨_, _, _, _, h1, _⟩ := h; ⟨_, h1⟩
theorem TR.refl (t sc : Addr) (H : Hp) : TR t sc H H := ⟨E1.refl t H, fun h => h⟩
theorem TR.trans (a : TR t sc A B) (b : TR t sc B C) : TR t sc A C := ⟨a.e.trans b.e, fun h => b.tp (a.tp h)⟩
theorem Ex.tr (a : Ex A B) (t sc : Addr) : TR t sc A B := ⟨a.e1 t, fun h => h.ext a.old⟩
theorem TR.nw (a : TR t sc A B) (h : B p = none) (o : HO) : TR t sc A (upd B p o) := a.trans ((Ex.new h o).tr t sc)
theorem TR.mut (a : TR t sc A B) (h : A p = none) (o : HO) : TR t sc A (upd B p o) := ⟨a.e.mut h o, fun q => by
  have ne := q.fr h
  obtain ⟨ns, pl, rs, st, h1, h2, h3⟩ := a.tp q
  exact ⟨ns, pl, rs, st, by rw [upd_ne ne.1.symm]; exact h1, by rw [upd_ne ne.2.symm]; exact h2, h3⟩⟩
theorem TR.ts (a : TR t sc A B) (h : TapeOk A t sc) : Tps A B := let ⟨_, e⟩ := h.lst; a.e.ts e
theorem TR.fs (a : TR t sc A B) (h : TapeOk A t sc) : Fzs A B := let ⟨_, e⟩ := h.lst; a.e.fs e
theorem TR.fr (a : TR t sc A B) (h : B p = none) : A p = none := a.e.free h
/-! ### what a heap keeps: a general word -/
structure Pr (r : Hp → Hp → Prop) (H1 : Hp) : Prop where
  refl : ∀ H, r H H
  trans : ∀ {A B C}, r A B → r B C → r A C
  mt : ∀ {A B : Hp} {p : Addr} {xs : List V} (o : HO), r A B → A p = none → B p = some (.lst xs) → r A (upd B p o)
  ts : ∀ {A B}, r H1 A → r A B → Tps A B
  ls : ∀ {A B : Hp} {p : Addr} {xs : List V}, r H1 A → r A B → H1 p = none → A p = some (.lst xs) → B p = some (.lst xs)
  ex : ∀ {A B}, Ex A B → r A B
theorem prEx (H1 : Hp) : Pr Ex H1 where
  refl := Ex.refl
  trans := Ex.trans
  mt := fun o a h _ => a.mut h o
  ts := fun _ b => b.ts
  ls := fun _ b _ h => b.old _ _ h
  ex := fun h => h
theorem prKp (T : List (Addr × Str)) (H1 : Hp) : Pr (Kp T) H1 where
  refl := Kp.refl T
  trans := Kp.trans
  mt := fun o a h e => a.mutL (.of h) e
  ts := fun _ b => b.ts
  ls := fun _ b _ h => b.old _ _ h (by intro ps z; cases z)
  ex := fun h => h.kp T
theorem prTR (h : TapeOk H1 t sc) : Pr (TR t sc) H1 where
  refl := TR.refl t sc
  trans := TR.trans
  mt := fun o a h _ => a.mut h o
  ts := fun a b => b.ts (a.tp h)
  ls := fun _ b n e => b.e.old _ _ (h.fr n).1 e
  ex := fun h => h.tr t sc
/-- a change of a list leaves the tuples -/
theorem ts_lst {ys : List V} (e : H p = some (.lst ys)) : Tps H (upd H p (.lst xs)) := fun b zs q => by rw [upd_ne (ne_of q e (by intro z; cases z))]; exact q
/-! ### a comprehension whose turns tell their items by a Lean function -/
variable {r : Hp → Hp → Prop} {K : PySem.W.Frag} {a : Addr} {g : TG} {tt : TT} {te : TE} {vs : List Nat} {σ : L2.St} {D : Addr} {Qd : Hp → Prop} {β γ : Type}
def LcP (r : Hp → Hp → Prop) (H1 : Hp) (D : Addr) (R : Hp → V → γ → Prop) (cs : List γ) (H : Hp) : Prop := r H1 H ∧ ∃ acc, H D = some (.lst acc) ∧ All2 (R H) acc cs
/-- what one turn has to say: N is what is wanted of the heap behind it -/
abbrev LcT (r : Hp → Hp → Prop) (D : Addr) (g : TG) (tt : TT) (te : TE) (σ : L2.St) (vs : List Nat) (R : Hp → V → γ → Prop) (φ : β → Option γ) (x : V) (b : β) (H : Hp) : Prop :=
  ∀ N : Hp → Prop, (∀ H', r H H' → φ b = none → N H') → (∀ y z H', r H H' → φ b = some z → R H' y z → ∃ acc, H' D = some (.lst acc) ∧ acc.length < sizeLine ∧ N (upd H' D (.lst (acc ++ [y])))) →
    g x (wipe σ vs) H fun σ2 H2 => wipe σ2 vs = wipe σ vs ∧ tt σ2 H2 fun c H3 => if c = true then te σ2 H3 fun y H4 => ∃ acc, H4 D = some (.lst acc) ∧ acc.length < sizeLine ∧ N (upd H4 D (.lst (acc ++ [y]))) else N H3
theorem fm_le (φ : β → Option γ) (l : List β) : (l.filterMap φ).length ≤ l.length := List.length_filterMap_le φ l
theorem take_succ_some {l : List β} {i : Nat} {b : β} (h : l[i]? = some b) : l.take (i + 1) = l.take i ++ [b] := by
  rw [List.take_succ, h]; rfl
theorem lc_step (P : Pr r H1) {R : Hp → V → γ → Prop} (hR : ∀ A B y z, Tps A B → R A y z → R B y z) {φ : β → Option γ} {bs : List β} (hn : bs.length < sizeLine) (hD : H1 D = none) {i : Nat} {x : V} {b : β} (hb : bs[i]? = some b) {H : Hp}
    (h : LcP r H1 D R ((bs.take i).filterMap φ) H) (t : LcT r D g tt te σ vs R φ x b H) :
    g x (wipe σ vs) H fun σ2 H2 => wipe σ2 vs = wipe σ vs ∧ tt σ2 H2 fun c H3 => if c = true then te σ2 H3 fun y H4 => ∃ acc, H4 D = some (.lst acc) ∧ acc.length < sizeLine ∧ LcP r H1 D R ((bs.take (i + 1)).filterMap φ) (upd H4 D (.lst (acc ++ [y]))) else LcP r H1 D R ((bs.take (i + 1)).filterMap φ) H3 := by
  obtain ⟨k, acc, e, al⟩ := h
  have lt : i < bs.length := (List.getElem?_eq_some_iff.mp hb).1
  have hacc : acc.length ≤ i := by
    have := fm_le φ (bs.take i)
    rw [al.len]
    rw [List.length_take] at this
    omega
  refine t _ (fun H' q e0 => ?_) fun y z H' q e0 hr => ⟨acc, P.ls k q hD e, by omega, ?_⟩
  · refine ⟨P.trans k q, acc, P.ls k q hD e, ?_⟩
    rw [take_succ_some hb, List.filterMap_append]
    simp only [List.filterMap_cons, List.filterMap_nil, e0, List.append_nil]
    exact al.mono fun _ _ => hR _ _ _ _ (P.ts k q)
  · have e2 := P.ls k q hD e
    refine ⟨P.mt _ (P.trans k q) hD e2, acc ++ [y], upd_same, ?_⟩
    rw [take_succ_some hb, List.filterMap_append]
    simp only [List.filterMap_cons, List.filterMap_nil, e0]
    exact (al.mono fun _ _ u => hR _ _ _ _ (ts_lst e2) (hR _ _ _ _ (P.ts k q) u)).snoc (hR _ _ _ _ (ts_lst e2) hr)
theorem lc_start (P : Pr r H1) {R : Hp → V → γ → Prop} (hD : H1 D = none) : LcP r H1 D R [] (upd H1 D (.lst [])) := ⟨P.ex (.new hD _), [], upd_same, .nil⟩
section
variable (P : Pr r H1) {R : Hp → V → γ → Prop} (hR : ∀ A B y z, Tps A B → R A y z → R B y z) {φ : β → Option γ} {bs : List β} (hn : bs.length < sizeLine) (hD : H1 D = none)
include P hR hn hD
/-- over a tuple -/
theorem lc_gT {xs : List V} (hx : H1 a = some (.tup xs)) (hl : xs.length = bs.length) (hs : ∀ (i : Nat) x b H, xs[i]? = some x → bs[i]? = some b → r H1 H → LcT r D g tt te σ vs R φ x b H) (hd : ∀ H acc, r H1 H → H D = some (.lst acc) → All2 (R H) acc (bs.filterMap φ) → Qd H) :
    ∃ W : Nat → Nat → Hp → Prop, (∃ m, W 0 m (upd H1 D (.lst []))) ∧ ∀ i m H, W i m H →
      ((Itt K a).stop i H ∧ Qd H) ∨ ((Itt K a).go i H ∧ ∃ Nx : Hp → Prop, (∀ H', Nx H' → ∃ m', m' < m ∧ W (i + 1) m' H') ∧ ∀ x H', (Itt K a).yld i H x H' → g x (wipe σ vs) H' fun σ2 H2 => wipe σ2 vs = wipe σ vs ∧ tt σ2 H2 fun b H3 =>
        if b = true then te σ2 H3 fun y H4 => ∃ acc, H4 D = some (.lst acc) ∧ acc.length < sizeLine ∧ Nx (upd H4 D (.lst (acc ++ [y]))) else Nx H3) := by
  refine lc_tup (xs := xs) (fun i H => LcP r H1 D R ((bs.take i).filterMap φ) H) (by simpa using lc_start P hD) (fun i H _ q => sqt (P.ts (P.refl _) q.1 _ _ hx)) (fun i x H hi q => ?_) fun H q => ?_
  · have lt : i < bs.length := by rw [← hl]; exact (List.getElem?_eq_some_iff.mp hi).1
    have hb : bs[i]? = some bs[i] := List.getElem?_eq_getElem lt
    exact lc_step P hR hn hD hb q (hs i x _ H hi hb q.1)
  · obtain ⟨k, acc, e, al⟩ := q
    rw [hl, List.take_length] at al
    exact hd H acc k e al
/-- over a list that came before -/
theorem lc_gL {xs : List V} (hx : ∀ H, r H1 H → H a = some (.lst xs)) (hl : xs.length = bs.length) (hs : ∀ (i : Nat) x b H, xs[i]? = some x → bs[i]? = some b → r H1 H → LcT r D g tt te σ vs R φ x b H) (hd : ∀ H acc, r H1 H → H D = some (.lst acc) → All2 (R H) acc (bs.filterMap φ) → Qd H) :
    ∃ W : Nat → Nat → Hp → Prop, (∃ m, W 0 m (upd H1 D (.lst []))) ∧ ∀ i m H, W i m H →
      ((Itl K a).stop i H ∧ Qd H) ∨ ((Itl K a).go i H ∧ ∃ Nx : Hp → Prop, (∀ H', Nx H' → ∃ m', m' < m ∧ W (i + 1) m' H') ∧ ∀ x H', (Itl K a).yld i H x H' → g x (wipe σ vs) H' fun σ2 H2 => wipe σ2 vs = wipe σ vs ∧ tt σ2 H2 fun b H3 =>
        if b = true then te σ2 H3 fun y H4 => ∃ acc, H4 D = some (.lst acc) ∧ acc.length < sizeLine ∧ Nx (upd H4 D (.lst (acc ++ [y]))) else Nx H3) := by
  refine lc_list (xs := xs) (fun i H => LcP r H1 D R ((bs.take i).filterMap φ) H) (by simpa using lc_start P hD) (fun i H _ q => sql (hx H q.1)) (fun i x H hi q => ?_) fun H q => ?_
  · have lt : i < bs.length := by rw [← hl]; exact (List.getElem?_eq_some_iff.mp hi).1
    have hb : bs[i]? = some bs[i] := List.getElem?_eq_getElem lt
    exact lc_step P hR hn hD hb q (hs i x _ H hi hb q.1)
  · obtain ⟨k, acc, e, al⟩ := q
    rw [hl, List.take_length] at al
    exact hd H acc k e al
end
/-- over range(n) -/
theorem lc_gR (P : Pr r H1) {R : Hp → V → γ → Prop} (hR : ∀ A B y z, Tps A B → R A y z → R B y z) {φ : Nat → Option γ} {n : Nat} (hn : n < sizeLine) (hD : H1 D = none) (hs : ∀ i H, i < n → r H1 H → LcT r D g tt te σ vs R φ (nI i) i H) (hd : ∀ H acc, r H1 H → H D = some (.lst acc) → All2 (R H) acc ((List.range n).filterMap φ) → Qd H) :
    ∃ W : Nat → Nat → Hp → Prop, (∃ m, W 0 m (upd H1 D (.lst []))) ∧ ∀ i m H, W i m H →
      ((Itr 0 n).stop i H ∧ Qd H) ∨ ((Itr 0 n).go i H ∧ ∃ Nx : Hp → Prop, (∀ H', Nx H' → ∃ m', m' < m ∧ W (i + 1) m' H') ∧ ∀ x H', (Itr 0 n).yld i H x H' → g x (wipe σ vs) H' fun σ2 H2 => wipe σ2 vs = wipe σ vs ∧ tt σ2 H2 fun b H3 =>
        if b = true then te σ2 H3 fun y H4 => ∃ acc, H4 D = some (.lst acc) ∧ acc.length < sizeLine ∧ Nx (upd H4 D (.lst (acc ++ [y]))) else Nx H3) := by
  refine lc_range (fun i H => LcP r H1 D R (((List.range n).take i).filterMap φ) H) (by simpa using lc_start P hD) (fun i H hi q => ?_) fun H q => ?_
  · have hb : (List.range n)[i]? = some i := by rw [List.getElem?_range hi]
    have e0 : (V.int (0 + (i : Int))) = nI i := by unfold nI; rw [Int.zero_add]
    rw [e0]
    exact lc_step P hR (by rw [List.length_range]; exact hn) hD hb q (hs i H hi q.1)
  · obtain ⟨k, acc, e, al⟩ := q
    rw [show (List.range n).take n = List.range n from List.take_of_length_le (by rw [List.length_range]; exact Nat.le_refl _)] at al
    exact hd H acc k e al
end
end K81
/-! ## KC -/
namespace K81
open PySem PySem.Spec PyProof.Rows L2
/-! ### a def whose code object is known: it may make a lambda -/
structure FunC (K : PySem.W.Frag) (x qual : Str) (st : Stmt) (f : Addr) (fd : FuncData) (c : Addr) : Prop where
  ex : ∃ (oc : Value) (od : Option Addr) (kV doc pm : Value) (an : Option Addr) (ct : Value) (osl : Array (Option Value)),
    fd = PySem.W.fnOf x qual (defArgs st) (defBody st) (defScope st) .none kV doc pm an (.ref c) ct ∧ K.lookup f = some ⟨oc, od, .func fd, osl⟩ ∧ PySem.W.codeIn K (.ref c) qual = true
section
variable {P : Program} {w : World} {K : PySem.W.Frag} {mg : Str → Option Value} {base : Heap}
theorem FunC.ok {x qual : Str} {st : Stmt} {f c : Addr} {fd : FuncData} {N ps : List Str} {k : Nat} {sp : Sp} (F : FunC K x qual st f fd c) (S : FnScope N ps (defScope st)) (len : ∀ vs H Q E, sp vs H Q E → vs.length = ps.length)
    (hb : ∀ (A : Around) (outer : List Env) (s : Shared) (H : Hp) (vs : List V) (Q : VK) (E : XK), Room k (A.deeper (envOfC qual (defScope st) s.heap.objs.size f (.ref c))) → sp vs H Q E →
      ∃ t, PSs (cxOf CX0 P w K mg base N qual (defScope st) f (.ref c) A outer s H E).nox (defBody st) t ∧ t { nx := fun _ H' => Q .non H', rt := Q } (L2.start N vs) H) : FnOk P w K mg base CX0 (k + 1) f fd ps sp := by
  obtain ⟨oc, od, kV, doc, pm, an, ct, osl, rfl, lk, hcd⟩ := F.ex
  exact fn_of lk hcd S len fun A outer s H vs Q E hr hsp => let ⟨t, h1, h2⟩ := hb A outer s H vs Q E hr hsp; ⟨t, h1.nox, h2⟩
end
/-- the name of a lambda that the def x makes -/
def lq (x : Str) : Str := (envOfC x (defScope (topS 0)) 0 0 .none).qual ++ "<lambda>"
/-- the two tables of code objects -/
def TL (P1 P2 : Addr) : List (Addr × Str) := [(P1, lq "paths_of"), (P2, lq "all_sets")]
theorem tl_1 {P1 P2 : Addr} (h : P1 ≠ P2) : ∀ q ∈ TL P1 P2, q.1 = P1 → q.2 = lq "paths_of" := fun q hq e => by
  rcases List.mem_cons.mp hq with z | z
  · rw [z]
  · rw [List.mem_singleton.mp z] at e; exact absurd e.symm h
theorem tl_2 {P1 P2 : Addr} (h : P1 ≠ P2) : ∀ q ∈ TL P1 P2, q.1 = P2 → q.2 = lq "all_sets" := fun q hq e => by
  rcases List.mem_cons.mp hq with z | z
  · rw [z] at e; exact absurd e h
  · rw [List.mem_singleton.mp z]
/-! ### the keys (len, row) -/
theorem reads_strs {h : Heap} : ∀ {l : List Str} {us : List Value}, Vals (l.map V.str) us → ReadsAll h us (l.map PyData.str) []
  | [], _, .nil => .nil
  | x :: r, _, .cons h1 h2 => by
    obtain ⟨t, rfl⟩ := h1
    exact ReadsAll.cons (as := []) (bs := []) (.str x t) (reads_strs h2)
theorem reads_ints {h : Heap} : ∀ {l : List Nat} {us : List Value}, Vals (l.map nI) us → ReadsAll h us (l.map dN) []
  | [], _, .nil => .nil
  | x :: r, _, .cons h1 h2 => by
    obtain ⟨t, rfl⟩ := h1
    exact ReadsAll.cons (as := []) (bs := []) (.int _ t) (reads_ints h2)
theorem key_strs : KeyItem TupS List.length dS := fun X pins σ H s x b u I h r => by
  obtain ⟨a, rfl, q⟩ := h
  cases r
  obtain ⟨its, rv, ⟨o, h1, h2, n, h3⟩, hz⟩ := I.tuple (sqt q)
  have hl : its.length = b.length := by rw [← rv.length, List.length_map]
  exact ⟨a, its.toArray, rfl, ⟨o, h1, h2, n, h3⟩, by rw [List.size_toArray, hl], by rw [List.size_toArray, ← rv.length]; exact hz, Reads.tuple h1 h2 h3 (reads_strs rv)⟩
theorem key_ints : KeyItem TupI List.length dI := fun X pins σ H s x b u I h r => by
  obtain ⟨a, rfl, q⟩ := h
  cases r
  obtain ⟨its, rv, ⟨o, h1, h2, n, h3⟩, hz⟩ := I.tuple (sqt q)
  have hl : its.length = b.length := by rw [← rv.length, List.length_map]
  exact ⟨a, its.toArray, rfl, ⟨o, h1, h2, n, h3⟩, by rw [List.size_toArray, hl], by rw [List.size_toArray, ← rv.length]; exact hz, Reads.tuple h1 h2 h3 (reads_ints rv)⟩
theorem alike_strs : ∀ l m : List Str, PySem.W.alikeAll (l.map PyData.str) (m.map PyData.str) = true
  | [], _ => by simp [PySem.W.alikeAll]
  | _ :: _, [] => by simp [PySem.W.alikeAll]
  | _ :: l, _ :: m => by simp [PySem.W.alikeAll, PySem.W.alike, alike_strs l m]
theorem alike_ints : ∀ l m : List Nat, PySem.W.alikeAll (l.map dN) (m.map dN) = true
  | [], _ => by simp [PySem.W.alikeAll]
  | _ :: _, [] => by simp [PySem.W.alikeAll]
  | _ :: l, _ :: m => by simp [PySem.W.alikeAll, PySem.W.alike, dN, alike_ints l m]
theorem alike_keyS (bs : List (List Str)) : PySem.W.AllAlike (bs.map (keyD List.length dS)) := fun d hd e he => by
  obtain ⟨l, _, rfl⟩ := List.mem_map.mp hd
  obtain ⟨m, _, rfl⟩ := List.mem_map.mp he
  simp [keyD, dS, PySem.W.alike, PySem.W.alikeAll, alike_strs]
theorem alike_keyI (bs : List (List Nat)) : PySem.W.AllAlike (bs.map (keyD List.length dI)) := fun d hd e he => by
  obtain ⟨l, _, rfl⟩ := List.mem_map.mp hd
  obtain ⟨m, _, rfl⟩ := List.mem_map.mp he
  simp [keyD, dI, PySem.W.alike, PySem.W.alikeAll, alike_ints]
theorem depth_keyS (b : List Str) : (keyD List.length dS b).depth ≤ 8 := by simp [keyD, PyData.depth, PyData.depthAll, dep_dS]
theorem depth_keyI (b : List Nat) : (keyD List.length dI b).depth ≤ 8 := by simp [keyD, PyData.depth, PyData.depthAll, dep_dI]
/-- by such keys the shorter stands first -/
theorem keyLe_len {β : Type} {d : List β → PyData} {a b : List β} (h : PySem.W.dataLe false (keyD List.length d) a b = true) : a.length ≤ b.length := by
  apply Classical.byContradiction
  intro n
  have lt : (b.length : Int) < a.length := by omega
  have : PySem.W.dataLe false (keyD List.length d) a b = false := by
    unfold PySem.W.dataLe PySem.W.sortLe
    show (!PyProof.Rows.lexLt PyProof.Rows.itemOrd (PySem.W.keyToks (keyD List.length d b)) (PySem.W.keyToks (keyD List.length d a))) = false
    simp [keyD, PySem.W.keyToks, PySem.W.keyToksAll, PyProof.Rows.lexLt, PyProof.Rows.itemLt, lt]
  rw [this] at h; cases h
theorem keyLe_tot {β : Type} (k : β → PyData) : (∀ a b c, PySem.W.dataLe false k a b = true → PySem.W.dataLe false k b c = true → PySem.W.dataLe false k a c = true) ∧ ∀ a b, (PySem.W.dataLe false k a b || PySem.W.dataLe false k b a) = true := by
  have t := PySem.W.sortLe_total (PyProof.Rows.listOrd PyProof.Rows.itemOrd) false fun b => PySem.W.keyToks (k b)
  exact ⟨t.trans, fun a b => by rw [Bool.or_eq_true]; exact t.total a b⟩
theorem sort_len {β : Type} {d : List β → PyData} (l : List (List β)) : (l.mergeSort (PySem.W.dataLe false (keyD List.length d))).Pairwise fun a b => a.length ≤ b.length :=
  (List.pairwise_mergeSort (keyLe_tot _).1 (keyLe_tot _).2 l).imp keyLe_len
/-! ### demands and their paths -/
structure DsOk (D : List Dem) : Prop where
  len : D.length ≤ 8
  each : ∀ d ∈ D, d.path.length ≤ 4 ∧ WsOk d.path ∧ d.ok.length ≤ 11
structure PathsOk (D : List Dem) (ps : List (List Str)) : Prop where
  mem : ∀ p, p ∈ ps ↔ p = [] ∨ hasPre D p = true
  ord : ps.Pairwise fun a b => a.length ≤ b.length
  len : ps.length ≤ 40
theorem hasPre_iff {D : List Dem} {p : List Str} : hasPre D p = true ↔ ∃ d ∈ D, d.path.take p.length = p := by
  unfold hasPre
  rw [List.any_eq_true]
  constructor
  · rintro ⟨d, h1, h2⟩; exact ⟨d, h1, of_decide_eq_true h2⟩
  · rintro ⟨d, h1, h2⟩; exact ⟨d, h1, decide_eq_true h2⟩
end K81
/-! ## KD -/
namespace K81
open PySem PySem.Spec PyProof.Rows L2
/-! ### methods of a class that keep a promise -/
structure MCal (P : Program) (w : World) (K : PySem.W.Frag) (mg : Str → Option Value) (base : Heap) (C : Addr) (k : Nat) (m : Str) (ps : List Str) (sp : Sp) : Prop where
  ex : ∃ f fd, Cls K C ∧ Meth K C m f ∧ FnOk P w K mg base CX0 k f fd ps sp ∧ Binds K fd ps []
section
variable {X : Cx} {C : Addr} {k : Nat} {m x : Str} {ps : List Str} {sp : Sp} {e o : Expr} {es : List Expr} {ta : TE} {t : TA} {p pos apos : Pos}
theorem pe_mcal {pl : Sem Bool} (he : PE X o ta) (M : MCal X.prog X.w X.K X.mg X.base C k m ps sp) (hr : Room k X.A) (ha : PA X (e :: es) t)
    (hst : starEach (e :: es) X.env = (false, eval e X.env) :: starEach es X.env := by rfl) (hpl : (backTo pos (starEach es X.env)).any (·.1) = false := by rfl)
    (ht : eval (.Call (.Attribute o m apos) (e :: es) [] pos) X.env = (do
      let ov ← eval o X.env
      standAt apos.atName
      let (f, first) ← holding [ov] (getMethod ov m pl)
      callWith pos f first (backTo pos (starEach (e :: es) X.env)) (backToKw pos (keywordEach [] X.env))) := by rfl) :
    PE X (.Call (.Attribute o m apos) (e :: es) [] pos) (tMeth C m sp [] E0 ta t) := by
  obtain ⟨f, fd, c, hm, F, b⟩ := M.ex
  exact pe_meth he c hm F hr b .nil pass0 ha hst hpl ht
theorem pe_mcal0 {pl : Sem Bool} (he : PE X o ta) (M : MCal X.prog X.w X.K X.mg X.base C k m ps sp) (hr : Room k X.A)
    (ht : eval (.Call (.Attribute o m apos) [] [] pos) X.env = (do
      let ov ← eval o X.env
      standAt apos.atName
      let (f, first) ← holding [ov] (getMethod ov m pl)
      callWith pos f first (backTo pos (starEach [] X.env)) (backToKw pos (keywordEach [] X.env))) := by rfl) :
    PE X (.Call (.Attribute o m apos) [] [] pos) (tMeth C m sp [] E0 ta tNil) := by
  obtain ⟨f, fd, c, hm, F, b⟩ := M.ex
  exact pe_meth0 he c hm F hr b .nil pass0 ht
/-- the class's name, its __init__ -/
structure MkC (P : Program) (w : World) (K : PySem.W.Frag) (mg : Str → Option Value) (base : Heap) (C : Addr) (k : Nat) (x : Str) (ps : List Str) (sp : Sp) : Prop where
  ex : ∃ f fd, Mk K C f ∧ FnOk P w K mg base CX0 k f fd ps sp ∧ mg x = some (.ref C) ∧ Binds K fd ps []
theorem pe_mkc (M : MkC X.prog X.w X.K X.mg X.base C k x ps sp) (hr : Room (k + 1) X.A) (hg : Gl X x) (ha : PA X (e :: es) t)
    (hdb : (x == ("__debug__" : Str)) = false := by decide) (he : starEach (e :: es) X.env = (false, eval e X.env) :: starEach es X.env := by rfl) (hpl : (backTo pos (starEach es X.env)).any (·.1) = false := by rfl) :
    PE X (.Call (.Name x p) (e :: es) [] pos) (tMake C sp [] E0 t) := by
  obtain ⟨f, fd, mk, F, hm, b⟩ := M.ex
  exact pe_make mk F hr hg hm b .nil pass0 ha hdb he hpl
end
/-- e.f where the written part is told -/
theorem pe_fldK {X : Cx} {ta : TE} {e : Expr} {f : Str} {pos : Pos} (K : PySem.W.Frag) (hK : K = X.K) (ha : PE X e ta) (hb : attributeBase e f X.env (eval e X.env) = eval e X.env) : PE X (.Attribute e f pos) (tFld K ta f) := by
  subst hK
  exact pe_fld ha hb
/-! ### the blocks' object -/
structure BC (K : PySem.W.Frag) (C : Addr) : Prop where
  cl : Cls K C
  f1 : NoAttr K C "_family"
  f2 : NoAttr K C "names"
  f3 : NoAttr K C "base"
  f4 : NoAttr K C "members"
  f5 : NoAttr K C "_weights"
def bfs (fa na ba md wd : Addr) : List (Str × V) := [("_family", .ref fa), ("names", .ref na), ("base", .ref ba), ("members", .ref md), ("_weights", .ref wd)]
section
variable {fa na ba md wd : Addr}
theorem bf1 : (bfs fa na ba md wd).lookup ("_family" : Str) = some (V.ref fa) := rfl
theorem bf2 : (bfs fa na ba md wd).lookup ("names" : Str) = some (V.ref na) := rfl
theorem bf3 : (bfs fa na ba md wd).lookup ("base" : Str) = some (V.ref ba) := rfl
theorem bf4 : (bfs fa na ba md wd).lookup ("members" : Str) = some (V.ref md) := rfl
theorem bf5 : (bfs fa na ba md wd).lookup ("_weights" : Str) = some (V.ref wd) := rfl
theorem bfm1 : (bfs fa na ba md wd).lookup ("below" : Str) = none := rfl
theorem bfm2 : (bfs fa na ba md wd).lookup ("weight_at" : Str) = none := rfl
theorem bfm3 : (bfs fa na ba md wd).lookup ("weights_at" : Str) = none := rfl
theorem bfm4 : (bfs fa na ba md wd).lookup ("least_price" : Str) = none := rfl
end
/-! ### dicts by paths -/
def pk (p : List Str) : List L2.Key := p.map Sum.inr
theorem pk_inj {p q : List Str} (h : pk p = pk q) : p = q := by
  unfold pk at h
  have := congrArg (List.map kV) h
  rw [List.map_map, List.map_map] at this
  exact (List.map_inj_right (f := V.str) (fun _ _ e => V.str.inj e)).mp this
theorem pk_kV (p : List Str) : (pk p).map kV = p.map V.str := by
  unfold pk; rw [List.map_map]; rfl
/-- a dict of at most n keys that tells by paths what stands for T's values by R -/
def DcT {α : Type} (R : Hp → V → α → Prop) (n : Nat) (H : Hp) (d : Addr) (T : List Str → Option α) : Prop := ∃ kvs : List (List L2.Key × V), H d = some (.dT kvs) ∧ kvs.length ≤ n ∧ ∀ p, match T p with
  | none => valV kvs (pk p) = none
  | some t => ∃ v, valV kvs (pk p) = some v ∧ R H v t
/-- a list of weights | of numbers -/
def LsW (H : Hp) (x : V) (t : Tb) : Prop := ∃ l xs, x = .ref l ∧ H l = some (.lst xs) ∧ All2 (OW H) xs t
def LsI (H : Hp) (x : V) (l : List Nat) : Prop := ∃ a, x = .ref a ∧ H a = some (.lst (l.map nI))
section
variable {H H' : Hp} {α : Type} {R : Hp → V → α → Prop} {d : Addr} {T : List Str → Option α} {p : List Str} {b : Addr} {n : Nat}
theorem DcT.get {t : α} (h : DcT R n H d T) (e : T p = some t) (hb : H b = some (.tup (p.map V.str))) : ∃ v, DGet H d (.ref b) (some v) ∧ R H v t := by
  obtain ⟨kvs, h1, _, h2⟩ := h
  have := h2 p
  rw [e] at this
  obtain ⟨v, e1, r⟩ := this
  exact ⟨v, by rw [← e1]; exact DGet.t h1 (by rw [pk_kV]; exact hb), r⟩
theorem DcT.getX {t : α} (h : DcT R n H d T) (e : T p = some t) (k : ∀ kvs, H d = some (.dT kvs) → H' d = some (.dT kvs)) (hb : H' b = some (.tup (p.map V.str))) : ∃ v, DGet H' d (.ref b) (some v) ∧ R H v t := by
  obtain ⟨kvs, h1, _, h2⟩ := h
  have := h2 p
  rw [e] at this
  obtain ⟨v, e1, r⟩ := this
  exact ⟨v, by rw [← e1]; exact DGet.t (k _ h1) (by rw [pk_kV]; exact hb), r⟩
theorem DcT.miss (h : DcT R n H d T) (e : T p = none) (hb : H b = some (.tup (p.map V.str))) : DGet H d (.ref b) none := by
  obtain ⟨kvs, h1, _, h2⟩ := h
  have := h2 p
  rw [e] at this
  rw [← show valV kvs (pk p) = none from this]
  exact DGet.t h1 (by rw [pk_kV]; exact hb)
theorem DcT.isD (h : DcT R n H d T) : IsD H d := by
  obtain ⟨kvs, h1, _⟩ := h
  exact .inr ⟨kvs, .inl h1⟩
theorem DcT.mono (h : DcT R n H d T) (k1 : ∀ kvs, H d = some (.dT kvs) → H' d = some (.dT kvs)) (k2 : ∀ v t, R H v t → R H' v t) : DcT R n H' d T := by
  obtain ⟨kvs, h1, h2, h3⟩ := h
  refine ⟨kvs, k1 _ h1, h2, fun p => ?_⟩
  have := h3 p
  cases e : T p with
  | none => rw [e] at this; exact this
  | some t => rw [e] at this; obtain ⟨v, e1, r⟩ := this; exact ⟨v, e1, k2 _ _ r⟩
theorem DcT.new (h : H d = some (.dT [])) : DcT R 0 H d fun _ => none := ⟨[], h, by simp, fun p => rfl⟩
theorem put_len {κ : Type} [DecidableEq κ] (l : List (κ × V)) (k : κ) (v : V) : (putK l k v).length ≤ l.length + 1 := by
  unfold putK
  split
  · rw [List.length_map]; omega
  · rw [List.length_append, List.length_singleton]; exact Nat.le_refl _
/-- d[p] = v -/
theorem DcT.put {v : V} {t : α} (h : DcT R n H d T) (hb : H b = some (.tup (p.map V.str))) (hn : n ≤ 999) (k2 : ∀ kvs v t, R H v t → R (upd H d (.dT kvs)) v t) (r : R H v t) :
    ∃ H', DPut H d (.ref b) v H' ∧ (∃ kvs kvs', H d = some (.dT kvs) ∧ H' = upd H d (.dT kvs')) ∧ DcT R (n + 1) H' d fun q => if q = p then some t else T q := by
  obtain ⟨kvs, h1, h2, h3⟩ := h
  have hpl := put_len kvs (pk p) v
  refine ⟨_, DPut.t h1 (by rw [pk_kV]; exact hb) (small1000 (by omega)), ⟨kvs, _, h1, rfl⟩, _, upd_same, by omega, fun q => ?_⟩
  by_cases e : q = p
  · subst e
    simp only [if_pos]
    exact ⟨v, by rw [valV_put, if_pos rfl], k2 _ _ _ r⟩
  · have e2 : pk q ≠ pk p := fun z => e (pk_inj z)
    have := h3 q
    simp only [if_neg e]
    cases et : T q with
    | none => rw [et] at this; show valV _ _ = none; rw [valV_put, if_neg e2]; exact this
    | some u =>
      rw [et] at this
      obtain ⟨v', e1, r'⟩ := this
      exact ⟨v', by rw [valV_put, if_neg e2]; exact e1, k2 _ _ _ r'⟩
end
end K81
/-! ## WA -/
namespace K81
open PySem PySem.Spec PyProof.Rows L2

abbrev s_weight_of : Stmt := topS 2
abbrev N_weight_of : List Str := ["variant", "weights", "_", "slots", "price", "parts", "state"]
theorem sc_weight_of : FnScope N_weight_of ["variant", "weights"] (defScope s_weight_of) := ⟨rfl, rfl, rfl, by decide +kernel, rfl, by decide +kernel, by decide +kernel⟩
-- slots: variant:0 weights:1 _:2 slots:3 price:4 parts:5 state:6   calls: 
section
variable {P : Program} {w : World} {K : PySem.W.Frag} {mg : Str → Option Value} {base : Heap} {f : Addr} {fd : FuncData}
def spWeight : Sp := fun vs H Q _ => ∃ (x : V) (a : Addr) (ws : List V) (v : Vr) (tb : Tb), vs = [x, .ref a] ∧ VarAt H x v ∧ H a = some (.tup ws) ∧ All2 (OW H) ws tb ∧ (∀ s ∈ v.slots, s < tb.length) ∧
  ∀ r H', Ex H H' → OW H' r (vw (tf tb) v) → Q r H'
theorem OW.int {H : Hp} {x : V} {w : Wt} (h : OW H x (some w)) : ∃ b, x = .ref b ∧ H b = some (.tup [nI w.1, nI w.2]) := h
theorem OW.isn {H : Hp} {x : V} {o : Option Wt} (h : OW H x o) : (decide (x = V.non)) = o.isNone := by
  cases o with
  | none => exact decide_eq_true h
  | some w => obtain ⟨b, e, _⟩ := h; subst e; exact decide_eq_false (by intro z; cases z)
theorem tb_at {tb : Tb} {s : Nat} (h : s < tb.length) : tb[s]? = some (tf tb s) := by
  unfold tf; rw [List.getD_eq_getElem?_getD, List.getElem?_eq_getElem h]; rfl
theorem map_at {α : Type} {g : α → V} {l : List α} {i : Nat} {x : V} (h : (l.map g)[i]? = some x) : ∃ s, l[i]? = some s ∧ x = g s := by
  rw [List.getElem?_map] at h
  cases e : l[i]? with
  | none => rw [e] at h; cases h
  | some s => rw [e] at h; cases h; exact ⟨s, rfl, rfl⟩
theorem sumO_snoc {l : List (Option Wt)} {a y z : Wt} (h : sumO l a = some y) : sumO (l ++ [some z]) a = some (y.1 + z.1, y.2 + z.2) := by rw [sumO_append, h]; rfl
theorem nI_add (a b : Nat) : V.int ((a : Int) + (b : Int)) = nI (a + b) := by unfold nI; rw [Int.natCast_add]
theorem ok_weight_of (F : Fun K "weight_of" "weight_of" s_weight_of f fd) (B : Blt mg) : FnOk P w K mg base CX0 1 f fd ["variant", "weights"] spWeight := by
  refine F.ok sc_weight_of (fun vs H Q E h => ?_) (fun cdv A outer s H vs Q E hr h => ?_)
  · obtain ⟨x, a, ws, v, tb, rfl, _⟩ := h
    rfl
  obtain ⟨x, a, ws, v, tb, rfl, hv, ha, hw, hs, q⟩ := h
  refine ⟨_, (pss_cons (ps_asg (pv 0) (pg_tup rfl (pgs_cons (pg_name (i := 2) sc_weight_of.nd rfl (Or.inl rfl)) (pgs_cons (pg_name (i := 3) sc_weight_of.nd rfl (Or.inl rfl)) (pgs_cons (pg_name (i := 4) sc_weight_of.nd rfl (Or.inl rfl)) pgs_nil)))))
  (pss_cons (ps_if (pt_cmpR op_isN (pv 4) pe_non (nomark _)) (pss_one (ps_ret pe_non)) pss_nil)
  (pss_cons (ps_set (i := 5) sc_weight_of.nd rfl (Or.inl rfl) pe_int)
  (pss_cons (ps_for PassesOwn.never rfl (pi_seq (pv 3)) (pg_name (i := 6) sc_weight_of.nd rfl (Or.inl rfl)) (pss_cons (ps_if (pt_cmpR op_isN (pe_ix ix_seq (pv 1) (pv 6) (fun _ _ => rfl)) pe_non (nomark _)) (pss_one (ps_ret pe_non)) pss_nil)
  (pss_cons (ps_aug (i := 4) sc_weight_of.nd rfl (Or.inl rfl) (pe_ix ix_seq (pe_ix ix_seq (pv 1) (pv 6) (fun _ _ => rfl)) pe_int (fun _ _ => rfl)) ip_add)
  (pss_one (ps_aug (i := 5) sc_weight_of.nd rfl (Or.inl rfl) (pe_ix ix_seq (pe_ix ix_seq (pv 1) (pv 6) (fun _ _ => rfl)) pe_int (fun _ _ => rfl)) ip_add)))))
  (pss_one (ps_ret (pe_tup (pa_cons (pv 4) (pa_cons (pv 5) pa_nil))))))))), ?_⟩
  obtain ⟨c, sl, rfl, hc, hsl⟩ := hv
  refine ⟨_, rfl, c, _, rfl, sqt hc, rfl, _, _, rfl, _, _, rfl, _, _, rfl, rfl, ?_⟩
  refine ⟨_, rfl, rfl, _, rfl, ?_⟩
  cases hp : v.price with
  | none => exact ite_t (decide_eq_true rfl) (q _ H (.refl H) (by unfold vw; rw [hp]; rfl))
  | some p =>
  refine ite_f (decide_eq_false (by intro z; cases z)) ?_
  refine .inr ⟨_, rfl, sl, rfl, ⟨_, sqt hsl⟩, for_tup (xs := v.slots.map nI) (fun i σ H' => H' = H ∧ ∃ (pr pa : Nat) (e : Option V), σ = [some (.ref c), some (.ref a), some (nI v.plug), some (.ref sl), some (nI pr), some (nI pa), e] ∧ sumO ((v.slots.take i).map (tf tb)) (p, 1) = some (pr, pa))
    ⟨rfl, p, 1, _, rfl, rfl⟩ (fun i σ H' _ h => by rw [h.1]; exact sqt hsl) (fun i x σ H' hx h => ?_) (fun σ H' h => ?_)⟩
  · obtain ⟨rfl, pr, pa, e, rfl, hsum⟩ := h
    obtain ⟨t, ht, rfl⟩ := map_at hx
    have htl : t < tb.length := hs t (List.mem_of_getElem? ht)
    obtain ⟨y, hy, ho⟩ := hw.get (tb_at htl)
    refine ⟨_, rfl, _, rfl, q_ixT ha hy ⟨rfl, _, rfl, ?_⟩⟩
    rw [ho.isn]
    cases hz : tf tb t with
    | none =>
      refine ite_tt (q _ H' (.refl H') ?_)
      have : vw (tf tb) v = none := by
        unfold vw; rw [hp]
        exact sumO_none (List.mem_map.mpr ⟨t, List.mem_of_getElem? ht, hz⟩)
      rw [this]; rfl
    | some z =>
      rw [hz] at ho
      obtain ⟨b, rfl, hb⟩ := ho
      refine ite_ff ?_
      refine ⟨_, rfl, _, rfl, _, rfl, q_ixT ha hy (q_ixT0 hb rfl ?_)⟩
      refine ⟨_, _, rfl, rfl, _, rfl, _, rfl, _, rfl, q_ixT ha hy (q_ixT1 hb rfl ?_)⟩
      refine ⟨_, _, rfl, rfl, rfl, pr + z.1, pa + z.2, some (nI t), ?_, ?_⟩
      · show _ = _
        rw [← nI_add, ← nI_add]; rfl
      · rw [take_succ_some ht, List.map_append]
        show sumO (_ ++ [tf tb t]) _ = _
        rw [hz]
        exact sumO_snoc hsum
  · obtain ⟨rfl, pr, pa, e, rfl, hsum⟩ := h
    refine ⟨_, rfl, _, rfl, (by show 2 ≤ sizeLine; decide), fun r hr' => q _ _ (.new hr' _) ?_⟩
    have : vw (tf tb) v = some (pr, pa) := by
      unfold vw; rw [hp]
      rw [List.length_map, List.take_length] at hsum
      exact hsum
    rw [this]
    exact ⟨r, rfl, upd_same⟩
theorem tab_snoc (n : Nat) (ps : List (Nat × Option Wt)) (p : Nat × Option Wt) : tabOf n (ps ++ [p]) = (tabOf n ps).set p.1 (better (tf (tabOf n ps) p.1) p.2) := by
  unfold tabOf; rw [List.foldl_append]; rfl
theorem set_same {T : Tb} {i : Nat} (h : i < T.length) : T.set i (tf T i) = T := by
  refine List.ext_getElem? fun j => ?_
  rw [List.getElem?_set]
  split
  · rename_i e; subst e; rw [tb_at h]
  · rfl
abbrev s_least_round : Stmt := topS 3
abbrev N_least_round : List Str := ["family", "weights", "count", "_", "variants", "best", "variant", "plug", "weight"]
theorem sc_least_round : FnScope N_least_round ["family", "weights"] (defScope s_least_round) := ⟨rfl, rfl, rfl, by decide +kernel, rfl, by decide +kernel, by decide +kernel⟩
-- slots: family:0 weights:1 count:2 _:3 variants:4 best:5 variant:6 plug:7 weight:8   calls: weight_of
def spRound : Sp := fun vs H Q _ => ∃ (fa a : Addr) (fm : Fm) (ws : List V) (tb : Tb), vs = [.ref fa, .ref a] ∧ FamAt H fa fm ∧ fm.Wf ∧ H a = some (.tup ws) ∧ All2 (OW H) ws tb ∧ tb.length = fm.count ∧
  ∀ r H' xs, Ex H H' → H' r = some (.tup xs) → All2 (OW H') xs (jr fm tb) → Q (.ref r) H'
theorem ok_least_round (F : Fun K "least_round" "least_round" s_least_round f fd) (B : Blt mg) (c_weight_of : Cal P w K mg base 1 "weight_of" ["variant", "weights"] spWeight) : FnOk P w K mg base CX0 2 f fd ["family", "weights"] spRound := by
  refine F.ok sc_least_round (fun vs H Q E h => ?_) (fun cdv A outer s H vs Q E hr h => ?_)
  · obtain ⟨fa, a, fm, ws, tb, rfl, _⟩ := h
    rfl
  obtain ⟨fa, a, fm, ws, tb, rfl, hf, wf, ha, hw, hl, q⟩ := h
  refine ⟨_, (pss_cons (ps_asg (pv 0) (pg_tup rfl (pgs_cons (pg_name (i := 2) sc_least_round.nd rfl (Or.inl rfl)) (pgs_cons (pg_name (i := 3) sc_least_round.nd rfl (Or.inl rfl)) (pgs_cons (pg_name (i := 4) sc_least_round.nd rfl (Or.inl rfl)) pgs_nil)))))
  (pss_cons (ps_set (i := 5) sc_least_round.nd rfl (Or.inl rfl) (pe_op op_rep (pe_lst (pa_cons pe_non pa_nil)) (pv 2)))
  (pss_cons (ps_for PassesOwn.never rfl (pi_seq (pv 4)) (pg_name (i := 6) sc_least_round.nd rfl (Or.inl rfl)) (pss_cons (ps_set (i := 7) sc_least_round.nd rfl (Or.inl rfl) (pe_ix ix_seq (pv 6) pe_int (fun _ _ => rfl)))
  (pss_cons (ps_set (i := 8) sc_least_round.nd rfl (Or.inl rfl) (pe_cal c_weight_of (hr.mono (by omega)) (by rfl) (pa_cons (pv 6) (pa_cons (pv 1) pa_nil))))
  (pss_one (ps_if (PW.pt (pw_and (pt_cmpR op_notN (pv 8) pe_non (nomark _)) (pw_and1 (PW.pt (pw_or (pt_cmpR op_isN (pe_ix ix_seq (pv 5) (pv 7) (fun _ _ => rfl)) pe_non (nomark _)) (pw_or1 (pt_cmpR (op_ltW (hu_le0 hr)) (pv 8) (pe_ix ix_seq (pv 5) (pv 7) (fun _ _ => rfl)) (nomark _)))))))) (pss_one (ps_asg (pv 8) (pg_sub (pv 5) (pv 7) set_list))) pss_nil)))))
  (pss_one (ps_ret (pe_callTy call_tuple_of (by rfl) B.tuple (by decide +kernel) (pa_cons (pv 5) pa_nil))))))), ?_⟩
  obtain ⟨rr, bb, vs, h1, h2, h3, h4⟩ := hf.ex
  refine ⟨_, rfl, fa, _, rfl, sqt h1, rfl, _, _, rfl, _, _, rfl, _, _, rfl, rfl, ?_⟩
  refine ⟨(by show 1 ≤ sizeLine; decide), fun l0 hl0 => ⟨_, rfl, q_rep upd_same (by have := wf.cnt; omega) fun D hD => ?_⟩⟩
  have hD0 : H D = none := (Ex.new hl0 _).fr hD
  refine .inr ⟨_, rfl, bb, rfl, ⟨_, sqt (((Ex.new hl0 _).nw hD _).old _ _ h3)⟩, for_tup (xs := vs) (fun i σ H' => ∃ (xs : List V) (e6 e7 e8 : Option V), σ = [some (.ref fa), some (.ref a), some (nI fm.count), some (.ref rr), some (.ref bb), some (.ref D), e6, e7, e8] ∧ Ex H H' ∧ H' D = some (.lst xs) ∧
      All2 (OW H') xs (tabOf fm.count ((fm.vars.take i).map fun v => (v.plug, vw (tf tb) v))))
    ⟨_, none, none, none, rfl, (Ex.new hl0 _).nw hD _, upd_same, All2.rep (R := OW _) (x := V.non) (y := none) rfl fm.count⟩ (fun i σ H' _ h => by obtain ⟨xs, e6, e7, e8, _, k, _⟩ := h; exact sqt (k.old _ _ h3)) (fun i x σ H' hx h => ?_) (fun σ H' h => ?_)⟩
  · obtain ⟨xs, e6, e7, e8, rfl, k, hxs, al⟩ := h
    obtain ⟨v, hv, va⟩ := h4.getL hx
    have vm : v ∈ fm.vars := List.mem_of_getElem? hv
    have hpl : v.plug < fm.count := wf.vars v vm |>.1
    have vx : VarAt H' x v := va.ts k.ts
    obtain ⟨c, sl, rfl, hc, hsl⟩ := id vx
    have hlen : (tabOf fm.count ((fm.vars.take i).map fun v => (v.plug, vw (tf tb) v))).length = fm.count := tab_len fun p hp => by
      obtain ⟨u, hu, rfl⟩ := List.mem_map.mp hp
      exact (wf.vars u (List.mem_of_mem_take hu)).1
    have hnext : tabOf fm.count ((fm.vars.take (i + 1)).map fun v => (v.plug, vw (tf tb) v)) = (tabOf fm.count ((fm.vars.take i).map fun v => (v.plug, vw (tf tb) v))).set v.plug (better (tf (tabOf fm.count ((fm.vars.take i).map fun v => (v.plug, vw (tf tb) v))) v.plug) (vw (tf tb) v)) := by
      rw [take_succ_some hv, List.map_append]; exact tab_snoc _ _ _
    generalize hT : tabOf fm.count ((fm.vars.take i).map fun v => (v.plug, vw (tf tb) v)) = T at hlen hnext al
    refine ⟨_, rfl, q_ixT0 hc rfl ?_⟩
    refine ⟨_, rfl, _, rfl, _, a, ws, v, tb, rfl, vx, k.old _ _ ha, hw.mono fun _ _ z => z.ts k.ts, (by rw [hl]; exact (wf.vars v vm).2.1), fun r H2 k2 hr2 => ?_⟩
    have hxs2 := k2.old _ _ hxs
    have al2 : All2 (OW H2) xs T := al.mono fun _ _ z => z.ts k2.ts
    obtain ⟨y, hy, ho⟩ := al2.get (tb_at (tb := T) (s := v.plug) (by omega))
    have hlx : xs.length = T.length := al.len
    refine ⟨_, rfl, rfl, _, rfl, ?_⟩
    rw [hr2.isn]
    have same : ∀ (s : better (tf T v.plug) (vw (tf tb) v) = tf T v.plug), All2 (OW H2) xs (tabOf fm.count ((fm.vars.take (i + 1)).map fun v => (v.plug, vw (tf tb) v))) := fun s => by
      rw [hnext, s, set_same (by omega)]; exact al2
    cases ew : vw (tf tb) v with
    | none => exact ite_ff (ite_ff ⟨xs, _, _, _, rfl, k.trans k2, hxs2, same (by rw [ew]; rfl)⟩)
    | some a1 =>
      rw [ew] at hr2
      refine ite_tt ⟨_, rfl, _, rfl, q_ixL hxs2 hy ⟨rfl, _, rfl, ?_⟩⟩
      rw [ho.isn]
      have put : better (tf T v.plug) (vw (tf tb) v) = some a1 → ∃ (xs' : List V) (e6 e7 e8 : Option V), [some (V.ref fa), some (V.ref a), some (nI fm.count), some (V.ref rr), some (V.ref bb), some (V.ref D), some (V.ref c), some (nI v.plug), some r] = [some (.ref fa), some (.ref a), some (nI fm.count), some (.ref rr), some (.ref bb), some (.ref D), e6, e7, e8] ∧ Ex H (upd H2 D (.lst (xs.set v.plug r))) ∧ (upd H2 D (.lst (xs.set v.plug r))) D = some (.lst xs') ∧
          All2 (OW (upd H2 D (.lst (xs.set v.plug r)))) xs' (tabOf fm.count ((fm.vars.take (i + 1)).map fun v => (v.plug, vw (tf tb) v))) := fun s => by
        refine ⟨_, _, _, _, rfl, (k.trans k2).mut hD0 _, upd_same, ?_⟩
        rw [hnext, s]
        exact All2.set _ (al2.mono fun _ _ z => z.ts (ts_lst hxs2)) (hr2.ts (ts_lst hxs2))
      cases et : tf T v.plug with
      | none => exact ite_tt (ite_tt ⟨_, rfl, _, rfl, _, rfl, q_setL hxs2 (by omega) (put (by rw [et, ew]; rfl))⟩)
      | some b1 =>
        rw [et] at ho
        refine ite_ff ⟨_, rfl, _, rfl, _, rfl, q_ixL hxs2 hy ⟨a1, b1, hr2, ho, _, rfl, ?_⟩⟩
        by_cases lt : WLt a1 b1
        · rw [decide_eq_true lt]
          exact ite_tt ⟨_, rfl, _, rfl, _, rfl, q_setL hxs2 (by omega) (put (by rw [et, ew]; exact if_pos lt))⟩
        · rw [decide_eq_false lt]
          exact ite_ff ⟨xs, _, _, _, rfl, k.trans k2, hxs2, same (by rw [et, ew]; exact if_neg lt)⟩
  · obtain ⟨xs, e6, e7, e8, rfl, k, hxs, al⟩ := h
    refine ⟨_, rfl, D, xs, rfl, .inl ⟨sql hxs, fun r hr' => q r _ xs (k.nw hr' _) upd_same ?_⟩⟩
    rw [h4.len, List.take_length] at al
    exact al.mono fun _ _ z => z.ts (Ex.new hr' _).ts
abbrev s_least_weights : Stmt := topS 4
abbrev N_least_weights : List Str := ["family", "weights", "_", "better"]
theorem sc_least_weights : FnScope N_least_weights ["family"] (defScope s_least_weights) := ⟨rfl, rfl, rfl, by decide +kernel, rfl, by decide +kernel, by decide +kernel⟩
-- slots: family:0 weights:1 _:2 better:3   calls: least_round
def spLw : Sp := fun vs H Q _ => ∃ (fa : Addr) (fm : Fm), vs = [.ref fa] ∧ FamAt H fa fm ∧ fm.Wf ∧
  ∀ r H' xs, Ex H H' → H' r = some (.tup xs) → All2 (OW H') xs (lw fm) → Q (.ref r) H'
theorem sh_tb (tb : Tb) : SeqAt.shaped (.tuple (tb.map dW)) = true := sh_tup (fun x _ => lay_dW x) dep_dW
theorem dp_tb {K : PySem.W.Frag} {H : Hp} {a : Addr} {xs : List V} {tb : Tb} (h : H a = some (.tup xs)) (al : All2 (OW H) xs tb) : Dp K H (.ref a) (.tuple (tb.map dW)) := .tup (sqt h) (dp_all (fun _ _ z => z.dp) al)
theorem eqv_tb (t u : Tb) : PyData.eqv (.tuple (t.map dW)) (.tuple (u.map dW)) = decide (t = u) := eqv_dec (by
  have := eqv_all (d := dW) eqv_dW t u
  simpa [PyData.eqv] using this)
/-- the loop's rounds, from the front -/
def jrN (fm : Fm) : Nat → Tb → Tb
  | 0, w => w
  | n + 1, w => jrN fm n (jr fm w)
theorem ok_least_weights (F : Fun K "least_weights" "least_weights" s_least_weights f fd) (B : Blt mg) (c_least_round : Cal P w K mg base 2 "least_round" ["family", "weights"] spRound) : FnOk P w K mg base CX0 3 f fd ["family"] spLw := by
  refine F.ok sc_least_weights (fun vs H Q E h => ?_) (fun cdv A outer s H vs Q E hr h => ?_)
  · obtain ⟨fa, fm, rfl, _⟩ := h
    rfl
  obtain ⟨fa, fm, rfl, hf, wf, q⟩ := h
  refine ⟨_, (pss_cons (ps_set (i := 1) sc_least_weights.nd rfl (Or.inl rfl) (pe_op op_nones (pe_tup (pa_cons pe_non pa_nil)) (pe_ix ix_seq (pv 0) pe_int (fun _ _ => rfl))))
  (pss_cons (ps_for PassesOwn.never rfl (pi_range1 (by rfl) B.range (pa_cons (pe_ix ix_seq (pv 0) pe_int (fun _ _ => rfl)) pa_nil)) (pg_name (i := 2) sc_least_weights.nd rfl (Or.inl rfl)) (pss_cons (ps_set (i := 3) sc_least_weights.nd rfl (Or.inl rfl) (pe_cal c_least_round (hr.mono (by omega)) (by rfl) (pa_cons (pv 0) (pa_cons (pv 1) pa_nil))))
  (pss_cons (ps_if (pt_cmpR (op_eqD (hu_le hr (by decide))) (pv 3) (pv 1) (nomark _)) (pss_one (ps_ret (pv 1))) pss_nil)
  (pss_one (ps_set (i := 1) sc_least_weights.nd rfl (Or.inl rfl) (pv 3))))))
  (pss_one (ps_ret (pv 1))))), ?_⟩
  obtain ⟨rr, bb, vs, h1, h2, h3, h4⟩ := hf.ex
  refine ⟨(by show 1 ≤ sizeLine; decide), fun l0 hl0 => ⟨_, rfl, q_ixT0 ((Ex.new hl0 _).old _ _ h1) rfl ⟨l0, fm.count, rfl, rfl, upd_same, wf.pos, (by have := wf.cnt; omega), fun w0 H1 k1 hw0 => ?_⟩⟩⟩
  have k0 : Ex H H1 := (Ex.new hl0 _).trans k1
  refine ⟨_, rfl, q_ixT0 (k0.old _ _ h1) rfl ⟨_, rfl, (by have := wf.cnt; omega), (by have := wf.cnt; omega), for_range (n := fm.count) (fun i σ H' => ∃ (a : Addr) (xs : List V) (T : Tb) (e2 e3 : Option V), σ = [some (.ref fa), some (.ref a), e2, e3] ∧ Ex H H' ∧ H' a = some (.tup xs) ∧ All2 (OW H') xs T ∧ T.length = fm.count ∧ lwLoop fm (fm.count - i) T = lw fm)
    ⟨w0, _, List.replicate fm.count none, none, none, rfl, k0, hw0, All2.rep (R := OW _) (x := V.non) (y := none) rfl fm.count, (by simp), rfl⟩ (fun i σ H' hi h => ?_) (fun σ H' h => ?_)⟩⟩
  · obtain ⟨a, xs, T, e2, e3, rfl, k, ha, al, hl, ht⟩ := h
    refine ⟨_, rfl, _, rfl, fa, a, fm, xs, T, rfl, hf.ts k.ts, wf, ha, al, hl, fun r H2 ys k2 hr2 al2 => ?_⟩
    have ha2 := k2.old _ _ ha
    have alt : All2 (OW H2) xs T := al.mono fun _ _ z => z.ts k2.ts
    refine ⟨_, rfl, _, rfl, _, _, dp_tb hr2 al2, dp_tb ha2 alt, sh_tb _, sh_tb _, _, rfl, ?_⟩
    rw [eqv_tb]
    obtain ⟨m, hm⟩ : ∃ m, fm.count - i = m + 1 := ⟨fm.count - i - 1, by omega⟩
    have hm' : fm.count - (i + 1) = m := by omega
    rw [hm] at ht
    by_cases e : jr fm T = T
    · rw [decide_eq_true e]
      refine ite_tt ⟨_, rfl, q _ H2 _ (k.trans k2) ha2 ?_⟩
      have : lwLoop fm (m + 1) T = T := if_pos e
      rw [← ht, this]; exact alt
    · rw [decide_eq_false e]
      refine ite_ff ⟨_, rfl, r, ys, jr fm T, _, _, rfl, k.trans k2, hr2, al2, jr_len wf T, ?_⟩
      have : lwLoop fm (m + 1) T = lwLoop fm m (jr fm T) := if_neg e
      rw [hm', ← ht, this]
  · obtain ⟨a, xs, T, e2, e3, rfl, k, ha, al, hl, ht⟩ := h
    refine ⟨_, rfl, q _ H' _ k ha ?_⟩
    rw [Nat.sub_self] at ht
    rw [← ht]; exact al
end
end K81
/-! ## WB -/
namespace K81
open PySem PySem.Spec PyProof.Rows L2

abbrev s_paths_of : Stmt := topS 6
abbrev N_paths_of : List Str := ["demands", "found", "path", "_", "end"]
theorem sc_paths_of : FnScope N_paths_of ["demands"] (defScope s_paths_of) := ⟨rfl, rfl, rfl, by decide +kernel, rfl, by decide +kernel, by decide +kernel⟩
-- slots: demands:0 found:1 path:2 _:3 end:4   calls: 
section
variable {P : Program} {w : World} {K : PySem.W.Frag} {mg : Str → Option Value} {base : Heap} {f c1 P1 P2 : Addr} {fd : FuncData}
def spPaths (P1 P2 : Addr) : Sp := fun vs H Q _ => ∃ (da : Addr) (D : List Dem), vs = [.ref da] ∧ LamX.Tabs (TL P1 P2) H ∧ DsAt H da D ∧ DsOk D ∧
  ∀ r H' xs ps, Kp (TL P1 P2) H H' → H' r = some (.tup xs) → All2 (TupS H') xs ps → PathsOk D ps → Q (.ref r) H'
theorem ok_paths_of (F : FunC K "paths_of" "paths_of" s_paths_of f fd c1) (B : Blt mg) (TB : LamX.TabB base mg c1 P1) (hP : P1 ≠ P2) : FnOk P w K mg base CX0 2 f fd ["demands"] (spPaths P1 P2) := by
  refine F.ok sc_paths_of (fun vs H Q E h => ?_) (fun A outer s H vs Q E hr h => ?_)
  · obtain ⟨da, D, rfl, _⟩ := h
    rfl
  obtain ⟨da, D, rfl, hT, hD, dok, q⟩ := h
  refine ⟨_, (pss_cons (ps_set (i := 1) sc_paths_of.nd rfl (Or.inl rfl) (pe_lst (pa_cons (pe_tup pa_nil) pa_nil)))
  (pss_cons (ps_for PassesOwn.never rfl (pi_seq (pv 0)) (pg_tup rfl (pgs_cons (pg_name (i := 2) sc_paths_of.nd rfl (Or.inl rfl)) (pgs_cons (pg_name (i := 3) sc_paths_of.nd rfl (Or.inl rfl)) pgs_nil))) (pss_one (ps_for PassesOwn.never rfl (pi_range2 (by rfl) B.range (pa_cons pe_int (pa_cons (pe_op op_add (pe_callB call_len_seq (by rfl) B.len (by decide +kernel) (pa_cons (pv 2) pa_nil)) pe_int) pa_nil))) (pg_name (i := 4) sc_paths_of.nd rfl (Or.inl rfl)) (pss_one (ps_if (pt_cmpR (op_notInD (hu_le hr (by decide))) (pe_slice sl_tupA (pv 2) po_none (po_some (pv 4))) (pv 1) (by rfl)) (pss_one (ps_expr (pe_bm PySem.F.plainAttrs_list PySem.F.slot_list_append PySem.F.type_list_append mt_append (pv 1) (pa_cons (pe_slice sl_tupA (pv 2) po_none (po_some (pv 4))) pa_nil)))) pss_nil)))))
  (pss_one (ps_ret (pe_callTy call_tuple_of (by rfl) B.tuple (by decide +kernel) (pa_cons (pe_sortL (T := TL P1 P2) (R := TupS) (n := List.length) (d := dS) key_strs (fun _ _ _ _ t z => z.ts t) TB rfl (List.mem_cons_self ..) (tl_1 hP) hr (by rfl) B.sorted B.len (pa_cons (pv 1) pa_nil) (by rfl) (by decide +kernel) (by decide +kernel) (by decide +kernel) rfl rfl rfl (by decide +kernel) (fun _ _ _ _ _ _ => rfl) (by decide +kernel) (fun _ => rfl) (fun _ => rfl)) pa_nil)))))), ?_⟩
  obtain ⟨ds, hds, al⟩ := hD
  refine ⟨(by show 0 ≤ sizeLine; decide), fun t0 ht0 => ⟨(by show 1 ≤ sizeLine; decide), fun L hL => ?_⟩⟩
  have k0 : Ex H (upd (upd H t0 (.tup [])) L (.lst [.ref t0])) := (Ex.new ht0 _).nw hL _
  have hL0 : H L = none := (Ex.new ht0 _).fr hL
  refine .inr ⟨_, rfl, da, rfl, ⟨_, sqt (k0.old _ _ hds)⟩, for_tup (xs := ds) (fun i σ H' => ∃ (xs : List V) (l : List (List Str)) (e2 e3 e4 : Option V), σ = [some (.ref da), some (.ref L), e2, e3, e4] ∧ Ex H H' ∧ H' L = some (.lst xs) ∧ All2 (TupS H') xs l ∧
      (∀ p ∈ l, WsOk p) ∧ (∀ p, p ∈ l ↔ p = [] ∨ hasPre (D.take i) p = true) ∧ l.length ≤ 1 + 4 * i)
    ⟨_, [[]], none, none, none, rfl, k0, upd_same, .cons ⟨t0, rfl, by rw [upd_ne (ne_of_none upd_same hL)]; exact upd_same⟩ .nil, fun p hp => (by rw [List.mem_singleton.mp hp]; intro x hx; cases hx), fun p => (by simp [hasPre]), by simp⟩
    (fun i σ H' _ h => by obtain ⟨xs, l, e2, e3, e4, _, k, _⟩ := h; exact sqt (k.old _ _ hds)) (fun i x σ H' hx h => ?_) (fun σ H' h => ?_)⟩
  · obtain ⟨xs, l, e2, e3, e4, rfl, k, hxs, all, hw, hm, hl⟩ := h
    obtain ⟨d, hd, hdm⟩ := al.getL hx
    have dm : d ∈ D := List.mem_of_getElem? hd
    have lt : i < D.length := (List.getElem?_eq_some_iff.mp hd).1
    obtain ⟨a, pa, ka, rfl, ha, hpa, hka⟩ := hdm
    have hlp := (dok.each d dm).1
    refine ⟨a, _, rfl, sqt (k.old _ _ ha), rfl, _, _, rfl, _, _, rfl, rfl, ?_⟩
    refine ⟨_, rfl, pa, _, rfl, .inr (sqt (k.old _ _ hpa)), _, _, rfl, rfl, ?_⟩
    refine ⟨_, _, rfl, by rw [List.length_map]; omega, ?_⟩
    have en : (((List.map V.str d.path).length : Int) + 1 - 1).toNat = d.path.length := by rw [List.length_map]; omega
    rw [en]
    refine for_range (lo := 1) (n := d.path.length) (fun j σ H2 => ∃ (xs : List V) (l : List (List Str)) (e4 : Option V), σ = [some (.ref da), some (.ref L), some (.ref pa), some (.ref ka), e4] ∧ Ex H H2 ∧ H2 L = some (.lst xs) ∧ All2 (TupS H2) xs l ∧
      (∀ p ∈ l, WsOk p) ∧ (∀ p, p ∈ l ↔ p = [] ∨ hasPre (D.take i) p = true ∨ (p.length ≤ j ∧ d.path.take p.length = p)) ∧ l.length ≤ 1 + 4 * i + j)
      ⟨xs, l, e4, rfl, k, hxs, all, hw, fun p => ?_, hl⟩ (fun j σ H2 hj h => ?_) (fun σ H2 h => ?_)
    · rw [hm p]
      constructor
      · rintro (e | e)
        · exact .inl e
        · exact .inr (.inl e)
      · rintro (e | e | ⟨e, _⟩)
        · exact .inl e
        · exact .inr e
        · exact .inl (List.length_eq_zero_iff.mp (by omega))
    · obtain ⟨xs, l, e4, rfl, k, hxs, all, hw, hm, hl⟩ := h
      have ec : cutV (d.path.map V.str) none (some (1 + (j : Int))) = (d.path.take (j + 1)).map V.str := by
        rw [show (1 + (j : Int)) = ((j + 1 : Nat) : Int) by omega, cut_take, List.map_take]
      have wd : WsOk (d.path.take (j + 1)) := fun x hx => (dok.each d dm).2.1 x (List.mem_of_mem_take hx)
      refine ⟨_, rfl, _, rfl, _, rfl, q_slA (k.old _ _ hpa) ec fun t1 H3 k3 ht1 => ?_⟩
      have hxs3 := k3.old _ _ hxs
      have all3 : All2 (TupS H3) xs l := all.mono fun _ _ z => z.ts k3.ts
      refine ⟨_, rfl, _, _, TupS.dp ⟨t1, rfl, ht1⟩, .lst (sql hxs3) (dp_all (fun _ _ z => TupS.dp z) all3), sh_dS wd, sh_lst (fun p hp => lay_dS (hw p hp)) (fun p => by rw [dep_dS]; omega), _, rfl, ?_⟩
      by_cases hin : d.path.take (j + 1) ∈ l
      · rw [any_t eqv_dS hin]
        refine ite_ff ⟨xs, l, _, rfl, k.trans k3, hxs3, all3, hw, fun p => ?_, by omega⟩
        rw [hm p]
        constructor
        · rintro (e | e | ⟨e, e'⟩)
          · exact .inl e
          · exact .inr (.inl e)
          · exact .inr (.inr ⟨by omega, e'⟩)
        · rintro (e | e | ⟨e, e'⟩)
          · exact .inl e
          · exact .inr (.inl e)
          · by_cases le : p.length ≤ j
            · exact .inr (.inr ⟨le, e'⟩)
            · have : p.length = j + 1 := by omega
              rw [this] at e'
              rw [e'] at hin
              exact (hm p).mp hin
      · rw [any_f eqv_dS hin]
        refine ite_tt ⟨_, rfl, ty_l hxs3, _, rfl, _, rfl, _, rfl, q_slA (k3.old _ _ (k.old _ _ hpa)) ec fun t2 H4 k4 ht2 => ?_⟩
        have hxs4 := k4.old _ _ hxs3
        refine ⟨L, xs, _, rfl, rfl, hxs4, small1000 (by rw [all.len]; have := dok.len; omega), ?_⟩
        refine ⟨_, l ++ [d.path.take (j + 1)], _, rfl, ((k.trans k3).trans k4).mut hL0 _, upd_same, (all3.mono fun _ _ z => (z.ts k4.ts).ts (ts_lst hxs4)).snoc ⟨t2, rfl, ts_lst hxs4 _ _ ht2⟩, fun p hp => ?_, fun p => ?_, ?_⟩
        · rcases List.mem_append.mp hp with e | e
          · exact hw p e
          · rw [List.mem_singleton.mp e]; exact wd
        · rw [List.mem_append, hm p, List.mem_singleton]
          constructor
          · rintro ((e | e | ⟨e, e'⟩) | e)
            · exact .inl e
            · exact .inr (.inl e)
            · exact .inr (.inr ⟨by omega, e'⟩)
            · have : p.length = j + 1 := by rw [e, List.length_take]; omega
              exact .inr (.inr ⟨by omega, by rw [this, e]⟩)
          · rintro (e | e | ⟨e, e'⟩)
            · exact .inl (.inl e)
            · exact .inl (.inr (.inl e))
            · by_cases le : p.length ≤ j
              · exact .inl (.inr (.inr ⟨le, e'⟩))
              · have : p.length = j + 1 := by omega
                rw [this] at e'
                exact .inr e'.symm
        · rw [List.length_append, List.length_singleton]; omega
    · obtain ⟨xs, l, e4, rfl, k, hxs, all, hw, hm, hl⟩ := h
      refine ⟨xs, l, _, _, _, rfl, k, hxs, all, hw, fun p => ?_, by omega⟩
      rw [hm p, take_succ_some hd, hasPre_iff, hasPre_iff]
      constructor
      · rintro (e | ⟨d', m, e⟩ | ⟨e, e'⟩)
        · exact .inl e
        · exact .inr ⟨d', List.mem_append_left _ m, e⟩
        · exact .inr ⟨d, List.mem_append_right _ (List.mem_singleton.mpr rfl), e'⟩
      · rintro (e | ⟨d', m, e⟩)
        · exact .inl e
        · rcases List.mem_append.mp m with m | m
          · exact .inr (.inl ⟨d', m, e⟩)
          · rw [List.mem_singleton.mp m] at e
            refine .inr (.inr ⟨?_, e⟩)
            have := congrArg List.length e
            rw [List.length_take] at this
            omega
  · obtain ⟨xs, l, e2, e3, e4, rfl, k, hxs, all, hw, hm, hl⟩ := h
    have hdl : ds.length = D.length := al.len
    rw [hdl, List.take_length] at hm
    have hl8 := dok.len
    refine ⟨_, rfl, L, xs, l, rfl, hT.ext k.old, sql hxs, all, alike_keyS l, by omega, fun b _ => depth_keyS b, fun p ys H2 k2 _ hp all2 => ?_⟩
    refine ⟨p, ys, rfl, .inl ⟨sql hp, fun r hr' => q r _ ys _ (((k.kp _).trans k2).nw hr' _) upd_same (all2.mono fun _ _ z => z.ts (Ex.new hr' _).ts) ⟨fun p => ?_, sort_len l, ?_⟩⟩⟩
    · rw [List.mem_mergeSort]; exact hm p
    · rw [List.length_mergeSort]; omega
end
end K81
/-! ## WC -/
namespace K81
open PySem PySem.Spec PyProof.Rows L2

/-! ### in: ints and texts; lists of truth values -/
theorem in_int (k : Nat) (l : List Nat) : inV (nI k) (l.map nI) = true ↔ k ∈ l := by
  unfold inV
  rw [List.any_map, List.any_eq_true]
  constructor
  · rintro ⟨x, hx, e⟩
    have : (x : Int) = (k : Int) := by simpa [eqV, nI] using e
    rw [show k = x by omega]; exact hx
  · exact fun h => ⟨k, h, by simp [eqV, nI]⟩
theorem in_str (x : Str) (l : List Str) : inV (.str x) (l.map V.str) = true ↔ x ∈ l := by
  unfold inV
  rw [List.any_map, List.any_eq_true]
  constructor
  · rintro ⟨y, hy, e⟩
    have : y = x := by simpa [eqV] using e
    rw [← this]; exact hy
  · exact fun h => ⟨x, h, by simp [eqV]⟩
theorem flat_ints (l : List Nat) : (l.map nI).all flatV = true := by rw [List.all_map, List.all_eq_true]; intro x _; rfl
theorem flat_strs (l : List Str) : (l.map V.str).all flatV = true := by rw [List.all_map, List.all_eq_true]; intro x _; rfl
theorem l_bls {acc : List V} {bs : List Bool} (h : All2 (fun y b => y = V.bl b) acc bs) : acc = bs.map V.bl := by
  induction h with
  | nil => rfl
  | cons r _ ih => rw [r, ih]; rfl
theorem l_strs {acc : List V} {bs : List Str} (h : All2 (fun y b => y = V.str b) acc bs) : acc = bs.map V.str := by
  induction h with
  | nil => rfl
  | cons r _ ih => rw [r, ih]; rfl
theorem l_ints {acc : List V} {bs : List Nat} (h : All2 (fun y b => y = nI b) acc bs) : acc = bs.map nI := by
  induction h with
  | nil => rfl
  | cons r _ ih => rw [r, ih]; rfl
theorem map_dropLast {α β : Type} (f : α → β) (l : List α) : (l.map f).dropLast = l.dropLast.map f := by rw [List.dropLast_eq_take, List.dropLast_eq_take, List.length_map, List.map_take]
theorem all_fm {α : Type} (g : α → Bool) : ∀ l : List α, (l.filterMap fun x => some (g x)).all id = l.all g
  | [] => rfl
  | x :: l => by rw [List.filterMap_cons_some (f := fun x => some (g x)) (b := g x) rfl, List.all_cons, List.all_cons, all_fm g l]; rfl
abbrev s_copies_at : Stmt := topS 8
abbrev N_copies_at : List Str := ["names", "demands", "paths", "path", "needed", "longer", "allowed", "place", "numbers", "found", "number", "slots", "name"]
theorem sc_copies_at : FnScope N_copies_at ["names", "demands", "paths", "path"] (defScope s_copies_at) := ⟨rfl, rfl, rfl, by decide +kernel, rfl, by decide +kernel, by decide +kernel⟩
-- slots: names:0 demands:1 paths:2 path:3 needed:4 longer:5 allowed:6 place:7 numbers:8 found:9 number:10 slots:11 name:12   cells: number path slots   calls: 
section
variable {P : Program} {w : World} {K : PySem.W.Frag} {mg : Str → Option Value} {base : Heap} {f : Addr} {fd : FuncData}
/-- the slot names of a family -/
structure NmsOk (names : List (List Str)) : Prop where
  len : names.length ≤ 11
  each : ∀ nm ∈ names, nm.length ≤ 3 ∧ WsOk nm ∧ nm.Nodup
def spCopies : Sp := fun vs H Q _ => ∃ (na da pa qa : Addr) (names : List (List Str)) (D : List Dem) (xs : List V) (ps : List (List Str)) (p : List Str), vs = [.ref na, .ref da, .ref pa, .ref qa] ∧ NamesAt H na names ∧ NmsOk names ∧ DsAt H da D ∧ DsOk D ∧
  H pa = some (.tup xs) ∧ All2 (TupS H) xs ps ∧ PathsOk D ps ∧ H qa = some (.tup (p.map V.str)) ∧ WsOk p ∧ (∀ q ∈ ps, WsOk q) ∧
  ∀ r H', Ex H H' → H r = none → H' r = some (.lst (((List.range names.length).filter fun k => stands names D k p).map nI)) → Q (.ref r) H'
theorem ok_copies_at (F : Fun K "copies_at" "copies_at" s_copies_at f fd) (B : Blt mg) : FnOk P w K mg base CX0 1 f fd ["names", "demands", "paths", "path"] spCopies := by
  refine F.ok sc_copies_at (fun vs H Q E h => ?_) (fun cdv A outer s H vs Q E hr h => ?_)
  · obtain ⟨na, da, pa, qa, names, D, xs, ps, p, rfl, _⟩ := h
    rfl
  obtain ⟨na, da, pa, qa, names, D, xs, ps, p, rfl, hN, nok, hD, dok, hp, hps, pok, hq0, hw, hws, q⟩ := h
  refine ⟨_, (pss_cons (ps_setLc (i := 4) (own := [("longer", 5)]) rfl sc_copies_at.nd rfl rfl (sw_true rfl rfl rfl (by decide +kernel)) (pi_seq (pv 2)) (blkOk_by (N := N_copies_at) (sc := defScope s_copies_at) (by decide +kernel)) (fun _ _ _ _ _ => (pg_name (i := 5) sc_copies_at.nd rfl (Or.inl rfl))) (fun _ _ _ _ _ => (pts_one (PW.pt (pw_and (pt_cmpR (r := rNeD K) (op_neD (hu_le hr (by decide))) (pv 5) (pv 3) (nomark _)) (pw_and1 (pt_cmpR (r := rEqD K) (op_eqD (hu_le hr (by decide))) (pe_slice (r := rSlA K) sl_tupA (pv 5) po_none (po_some (pe_un un_neg pe_int))) (pv 3) (nomark _))))))) (fun _ _ _ _ _ => (pe_ix (r := rIx K) ix_seq (pv 5) (pe_un un_neg pe_int) (fun _ _ => rfl))))
  (pss_cons (ps_setLc (i := 6) (g := gTup K 2 (gCons (gName 7) (gCons (gName 8) gNil))) (own := [("place", 7), ("numbers", 8)]) rfl sc_copies_at.nd rfl rfl (sw_true rfl rfl rfl (by decide +kernel)) (pi_seq (pv 1)) (blkOk_by (N := N_copies_at) (sc := defScope s_copies_at) (by decide +kernel)) (fun _ _ _ _ _ => (pg_tup rfl (pgs_cons (pg_name (i := 7) sc_copies_at.nd rfl (Or.inl rfl)) (pgs_cons (pg_name (i := 8) sc_copies_at.nd rfl (Or.inl rfl)) pgs_nil)))) (fun _ _ _ _ _ => (pts_one (pt_cmpR (r := rEqD K) (op_eqD (hu_le hr (by decide))) (pv 7) (pv 3) (nomark _)))) (fun _ _ _ _ _ => (pv 8)))
  (pss_cons (ps_set (i := 9) sc_copies_at.nd rfl (Or.inl rfl) (pe_lst pa_nil))
  (pss_cons (ps_for PassesOwn.never rfl (pi_enumT (by rfl) B.enumerate (pa_cons (pv 0) pa_nil)) (pg_tup rfl (pgs_cons (pg_name (i := 10) sc_copies_at.nd rfl (Or.inr rfl)) (pgs_cons (pg_name (i := 11) sc_copies_at.nd rfl (Or.inr rfl)) pgs_nil))) (pss_one (ps_if (PW.pt (pw_and (pt_val (pe_callB (cr_all rfl) (by rfl) B.all (by decide +kernel) (pa_cons (pe_lc (own := [("numbers", 8)]) rfl sc_copies_at.nd (pi_seq (pv 6)) (blkOk_by (N := N_copies_at) (sc := defScope s_copies_at) (by decide +kernel)) (fun _ _ _ _ _ => (pg_name (i := 8) sc_copies_at.nd rfl (Or.inl rfl))) (fun _ _ _ _ _ => pts_nil) (fun _ _ _ _ _ => (pe_cmpR (r := rIn K false) op_in_seq (pv 10) (pv 8) (by rfl)))) pa_nil))) (pw_and1 (pt_val (pe_callB (cr_all rfl) (by rfl) B.all (by decide +kernel) (pa_cons (pe_lc (own := [("name", 12)]) rfl sc_copies_at.nd (pi_seq (pv 4)) (blkOk_by (N := N_copies_at) (sc := defScope s_copies_at) (by decide +kernel)) (fun _ _ _ _ _ => (pg_name (i := 12) sc_copies_at.nd rfl (Or.inl rfl))) (fun _ _ _ _ _ => pts_nil) (fun _ _ _ _ _ => (pe_cmpR (r := rIn K false) op_in_seq (pv 12) (pv 11) (by rfl)))) pa_nil)))))) (pss_one (ps_expr (pe_bm PySem.F.plainAttrs_list PySem.F.slot_list_append PySem.F.type_list_append mt_append (pv 9) (pa_cons (pv 10) pa_nil)))) pss_nil)))
  (pss_one (ps_ret (pv 9))))))), ?_⟩
  obtain ⟨ns, hns, aln⟩ := hN
  obtain ⟨ds, hds, ald⟩ := hD
  refine .inr ⟨_, rfl, pa, rfl, ⟨_, sqt hp⟩, fun D1 hD1 => lc_gT (prEx H) (R := fun _ y b => y = V.str b) (fun _ _ _ _ _ z => z) (bs := ps) (φ := fun q => if q ≠ p ∧ q.dropLast = p then q.getLast? else none) (by have := pok.len; exact small1000 (by omega)) hD1 hp hps.len (fun i x q H1 hx hq k N no yes => ?_) (fun H1 acc k1 ha1 al1 => ?_)⟩
  · have hpq : TupS H1 (.ref qa) p := ⟨qa, rfl, k.old _ _ hq0⟩
    obtain ⟨x', hx', tx⟩ := hps.get hq
    have hxx : x' = x := by rw [hx'] at hx; exact Option.some.inj hx
    subst hxx
    have tx1 := tx.ts k.ts
    have wq : WsOk q := hws q (List.mem_of_getElem? hq)
    obtain ⟨b, rfl, hb⟩ := id tx1
    refine ⟨rfl, _, rfl, _, rfl, q_neS tx1 hpq wq hw (fun n1 => ⟨_, rfl, ite_tt ?_⟩) fun n1 => ⟨_, rfl, ite_ff (ite_ff (no _ (.refl _) (if_neg fun z => z.1 n1)))⟩⟩
    have wd : WsOk q.dropLast := fun z hz => wq z (List.dropLast_subset _ hz)
    refine ⟨_, rfl, 1, rfl, _, rfl, q_slA hb (cut_last.trans (map_dropLast _ _)) fun t2 H2 k2 ht2 => ⟨_, rfl, q_eqS ⟨t2, rfl, ht2⟩ (hpq.ts k2.ts) wd hw (fun e => ⟨_, rfl, ite_tt ?_⟩) fun e => ⟨_, rfl, ite_ff (no _ k2 (if_neg fun z => e z.2))⟩⟩⟩
    have ne : q ≠ [] := fun z => by
      rw [z] at e
      exact n1 (by rw [z, ← e]; rfl)
    have hlast : q.getLast? = some (q.getLast ne) := List.getLast?_eq_some_getLast ne
    exact ⟨_, rfl, 1, rfl, q_ixLast (k2.old _ _ hb) (by rw [List.getLast?_map, hlast]; rfl) (yes _ _ _ k2 ((if_pos ⟨n1, e⟩).trans hlast) rfl)⟩
  · obtain rfl := l_strs al1
    refine .inr ⟨_, rfl, da, rfl, ⟨_, sqt (k1.old _ _ hds)⟩, fun D2 hD2 => lc_gT (prEx H1) (R := TupI) (fun _ _ _ _ t z => z.ts t) (bs := D) (φ := fun d => if d.path = p then some d.ok else none) (by have := dok.len; exact small1000 (by omega)) hD2 (k1.old _ _ hds) ald.len (fun i x d H2 hx hd k2 N no yes => ?_) (fun H2 acc k2 ha2 al2 => ?_)⟩
    · have hpq : TupS H2 (.ref qa) p := ⟨qa, rfl, k2.old _ _ (k1.old _ _ hq0)⟩
      obtain ⟨x', hx', tx⟩ := ald.get hd
      have hxx : x' = x := by rw [hx'] at hx; exact Option.some.inj hx
      subst hxx
      obtain ⟨a, pa', ka, rfl, h1, h2, h3⟩ := (tx.ts k1.ts).ts k2.ts
      have dm : d ∈ D := List.mem_of_getElem? hd
      refine ⟨a, _, rfl, sqt h1, rfl, _, _, rfl, _, _, rfl, rfl, rfl, ?_⟩
      refine ⟨_, rfl, _, rfl, q_eqS ⟨pa', rfl, h2⟩ hpq (dok.each d dm).2.1 hw (fun e => ⟨_, rfl, ite_tt ⟨_, rfl, yes _ _ _ (.refl _) (if_pos e) ⟨ka, rfl, h3⟩⟩⟩) fun e => ⟨_, rfl, ite_ff (no _ (.refl _) (if_neg e))⟩⟩
    · have hneed : ∀ x, x ∈ ps.filterMap (fun q => if q ≠ p ∧ q.dropLast = p then q.getLast? else none) ↔ hasPre D (p ++ [x]) = true := fun x => by
        rw [List.mem_filterMap]
        constructor
        · rintro ⟨q, hq, e⟩
          by_cases c : q ≠ p ∧ q.dropLast = p
          · rw [if_pos c] at e
            have ne : q ≠ [] := fun z => by rw [z] at e; cases e
            have e2 : q = p ++ [x] := by
              have e3 : q.getLast ne = x := Option.some.inj ((List.getLast?_eq_some_getLast ne).symm.trans e)
              rw [← c.2, ← e3, List.dropLast_concat_getLast]
            rw [← e2]
            exact ((pok.mem q).mp hq).resolve_left ne
          · rw [if_neg c] at e; cases e
        · intro h
          refine ⟨p ++ [x], (pok.mem _).mpr (.inr h), ?_⟩
          rw [if_pos ⟨by simp, by simp⟩]
          simp
      have halw : ∀ l, l ∈ D.filterMap (fun d => if d.path = p then some d.ok else none) ↔ ∃ d ∈ D, d.path = p ∧ d.ok = l := fun l => by
        rw [List.mem_filterMap]
        constructor
        · rintro ⟨d, hd, e⟩
          by_cases c : d.path = p
          · rw [if_pos c] at e; exact ⟨d, hd, c, Option.some.inj e⟩
          · rw [if_neg c] at e; cases e
        · rintro ⟨d, hd, c, e⟩
          exact ⟨d, hd, by rw [if_pos c, e]⟩
      have lneed := fm_le (fun q => if q ≠ p ∧ q.dropLast = p then q.getLast? else none) ps
      have lalw := fm_le (fun d : Dem => if d.path = p then some d.ok else none) D
      have hpl := pok.len
      have hdl := dok.len
      have hnl := nok.len
      generalize ps.filterMap (fun q => if q ≠ p ∧ q.dropLast = p then q.getLast? else none) = need at ha1 hneed lneed
      generalize D.filterMap (fun d => if d.path = p then some d.ok else none) = alw at al2 halw lalw
      refine ⟨(by show 0 ≤ sizeLine; decide), fun L hL => ?_⟩
      have k02 := k1.trans k2
      refine ⟨_, rfl, na, ns, rfl, sqt ((Ex.new hL _).old _ _ (k02.old _ _ hns)), for_enumT (xs := ns) (fun i σ H' => ∃ e5 e7 e8 e10 e11 e12 : Option V, σ = [some (.ref na), some (.ref da), some (.ref pa), some (.ref qa), some (.ref D1), e5, some (.ref D2), e7, e8, some (.ref L), e10, e11, e12] ∧ Ex H2 H' ∧
          H' L = some (.lst (((List.range i).filter fun k => stands names D k p).map nI)))
        ⟨_, _, _, _, _, _, rfl, .new hL _, upd_same⟩ (fun i σ H' h => by obtain ⟨_, _, _, _, _, _, _, k, _⟩ := h; exact sqt (k.old _ _ (k02.old _ _ hns))) (fun i x σ H' T hx h hT => ?_) (fun σ H' h => ?_)⟩
      · obtain ⟨e5, e7, e8, e10, e11, e12, rfl, k, hl⟩ := h
        obtain ⟨nm, hnm, a, o, rfl, ha, _⟩ := aln.getL hx
        have hi : i < names.length := (List.getElem?_eq_some_iff.mp hnm).1
        have hnmD : names.getD i [] = nm := by rw [List.getD_eq_getElem?_getD, hnm]; rfl
        have k3 : Ex H2 (upd H' T (.tup [.int (i : Nat), .ref a])) := k.nw hT _
        have hl3 := (Ex.new hT (.tup [.int (i : Nat), .ref a])).old _ _ hl
        refine ⟨T, _, rfl, sqt upd_same, rfl, _, _, rfl, _, _, rfl, rfl, ?_⟩
        generalize upd H' T (.tup [.int (i : Nat), .ref a]) = H3 at k3 hl3
        refine .inl ⟨_, rfl, D2, rfl, ⟨_, sql (k3.old _ _ ha2)⟩, fun D3 hD3 => lc_gL (prEx H3) (R := fun _ y b => y = V.bl b) (fun _ _ _ _ _ z => z) (bs := alw) (φ := fun l => some (inV (nI i) (l.map nI))) (small1000 (by omega)) hD3 (fun H kk => kk.old _ _ (k3.old _ _ ha2)) al2.len (fun j y l H4 hy hb k4 N no yes => ?_) (fun H4 acc k4 ha4 al4 => ?_)⟩
        · obtain ⟨y', hy', ty⟩ := al2.get hb
          have hyy : y' = y := by rw [hy'] at hy; exact Option.some.inj hy
          subst hyy
          obtain ⟨b, rfl, hb4⟩ := (ty.ts k3.ts).ts k4.ts
          exact ⟨rfl, _, rfl, _, rfl, b, _, rfl, .inr (sqt hb4), rfl, flat_ints l, yes _ _ _ (.refl _) rfl rfl⟩
        · obtain rfl := l_bls al4
          refine ⟨D3, _, rfl, sql ha4, _, rfl, ?_⟩
          have k34 := k3.trans k4
          have hl4 := k4.old _ _ hl3
          have done : ∀ H5, Ex H2 H5 → H5 L = some (.lst (((List.range i).filter fun k => stands names D k p).map nI)) → stands names D i p = false → H5 L = some (.lst (((List.range (i + 1)).filter fun k => stands names D k p).map nI)) := fun H5 _ h5 e => by
            rw [List.range_succ, List.filter_append]; simp [e]; simpa using h5
          cases c1 : (alw.filterMap fun l => some (inV (nI i) (l.map nI))).all id with
          | false =>
            refine ite_ff (ite_ff ⟨_, _, _, _, _, _, rfl, k34, done _ k34 hl4 (Bool.eq_false_iff.mpr fun e => ?_)⟩)
            rw [all_fm] at c1
            obtain ⟨l, hl', e'⟩ := List.all_eq_false.mp c1
            obtain ⟨d, hd, ep, rfl⟩ := (halw l).mp hl'
            exact e' ((in_int i d.ok).mpr ((stands_iff.mp e).1 d hd ep))
          | true =>
            refine ite_tt (.inl ⟨_, rfl, D1, rfl, ⟨_, sql (k4.old _ _ (k3.old _ _ (k2.old _ _ ha1)))⟩, fun D4 hD4 => lc_gL (prEx H4) (R := fun _ y b => y = V.bl b) (fun _ _ _ _ _ z => z) (bs := need) (φ := fun x => some (inV (.str x) (nm.map V.str))) (small1000 (by omega)) hD4 (fun H kk => kk.old _ _ (k4.old _ _ (k3.old _ _ (k2.old _ _ ha1)))) (by rw [List.length_map]) (fun j y x H5 hy hb k5 N no yes => ?_) (fun H5 acc k5 ha5 al5 => ?_)⟩)
            · obtain ⟨x', hx', rfl⟩ := map_at hy
              have hxx : x' = x := by rw [hx'] at hb; exact Option.some.inj hb
              subst hxx
              exact ⟨rfl, _, rfl, _, rfl, a, _, rfl, .inr (.inl (.inr ⟨o, k5.old _ _ (k34.old _ _ (k02.old _ _ ha))⟩)), rfl, flat_strs nm, yes _ _ _ (.refl _) rfl rfl⟩
            · obtain rfl := l_bls al5
              refine ⟨D4, _, rfl, sql ha5, _, rfl, ?_⟩
              have k35 := k34.trans k5
              have hl5 := k5.old _ _ hl4
              rw [all_fm, List.all_eq_true] at c1
              cases c2 : (need.filterMap fun x => some (inV (.str x) (nm.map V.str))).all id with
              | false =>
                refine ite_ff ⟨_, _, _, _, _, _, rfl, k35, done _ k35 hl5 (Bool.eq_false_iff.mpr fun e => ?_)⟩
                rw [all_fm] at c2
                obtain ⟨x, hx', e'⟩ := List.all_eq_false.mp c2
                have := (stands_iff.mp e).2 x ((hneed x).mp hx')
                rw [hnmD] at this
                exact e' ((in_str x nm).mpr this)
              | true =>
                rw [all_fm, List.all_eq_true] at c2
                have st : stands names D i p = true := stands_iff.mpr ⟨fun d hd ep => (in_int i d.ok).mp (c1 _ ((halw _).mpr ⟨d, hd, ep, rfl⟩)), fun x hx' => by rw [hnmD]; exact (in_str x nm).mp (c2 x ((hneed x).mpr hx'))⟩
                refine ite_tt ⟨_, rfl, ty_l hl5, _, rfl, L, _, _, rfl, rfl, hl5, small1000 ?_, ?_⟩
                · have := List.length_filter_le (fun k => stands names D k p) (List.range i)
                  rw [List.length_range] at this
                  rw [List.length_map]; omega
                · refine ⟨_, _, _, _, _, _, rfl, k35.mut hL _, upd_same.trans ?_⟩
                  rw [List.range_succ, List.filter_append, List.map_append]
                  simp [st]; rfl
      · obtain ⟨e5, e7, e8, e10, e11, e12, rfl, k, hl⟩ := h
        refine ⟨_, rfl, q L _ (k02.trans k) (k02.fr hL) ?_⟩
        rw [← aln.len]; exact hl
end
end K81
/-! ## WD -/
namespace K81
open PySem PySem.Spec PyProof.Rows L2

/-- the blocks' object and what it holds -/
structure BkAt (K : PySem.W.Frag) (H : Hp) (C se fa na ba md wd : Addr) (f : Fm) (names : List (List Str)) (tb : Tb) (n : Nat) (M : List Str → Option (List Nat)) (T : List Str → Option Tb) : Prop where
  obj : ∃ dx, H se = some (.ins C dx (bfs fa na ba md wd))
  cls : BC K C
  fam : FamAt H fa f
  wf : f.Wf
  nms : NamesAt H na names
  nok : NmsOk names
  nlen : NamesOk f names
  nl : names.length = f.vars.length
  bs : ∃ xs, H ba = some (.tup xs) ∧ All2 (OW H) xs tb
  bl : tb.length = f.count
  mem : DcT LsI n H md M
  wts : DcT LsW n H wd T
  tl : ∀ p t, T p = some t → t.length = f.count
theorem LsI.ex {H H' : Hp} {x : V} {l : List Nat} (k : Ex H H') (h : LsI H x l) : LsI H' x l := let ⟨a, e, q⟩ := h; ⟨a, e, k.old _ _ q⟩
theorem LsW.ex {H H' : Hp} {x : V} {l : Tb} (k : Ex H H') (h : LsW H x l) : LsW H' x l := let ⟨a, xs, e, q, al⟩ := h; ⟨a, xs, e, k.old _ _ q, al.mono fun _ _ z => z.ts k.ts⟩
theorem BkAt.ex {K : PySem.W.Frag} {H H' : Hp} {C se fa na ba md wd : Addr} {f : Fm} {names : List (List Str)} {tb : Tb} {n : Nat} {M : List Str → Option (List Nat)} {T : List Str → Option Tb} (h : BkAt K H C se fa na ba md wd f names tb n M T) (k : Ex H H') : BkAt K H' C se fa na ba md wd f names tb n M T where
  obj := let ⟨dx, e⟩ := h.obj; ⟨dx, k.old _ _ e⟩
  cls := h.cls
  fam := h.fam.ts k.ts
  wf := h.wf
  nms := h.nms.ts k.ts k.fs
  nok := h.nok
  nlen := h.nlen
  nl := h.nl
  bs := let ⟨xs, e, al⟩ := h.bs; ⟨xs, k.old _ _ e, al.mono fun _ _ z => z.ts k.ts⟩
  bl := h.bl
  mem := h.mem.mono (fun _ e => k.old _ _ e) fun _ _ z => z.ex k
  wts := h.wts.mono (fun _ e => k.old _ _ e) fun _ _ z => z.ex k
  tl := h.tl
theorem zip_take_snoc {α β : Type} {s : α} {z : β} : ∀ {l : List α} {m : List β} {j : Nat}, l[j]? = some s → m[j]? = some z → (l.take (j + 1)).zip m = (l.take j).zip m ++ [(s, z)]
  | [], _, j, h, _ => by simp at h
  | _ :: _, [], j, _, h => by simp at h
  | a :: l, b :: m, 0, h1, h2 => by simp at h1 h2; simp [h1, h2]
  | a :: l, b :: m, j + 1, h1, h2 => by
    have := zip_take_snoc (l := l) (m := m) (j := j) (by simpa using h1) (by simpa using h2)
    rw [List.take_succ_cons, List.zip_cons_cons, this, List.take_succ_cons, List.zip_cons_cons]; rfl
theorem parts_snoc {names : List (List Str)} {rc : Nat → List Str → Option Wt} {i j s : Nat} {p : List Str} {z : Str} {l : List Nat} (h : l[j]? = some s) (hz : (names.getD i [])[j]? = some z) :
    partsAt names rc i p (l.take (j + 1)) = partsAt names rc i p (l.take j) ++ [rc s (p ++ [z])] := by
  unfold partsAt
  rw [zip_take_snoc h hz, List.map_append]; rfl
abbrev s_Blocks_below : Stmt := inClass (topS 9) 1
abbrev N_Blocks_below : List Str := ["self", "number", "path", "found", "index", "state"]
theorem sc_Blocks_below : FnScope N_Blocks_below ["self", "number", "path"] (defScope s_Blocks_below) := ⟨rfl, rfl, rfl, by decide +kernel, rfl, by decide +kernel, by decide +kernel⟩
-- slots: self:0 number:1 path:2 found:3 index:4 state:5   calls: 
section
variable {P : Program} {w : World} {K : PySem.W.Frag} {mg : Str → Option Value} {base : Heap} {f : Addr} {fd : FuncData}
def spBelow (K : PySem.W.Frag) (C : Addr) : Sp := fun vs H Q _ => ∃ (se fa na ba md wd qa : Addr) (fm : Fm) (names : List (List Str)) (tb : Tb) (n : Nat) (M : List Str → Option (List Nat)) (T : List Str → Option Tb) (i : Nat) (p : List Str) (v : Vr), vs = [.ref se, nI i, .ref qa] ∧ BkAt K H C se fa na ba md wd fm names tb n M T ∧
  fm.vars[i]? = some v ∧ H qa = some (.tup (p.map V.str)) ∧ p.length ≤ 100 ∧
  ∀ r H' xs, Ex H H' → H' r = some (.lst xs) → All2 (OW H') xs (partsAt names (recT T tb) i p v.slots) → Q (.ref r) H'
theorem ok_below {C : Addr} (F : Fun K "below" "Blocks.below" s_Blocks_below f fd) (B : Blt mg) : FnOk P w K mg base CX0 1 f fd ["self", "number", "path"] (spBelow K C) := by
  refine F.ok sc_Blocks_below (fun vs H Q E h => ?_) (fun cdv A outer s H vs Q E hr h => ?_)
  · obtain ⟨se, fa, na, ba, md, wd, qa, fm, names, tb, n, M, T, i, p, v, rfl, _⟩ := h
    rfl
  obtain ⟨se, fa, na, ba, md, wd, qa, fm, names, tb, n, M, T, i, p, v, rfl, b, hv, hq, hpl, q⟩ := h
  refine ⟨_, (pss_cons (ps_set (i := 3) sc_Blocks_below.nd rfl (Or.inl rfl) (pe_lst pa_nil))
  (pss_cons (ps_for PassesOwn.never rfl (pi_enumT (by rfl) B.enumerate (pa_cons (pe_ix ix_seq (pe_ix ix_seq (pe_ix ix_seq (pe_fld (pv 0) rfl) pe_int (fun _ _ => rfl)) (pv 1) (fun _ _ => rfl)) pe_int (fun _ _ => rfl)) pa_nil)) (pg_tup rfl (pgs_cons (pg_name (i := 4) sc_Blocks_below.nd rfl (Or.inl rfl)) (pgs_cons (pg_name (i := 5) sc_Blocks_below.nd rfl (Or.inl rfl)) pgs_nil))) (pss_one (ps_expr (pe_bm PySem.F.plainAttrs_list PySem.F.slot_list_append PySem.F.type_list_append mt_append (pv 3) (pa_cons (pe_ix ix_seq (pe_dget2 (hu_le hr (by decide)) (pe_fld (pv 0) rfl) (pe_op op_catA (pv 2) (pe_tup (pa_cons (pe_ix ix_seq (pe_ix ix_seq (pe_fld (pv 0) rfl) (pv 1) (fun _ _ => rfl)) (pv 4) (fun _ _ => rfl)) pa_nil))) (pe_fld (pv 0) rfl) ⟨rfl, rfl, rfl, rfl⟩) (pv 5) (fun _ _ => rfl)) pa_nil)))))
  (pss_one (ps_ret (pv 3))))), ?_⟩
  refine ⟨(by show 0 ≤ sizeLine; decide), fun L hL => ?_⟩
  have k0 : Ex H (upd H L (.lst [])) := .new hL _
  obtain ⟨dx, ho⟩ := b.obj
  obtain ⟨rr, bb, vs, h1, h2, h3, h4⟩ := b.fam.ex
  obtain ⟨x, hx, va⟩ := h4.get hv
  obtain ⟨c, sl, rfl, hc, hsl⟩ := va
  have c1 := b.cls
  refine ⟨_, rfl, se, C, dx, _, _, rfl, k0.old _ _ ho, c1.cl, c1.f1, bf1, q_ixT2 (k0.old _ _ h1) rfl ⟨_, rfl, q_ixT (k0.old _ _ h3) hx (q_ixT1 (k0.old _ _ hc) rfl ⟨sl, _, rfl, sqt (k0.old _ _ hsl), ?_⟩)⟩⟩
  have hnl := b.nlen i v (zip_iff.mpr hv)
  have hil : i < names.length := by rw [b.nl]; exact (List.getElem?_eq_some_iff.mp hv).1
  have hnm : names[i]? = some (names.getD i []) := by rw [List.getD_eq_getElem?_getD, List.getElem?_eq_getElem hil]; rfl
  have hl3 := (b.wf.vars v (List.mem_of_getElem? hv)).2.2
  have hsn : ∀ j s, v.slots[j]? = some s → ∃ z, (names.getD i [])[j]? = some z ∧ partsAt names (recT T tb) i p (v.slots.take (j + 1)) = partsAt names (recT T tb) i p (v.slots.take j) ++ [recT T tb s (p ++ [z])] := fun j s hj => by
    have lt : j < (names.getD i []).length := by rw [hnl]; exact (List.getElem?_eq_some_iff.mp hj).1
    exact ⟨_, List.getElem?_eq_getElem lt, parts_snoc hj (List.getElem?_eq_getElem lt)⟩
  have hpt : partsAt names (recT T tb) i p v.slots = partsAt names (recT T tb) i p (v.slots.take v.slots.length) := by rw [List.take_length]
  have hpl3 : ∀ j, (partsAt names (recT T tb) i p (v.slots.take j)).length ≤ 3 := fun j => by
    unfold partsAt; rw [List.length_map, List.length_zip, List.length_take]; omega
  generalize names.getD i [] = nm at hnm hsn
  refine for_enumT (xs := v.slots.map nI) (fun j σ H' => ∃ (xs : List V) (e4 e5 : Option V), σ = [some (.ref se), some (nI i), some (.ref qa), some (.ref L), e4, e5] ∧ Ex H H' ∧ H' L = some (.lst xs) ∧ All2 (OW H') xs (partsAt names (recT T tb) i p (v.slots.take j)))
    ⟨_, none, none, rfl, k0, upd_same, .nil⟩ (fun j σ H' h => by obtain ⟨xs, e4, e5, _, k, _⟩ := h; exact sqt (k.old _ _ hsl)) (fun j x σ H' T0 hx h hT => ?_) (fun σ H' h => ?_)
  · obtain ⟨xs, e4, e5, rfl, k, hl, al⟩ := h
    obtain ⟨s, hs, rfl⟩ := map_at hx
    obtain ⟨z, hz, hsn1⟩ := hsn j s hs
    have kT : Ex H' (upd H' T0 (.tup [.int (j : Nat), nI s])) := .new hT _
    refine ⟨T0, _, rfl, sqt upd_same, rfl, _, _, rfl, _, _, rfl, rfl, ?_⟩
    generalize upd H' T0 (.tup [.int (j : Nat), nI s]) = H1 at kT
    have k1 := k.trans kT
    have hl1 := kT.old _ _ hl
    have b1 := b.ex k1
    obtain ⟨ns, hns, aln⟩ := b1.nms
    obtain ⟨na', hna, a, o, rfl, hfz, _⟩ := aln.get hnm
    refine ⟨_, rfl, ty_l hl1, _, rfl, se, C, dx, _, _, rfl, k1.old _ _ ho, c1.cl, c1.f5, bf5, wd, rfl, b1.wts.isD, ?_⟩
    refine ⟨_, rfl, _, rfl, se, C, dx, _, _, rfl, k1.old _ _ ho, c1.cl, c1.f2, bf2, _, rfl, q_ixT hns hna ⟨_, rfl, q_ixS (i := j) (.inl (.inr ⟨o, hfz⟩)) (by rw [List.getElem?_map, hz]; rfl) ⟨(by show 1 ≤ sizeLine; decide), fun t1 ht1 => ?_⟩⟩⟩
    have k2 := k1.nw ht1 (.tup [.str z])
    have kk2 : Ex H1 (upd H1 t1 (.tup [.str z])) := .new ht1 _
    refine q_catA (k2.old _ _ hq) upd_same (line_le (by rw [List.length_map]; show p.length + 1 ≤ 1000; omega)) fun t2 H2 k3 ht2 => ?_
    have k4 := k2.trans k3
    have kk4 := kk2.trans k3
    have b4 := b.ex k4
    have hl4 := kk4.old _ _ hl1
    have ht2' : H2 t2 = some (.tup ((p ++ [z]).map V.str)) := by rw [ht2, List.map_append]; rfl
    have alk : All2 (OW H2) xs (partsAt names (recT T tb) i p (v.slots.take j)) := al.mono fun _ _ y => y.ts (kT.trans kk4).ts
    refine ⟨_, rfl, se, C, dx, _, _, rfl, k4.old _ _ ho, c1.cl, c1.f3, bf3, ?_⟩
    have fin : ∀ y, OW H2 y (recT T tb s (p ++ [z])) → ∃ (xs' : List V) (e4' e5' : Option V), [some (V.ref se), some (nI i), some (V.ref qa), some (V.ref L), some (nI j), some (nI s)] = [some (.ref se), some (nI i), some (.ref qa), some (.ref L), e4', e5'] ∧ Ex H (upd H2 L (.lst (xs ++ [y]))) ∧ (upd H2 L (.lst (xs ++ [y]))) L = some (.lst xs') ∧ All2 (OW (upd H2 L (.lst (xs ++ [y])))) xs' (partsAt names (recT T tb) i p (v.slots.take (j + 1))) := fun y hy =>
      ⟨_, _, _, rfl, k4.mut hL _, upd_same, by rw [hsn1]; exact (alk.mono fun _ _ u => u.ts (ts_lst hl4)).snoc (hy.ts (ts_lst hl4))⟩
    have hlen : xs.length < sizeLine := small1000 (by rw [al.len]; have := hpl3 j; omega)
    have hst : s < fm.count := (b.wf.vars v (List.mem_of_getElem? hv)).2.1 s (List.mem_of_getElem? hs)
    cases hT : T (p ++ [z]) with
    | none =>
      obtain ⟨xb, hxb, alb⟩ := b4.bs
      obtain ⟨y, hy, hyo⟩ := alb.get (tb_at (tb := tb) (s := s) (by rw [b.bl]; exact hst))
      exact ⟨none, b4.wts.miss hT ht2', _, rfl, q_ixT hxb hy ⟨L, xs, y, rfl, rfl, hl4, hlen, fin y (by unfold recT; rw [hT]; exact hyo)⟩⟩
    | some t =>
      obtain ⟨y0, hg, l, xw, rfl, hxw, alw⟩ := b4.wts.get hT ht2'
      obtain ⟨y, hy, hyo⟩ := alw.get (tb_at (tb := t) (s := s) (by rw [b.tl _ _ hT]; exact hst))
      exact ⟨some _, hg, _, rfl, q_ixL hxw hy ⟨L, xs, y, rfl, rfl, hl4, hlen, fin y (by unfold recT; rw [hT]; exact hyo)⟩⟩
  · obtain ⟨xs, e4, e5, rfl, k, hl, al⟩ := h
    refine ⟨_, rfl, q L _ xs k hl ?_⟩
    rw [hpt]
    rw [List.length_map] at al
    exact al
end
end K81
/-! ## WE -/
namespace K81
open PySem PySem.Spec PyProof.Rows L2

abbrev s_Blocks_weight_at : Stmt := inClass (topS 9) 2
abbrev N_Blocks_weight_at : List Str := ["self", "number", "path", "price", "found", "weight"]
theorem sc_Blocks_weight_at : FnScope N_Blocks_weight_at ["self", "number", "path"] (defScope s_Blocks_weight_at) := ⟨rfl, rfl, rfl, by decide +kernel, rfl, by decide +kernel, by decide +kernel⟩
-- slots: self:0 number:1 path:2 price:3 found:4 weight:5   calls: 
theorem sum_cast : ∀ l : List Nat, ((l.map fun n : Nat => (n : Int)).sum : Int) = ((l.sum : Nat) : Int)
  | [] => rfl
  | x :: l => by rw [List.map_cons, List.sum_cons, List.sum_cons, sum_cast l, Int.natCast_add]
theorem nI_map (l : List Nat) : l.map nI = (l.map fun n : Nat => (n : Int)).map V.int := by rw [List.map_map]; rfl
theorem fm_map {α β : Type} (g : α → β) : ∀ l : List α, (l.filterMap fun x => some (g x)) = l.map g
  | [] => rfl
  | x :: l => by rw [List.filterMap_cons_some (f := fun x => some (g x)) (b := g x) rfl, fm_map g l]; rfl
theorem all_some {l : List (Option Wt)} (h : ¬ none ∈ l) : ∃ us : List Wt, l = us.map some := by
  induction l with
  | nil => exact ⟨[], rfl⟩
  | cons x r ih =>
    cases x with
    | none => exact absurd (List.mem_cons_self ..) h
    | some u =>
      obtain ⟨us, e⟩ := ih fun m => h (List.mem_cons_of_mem _ m)
      exact ⟨u :: us, by rw [e]; rfl⟩
theorem ow_some {H : Hp} : ∀ {xs : List V} {us : List Wt}, All2 (OW H) xs (us.map some) → All2 (fun x w => OW H x (some w)) xs us
  | _, [], .nil => .nil
  | _, _ :: _, .cons r t => .cons r (ow_some t)
section
variable {P : Program} {w : World} {K : PySem.W.Frag} {mg : Str → Option Value} {base : Heap} {f : Addr} {fd : FuncData}
def spWAt (K : PySem.W.Frag) (C : Addr) : Sp := fun vs H Q _ => ∃ (se fa na ba md wd qa : Addr) (fm : Fm) (names : List (List Str)) (tb : Tb) (n : Nat) (M : List Str → Option (List Nat)) (T : List Str → Option Tb) (i : Nat) (p : List Str) (v : Vr), vs = [.ref se, nI i, .ref qa] ∧ BkAt K H C se fa na ba md wd fm names tb n M T ∧
  fm.vars[i]? = some v ∧ H qa = some (.tup (p.map V.str)) ∧ p.length ≤ 100 ∧
  ∀ r H', Ex H H' → OW H' r (weighs names (recT T tb) i p v) → Q r H'
theorem ok_weight_at {C : Addr} (F : Fun K "weight_at" "Blocks.weight_at" s_Blocks_weight_at f fd) (B : Blt mg) (c_below : MCal P w K mg base C 1 "below" ["self", "number", "path"] (spBelow K C)) : FnOk P w K mg base CX0 2 f fd ["self", "number", "path"] (spWAt K C) := by
  refine F.ok sc_Blocks_weight_at (fun vs H Q E h => ?_) (fun cdv A outer s H vs Q E hr h => ?_)
  · obtain ⟨se, fa, na, ba, md, wd, qa, fm, names, tb, n, M, T, i, p, v, rfl, _⟩ := h
    rfl
  obtain ⟨se, fa, na, ba, md, wd, qa, fm, names, tb, n, M, T, i, p, v, rfl, b, hv, hq, hpl, q⟩ := h
  refine ⟨_, (pss_cons (ps_set (i := 3) sc_Blocks_weight_at.nd rfl (Or.inl rfl) (pe_ix ix_seq (pe_ix ix_seq (pe_ix ix_seq (pe_fld (pv 0) rfl) pe_int (fun _ _ => rfl)) (pv 1) (fun _ _ => rfl)) pe_int (fun _ _ => rfl)))
  (pss_cons (ps_set (i := 4) sc_Blocks_weight_at.nd rfl (Or.inl rfl) (pe_mcal (pv 0) c_below (hr.mono (by omega)) (pa_cons (pv 1) (pa_cons (pv 2) pa_nil))))
  (pss_cons (ps_if (PW.pt (pw_or (pt_cmpR op_isN (pv 3) pe_non (nomark _)) (pw_or1 (pt_cmpR (op_inD (hu_le hr (by decide))) pe_non (pv 4) (by rfl))))) (pss_one (ps_ret pe_non)) pss_nil)
  (pss_one (ps_ret (pe_tup (pa_cons (pe_op op_add (pv 3) (pe_callB (cr_sum rfl) (by rfl) B.sum (by decide +kernel) (pa_cons (pe_lc (own := [("weight", 5)]) rfl sc_Blocks_weight_at.nd (pi_seq (pv 4)) (blkOk_by (N := N_Blocks_weight_at) (sc := defScope s_Blocks_weight_at) (by decide +kernel)) (fun _ _ _ _ _ => (pg_name (i := 5) sc_Blocks_weight_at.nd rfl (Or.inl rfl))) (fun _ _ _ _ _ => pts_nil) (fun _ _ _ _ _ => (pe_ix (r := rIx K) ix_seq (pv 5) pe_int (fun _ _ => rfl)))) pa_nil))) (pa_cons (pe_op op_add pe_int (pe_callB (cr_sum rfl) (by rfl) B.sum (by decide +kernel) (pa_cons (pe_lc (own := [("weight", 5)]) rfl sc_Blocks_weight_at.nd (pi_seq (pv 4)) (blkOk_by (N := N_Blocks_weight_at) (sc := defScope s_Blocks_weight_at) (by decide +kernel)) (fun _ _ _ _ _ => (pg_name (i := 5) sc_Blocks_weight_at.nd rfl (Or.inl rfl))) (fun _ _ _ _ _ => pts_nil) (fun _ _ _ _ _ => (pe_ix (r := rIx K) ix_seq (pv 5) pe_int (fun _ _ => rfl)))) pa_nil))) pa_nil)))))))), ?_⟩
  obtain ⟨dx, ho⟩ := b.obj
  obtain ⟨rr, bb, vs, h1, h2, h3, h4⟩ := b.fam.ex
  obtain ⟨x, hx, va⟩ := h4.get hv
  obtain ⟨c, sl, rfl, hc, hsl⟩ := va
  have c1 := b.cls
  refine ⟨_, rfl, se, C, dx, _, _, rfl, ho, c1.cl, c1.f1, bf1, q_ixT2 h1 rfl ⟨_, rfl, q_ixT h3 hx (q_ixT2 hc rfl ?_)⟩⟩
  refine ⟨_, rfl, se, dx, _, rfl, ho, bfm1, _, rfl, _, rfl, se, fa, na, ba, md, wd, qa, fm, names, tb, n, M, T, i, p, v, rfl, b, hv, hq, hpl, fun L H1 xs k hl al => ?_⟩
  refine ⟨_, rfl, rfl, _, rfl, ?_⟩
  cases hp : v.price with
  | none =>
    refine ite_t (decide_eq_true rfl) (ite_tt (q _ H1 k ?_))
    unfold weighs; rw [hp]; rfl
  | some pr =>
  refine ite_f (decide_eq_false (by intro z; cases z)) ?_
  have hw : weighs names (recT T tb) i p v = sumO (partsAt names (recT T tb) i p v.slots) (pr, 1) := by unfold weighs; rw [hp]
  have hwl : (partsAt names (recT T tb) i p v.slots).length ≤ 1000 := by
    unfold partsAt
    rw [List.length_map, List.length_zip]
    have := (b.wf.vars v (List.mem_of_getElem? hv)).2.2
    omega
  generalize partsAt names (recT T tb) i p v.slots = ws at al hw hwl
  refine ⟨_, rfl, dW none, _, .non, .lst (sql hl) (dp_all (fun _ _ z => OW.dp z) al), sh_dW _, sh_lst (fun p _ => lay_dW p) dep_dW, _, rfl, ?_⟩
  by_cases hn : none ∈ ws
  · rw [any_t eqv_dW hn]
    refine ite_tt (q _ H1 k ?_)
    rw [hw, sumO_none hn]; rfl
  · rw [any_f eqv_dW hn]
    obtain ⟨us, rfl⟩ := all_some hn
    have al2 := ow_some al
    refine ite_ff ⟨_, rfl, .inl ⟨_, rfl, L, rfl, ⟨_, sql hl⟩, fun D1 hD1 => lc_gL (prEx H1) (R := fun _ y (m : Nat) => y = nI m) (fun _ _ _ _ _ z => z) (bs := us) (φ := fun u => some u.1) (small1000 (by rw [List.length_map] at hwl; exact hwl)) hD1 (fun H k => k.old _ _ hl) al2.len (fun j y u H2 hy hu k2 N no yes => ?_) (fun H2 acc k2 ha2 al3 => ?_)⟩⟩
    · obtain ⟨y', hy', o, rfl, ho2⟩ := al2.get hu
      have hyy : V.ref o = y := by rw [hy'] at hy; exact Option.some.inj hy
      subst hyy
      exact ⟨rfl, _, rfl, q_ixT0 (k2.old _ _ ho2) rfl (yes _ _ _ (.refl _) rfl rfl)⟩
    · obtain rfl := l_ints al3
      rw [fm_map, nI_map] at ha2
      refine ⟨D1, _, rfl, sql ha2, _, _, rfl, rfl, ?_⟩
      refine .inl ⟨_, rfl, L, rfl, ⟨_, sql (k2.old _ _ hl)⟩, fun D2 hD2 => lc_gL (prEx H2) (R := fun _ y (m : Nat) => y = nI m) (fun _ _ _ _ _ z => z) (bs := us) (φ := fun u => some u.2) (small1000 (by rw [List.length_map] at hwl; exact hwl)) hD2 (fun H k => k.old _ _ (k2.old _ _ hl)) al2.len (fun j y u H3 hy hu k3 N no yes => ?_) (fun H3 acc k3 ha3 al4 => ?_)⟩
      · obtain ⟨y', hy', o, rfl, ho2⟩ := al2.get hu
        have hyy : V.ref o = y := by rw [hy'] at hy; exact Option.some.inj hy
        subst hyy
        exact ⟨rfl, _, rfl, q_ixT1 (k3.old _ _ (k2.old _ _ ho2)) rfl (yes _ _ _ (.refl _) rfl rfl)⟩
      · obtain rfl := l_ints al4
        rw [fm_map, nI_map] at ha3
        refine ⟨D2, _, rfl, sql ha3, _, _, rfl, rfl, (by show 2 ≤ sizeLine; decide), fun r hr' => q _ _ (((k.trans k2).trans k3).nw hr' _) ?_⟩
        rw [hw, sumO_all]
        refine ⟨r, rfl, upd_same.trans ?_⟩
        rw [sum_cast, sum_cast]
        show some (HO.tup [V.int ((pr : Int) + _), V.int ((1 : Int) + _)]) = some (HO.tup [nI _, nI _])
        rw [← nI_add, ← nI_add]; rfl
abbrev s_Blocks_weights_at : Stmt := inClass (topS 9) 3
abbrev N_Blocks_weights_at : List Str := ["self", "path", "best", "number", "plug", "weight"]
theorem sc_Blocks_weights_at : FnScope N_Blocks_weights_at ["self", "path"] (defScope s_Blocks_weights_at) := ⟨rfl, rfl, rfl, by decide +kernel, rfl, by decide +kernel, by decide +kernel⟩
-- slots: self:0 path:1 best:2 number:3 plug:4 weight:5   calls: 
def spWsAt (K : PySem.W.Frag) (C : Addr) : Sp := fun vs H Q _ => ∃ (se fa na ba md wd qa : Addr) (fm : Fm) (names : List (List Str)) (tb : Tb) (n : Nat) (M : List Str → Option (List Nat)) (T : List Str → Option Tb) (p : List Str) (ms : List Nat), vs = [.ref se, .ref qa] ∧ BkAt K H C se fa na ba md wd fm names tb n M T ∧
  M p = some ms ∧ (∀ k ∈ ms, k < fm.vars.length) ∧ H qa = some (.tup (p.map V.str)) ∧ p.length ≤ 100 ∧
  ∀ r H' xs, Ex H H' → H r = none → H' r = some (.lst xs) → All2 (OW H') xs (tabOf fm.count (stPairs fm names (recT T tb) p ms)) → Q (.ref r) H'
theorem ok_weights_at {C : Addr} (F : Fun K "weights_at" "Blocks.weights_at" s_Blocks_weights_at f fd) (B : Blt mg) (c_weight_at : MCal P w K mg base C 2 "weight_at" ["self", "number", "path"] (spWAt K C)) : FnOk P w K mg base CX0 3 f fd ["self", "path"] (spWsAt K C) := by
  refine F.ok sc_Blocks_weights_at (fun vs H Q E h => ?_) (fun cdv A outer s H vs Q E hr h => ?_)
  · obtain ⟨se, fa, na, ba, md, wd, qa, fm, names, tb, n, M, T, p, ms, rfl, _⟩ := h
    rfl
  obtain ⟨se, fa, na, ba, md, wd, qa, fm, names, tb, n, M, T, p, ms, rfl, b, hM, hms, hq, hpl, q⟩ := h
  refine ⟨_, (pss_cons (ps_set (i := 2) sc_Blocks_weights_at.nd rfl (Or.inl rfl) (pe_op op_rep (pe_lst (pa_cons pe_non pa_nil)) (pe_ix ix_seq (pe_fld (pv 0) rfl) pe_int (fun _ _ => rfl))))
  (pss_cons (ps_for PassesOwn.never rfl (pi_seq (pe_dget (hu_le hr (by decide)) (pe_fld (pv 0) rfl) (pv 1) (fun _ _ => rfl))) (pg_name (i := 3) sc_Blocks_weights_at.nd rfl (Or.inl rfl)) (pss_cons (ps_set (i := 4) sc_Blocks_weights_at.nd rfl (Or.inl rfl) (pe_ix ix_seq (pe_ix ix_seq (pe_ix ix_seq (pe_fld (pv 0) rfl) pe_int (fun _ _ => rfl)) (pv 3) (fun _ _ => rfl)) pe_int (fun _ _ => rfl)))
  (pss_cons (ps_set (i := 5) sc_Blocks_weights_at.nd rfl (Or.inl rfl) (pe_mcal (pv 0) c_weight_at (hr.mono (by omega)) (pa_cons (pv 3) (pa_cons (pv 1) pa_nil))))
  (pss_one (ps_if (PW.pt (pw_and (pt_cmpR op_notN (pv 5) pe_non (nomark _)) (pw_and1 (PW.pt (pw_or (pt_cmpR op_isN (pe_ix ix_seq (pv 2) (pv 4) (fun _ _ => rfl)) pe_non (nomark _)) (pw_or1 (pt_cmpR (op_ltW (hu_le0 hr)) (pv 5) (pe_ix ix_seq (pv 2) (pv 4) (fun _ _ => rfl)) (nomark _)))))))) (pss_one (ps_asg (pv 5) (pg_sub (pv 2) (pv 4) set_list))) pss_nil)))))
  (pss_one (ps_ret (pv 2))))), ?_⟩
  obtain ⟨dx, ho⟩ := b.obj
  obtain ⟨rr, bb, vs, h1, h2, h3, h4⟩ := b.fam.ex
  have c1 := b.cls
  have wf := b.wf
  refine ⟨(by show 1 ≤ sizeLine; decide), fun l0 hl0 => ⟨_, rfl, se, C, dx, _, _, rfl, (Ex.new hl0 _).old _ _ ho, c1.cl, c1.f1, bf1, q_ixT0 ((Ex.new hl0 _).old _ _ h1) rfl (q_rep upd_same (by have := wf.cnt; omega) fun D hD => ?_)⟩⟩
  have hD0 : H D = none := (Ex.new hl0 _).fr hD
  have k0 := (Ex.new hl0 (.lst [.non])).nw hD (.lst (List.replicate fm.count .non))
  obtain ⟨_, hg0, a0, rfl, haH⟩ := b.mem.getX hM (fun _ e => k0.old _ _ e) (k0.old _ _ hq)
  have ha0 := k0.old _ _ haH
  refine .inl ⟨_, rfl, se, C, dx, _, _, rfl, k0.old _ _ ho, c1.cl, c1.f4, bf4, _, rfl, md, _, rfl, hg0, a0, rfl, ⟨_, sql ha0⟩, ?_⟩
  have hpl2 : ∀ i, ∀ q ∈ stPairs fm names (recT T tb) p (ms.take i), q.1 < fm.count := fun i => st_lt wf fun k hk => hms k (List.mem_of_mem_take hk)
  generalize hH0 : upd (upd H l0 (.lst [.non])) D (.lst (List.replicate fm.count .non)) = H0 at k0 ha0 hg0
  have hHD : H0 D = some (.lst (List.replicate fm.count .non)) := by rw [← hH0]; exact upd_same
  refine for_list (xs := ms.map nI) (fun i σ H' => ∃ (xs : List V) (e3 e4 e5 : Option V), σ = [some (.ref se), some (.ref qa), some (.ref D), e3, e4, e5] ∧ Ex H H' ∧ H' a0 = some (.lst (ms.map nI)) ∧ H' D = some (.lst xs) ∧
      All2 (OW H') xs (tabOf fm.count (stPairs fm names (recT T tb) p (ms.take i))))
    ⟨_, none, none, none, rfl, k0, ha0, hHD, All2.rep (R := OW _) (x := V.non) (y := none) rfl fm.count⟩ (fun i σ H' _ h => by obtain ⟨xs, e3, e4, e5, _, _, k, _⟩ := h; exact sql k) (fun i x σ H' hx h => ?_) (fun σ H' h => ?_)
  · obtain ⟨xs, e3, e4, e5, rfl, k, haa, hxs, al⟩ := h
    obtain ⟨m, hm, rfl⟩ := map_at hx
    have hmn := hms m (List.mem_of_getElem? hm)
    have hv := vAt_get hmn
    have hplug := (wf.vars _ (List.mem_of_getElem? hv)).1
    obtain ⟨cx, hcx, c, sl, rfl, hc, hsl⟩ := h4.get hv
    have hlen : (tabOf fm.count (stPairs fm names (recT T tb) p (ms.take i))).length = fm.count := tab_len (hpl2 i)
    have hnext : tabOf fm.count (stPairs fm names (recT T tb) p (ms.take (i + 1))) = (tabOf fm.count (stPairs fm names (recT T tb) p (ms.take i))).set (vAt fm m).plug (better (tf (tabOf fm.count (stPairs fm names (recT T tb) p (ms.take i))) (vAt fm m).plug) (weighs names (recT T tb) m p (vAt fm m))) := by
      unfold stPairs
      rw [take_succ_some hm, List.map_append]; exact tab_snoc _ _ _
    generalize hT : tabOf fm.count (stPairs fm names (recT T tb) p (ms.take i)) = Tt at hlen hnext al
    refine ⟨_, rfl, se, C, dx, _, _, rfl, k.old _ _ ho, c1.cl, c1.f1, bf1, q_ixT2 (k.old _ _ h1) rfl ⟨_, rfl, q_ixT (k.old _ _ h3) hcx (q_ixT0 (k.old _ _ hc) rfl ?_)⟩⟩
    refine ⟨_, rfl, se, dx, _, rfl, k.old _ _ ho, bfm2, _, rfl, _, rfl, se, fa, na, ba, md, wd, qa, fm, names, tb, n, M, T, m, p, vAt fm m, rfl, b.ex k, hv, k.old _ _ hq, hpl, fun r H2 k2 hr2 => ?_⟩
    have hxs2 := k2.old _ _ hxs
    have haa2 := k2.old _ _ haa
    have hDa : D ≠ a0 := fun z => by rw [z, haH] at hD0; cases hD0
    have al2 : All2 (OW H2) xs Tt := al.mono fun _ _ z => z.ts k2.ts
    obtain ⟨y, hy, hoy⟩ := al2.get (tb_at (tb := Tt) (s := (vAt fm m).plug) (by omega))
    have hlx : xs.length = Tt.length := al.len
    refine ⟨_, rfl, rfl, _, rfl, ?_⟩
    rw [hr2.isn]
    have same : ∀ (s : better (tf Tt (vAt fm m).plug) (weighs names (recT T tb) m p (vAt fm m)) = tf Tt (vAt fm m).plug), All2 (OW H2) xs (tabOf fm.count (stPairs fm names (recT T tb) p (ms.take (i + 1)))) := fun s => by
      rw [hnext, s, set_same (by omega)]; exact al2
    cases ew : weighs names (recT T tb) m p (vAt fm m) with
    | none => exact ite_ff (ite_ff ⟨xs, _, _, _, rfl, k.trans k2, haa2, hxs2, same (by rw [ew]; rfl)⟩)
    | some a1 =>
      rw [ew] at hr2
      refine ite_tt ⟨_, rfl, _, rfl, q_ixL hxs2 hy ⟨rfl, _, rfl, ?_⟩⟩
      rw [hoy.isn]
      have put : better (tf Tt (vAt fm m).plug) (weighs names (recT T tb) m p (vAt fm m)) = some a1 → ∃ (xs' : List V) (e3 e4 e5 : Option V), [some (V.ref se), some (V.ref qa), some (V.ref D), some (nI m), some (nI (vAt fm m).plug), some r] = [some (.ref se), some (.ref qa), some (.ref D), e3, e4, e5] ∧ Ex H (upd H2 D (.lst (xs.set (vAt fm m).plug r))) ∧
          (upd H2 D (.lst (xs.set (vAt fm m).plug r))) a0 = some (.lst (ms.map nI)) ∧ (upd H2 D (.lst (xs.set (vAt fm m).plug r))) D = some (.lst xs') ∧
          All2 (OW (upd H2 D (.lst (xs.set (vAt fm m).plug r)))) xs' (tabOf fm.count (stPairs fm names (recT T tb) p (ms.take (i + 1)))) := fun s => by
        refine ⟨_, _, _, _, rfl, (k.trans k2).mut hD0 _, by rw [upd_ne hDa.symm]; exact haa2, upd_same, ?_⟩
        rw [hnext, s]
        exact All2.set _ (al2.mono fun _ _ z => z.ts (ts_lst hxs2)) (hr2.ts (ts_lst hxs2))
      cases et : tf Tt (vAt fm m).plug with
      | none => exact ite_tt (ite_tt ⟨_, rfl, _, rfl, _, rfl, q_setL hxs2 (by omega) (put (by rw [et, ew]; rfl))⟩)
      | some b1 =>
        rw [et] at hoy
        refine ite_ff ⟨_, rfl, _, rfl, _, rfl, q_ixL hxs2 hy ⟨a1, b1, hr2, hoy, _, rfl, ?_⟩⟩
        by_cases lt : WLt a1 b1
        · rw [decide_eq_true lt]
          exact ite_tt ⟨_, rfl, _, rfl, _, rfl, q_setL hxs2 (by omega) (put (by rw [et, ew]; exact if_pos lt))⟩
        · rw [decide_eq_false lt]
          exact ite_ff ⟨xs, _, _, _, rfl, k.trans k2, haa2, hxs2, same (by rw [et, ew]; exact if_neg lt)⟩
  · obtain ⟨xs, e3, e4, e5, rfl, k, haa, hxs, al⟩ := h
    refine ⟨_, rfl, q D _ xs k hD0 hxs ?_⟩
    rw [List.length_map, List.take_length] at al
    exact al
end
end K81
/-! ## WF -/
namespace K81
open PySem PySem.Spec PyProof.Rows L2

theorem oI_none {H : Hp} {o : Option Nat} : decide (oI o = V.non) = o.isNone := by
  cases o with
  | none => exact decide_eq_true rfl
  | some n => exact decide_eq_false (by intro z; cases z)
theorem fm_none {α : Type} {g : α → Option Wt} {l : List α} (h : l.filterMap g = []) {y : Option Wt} (hy : y ∈ l.map g) : y = none := by
  obtain ⟨x, hx, rfl⟩ := List.mem_map.mp hy
  exact List.filterMap_eq_nil_iff.mp h x hx
theorem best_min {α : Type} {g : α → Option Wt} {l : List α} {m : Wt} (hm : m ∈ l.filterMap g) (hle : ∀ w ∈ l.filterMap g, WLe m w) : bestOf (l.map g) = some m := by
  refine best_eq (fun y hy => ?_) fun b e => ?_
  · obtain ⟨x, hx, rfl⟩ := List.mem_map.mp hy
    intro b e
    exact ⟨m, rfl, hle b (List.mem_filterMap.mpr ⟨x, hx, e⟩)⟩
  · obtain ⟨x, hx, e2⟩ := List.mem_filterMap.mp hm
    exact List.mem_map.mpr ⟨x, hx, e2⟩
abbrev s_Blocks_least_price : Stmt := inClass (topS 9) 4
abbrev N_Blocks_least_price : List Str := ["self", "found", "root"]
theorem sc_Blocks_least_price : FnScope N_Blocks_least_price ["self"] (defScope s_Blocks_least_price) := ⟨rfl, rfl, rfl, by decide +kernel, rfl, by decide +kernel, by decide +kernel⟩
-- slots: self:0 found:1 root:2   cells: self   calls: 
section
variable {P : Program} {w : World} {K : PySem.W.Frag} {mg : Str → Option Value} {base : Heap} {f : Addr} {fd : FuncData}
def spLeastP (K : PySem.W.Frag) (C : Addr) : Sp := fun vs H Q _ => ∃ (se fa na ba md wd : Addr) (fm : Fm) (names : List (List Str)) (tb : Tb) (n : Nat) (M : List Str → Option (List Nat)) (T : List Str → Option Tb) (t : Tb), vs = [.ref se] ∧ BkAt K H C se fa na ba md wd fm names tb n M T ∧
  T [] = some t ∧ ∀ H', Ex H H' → Q (oI ((bestOf (fm.roots.map (tf t))).map (·.1))) H'
theorem ok_least_price {C : Addr} (F : Fun K "least_price" "Blocks.least_price" s_Blocks_least_price f fd) (B : Blt mg) : FnOk P w K mg base CX0 1 f fd ["self"] (spLeastP K C) := by
  refine F.ok sc_Blocks_least_price (fun vs H Q E h => ?_) (fun cdv A outer s H vs Q E hr h => ?_)
  · obtain ⟨se, fa, na, ba, md, wd, fm, names, tb, n, M, T, t, rfl, _⟩ := h
    rfl
  obtain ⟨se, fa, na, ba, md, wd, fm, names, tb, n, M, T, t, rfl, b, hT, q⟩ := h
  refine ⟨_, (pss_cons (ps_setLc (i := 1) (own := [("root", 2)]) rfl sc_Blocks_least_price.nd rfl rfl (sw_true rfl rfl rfl (by decide +kernel)) (pi_seq (pe_ix ix_seq (pe_fld (pv 0) rfl) pe_int (fun _ _ => rfl))) (blkOk_by (N := N_Blocks_least_price) (sc := defScope s_Blocks_least_price) (by decide +kernel)) (fun _ _ _ _ _ => (pg_name (i := 2) sc_Blocks_least_price.nd rfl (Or.inl rfl))) (fun _ _ _ _ _ => (pts_one (pt_cmpR op_notN (pe_ix (r := rIx K) ix_seq (pe_dget (hu_le hr (by decide)) (pe_fldK K rfl (pv 0) rfl) (pe_tup pa_nil) (fun _ _ => rfl)) (pv 2) (fun _ _ => rfl)) pe_non (nomark _)))) (fun _ _ _ _ _ => (pe_ix (r := rIx K) ix_seq (pe_dget (hu_le hr (by decide)) (pe_fldK K rfl (pv 0) rfl) (pe_tup pa_nil) (fun _ _ => rfl)) (pv 2) (fun _ _ => rfl))))
  (pss_one (ps_ret (pe_ifExp (pt_truth (pv 1) (by intro _; rfl)) (pe_ix ix_seq (pe_callB (cr_minW rfl (hu_le hr (by decide))) (by rfl) B.min (by decide +kernel) (pa_cons (pv 1) pa_nil)) pe_int (fun _ _ => rfl)) pe_non)))), ?_⟩
  obtain ⟨dx, ho⟩ := b.obj
  obtain ⟨rr, bb, vs, h1, h2, h3, h4⟩ := b.fam.ex
  have c1 := b.cls
  have wf := b.wf
  refine .inr ⟨_, rfl, se, C, dx, _, _, rfl, ho, c1.cl, c1.f1, bf1, q_ixT1 h1 rfl ⟨rr, rfl, ⟨_, sqt h2⟩, fun D hD => lc_gT (prEx H) (R := fun H y (w : Wt) => OW H y (some w)) (fun _ _ _ _ k z => z.ts k) (bs := fm.roots) (φ := fun r => tf t r) (by have := wf.nr; exact small1000 (by omega)) hD h2 (by rw [List.length_map]) (fun i x r H1 hx hr' k N no yes => ?_) (fun H1 acc k ha al => ?_)⟩⟩
  · obtain ⟨r', hr1, rfl⟩ := map_at hx
    have hrr : r' = r := by rw [hr1] at hr'; exact Option.some.inj hr'
    subst hrr
    have hrc : r' < t.length := by rw [b.tl _ _ hT]; exact wf.roots r' (List.mem_of_getElem? hr1)
    have go : ∀ (H2 : Hp) (Q : VK), Ex H H2 → (∀ y H3, Ex H2 H3 → OW H3 y (tf t r') → Q y H3) → ∃ v, [some (V.ref se), none, some (nI r')][0]? = some (some v) ∧ ∃ a C dx fs v2, v = .ref a ∧ H2 a = some (.ins C dx fs) ∧ Cls K C ∧ NoAttr K C "_weights" ∧ fs.lookup ("_weights" : Str) = some v2 ∧
        (0 ≤ sizeLine ∧ ∀ p, H2 p = none → ∃ a v, v2 = .ref a ∧ DGet (upd H2 p (.tup [])) a (.ref p) (some v) ∧ ∃ v3, [some (V.ref se), none, some (nI r')][2]? = some (some v3) ∧ rIx K v v3 (upd H2 p (.tup [])) Q) := fun H2 Q k2 fin => by
      refine ⟨_, rfl, se, C, dx, _, _, rfl, k2.old _ _ ho, c1.cl, c1.f5, bf5, (by decide), fun p hp => ?_⟩
      have k3 := k2.nw hp (.tup [])
      obtain ⟨_, hg, l, xs, rfl, hl, al⟩ := (b.ex k3).wts.get (p := []) hT upd_same
      obtain ⟨y, hy, hoy⟩ := al.get (tb_at hrc)
      exact ⟨wd, _, rfl, hg, _, rfl, q_ixL hl hy (fin y _ (.new hp _) hoy)⟩
    refine ⟨rfl, go H1 _ k fun y H2 k2 hy => ⟨rfl, _, rfl, ?_⟩⟩
    rw [hy.isn]
    cases e : tf t r' with
    | none => exact ite_ff (no _ k2 e)
    | some w =>
      exact ite_tt (go H2 _ (k.trans k2) fun y3 H3 k3 hy3 => yes _ _ _ (k2.trans k3) e (by have z := hy3; rw [e] at z; exact z))
  · refine ⟨_, rfl, _, .inl ⟨acc, sql ha, rfl⟩, ?_⟩
    cases acc with
    | nil =>
      refine ite_ff ?_
      have := q H1 k
      rw [best_none (l := fm.roots.map (tf t)) (fun y hy => fm_none (by have := al.len; exact List.length_eq_zero_iff.mp this.symm) hy)] at this
      exact this
    | cons a0 acc =>
      refine ite_tt ⟨_, rfl, D, _, _, rfl, sql ha, al, (fun z => by rw [z] at al; cases al), fun v m hm hle hv => ?_⟩
      obtain ⟨b, rfl, hb⟩ := hv
      refine q_ixT0 hb rfl ?_
      have := q H1 k
      rw [best_min hm hle] at this
      exact this
end
end K81
/-! ## WG -/
namespace K81
open PySem PySem.Spec PyProof.Rows L2

theorem tabs_upd {T : List (Addr × Str)} {H : Hp} {p : Addr} {u o : HO} (hp : H p = some u) (n1 : ∀ ps, u ≠ .tbl ps) (n2 : ∀ c q, u ≠ LamX.CodeO c q) (h : LamX.Tabs T H) : LamX.Tabs T (upd H p o) := by
  intro x hx
  obtain ⟨ps, h1, h2, h3⟩ := h x hx
  have nP : x.1 ≠ p := fun z => by rw [z, hp] at h1; exact n1 ps (Option.some.inj h1)
  refine ⟨ps, by rw [upd_ne nP]; exact h1, h2, fun pos cv hc => ?_⟩
  obtain ⟨c, e1, e2⟩ := h3 pos cv hc
  have nc : c ≠ p := fun z => by rw [z, hp] at e2; exact n2 _ _ (Option.some.inj e2)
  exact ⟨c, e1, by rw [upd_ne nc]; exact e2⟩
/-- all but the object at se (and the tables) stays -/
structure IR (T : List (Addr × Str)) (se : Addr) (H H' : Hp) : Prop where
  old : ∀ b o, b ≠ se → H b = some o → (∀ ps, o ≠ .tbl ps) → H' b = some o
  tab : LamX.Tabs T H → LamX.Tabs T H'
section
variable {T : List (Addr × Str)} {se p : Addr} {H A B : Hp}
theorem IR.refl : IR T se H H := ⟨fun _ _ _ h _ => h, fun h => h⟩
theorem IR.kp (a : IR T se H A) (k : Kp T A B) : IR T se H B := ⟨fun b o n h t => k.old _ _ (a.old b o n h t) t, fun h => k.tab (a.tab h)⟩
theorem IR.at_ {C dx C' dx' : Addr} {fs fs' : List (Str × V)} (a : IR T se H A) (h : A se = some (.ins C dx fs)) : IR T se H (upd A se (.ins C' dx' fs')) :=
  ⟨fun b o n e t => by rw [upd_ne n]; exact a.old b o n e t, fun q => tabs_upd h (fun _ z => by cases z) (fun _ _ z => by unfold LamX.CodeO at z; cases z) (a.tab q)⟩
theorem IR.dt {kvs kvs' : List (List L2.Key × V)} (a : IR T se H A) (n : Nw H p) (h : A p = some (.dT kvs)) : IR T se H (upd A p (.dT kvs')) :=
  ⟨fun b o n' e t => by rw [upd_ne (n.ne e t)]; exact a.old b o n' e t, fun q => tabs_upd h (fun _ z => by cases z) (fun _ _ z => by unfold LamX.CodeO at z; cases z) (a.tab q)⟩
theorem IR.nw (a : IR T se H A) (ne : p ≠ se) (h : A p = none) : Nw H p := fun o e => by
  apply Classical.byContradiction
  intro n
  rw [a.old p o ne e fun ps z => n ⟨ps, z⟩] at h
  cases h
end
/-- a dict by paths was changed -/
theorem ts_dt {H : Hp} {p : Addr} {kvs kvs' : List (List L2.Key × V)} (h : H p = some (.dT kvs)) : Tps H (upd H p (.dT kvs')) := fun b xs q => by rw [upd_ne (ne_of q h (by intro z; cases z))]; exact q
theorem fs_dt {H : Hp} {p : Addr} {kvs kvs' : List (List L2.Key × V)} (h : H p = some (.dT kvs)) : Fzs H (upd H p (.dT kvs')) := fun b o u q => by rw [upd_ne (ne_of q h (by intro z; cases z))]; exact q
theorem ls_dt {H : Hp} {p b : Addr} {kvs kvs' : List (List L2.Key × V)} {xs : List V} (h : H p = some (.dT kvs)) (q : H b = some (.lst xs)) : upd H p (.dT kvs') b = some (.lst xs) := by rw [upd_ne (ne_of q h (by intro z; cases z))]; exact q
theorem in_dt {H : Hp} {p b : Addr} {kvs kvs' : List (List L2.Key × V)} {C dx : Addr} {fs : List (Str × V)} (h : H p = some (.dT kvs)) (q : H b = some (.ins C dx fs)) : upd H p (.dT kvs') b = some (.ins C dx fs) := by rw [upd_ne (ne_of q h (by intro z; cases z))]; exact q
theorem LsI.dt {H : Hp} {p : Addr} {kvs kvs' : List (List L2.Key × V)} {x : V} {l : List Nat} (h : H p = some (.dT kvs)) (q : LsI H x l) : LsI (upd H p (.dT kvs')) x l := let ⟨a, e, r⟩ := q; ⟨a, e, ls_dt h r⟩
theorem LsW.dt {H : Hp} {p : Addr} {kvs kvs' : List (List L2.Key × V)} {x : V} {l : Tb} (h : H p = some (.dT kvs)) (q : LsW H x l) : LsW (upd H p (.dT kvs')) x l := let ⟨a, xs, e, r, al⟩ := q; ⟨a, xs, e, ls_dt h r, al.mono fun _ _ z => z.ts (ts_dt h)⟩
theorem IR.ts {T : List (Addr × Str)} {se : Addr} {H A : Hp} {C dx : Addr} {fs : List (Str × V)} (a : IR T se H A) (h : H se = some (.ins C dx fs)) : Tps H A := fun b xs q => a.old b _ (ne_of q h (by intro z; cases z)) q (by intro ps z; cases z)
theorem IR.fs {T : List (Addr × Str)} {se : Addr} {H A : Hp} {C dx : Addr} {fs : List (Str × V)} (a : IR T se H A) (h : H se = some (.ins C dx fs)) : Fzs H A := fun b o u q => a.old b _ (ne_of q h (by intro z; cases z)) q (by intro ps z; cases z)
theorem PathsOk.short {D : List Dem} {ps : List (List Str)} (h : PathsOk D ps) (d : DsOk D) {p : List Str} (hp : p ∈ ps) : p.length ≤ 4 ∧ WsOk p := by
  rcases (h.mem p).mp hp with e | e
  · subst e; exact ⟨by simp, fun x hx => (nomatch hx)⟩
  · obtain ⟨q, hq, e⟩ := hasPre_iff.mp e
    refine ⟨?_, fun x hx => (d.each q hq).2.1 x (List.mem_of_mem_take (by rw [e]; exact hx))⟩
    have := congrArg List.length e
    rw [List.length_take] at this
    have := (d.each q hq).1
    omega
theorem DcT.le {α : Type} {R : Hp → V → α → Prop} {n m : Nat} {H : Hp} {d : Addr} {T : List Str → Option α} (h : DcT R n H d T) (l : n ≤ m) : DcT R m H d T := let ⟨kvs, h1, h2, h3⟩ := h; ⟨kvs, h1, Nat.le_trans h2 l, h3⟩
section
variable {K : PySem.W.Frag} {H : Hp} {C se fa na ba md wd : Addr} {f : Fm} {names : List (List Str)} {tb : Tb} {n : Nat} {M M' : List Str → Option (List Nat)} {T T' : List Str → Option Tb} {kvs kvs' : List (List L2.Key × V)}
theorem BkAt.putM (b : BkAt K H C se fa na ba md wd f names tb n M T) (h : H md = some (.dT kvs)) (ne : md ≠ wd) (m : DcT LsI (n + 1) (upd H md (.dT kvs')) md M') : BkAt K (upd H md (.dT kvs')) C se fa na ba md wd f names tb (n + 1) M' T :=
  { obj := let ⟨dx, e⟩ := b.obj; ⟨dx, in_dt h e⟩, cls := b.cls, fam := b.fam.ts (ts_dt h), wf := b.wf, nms := b.nms.ts (ts_dt h) (fs_dt h), nok := b.nok, nlen := b.nlen, nl := b.nl,
    bs := let ⟨xs, e, al⟩ := b.bs; ⟨xs, ts_dt h _ _ e, al.mono fun _ _ z => z.ts (ts_dt h)⟩, bl := b.bl, mem := m, wts := (b.wts.mono (fun _ e => by rw [upd_ne ne.symm]; exact e) fun _ _ z => z.dt h).le (Nat.le_succ n), tl := b.tl }
theorem BkAt.putW (b : BkAt K H C se fa na ba md wd f names tb n M T) (h : H wd = some (.dT kvs)) (ne : md ≠ wd) (m : DcT LsW (n + 1) (upd H wd (.dT kvs')) wd T') (tl : ∀ p t, T' p = some t → t.length = f.count) : BkAt K (upd H wd (.dT kvs')) C se fa na ba md wd f names tb (n + 1) M T' :=
  { obj := let ⟨dx, e⟩ := b.obj; ⟨dx, in_dt h e⟩, cls := b.cls, fam := b.fam.ts (ts_dt h), wf := b.wf, nms := b.nms.ts (ts_dt h) (fs_dt h), nok := b.nok, nlen := b.nlen, nl := b.nl,
    bs := let ⟨xs, e, al⟩ := b.bs; ⟨xs, ts_dt h _ _ e, al.mono fun _ _ z => z.ts (ts_dt h)⟩, bl := b.bl, mem := (b.mem.mono (fun _ e => by rw [upd_ne ne]; exact e) fun _ _ z => z.dt h).le (Nat.le_succ n), wts := m, tl := tl }
end
abbrev s_Blocks_init : Stmt := inClass (topS 9) 0
abbrev N_Blocks_init : List Str := ["self", "family", "names", "demands", "base", "paths", "path"]
theorem sc_Blocks_init : FnScope N_Blocks_init ["self", "family", "names", "demands", "base"] (defScope s_Blocks_init) := ⟨rfl, rfl, rfl, by decide +kernel, rfl, by decide +kernel, by decide +kernel⟩
-- slots: self:0 family:1 names:2 demands:3 base:4 paths:5 path:6   calls: copies_at paths_of
section
variable {P : Program} {w : World} {K : PySem.W.Frag} {mg : Str → Option Value} {base : Heap} {f P1 P2 C : Addr} {fd : FuncData}
/-- what the program's defs are handed: a family, the names of its slots, the weights without demands -/
structure Given (H : Hp) (fa na ba : Addr) (fm : Fm) (names : List (List Str)) (tb : Tb) : Prop where
  fam : FamAt H fa fm
  wf : fm.Wf
  nms : NamesAt H na names
  nok : NmsOk names
  nlen : NamesOk fm names
  nl : names.length = fm.vars.length
  bs : ∃ xs, H ba = some (.tup xs) ∧ All2 (OW H) xs tb
  bl : tb.length = fm.count
  fx : IsFix fm (tf tb)
theorem Given.ts {H H' : Hp} {fa na ba : Addr} {fm : Fm} {names : List (List Str)} {tb : Tb} (t : Tps H H') (z : Fzs H H') (g : Given H fa na ba fm names tb) : Given H' fa na ba fm names tb where
  fam := g.fam.ts t
  wf := g.wf
  nms := g.nms.ts t z
  nok := g.nok
  nlen := g.nlen
  nl := g.nl
  bs := let ⟨xs, e, al⟩ := g.bs; ⟨xs, t _ _ e, al.mono fun _ _ q => q.ts t⟩
  bl := g.bl
  fx := g.fx
def spInit (K : PySem.W.Frag) (P1 P2 C : Addr) : Sp := fun vs H Q _ => ∃ (se fa na da ba dx : Addr) (fm : Fm) (names : List (List Str)) (D : List Dem) (tb : Tb), vs = [.ref se, .ref fa, .ref na, .ref da, .ref ba] ∧ H se = some (.ins C dx []) ∧ BC K C ∧ Given H fa na ba fm names tb ∧ DsAt H da D ∧ DsOk D ∧ LamX.Tabs (TL P1 P2) H ∧
  ∀ H' md wd n M T t, IR (TL P1 P2) se H H' → BkAt K H' C se fa na ba md wd fm names tb n M T → T [] = some t → (∀ s, tf t s = lp fm names D (tf tb) 5 s []) → Q .non H'
theorem ok_init (F : Fun K "__init__" "Blocks.__init__" s_Blocks_init f fd) (B : Blt mg) (c_paths_of : Cal P w K mg base 2 "paths_of" ["demands"] (spPaths P1 P2)) (c_copies_at : Cal P w K mg base 1 "copies_at" ["names", "demands", "paths", "path"] spCopies) (c_weights_at : MCal P w K mg base C 3 "weights_at" ["self", "path"] (spWsAt K C)) :
    FnOk P w K mg base CX0 4 f fd ["self", "family", "names", "demands", "base"] (spInit K P1 P2 C) := by
  refine F.ok sc_Blocks_init (fun vs H Q E h => ?_) (fun cdv A outer s H vs Q E hr h => ?_)
  · obtain ⟨se, fa, na, da, ba, dx, fm, names, D, tb, rfl, _⟩ := h
    rfl
  obtain ⟨se, fa, na, da, ba, dx, fm, names, D, tb, rfl, hse, c1, g, hD, dok, hT, q⟩ := h
  refine ⟨_, (pss_cons (ps_fld (pv 0) (pv 1) rfl)
  (pss_cons (ps_fld (pv 0) (pv 2) rfl)
  (pss_cons (ps_fld (pv 0) (pv 4) rfl)
  (pss_cons (ps_fld (pv 0) pe_dnewT rfl)
  (pss_cons (ps_fld (pv 0) pe_dnewT rfl)
  (pss_cons (ps_set (i := 5) sc_Blocks_init.nd rfl (Or.inl rfl) (pe_cal c_paths_of (hr.mono (by omega)) (by rfl) (pa_cons (pv 3) pa_nil)))
  (pss_one (ps_for PassesOwn.never rfl (pi_seq (pe_revT (pv 5))) (pg_name (i := 6) sc_Blocks_init.nd rfl (Or.inl rfl)) (pss_cons (ps_dput (hu_le hr (by decide)) (pe_fld (pv 0) rfl) (pv 6) (pe_cal c_copies_at (hr.mono (by omega)) (by rfl) (pa_cons (pv 2) (pa_cons (pv 3) (pa_cons (pv 5) (pa_cons (pv 6) pa_nil))))) rfl)
  (pss_one (ps_dput (hu_le hr (by decide)) (pe_fld (pv 0) rfl) (pv 6) (pe_mcal (pv 0) c_weights_at (hr.mono (by omega)) (pa_cons (pv 6) pa_nil)) rfl))))))))))), ?_⟩
  refine ⟨_, rfl, _, rfl, se, C, dx, [], rfl, hse, c1.cl, c1.f1, (by show 0 < 1000; decide), ?_⟩
  have r1 : IR (TL P1 P2) se H _ := IR.refl.at_ (C' := C) (dx' := dx) (fs' := putF "_family" (.ref fa) []) hse
  refine ⟨_, rfl, _, rfl, se, C, dx, _, rfl, upd_same, c1.cl, c1.f2, (by show 1 < 1000; decide), ?_⟩
  have r2 := r1.at_ (C' := C) (dx' := dx) (fs' := putF "names" (.ref na) (putF "_family" (.ref fa) [])) upd_same
  refine ⟨_, rfl, _, rfl, se, C, dx, _, rfl, upd_same, c1.cl, c1.f3, (by show 2 < 1000; decide), ?_⟩
  have r3 := r2.at_ (C' := C) (dx' := dx) (fs' := putF "base" (.ref ba) (putF "names" (.ref na) (putF "_family" (.ref fa) []))) upd_same
  have s3 : ∀ (H : Hp) (o : HO), (upd H se o) se = some o := fun _ _ => upd_same
  replace s3 := s3 (upd (upd H se (.ins C dx (putF "_family" (.ref fa) []))) se (.ins C dx (putF "names" (.ref na) (putF "_family" (.ref fa) [])))) (.ins C dx (putF "base" (.ref ba) (putF "names" (.ref na) (putF "_family" (.ref fa) []))))
  show tSeq _ _ _ _ (upd (upd (upd H se _) se _) se (.ins C dx (putF "base" (.ref ba) (putF "names" (.ref na) (putF "_family" (.ref fa) [])))))
  generalize upd (upd (upd H se (.ins C dx (putF "_family" (.ref fa) []))) se (.ins C dx (putF "names" (.ref na) (putF "_family" (.ref fa) [])))) se (.ins C dx (putF "base" (.ref ba) (putF "names" (.ref na) (putF "_family" (.ref fa) [])))) = H3 at r3 s3 ⊢
  refine fun md hmd => ?_
  have nmd : Nw H md := r3.nw (ne_of_none s3 hmd).symm hmd
  have r4 := r3.kp ((Ex.new hmd (.dT [])).kp (TL P1 P2))
  have s4 := (Ex.new hmd (.dT [])).old _ _ s3
  have d4 : upd H3 md (.dT []) md = some (.dT []) := upd_same
  generalize upd H3 md (.dT []) = H4 at r4 s4 d4 ⊢
  refine ⟨_, rfl, se, C, dx, _, rfl, s4, c1.cl, c1.f4, (by show 3 < 1000; decide), ?_⟩
  have r5 := r4.at_ (C' := C) (dx' := dx) (fs' := putF "members" (.ref md) (putF "base" (.ref ba) (putF "names" (.ref na) (putF "_family" (.ref fa) [])))) s4
  have s5 : upd H4 se (.ins C dx (putF "members" (.ref md) (putF "base" (.ref ba) (putF "names" (.ref na) (putF "_family" (.ref fa) []))))) se = _ := upd_same
  have d5 : upd H4 se (.ins C dx (putF "members" (.ref md) (putF "base" (.ref ba) (putF "names" (.ref na) (putF "_family" (.ref fa) []))))) md = some (.dT []) := by rw [upd_ne (ne_of d4 s4 (by intro z; cases z))]; exact d4
  generalize upd H4 se (.ins C dx (putF "members" (.ref md) (putF "base" (.ref ba) (putF "names" (.ref na) (putF "_family" (.ref fa) []))))) = H5 at r5 s5 d5 ⊢
  refine fun wd hwd => ?_
  have nwd : Nw H wd := r5.nw (ne_of_none s5 hwd).symm hwd
  have r6 := r5.kp ((Ex.new hwd (.dT [])).kp (TL P1 P2))
  have s6 := (Ex.new hwd (.dT [])).old _ _ s5
  have d6 := (Ex.new hwd (.dT [])).old _ _ d5
  have w6 : upd H5 wd (.dT []) wd = some (.dT []) := upd_same
  have nmw : md ≠ wd := ne_of_none d5 hwd
  generalize upd H5 wd (.dT []) = H6 at r6 s6 d6 w6 ⊢
  refine ⟨_, rfl, se, C, dx, _, rfl, s6, c1.cl, c1.f5, (by show 4 < 1000; decide), ?_⟩
  have r7 := r6.at_ (C' := C) (dx' := dx) (fs' := bfs fa na ba md wd) s6
  have s7 : upd H6 se (.ins C dx (bfs fa na ba md wd)) se = some (.ins C dx (bfs fa na ba md wd)) := upd_same
  have d7 : upd H6 se (.ins C dx (bfs fa na ba md wd)) md = some (.dT []) := by rw [upd_ne (ne_of d6 s6 (by intro z; cases z))]; exact d6
  have w7 : upd H6 se (.ins C dx (bfs fa na ba md wd)) wd = some (.dT []) := by rw [upd_ne (ne_of w6 s6 (by intro z; cases z))]; exact w6
  show tSeq _ _ _ _ (upd H6 se (.ins C dx (bfs fa na ba md wd)))
  generalize upd H6 se (.ins C dx (bfs fa na ba md wd)) = H7 at r7 s7 d7 w7 ⊢
  refine ⟨_, rfl, da, D, rfl, r7.tab hT, hD.ts (r7.ts hse), dok, fun pa H8 px ps k8 hpa hps pok => ?_⟩
  have r8 := r7.kp k8
  have s8 := k8.old _ _ s7 (by intro ps z; cases z)
  have d8 := k8.old _ _ d7 (by intro ps z; cases z)
  have w8 := k8.old _ _ w7 (by intro ps z; cases z)
  have ts8 := r8.ts hse
  have fs8 := r8.fs hse
  refine .inr ⟨_, rfl, pa, px, rfl, sqt hpa, fun ra hra => ⟨ra, rfl, ⟨_, sqt upd_same⟩, ?_⟩⟩
  have r9 := r8.kp ((Ex.new hra (.tup px.reverse)).kp (TL P1 P2))
  have x9 := Ex.new hra (.tup px.reverse)
  have hra9 : upd H8 ra (.tup px.reverse) ra = some (.tup px.reverse) := upd_same
  generalize upd H8 ra (.tup px.reverse) = H9 at r9 x9 hra9 ⊢
  have b9 : BkAt K H9 C se fa na ba md wd fm names tb (2 * 0) (fun _ => none) (fun _ => none) :=
    { obj := ⟨dx, x9.old _ _ s8⟩, cls := c1, fam := (g.fam.ts ts8).ts x9.ts, wf := g.wf, nms := (g.nms.ts ts8 fs8).ts x9.ts x9.fs, nok := g.nok, nlen := g.nlen, nl := g.nl,
      bs := let ⟨xs, e, al⟩ := g.bs; ⟨xs, x9.old _ _ (ts8 _ _ e), (al.mono fun _ _ z => z.ts ts8).mono fun _ _ z => z.ts x9.ts⟩, bl := g.bl, mem := .new (x9.old _ _ d8), wts := .new (x9.old _ _ w8), tl := fun _ _ z => (by cases z) }
  have hpsr : All2 (TupS H9) px.reverse ps.reverse := (hps.mono fun _ _ z => z.ts x9.ts).rev
  have hps9 := hps.mono fun _ _ z => TupS.ts x9.ts z
  have hpa9 := x9.old _ _ hpa
  have hD9 := (hD.ts ts8).ts x9.ts
  have hpl := pok.len
  refine for_tup (xs := px.reverse) (fun i σ H' => ∃ (e6 : Option V) (M : List Str → Option (List Nat)) (T : List Str → Option Tb), σ = [some (.ref se), some (.ref fa), some (.ref na), some (.ref da), some (.ref ba), some (.ref pa), e6] ∧ IR (TL P1 P2) se H H' ∧ Tps H9 H' ∧
      BkAt K H' C se fa na ba md wd fm names tb (2 * i) M T ∧ Told fm names D tb T (ps.reverse.take i))
    ⟨none, _, _, rfl, r9, .refl _, b9, .start⟩ (fun i σ H' _ h => by obtain ⟨_, _, _, _, _, t, _⟩ := h; exact sqt (t _ _ hra9)) (fun i x σ H' hx h => ?_) (fun σ H' h => ?_)
  · obtain ⟨e6, M, T, rfl, r, t9, bk, td⟩ := h
    obtain ⟨p, hp, qa, rfl, hqa9⟩ := hpsr.getL hx
    have hil : i < 40 := by
      have := (List.getElem?_eq_some_iff.mp hp).1
      rw [List.length_reverse] at this; omega
    have pm : p ∈ ps := List.mem_reverse.mp (List.mem_of_getElem? hp)
    obtain ⟨pl4, pws⟩ := pok.short dok pm
    have hqa := t9 _ _ hqa9
    refine ⟨_, rfl, _, rfl, _, rfl, _, rfl, na, da, pa, qa, names, D, px, ps, p, rfl, bk.nms, bk.nok, hD9.ts t9, dok, t9 _ _ hpa9, hps9.mono fun _ _ z => z.ts t9, pok, hqa, pws, fun q hq => (pok.short dok hq).2, fun rm H1 k1 nrm hrm => ?_⟩
    have b1 := bk.ex k1
    have hqa1 := k1.old _ _ hqa
    obtain ⟨dx1, s1⟩ := b1.obj
    obtain ⟨kvs0, hm0, _⟩ := id b1.mem
    obtain ⟨H2, dp, ⟨kvs, kvs', hk, rfl⟩, dc⟩ := b1.mem.put (v := .ref rm) (t := members fm names D p) hqa1 (by omega) (fun kvs v t z => z.dt hm0) ⟨rm, rfl, by rw [hrm, bk.nl]; rfl⟩
    refine ⟨_, rfl, se, C, dx1, _, _, rfl, s1, c1.cl, c1.f4, bf4, _, rfl, md, _, rfl, dp, ?_⟩
    have b2 := b1.putM hk nmw dc
    have r2' := (r.kp (k1.kp _)).dt (kvs' := kvs') nmd hk
    have t2 := (t9.trans k1.ts).trans (ts_dt (kvs' := kvs') hk)
    have hqa2 := ts_dt (kvs' := kvs') hk _ _ hqa1
    generalize upd H1 md (.dT kvs') = H2 at b2 r2' t2 hqa2 ⊢
    obtain ⟨dx2, s2⟩ := b2.obj
    refine ⟨_, rfl, se, dx2, _, rfl, s2, bfm3, _, rfl, se, fa, na, ba, md, wd, qa, fm, names, tb, _, _, T, p, members fm names D p, rfl, b2, if_pos rfl, fun k hk => members_lt hk, hqa2, by omega, fun rw_ H3 xw k3 nrw hrw alw => ?_⟩
    have b3 := b2.ex k3
    have hqa3 := k3.old _ _ hqa2
    obtain ⟨dx3, s3'⟩ := b3.obj
    obtain ⟨kvs1, hw0, _⟩ := id b3.wts
    obtain ⟨H4', dp2, ⟨kvs2, kvs2', hk2, rfl⟩, dc2⟩ := b3.wts.put (v := .ref rw_) (t := wTab fm names D (recT T tb) p) hqa3 (by omega) (fun kvs v t z => z.dt hw0) ⟨rw_, xw, rfl, hrw, alw⟩
    refine ⟨_, rfl, se, C, dx3, _, _, rfl, s3', c1.cl, c1.f5, bf5, _, rfl, wd, _, rfl, dp2, ?_⟩
    have b4' := b3.putW hk2 nmw dc2 (fun q t e => by
      by_cases eq : q = p
      · rw [if_pos eq] at e
        rw [← Option.some.inj e]
        exact wTab_len g.wf
      · rw [if_neg eq] at e
        exact b3.tl q t e)
    refine ⟨_, _, _, rfl, (r2'.kp (k3.kp _)).dt nwd hk2, (t2.trans k3.ts).trans (ts_dt hk2), b4', ?_⟩
    have td' := td.step (p := p) g.wf g.fx g.nlen pl4 fun x hx => by
      refine rev_done pok.ord hp ((pok.mem _).mpr (.inr hx)) ?_
      rw [List.length_append, List.length_singleton]; omega
    rw [take_succ_some hp]
    exact td'
  · obtain ⟨e6, M, T, rfl, r, t9, bk, td⟩ := h
    have hl : px.reverse.length = ps.reverse.length := hpsr.len
    rw [hl, List.take_length] at td
    obtain ⟨t, e1, e2, e3⟩ := td.yes [] (List.mem_reverse.mpr ((pok.mem []).mpr (.inl rfl)))
    exact q H' md wd _ M T t r bk e1 e3
end
end K81
/-! ## WH -/
namespace K81
open PySem PySem.Spec PyProof.Rows L2

def wi (p b : Option Nat) : Bool := match p with
  | none => false
  | some x => match b with
    | none => true
    | some y => decide (x ≤ y)
theorem within_wi (o : Option Wt) (b : Option Nat) : within o b = wi (o.map (·.1)) b := by
  cases o with
  | none => rfl
  | some w => cases b <;> rfl
abbrev s_is_within : Stmt := topS 11
abbrev N_is_within : List Str := ["price", "budget"]
theorem sc_is_within : FnScope N_is_within ["price", "budget"] (defScope s_is_within) := ⟨rfl, rfl, rfl, by decide +kernel, rfl, by decide +kernel, by decide +kernel⟩
-- slots: price:0 budget:1   calls: 
section
variable {P : Program} {w : World} {K : PySem.W.Frag} {mg : Str → Option Value} {base : Heap} {f : Addr} {fd : FuncData}
def spWithin : Sp := fun vs H Q _ => ∃ p b : Option Nat, vs = [oI p, oI b] ∧ Q (.bl (wi p b)) H
theorem ok_is_within (F : Fun K "is_within" "is_within" s_is_within f fd) : FnOk P w K mg base CX0 1 f fd ["price", "budget"] spWithin := by
  refine F.ok sc_is_within (fun vs H Q E h => ?_) (fun cdv A outer s H vs Q E hr h => ?_)
  · obtain ⟨p, b, rfl, _⟩ := h
    rfl
  obtain ⟨p, b, rfl, q⟩ := h
  refine ⟨_, (pss_one (ps_ret (pe_and (pe_cmpR op_notN (pv 0) pe_non (nomark _)) (pe_one (pe_or (pe_cmpR op_isN (pv 1) pe_non (nomark _)) (pe_one (pe_cmpR op_le (pv 0) (pv 1) (nomark _)))))))), ?_⟩
  refine ⟨_, rfl, rfl, _, rfl, ?_⟩
  cases p with
  | none => exact ite_f rfl q
  | some x =>
    refine ite_t rfl ⟨_, rfl, rfl, _, rfl, ?_⟩
    cases b with
    | none => exact ite_t rfl q
    | some y =>
      refine ite_f rfl ⟨_, rfl, _, rfl, _, _, rfl, rfl, ?_⟩
      have : decide ((x : Int) ≤ (y : Int)) = decide (x ≤ y) := by simp
      show Q (.bl (decide ((x : Int) ≤ (y : Int)))) H
      rw [this]; exact q
end
abbrev s_fits : Stmt := topS 12
abbrev N_fits : List Str := ["family", "names", "demands", "budget", "base"]
theorem sc_fits : FnScope N_fits ["family", "names", "demands", "budget", "base"] (defScope s_fits) := ⟨rfl, rfl, rfl, by decide +kernel, rfl, by decide +kernel, by decide +kernel⟩
-- slots: family:0 names:1 demands:2 budget:3 base:4   calls: is_within
abbrev s_is_feasible : Stmt := topS 13
abbrev N_is_feasible : List Str := ["family", "names", "demands", "budget"]
theorem sc_is_feasible : FnScope N_is_feasible ["family", "names", "demands", "budget"] (defScope s_is_feasible) := ⟨rfl, rfl, rfl, by decide +kernel, rfl, by decide +kernel, by decide +kernel⟩
-- slots: family:0 names:1 demands:2 budget:3   calls: fits least_weights
section
variable {P : Program} {w : World} {K : PySem.W.Frag} {mg : Str → Option Value} {base : Heap} {f P1 P2 C : Addr} {fd : FuncData}
def spFits (P1 P2 : Addr) : Sp := fun vs H Q _ => ∃ (fa na da ba : Addr) (fm : Fm) (names : List (List Str)) (D : List Dem) (tb : Tb) (bud : Option Nat), vs = [.ref fa, .ref na, .ref da, oI bud, .ref ba] ∧ Given H fa na ba fm names tb ∧ DsAt H da D ∧ DsOk D ∧ LamX.Tabs (TL P1 P2) H ∧
  ∀ H', Kp (TL P1 P2) H H' → Q (.bl (feas fm names D (tf tb) bud)) H'
theorem ok_fits (F : Fun K "fits" "fits" s_fits f fd) (c1 : BC K C) (c_is_within : Cal P w K mg base 1 "is_within" ["price", "budget"] spWithin) (c_Blocks : MkC P w K mg base C 4 "Blocks" ["self", "family", "names", "demands", "base"] (spInit K P1 P2 C))
    (c_least_price : MCal P w K mg base C 1 "least_price" ["self"] (spLeastP K C)) : FnOk P w K mg base CX0 6 f fd ["family", "names", "demands", "budget", "base"] (spFits P1 P2) := by
  refine F.ok sc_fits (fun vs H Q E h => ?_) (fun cdv A outer s H vs Q E hr h => ?_)
  · obtain ⟨fa, na, da, ba, fm, names, D, tb, bud, rfl, _⟩ := h
    rfl
  obtain ⟨fa, na, da, ba, fm, names, D, tb, bud, rfl, g, hD, dok, hT, q⟩ := h
  refine ⟨_, (pss_one (ps_ret (pe_cal c_is_within (hr.mono (by omega)) (by rfl) (pa_cons (pe_mcal0 (pe_mkc c_Blocks (hr.mono (by omega)) (by rfl) (pa_cons (pv 0) (pa_cons (pv 1) (pa_cons (pv 2) (pa_cons (pv 4) pa_nil))))) c_least_price (hr.mono (by omega))) (pa_cons (pv 3) pa_nil))))), ?_⟩
  refine ⟨_, rfl, _, rfl, _, rfl, _, rfl, fun x dx hx hdx ne => ?_⟩
  have e1 : Ex H (upd (upd H dx (.own x)) x (.ins C dx [])) := (Ex.new hdx _).nw (by rw [upd_ne ne.symm]; exact hx) _
  refine ⟨x, fa, na, da, ba, dx, fm, names, D, tb, rfl, upd_same, c1, g.ts e1.ts e1.fs, hD.ts e1.ts, dok, hT.ext e1.old, fun H' md wd n M T t r b e e2 => ⟨rfl, ?_⟩⟩
  have kp : Kp (TL P1 P2) H H' := ⟨fun b o h n => r.old b o (ne_of_none h hx) (e1.old _ _ h) n, fun h => r.tab (h.ext e1.old)⟩
  obtain ⟨dx', hx'⟩ := b.obj
  refine ⟨x, dx', _, rfl, hx', bfm4, x, fa, na, ba, md, wd, fm, names, tb, n, M, T, t, rfl, b, e, fun H2 k2 => ?_⟩
  refine ⟨_, rfl, _, bud, rfl, ?_⟩
  have := q H2 (kp.trans (k2.kp _))
  unfold feas at this
  rw [lightest_of e2, within_wi] at this
  exact this
/-- a family and the names of its slots -/
structure GivenN (H : Hp) (fa na : Addr) (fm : Fm) (names : List (List Str)) : Prop where
  fam : FamAt H fa fm
  wf : fm.Wf
  nms : NamesAt H na names
  nok : NmsOk names
  nlen : NamesOk fm names
  nl : names.length = fm.vars.length
theorem GivenN.ts {H H' : Hp} {fa na : Addr} {fm : Fm} {names : List (List Str)} (t : Tps H H') (z : Fzs H H') (g : GivenN H fa na fm names) : GivenN H' fa na fm names :=
  ⟨g.fam.ts t, g.wf, g.nms.ts t z, g.nok, g.nlen, g.nl⟩
theorem GivenN.with_ {H : Hp} {fa na ba : Addr} {fm : Fm} {names : List (List Str)} {xs : List V} (g : GivenN H fa na fm names) (h : H ba = some (.tup xs)) (al : All2 (OW H) xs (lw fm)) : Given H fa na ba fm names (lw fm) :=
  ⟨g.fam, g.wf, g.nms, g.nok, g.nlen, g.nl, ⟨xs, h, al⟩, lw_len g.wf, lw_fix g.wf⟩
/-- feasible -/
def fe (fm : Fm) (names : List (List Str)) (bud : Option Nat) (D : List Dem) : Bool := feas fm names D (tf (lw fm)) bud
def spFeas (P1 P2 : Addr) : Sp := fun vs H Q _ => ∃ (fa na da : Addr) (fm : Fm) (names : List (List Str)) (D : List Dem) (bud : Option Nat), vs = [.ref fa, .ref na, .ref da, oI bud] ∧ GivenN H fa na fm names ∧ DsAt H da D ∧ DsOk D ∧ LamX.Tabs (TL P1 P2) H ∧
  ∀ H', Kp (TL P1 P2) H H' → Q (.bl (fe fm names bud D)) H'
theorem ok_is_feasible (F : Fun K "is_feasible" "is_feasible" s_is_feasible f fd) (c_fits : Cal P w K mg base 6 "fits" ["family", "names", "demands", "budget", "base"] (spFits P1 P2)) (c_least_weights : Cal P w K mg base 3 "least_weights" ["family"] spLw) :
    FnOk P w K mg base CX0 7 f fd ["family", "names", "demands", "budget"] (spFeas P1 P2) := by
  refine F.ok sc_is_feasible (fun vs H Q E h => ?_) (fun cdv A outer s H vs Q E hr h => ?_)
  · obtain ⟨fa, na, da, fm, names, D, bud, rfl, _⟩ := h
    rfl
  obtain ⟨fa, na, da, fm, names, D, bud, rfl, g, hD, dok, hT, q⟩ := h
  refine ⟨_, (pss_one (ps_ret (pe_cal c_fits (hr.mono (by omega)) (by rfl) (pa_cons (pv 0) (pa_cons (pv 1) (pa_cons (pv 2) (pa_cons (pv 3) (pa_cons (pe_cal c_least_weights (hr.mono (by omega)) (by rfl) (pa_cons (pv 0) pa_nil)) pa_nil)))))))), ?_⟩
  refine ⟨_, rfl, _, rfl, _, rfl, _, rfl, _, rfl, fa, fm, rfl, g.fam, g.wf, fun r H1 xs k1 hr1 al => ?_⟩
  exact ⟨fa, na, da, r, fm, names, D, lw fm, bud, rfl, (g.ts k1.ts k1.fs).with_ hr1 al, hD.ts k1.ts, dok, hT.ext k1.old, fun H2 k2 => q H2 ((k1.kp _).trans k2)⟩
end
end K81
/-! ## WI -/
namespace K81
open PySem PySem.Spec PyProof.Rows L2

/-- all sets of n numbers, the smaller first -/
def sets (n : Nat) : List (List Nat) := (raw n).mergeSort (PySem.W.dataLe false (keyD List.length dI))
theorem sets_iff {n : Nat} {s : List Nat} : s ∈ sets n ↔ s.Sublist (List.range n) := by
  unfold sets; rw [List.mem_mergeSort]; exact raw_iff n s
theorem sets_len (n : Nat) : (sets n).length = 2 ^ n := by unfold sets; rw [List.length_mergeSort, raw_len]
theorem sets_ord (n : Nat) : (sets n).Pairwise fun a b => a.length ≤ b.length := sort_len _
theorem pow_le {n : Nat} (h : n ≤ 8) : 2 ^ n ≤ 256 := Nat.pow_le_pow_right (by decide) h
abbrev s_all_sets : Stmt := topS 17
abbrev N_all_sets : List Str := ["count", "found", "index", "chosen"]
theorem sc_all_sets : FnScope N_all_sets ["count"] (defScope s_all_sets) := ⟨rfl, rfl, rfl, by decide +kernel, rfl, by decide +kernel, by decide +kernel⟩
-- slots: count:0 found:1 index:2 chosen:3   cells: index   calls: 
section
variable {P : Program} {w : World} {K : PySem.W.Frag} {mg : Str → Option Value} {base : Heap} {f c2 P1 P2 : Addr} {fd : FuncData}
def spSets (P1 P2 : Addr) : Sp := fun vs H Q _ => ∃ n : Nat, vs = [nI n] ∧ n ≤ 8 ∧ LamX.Tabs (TL P1 P2) H ∧ ∀ r H' xs, Kp (TL P1 P2) H H' → Nw H r → H' r = some (.lst xs) → All2 (TupI H') xs (sets n) → Q (.ref r) H'
theorem ok_all_sets (F : FunC K "all_sets" "all_sets" s_all_sets f fd c2) (B : Blt mg) (TB : LamX.TabB base mg c2 P2) (hP : P1 ≠ P2) : FnOk P w K mg base CX0 2 f fd ["count"] (spSets P1 P2) := by
  refine F.ok sc_all_sets (fun vs H Q E h => ?_) (fun A outer s H vs Q E hr h => ?_)
  · obtain ⟨n, rfl, _⟩ := h
    rfl
  obtain ⟨n, rfl, hn, hT, q⟩ := h
  refine ⟨_, (pss_cons (ps_set (i := 1) sc_all_sets.nd rfl (Or.inl rfl) (pe_lst (pa_cons (pe_tup pa_nil) pa_nil)))
  (pss_cons (ps_for PassesOwn.never rfl (pi_range1 (by rfl) B.range (pa_cons (pv 0) pa_nil)) (pg_name (i := 2) sc_all_sets.nd rfl (Or.inr rfl)) (pss_one (ps_set (i := 1) sc_all_sets.nd rfl (Or.inl rfl) (pe_op op_cat (pv 1) (pe_lc (own := [("chosen", 3)]) rfl sc_all_sets.nd (pi_seq (pv 1)) (blkOk_by (N := N_all_sets) (sc := defScope s_all_sets) (by decide +kernel)) (fun _ _ _ _ _ => (pg_name (i := 3) sc_all_sets.nd rfl (Or.inl rfl))) (fun _ _ _ _ _ => pts_nil) (fun _ _ _ _ _ => (pe_op (r := rCatA K) op_catA (pv 3) (pe_tup (pa_cons (pv 2) pa_nil)))))))))
  (pss_one (ps_ret (pe_sortL (T := TL P1 P2) (R := TupI) (n := List.length) (d := dI) key_ints (fun _ _ _ _ t z => z.ts t) TB rfl (List.mem_cons_of_mem _ (List.mem_cons_self ..)) (tl_2 hP) hr (by rfl) B.sorted B.len (pa_cons (pv 1) pa_nil) (by rfl) (by decide +kernel) (by decide +kernel) (by decide +kernel) rfl rfl rfl (by decide +kernel) (fun _ _ _ _ _ _ => rfl) (by decide +kernel) (fun _ => rfl) (fun _ => rfl)))))), ?_⟩
  refine ⟨(by show 0 ≤ sizeLine; decide), fun t0 ht0 => ⟨(by show 1 ≤ sizeLine; decide), fun L hL => ?_⟩⟩
  have k0 : Ex H (upd (upd H t0 (.tup [])) L (.lst [.ref t0])) := (Ex.new ht0 _).nw hL _
  refine ⟨_, rfl, _, rfl, by omega, by omega, for_range (n := n) (fun i σ H' => ∃ (a : Addr) (xs : List V) (e2 e3 : Option V), σ = [some (nI n), some (.ref a), e2, e3] ∧ Ex H H' ∧ H' a = some (.lst xs) ∧ All2 (TupI H') xs (raw i))
    ⟨L, _, none, none, rfl, k0, upd_same, .cons ⟨t0, rfl, by rw [upd_ne (ne_of_none upd_same hL)]; exact upd_same⟩ .nil⟩ (fun i σ H' hi h => ?_) (fun σ H' h => ?_)⟩
  · obtain ⟨a, xs, e2, e3, rfl, k, ha, al⟩ := h
    have hp8 : (raw i).length ≤ 256 := by rw [raw_len]; exact pow_le (by omega)
    refine ⟨_, rfl, .inl ⟨_, rfl, a, rfl, ⟨_, sql ha⟩, fun D hD => lc_gL (prEx H') (R := TupI) (fun _ _ _ _ t z => z.ts t) (bs := raw i) (φ := fun r => some (r ++ [i])) (small1000 (by omega)) hD (fun H k => k.old _ _ ha) al.len (fun j x r H1 hx hr' k1 N no yes => ?_) (fun H1 acc k1 ha1 al1 => ?_)⟩⟩
    · obtain ⟨x', hx', b, rfl, hb⟩ := al.get hr'
      have hxx : V.ref b = x := by rw [hx'] at hx; exact Option.some.inj hx
      subst hxx
      have hrl : r.length ≤ 8 := by
        have := ((raw_iff i r).mp (List.mem_of_getElem? hr')).length_le
        rw [List.length_range] at this; omega
      refine ⟨rfl, _, rfl, _, rfl, (by show 1 ≤ sizeLine; decide), fun t1 ht1 => q_catA ((Ex.new ht1 _).old _ _ (k1.old _ _ hb)) upd_same (line_le (by rw [List.length_map]; show r.length + 1 ≤ 1000; omega)) fun t2 H2 k2 ht2 => ?_⟩
      refine yes _ _ _ ((Ex.new ht1 _).trans k2) rfl ⟨t2, rfl, ?_⟩
      rw [ht2, List.map_append, show (0 : Int) + (i : Int) = (i : Int) from Int.zero_add _]; rfl
    · rw [fm_map] at al1
      refine ⟨a, D, xs, acc, rfl, rfl, k1.old _ _ ha, ha1, line_le (by rw [al.len, al1.len, List.length_map]; omega), fun p hp => ?_⟩
      exact ⟨p, _, _, _, rfl, (k.trans k1).nw hp _, upd_same, ((al.mono fun _ _ z => (z.ts k1.ts).ts (Ex.new hp _).ts).app (al1.mono fun _ _ z => z.ts (Ex.new hp _).ts))⟩
  · obtain ⟨a, xs, e2, e3, rfl, k, ha, al⟩ := h
    have hp8 : (raw n).length ≤ 256 := by rw [raw_len]; exact pow_le (by omega)
    exact ⟨_, rfl, a, xs, raw n, rfl, hT.ext k.old, sql ha, al, alike_keyI _, by omega, fun b _ => depth_keyI b, fun p ys H2 k2 nw hp al2 => q p H2 ys ((k.kp (TL P1 P2)).trans k2) ((k.kp (TL P1 P2)).nwB nw) hp al2⟩
end
theorem filter_fm {α : Type} (p : α → Bool) : ∀ l : List α, (l.filterMap fun k => if p k then none else some k) = l.filter fun k => !p k
  | [] => rfl
  | x :: l => by
    rw [List.filterMap_cons, List.filter_cons, filter_fm p l]
    cases p x <;> rfl
abbrev s_outside_of : Stmt := topS 18
abbrev N_outside_of : List Str := ["chosen", "count", "index"]
theorem sc_outside_of : FnScope N_outside_of ["chosen", "count"] (defScope s_outside_of) := ⟨rfl, rfl, rfl, by decide +kernel, rfl, by decide +kernel, by decide +kernel⟩
-- slots: chosen:0 count:1 index:2   cells: chosen   calls: 
abbrev s_smaller_sets : Stmt := topS 19
abbrev N_smaller_sets : List Str := ["chosen", "k"]
theorem sc_smaller_sets : FnScope N_smaller_sets ["chosen"] (defScope s_smaller_sets) := ⟨rfl, rfl, rfl, by decide +kernel, rfl, by decide +kernel, by decide +kernel⟩
-- slots: chosen:0 k:1   cells: chosen   calls: 
section
variable {P : Program} {w : World} {K : PySem.W.Frag} {mg : Str → Option Value} {base : Heap} {f : Addr} {fd : FuncData}
def spOutside : Sp := fun vs H Q _ => ∃ (a : Addr) (s : List Nat) (n : Nat), vs = [.ref a, nI n] ∧ H a = some (.tup (s.map nI)) ∧ n ≤ 100 ∧ ∀ r H', Ex H H' → H' r = some (.tup ((outside s n).map nI)) → Q (.ref r) H'
theorem ok_outside_of (F : Fun K "outside_of" "outside_of" s_outside_of f fd) (B : Blt mg) : FnOk P w K mg base CX0 1 f fd ["chosen", "count"] spOutside := by
  refine F.ok sc_outside_of (fun vs H Q E h => ?_) (fun cdv A outer s H vs Q E hr h => ?_)
  · obtain ⟨a, s, n, rfl, _⟩ := h
    rfl
  obtain ⟨a, s, n, rfl, ha, hn, q⟩ := h
  refine ⟨_, (pss_one (ps_ret (pe_callTy call_tuple_of (by rfl) B.tuple (by decide +kernel) (pa_cons (pe_lc (own := [("index", 2)]) rfl sc_outside_of.nd (pi_range1 (by rfl) B.range (pa_cons (pv 1) pa_nil)) (blkOk_by (N := N_outside_of) (sc := defScope s_outside_of) (by decide +kernel)) (fun _ _ _ _ _ => (pg_name (i := 2) sc_outside_of.nd rfl (Or.inl rfl))) (fun _ _ _ _ _ => (pts_one (pt_cmpR (r := rIn K true) op_notIn_seq (pv 2) (pv 0) (by rfl)))) (fun _ _ _ _ _ => (pv 2))) pa_nil)))), ?_⟩
  refine ⟨_, rfl, _, rfl, by omega, by omega, fun D hD => lc_gR (prEx H) (R := fun _ y (m : Nat) => y = nI m) (fun _ _ _ _ _ z => z) (n := n) (φ := fun k => if s.contains k then none else some k) (small1000 (by omega)) hD (fun i H1 hi k1 N no yes => ?_) (fun H1 acc k1 ha1 al1 => ?_)⟩
  · refine ⟨rfl, _, rfl, _, rfl, a, _, rfl, .inr (sqt (k1.old _ _ ha)), rfl, flat_ints s, _, rfl, ?_⟩
    cases e : s.contains i with
    | true =>
      refine ite_f ?_ (no _ (.refl _) (if_pos e))
      show (!inV (nI i) (s.map nI)) = false
      rw [(in_int i s).mpr (by simpa using e)]; rfl
    | false =>
      refine ite_t ?_ ⟨_, rfl, yes _ _ _ (.refl _) (if_neg (by rw [e]; decide)) rfl⟩
      show (!inV (nI i) (s.map nI)) = true
      have e2 : inV (nI i) (s.map nI) = false := Bool.eq_false_iff.mpr fun z => by
        have := (in_int i s).mp z
        simp [this] at e
      rw [e2]; rfl
  · obtain rfl := l_ints al1
    refine ⟨D, _, rfl, .inl ⟨sql ha1, fun r hr' => q r _ (k1.nw hr' _) (upd_same.trans ?_)⟩⟩
    rw [filter_fm]; rfl
def spSmaller : Sp := fun vs H Q _ => ∃ (a : Addr) (s : List Nat), vs = [.ref a] ∧ H a = some (.tup (s.map nI)) ∧ s.length ≤ 100 ∧ ∀ r H' xs, Ex H H' → H r = none → H' r = some (.lst xs) → All2 (TupI H') xs (smaller s) → Q (.ref r) H'
theorem ok_smaller_sets (F : Fun K "smaller_sets" "smaller_sets" s_smaller_sets f fd) (B : Blt mg) : FnOk P w K mg base CX0 1 f fd ["chosen"] spSmaller := by
  refine F.ok sc_smaller_sets (fun vs H Q E h => ?_) (fun cdv A outer s H vs Q E hr h => ?_)
  · obtain ⟨a, s, rfl, _⟩ := h
    rfl
  obtain ⟨a, s, rfl, ha, hn, q⟩ := h
  refine ⟨_, (pss_one (ps_ret (pe_lc (own := [("k", 1)]) rfl sc_smaller_sets.nd (pi_range1 (by rfl) B.range (pa_cons (pe_callB call_len_seq (by rfl) B.len (by decide +kernel) (pa_cons (pv 0) pa_nil)) pa_nil)) (blkOk_by (N := N_smaller_sets) (sc := defScope s_smaller_sets) (by decide +kernel)) (fun _ _ _ _ _ => (pg_name (i := 1) sc_smaller_sets.nd rfl (Or.inl rfl))) (fun _ _ _ _ _ => pts_nil) (fun _ _ _ _ _ => (pe_op (r := rCatA K) op_catA (pe_slice (r := rSlA K) sl_tupA (pv 0) po_none (po_some (pv 1))) (pe_slice (r := rSlA K) sl_tupA (pv 0) (po_some (pe_op op_add (pv 1) pe_int)) po_none)))))), ?_⟩
  refine ⟨_, rfl, a, _, rfl, .inr (sqt ha), _, rfl, by rw [List.length_map]; omega, by rw [List.length_map]; omega, fun D hD => ?_⟩
  have en : (((List.map nI s).length : Int)).toNat = s.length := by rw [List.length_map]; omega
  rw [en]
  refine lc_gR (prEx H) (R := TupI) (fun _ _ _ _ t z => z.ts t) (n := s.length) (φ := fun k => some (s.take k ++ s.drop (k + 1))) (small1000 (by omega)) hD (fun i H1 hi k1 N no yes => ?_) (fun H1 acc k1 ha1 al1 => ?_)
  · have ha1 := k1.old _ _ ha
    refine ⟨rfl, _, rfl, _, rfl, _, rfl, q_slA ha1 (cut_take i) fun t1 H2 k2 ht1 => ⟨_, rfl, _, rfl, _, _, rfl, rfl, _, rfl, ?_⟩⟩
    unfold tNoPart
    show rSlA K (.ref a) (some ((i : Int) + 1)) none H2 _
    refine q_slA (zs := (s.map nI).drop (i + 1)) (k2.old _ _ ha1) (by rw [show ((i : Int) + 1) = ((i + 1 : Nat) : Int) by omega]; exact cut_drop (i + 1)) fun t2 H3 k3 ht2 => ?_
    refine q_catA (k3.old _ _ ht1) ht2 (line_le (by rw [List.length_take, List.length_drop, List.length_map]; omega)) fun t3 H4 k4 ht3 => yes _ _ _ ((k2.trans k3).trans k4) rfl ⟨t3, rfl, ?_⟩
    rw [ht3, List.map_append, List.map_take, List.map_drop]
  · rw [fm_map] at al1
    exact q D H1 acc k1 hD ha1 al1
end
end K81
/-! ## WJ -/
namespace K81
open PySem PySem.Spec PyProof.Rows L2

structure DmOk (d : Dem) : Prop where
  pl : d.path.length ≤ 4
  ws : WsOk d.path
  ol : d.ok.length ≤ 11
theorem DsOk.of {D : List Dem} (h : D.length ≤ 8) (e : ∀ d ∈ D, DmOk d) : DsOk D := ⟨h, fun d m => ⟨(e d m).pl, (e d m).ws, (e d m).ol⟩⟩
theorem pick_ok {D : List Dem} {l : List Nat} (e : ∀ d ∈ D, DmOk d) : ∀ d ∈ pick D l, DmOk d := fun d m => by
  obtain ⟨k, _, ek⟩ := mem_pick.mp m
  exact e d (List.mem_of_getElem? ek)
theorem pick_le {D : List Dem} {l : List Nat} : (pick D l).length ≤ l.length := List.length_filterMap_le _ _
theorem fe_mono {fm : Fm} {names : List (List Str)} {bud : Option Nat} (wf : fm.Wf) (hN : NamesOk fm names) : ∀ A B : List Dem, (∀ a ∈ A, a ∈ B) → fe fm names bud B = true → fe fm names bud A = true := fun A B h e => feas_mono (lw_fix wf) hN h e
theorem rgV_n (n : Nat) : rgV 0 (n : Int) = (List.range n).map nI := by
  unfold rgV
  rw [show ((n : Int) - 0).toNat = n by omega]
  refine List.map_congr_left fun k _ => ?_
  unfold nI; rw [Int.zero_add]
theorem rev_get {n i : Nat} (h : i < n) : (List.range n).reverse[i]? = some (n - 1 - i) := by
  rw [List.getElem?_reverse (by rw [List.length_range]; exact h), List.length_range, List.getElem?_range (by omega)]
theorem nI_inj {a b : Nat} (h : nI a = nI b) : a = b := by
  have := V.int.inj h
  omega
abbrev s_explanation_of : Stmt := topS 14
abbrev N_explanation_of : List Str := ["family", "names", "demands", "demand", "budget", "base", "left", "index", "others", "k", "chosen"]
theorem sc_explanation_of : FnScope N_explanation_of ["family", "names", "demands", "demand", "budget"] (defScope s_explanation_of) := ⟨rfl, rfl, rfl, by decide +kernel, rfl, by decide +kernel, by decide +kernel⟩
-- slots: family:0 names:1 demands:2 demand:3 budget:4 base:5 left:6 index:7 others:8 k:9 chosen:10   cells: demands index   calls: fits least_weights
section
variable {P : Program} {w : World} {K : PySem.W.Frag} {mg : Str → Option Value} {base : Heap} {f P1 P2 : Addr} {fd : FuncData}
def spExpl (P1 P2 : Addr) : Sp := fun vs H Q _ => ∃ (fa na da : Addr) (x : V) (fm : Fm) (names : List (List Str)) (D : List Dem) (d : Dem) (bud : Option Nat), vs = [.ref fa, .ref na, .ref da, x, oI bud] ∧ GivenN H fa na fm names ∧ DsAt H da D ∧ DmAt H x d ∧ D.length ≤ 7 ∧ (∀ d ∈ D, DmOk d) ∧ DmOk d ∧ LamX.Tabs (TL P1 P2) H ∧
  fe fm names bud (D ++ [d]) = false ∧ ∀ r H', Kp (TL P1 P2) H H' → H' r = some (.tup ((exOf (fe fm names bud) D d).map nI)) → Q (.ref r) H'
theorem ok_explanation_of (F : Fun K "explanation_of" "explanation_of" s_explanation_of f fd) (B : Blt mg) (c_fits : Cal P w K mg base 6 "fits" ["family", "names", "demands", "budget", "base"] (spFits P1 P2)) (c_least_weights : Cal P w K mg base 3 "least_weights" ["family"] spLw) :
    FnOk P w K mg base CX0 7 f fd ["family", "names", "demands", "demand", "budget"] (spExpl P1 P2) := by
  refine F.ok sc_explanation_of (fun vs H Q E h => ?_) (fun cdv A outer s H vs Q E hr h => ?_)
  · obtain ⟨fa, na, da, x, fm, names, D, d, bud, rfl, _⟩ := h
    rfl
  obtain ⟨fa, na, da, x, fm, names, D, d, bud, rfl, g, hD, hd, hn, dok, dok1, hT, hno, q⟩ := h
  refine ⟨_, (pss_cons (ps_set (i := 5) sc_explanation_of.nd rfl (Or.inl rfl) (pe_cal c_least_weights (hr.mono (by omega)) (by rfl) (pa_cons (pv 0) pa_nil)))
  (pss_cons (ps_if (pt_val (pe_cal c_fits (hr.mono (by omega)) (by rfl) (pa_cons (pv 0) (pa_cons (pv 1) (pa_cons (pe_op op_catA (pv 2) (pe_tup (pa_cons (pv 3) pa_nil))) (pa_cons (pv 4) (pa_cons (pv 5) pa_nil))))))) (pss_one (ps_ret pe_non)) pss_nil)
  (pss_cons (ps_set (i := 6) sc_explanation_of.nd rfl (Or.inl rfl) (pe_listRg rfl (by rfl) B.list (prg_1 (by rfl) B.range (pe_callB call_len_seq (by rfl) B.len (by decide +kernel) (pa_cons (pv 2) pa_nil)))))
  (pss_cons (ps_for PassesOwn.never rfl (pi_revR (by rfl) B.reversed (prg_1 (by rfl) B.range (pe_callB call_len_seq (by rfl) B.len (by decide +kernel) (pa_cons (pv 2) pa_nil)))) (pg_name (i := 7) sc_explanation_of.nd rfl (Or.inr rfl)) (pss_cons (ps_setLc (i := 8) (own := [("k", 9)]) rfl sc_explanation_of.nd rfl rfl (sw_true rfl rfl rfl (by decide +kernel)) (pi_seq (pv 6)) (blkOk_by (N := N_explanation_of) (sc := defScope s_explanation_of) (by decide +kernel)) (fun _ _ _ _ _ => (pg_name (i := 9) sc_explanation_of.nd rfl (Or.inl rfl))) (fun _ _ _ _ _ => (pts_one (pt_cmpR op_ne (pv 9) (pv 7) (nomark _)))) (fun _ _ _ _ _ => (pv 9)))
  (pss_cons (ps_set (i := 10) sc_explanation_of.nd rfl (Or.inl rfl) (pe_op op_catA (pe_callTy call_tuple_of (by rfl) B.tuple (by decide +kernel) (pa_cons (pe_lc (own := [("k", 9)]) rfl sc_explanation_of.nd (pi_seq (pv 8)) (blkOk_by (N := N_explanation_of) (sc := defScope s_explanation_of) (by decide +kernel)) (fun _ _ _ _ _ => (pg_name (i := 9) sc_explanation_of.nd rfl (Or.inl rfl))) (fun _ _ _ _ _ => pts_nil) (fun _ _ _ _ _ => (pe_ix (r := rIx K) ix_seq (pv 2) (pv 9) (fun _ _ => rfl)))) pa_nil)) (pe_tup (pa_cons (pv 3) pa_nil))))
  (pss_one (ps_if (pt_not (pt_val (pe_cal c_fits (hr.mono (by omega)) (by rfl) (pa_cons (pv 0) (pa_cons (pv 1) (pa_cons (pv 10) (pa_cons (pv 4) (pa_cons (pv 5) pa_nil)))))))) (pss_one (ps_set (i := 6) sc_explanation_of.nd rfl (Or.inl rfl) (pv 8))) pss_nil)))))
  (pss_one (ps_ret (pe_callTy call_tuple_of (by rfl) B.tuple (by decide +kernel) (pa_cons (pv 6) pa_nil)))))))), ?_⟩
  refine ⟨_, rfl, fa, fm, rfl, g.fam, g.wf, fun ba H1 xb k1 hb alb => ?_⟩
  obtain ⟨ds, hds, ald⟩ := hD
  have hdl : ds.length = D.length := ald.len
  -- demands + (demand,)
  refine ⟨_, rfl, _, rfl, _, rfl, _, rfl, (by show 1 ≤ sizeLine; decide), fun t1 ht1 => q_catA ((Ex.new ht1 _).old _ _ (k1.old _ _ hds)) upd_same (line_le (by rw [hdl]; show D.length + 1 ≤ 1000; omega)) fun ca H2 k2 hca => ?_⟩
  have k12 : Ex H H2 := k1.trans ((Ex.new ht1 _).trans k2)
  have kb2 : Ex H1 H2 := (Ex.new ht1 _).trans k2
  have all : ∀ H', Tps H H' → All2 (DmAt H') (ds ++ [x]) (D ++ [d]) := fun H' t => (ald.mono fun _ _ z => z.ts t).snoc (hd.ts t)
  refine ⟨_, rfl, _, rfl, fa, na, ca, ba, fm, names, D ++ [d], lw fm, bud, rfl, ((g.ts k1.ts k1.fs).with_ hb alb).ts kb2.ts kb2.fs, ⟨_, hca, all H2 k12.ts⟩, .of (by rw [List.length_append, List.length_singleton]; omega) (fun e he => by
    rcases List.mem_append.mp he with m | m
    · exact dok e m
    · rw [List.mem_singleton.mp m]; exact dok1), hT.ext k12.old, fun H3 k3 => ?_⟩
  have kp3 : Kp (TL P1 P2) H H3 := (k12.kp _).trans k3
  refine ⟨_, rfl, ite_f hno ?_⟩
  have hds3 := kp3.ts _ _ hds
  refine ⟨_, rfl, da, ds, rfl, .inr (sqt hds3), _, rfl, .of_le (by decide) (by rw [hdl]; omega) (by decide) (by omega), fun L hL => ?_⟩
  have kp4 : Kp (TL P1 P2) H (upd H3 L (.lst (rgV 0 (ds.length : Int)))) := kp3.nw hL _
  refine ⟨_, rfl, da, ds, rfl, .inr (sqt (kp4.ts _ _ hds)), _, rfl, by omega, by omega, by omega, by omega, ?_⟩
  have en : (((ds.length : Int)) - 0).toNat = D.length := by omega
  rw [en]
  refine for_rangeC (n := D.length) (fun i σ H' => ∃ (l : Addr) (e7 e8 e9 e10 : Option V), σ = [some (.ref fa), some (.ref na), some (.ref da), some x, some (oI bud), some (.ref ba), some (.ref l), e7, e8, e9, e10] ∧ Kp (TL P1 P2) H H' ∧ (∃ xb, H' ba = some (.tup xb) ∧ All2 (OW H') xb (lw fm)) ∧
      H' l = some (.lst ((exLoop (fe fm names bud) D d ((List.range D.length).reverse.take i)).map nI)))
    ⟨L, none, none, none, none, rfl, kp4, ⟨xb, ?_, ?_⟩, ?_⟩ (fun i σ H' hi h => ?_) (fun σ H' h => ?_)
  · exact (Ex.new hL _).old _ _ (k3.ts _ _ (kb2.old _ _ hb))
  · exact (alb.mono fun _ _ z => (z.ts kb2.ts).ts k3.ts).mono fun _ _ z => z.ts (Ex.new hL _).ts
  · rw [hdl, rgV_n]; exact upd_same
  · obtain ⟨l, e7, e8, e9, e10, rfl, k, ⟨xb', hb', alb'⟩, hl⟩ := h
    have em : (0 + (D.length : Int) - 1 + (i : Int) * -1) = ((D.length - 1 - i : Nat) : Int) := by omega
    rw [em]
    have hnx : exLoop (fe fm names bud) D d ((List.range D.length).reverse.take (i + 1)) = exStep (fe fm names bud) D d (exLoop (fe fm names bud) D d ((List.range D.length).reverse.take i)) (D.length - 1 - i) := by
      rw [take_succ_some (rev_get hi)]; unfold exLoop; rw [List.foldl_append]; rfl
    have hsub := (ex_inv (fe_mono g.wf g.nlen) hno ((List.range D.length).reverse.take i)).1
    have hmi : D.length - 1 - i < D.length := by omega
    generalize exLoop (fe fm names bud) D d ((List.range D.length).reverse.take i) = cur at hl hnx hsub
    generalize D.length - 1 - i = m at hnx hmi
    have hcl : cur.length ≤ D.length := by have := hsub.length_le; rw [List.length_range] at this; exact this
    refine .inl ⟨_, rfl, l, rfl, ⟨_, sql hl⟩, fun D1 hD1 => lc_gL (prEx H') (R := fun _ y (k : Nat) => y = nI k) (fun _ _ _ _ _ z => z) (bs := cur) (φ := fun k => if decide (k = m) then none else some k) (small1000 (by omega)) hD1 (fun H k => k.old _ _ hl) (by rw [List.length_map]) (fun j y c H4 hy hc k4 N no yes => ?_) (fun H4 acc k4 ha4 al4 => ?_)⟩
    · obtain ⟨c', hc', rfl⟩ := map_at hy
      have hcc : c' = c := by rw [hc'] at hc; exact Option.some.inj hc
      subst hcc
      refine ⟨rfl, _, rfl, _, rfl, rfl, _, rfl, ?_⟩
      by_cases e : c' = m
      · subst e
        exact ite_f (by show (!decide (nI c' = nI c')) = false; rw [decide_eq_true rfl]; rfl) (no _ (.refl _) (if_pos (decide_eq_true rfl)))
      · refine ite_t ?_ ⟨_, rfl, yes _ _ _ (.refl _) (if_neg (by simpa using e)) rfl⟩
        show (!decide (nI c' = nI m)) = true
        rw [decide_eq_false fun z => e (nI_inj z)]; rfl
    · obtain rfl := l_ints al4
      rw [filter_fm] at ha4
      have hfe : (cur.filter fun k => !decide (k = m)) = cur.filter fun k => decide (k ≠ m) := by
        congr 1; funext k; simp
      rw [hfe] at ha4
      have hol : (cur.filter fun k => decide (k ≠ m)).length ≤ D.length := Nat.le_trans (List.length_filter_le _ _) hcl
      have hosub : (cur.filter fun k => decide (k ≠ m)).Sublist (List.range D.length) := List.filter_sublist.trans hsub
      unfold exStep at hnx
      generalize cur.filter (fun k => decide (k ≠ m)) = oth at ha4 hnx hol hosub
      have kp4 : Kp (TL P1 P2) H H4 := k.trans (k4.kp _)
      refine .inl ⟨_, rfl, D1, rfl, ⟨_, sql ha4⟩, fun D2 hD2 => lc_gL (prEx H4) (R := DmAt) (fun _ _ _ _ t z => z.ts t) (bs := oth) (φ := fun k => D[k]?) (small1000 (by omega)) hD2 (fun H k => k.old _ _ ha4) (by rw [List.length_map]) (fun j y c H5 hy hc k5 N no yes => ?_) (fun H5 acc k5 ha5 al5 => ?_)⟩
      · obtain ⟨c', hc', rfl⟩ := map_at hy
        have hcc : c' = c := by rw [hc'] at hc; exact Option.some.inj hc
        subst hcc
        have cl := sub_lt hosub (List.mem_of_getElem? hc)
        obtain ⟨y, hy2, yd⟩ := ald.get (List.getElem?_eq_getElem cl)
        have ts5 := (kp4.trans (k5.kp _)).ts
        exact ⟨rfl, _, rfl, _, rfl, q_ixT (ts5 _ _ hds) hy2 (yes _ _ _ (.refl _) (List.getElem?_eq_getElem cl) (yd.ts ts5))⟩
      · refine ⟨D2, acc, rfl, .inl ⟨sql ha5, fun t3 ht3 => ⟨_, rfl, (by show 1 ≤ sizeLine; decide), fun t4 ht4 => ?_⟩⟩⟩
        have hpk : acc.length ≤ D.length := by rw [al5.len]; exact Nat.le_trans pick_le hol
        refine q_catA ((Ex.new ht4 _).old _ _ upd_same) upd_same (line_le (by show acc.length + 1 ≤ 1000; omega)) fun ca2 H6 k6 hca2 => ?_
        have k46 : Ex H4 H6 := ((k5.trans (.new ht3 _)).trans (.new ht4 _)).trans k6
        have kp6 := kp4.trans (k46.kp _)
        have k56 : Ex H5 H6 := ((Ex.new ht3 _).trans (.new ht4 _)).trans k6
        have k'6 : Ex H' H6 := k4.trans k46
        refine ⟨_, rfl, _, rfl, _, rfl, _, rfl, _, rfl, fa, na, ca2, ba, fm, names, pick D oth ++ [d], lw fm, bud, rfl, ((g.ts kp6.ts kp6.fs).with_ (k'6.old _ _ hb') (alb'.mono fun _ _ z => z.ts k'6.ts)), ⟨_, hca2, (al5.mono fun _ _ z => DmAt.ts k56.ts z).snoc (hd.ts kp6.ts)⟩, .of (by have := pick_le (D := D) (l := oth); rw [List.length_append, List.length_singleton]; omega) (fun e he => by
          rcases List.mem_append.mp he with m | m
          · exact pick_ok dok e m
          · rw [List.mem_singleton.mp m]; exact dok1), kp6.tab hT, fun H7 k7 => ⟨_, rfl, ?_⟩⟩
        have kp7 := kp6.trans k7
        have hb7 : ∃ xb, H7 ba = some (.tup xb) ∧ All2 (OW H7) xb (lw fm) := ⟨xb', k7.ts _ _ (k'6.old _ _ hb'), alb'.mono fun _ _ z => (z.ts k'6.ts).ts k7.ts⟩
        have hl7 := k7.old _ _ (k'6.old _ _ hl) (by intro ps z; cases z)
        have ho7 := k7.old _ _ (k46.old _ _ ha4) (by intro ps z; cases z)
        cases e : fe fm names bud (pick D oth ++ [d]) with
        | true =>
          rw [e, if_pos rfl] at hnx
          refine ite_f (by show (!feas fm names (pick D oth ++ [d]) (tf (lw fm)) bud) = false; rw [show feas fm names (pick D oth ++ [d]) (tf (lw fm)) bud = true from e]; rfl) ?_
          exact ⟨l, _, _, _, _, rfl, kp7, hb7, by rw [hnx]; exact hl7⟩
        | false =>
          rw [e, if_neg (by decide)] at hnx
          refine ite_t (by show (!feas fm names (pick D oth ++ [d]) (tf (lw fm)) bud) = true; rw [show feas fm names (pick D oth ++ [d]) (tf (lw fm)) bud = false from e]; rfl) ?_
          exact ⟨_, rfl, D1, _, _, _, _, rfl, kp7, hb7, by rw [hnx]; exact ho7⟩
  · obtain ⟨l, e7, e8, e9, e10, rfl, k, _, hl⟩ := h
    refine ⟨_, rfl, l, _, rfl, .inl ⟨sql hl, fun r hr' => q r _ (k.nw hr' _) (upd_same.trans ?_)⟩⟩
    rw [show (List.range D.length).reverse.take D.length = (List.range D.length).reverse from List.take_of_length_le (by simp)]
    rfl
abbrev s_kept_of : Stmt := topS 15
abbrev N_kept_of : List Str := ["family", "names", "demands", "demand", "budget", "base", "kept", "chosen", "index"]
theorem sc_kept_of : FnScope N_kept_of ["family", "names", "demands", "demand", "budget"] (defScope s_kept_of) := ⟨rfl, rfl, rfl, by decide +kernel, rfl, by decide +kernel, by decide +kernel⟩
-- slots: family:0 names:1 demands:2 demand:3 budget:4 base:5 kept:6 chosen:7 index:8   calls: fits least_weights
theorem perm_nat {ns : List Int} : ∀ (ks : List Nat), ns.Perm (ks.map fun n : Nat => (n : Int)) → ∃ ks' : List Nat, ns = ks'.map (fun n : Nat => (n : Int)) ∧ ∀ k, k ∈ ks' ↔ k ∈ ks := fun ks p => by
  have all : ∀ x ∈ ns, ∃ n : Nat, (n : Int) = x ∧ n ∈ ks := fun x hx => by
    obtain ⟨n, hn, e⟩ := List.mem_map.mp (p.mem_iff.mp hx)
    exact ⟨n, e, hn⟩
  have e1 : ns = (ns.map Int.toNat).map (fun n : Nat => (n : Int)) := by
    rw [List.map_map]
    have : ns.map ((fun n : Nat => (n : Int)) ∘ Int.toNat) = ns.map id := List.map_congr_left fun x hx => by
      obtain ⟨n, e, _⟩ := all x hx
      rw [← e]; rfl
    rw [this, List.map_id]
  refine ⟨ns.map Int.toNat, e1, fun k => ?_⟩
  constructor
  · intro h
    obtain ⟨x, hx, e⟩ := List.mem_map.mp h
    obtain ⟨n, e2, hn⟩ := all x hx
    rw [← e, ← e2]; exact hn
  · intro h
    exact List.mem_map.mpr ⟨(k : Int), p.mem_iff.mpr (List.mem_map.mpr ⟨k, h, rfl⟩), rfl⟩
def spKept (P1 P2 : Addr) : Sp := fun vs H Q _ => ∃ (fa na da : Addr) (x : V) (fm : Fm) (names : List (List Str)) (D : List Dem) (d : Dem) (bud : Option Nat), vs = [.ref fa, .ref na, .ref da, x, oI bud] ∧ GivenN H fa na fm names ∧ DsAt H da D ∧ DmAt H x d ∧ D.length ≤ 7 ∧ (∀ d ∈ D, DmOk d) ∧ DmOk d ∧ LamX.Tabs (TL P1 P2) H ∧
  fe fm names bud [d] = true ∧ ∀ (r : Addr) (H' : Hp) (ks : List Nat), Kp (TL P1 P2) H H' → H' r = some (.tup (ks.map nI)) → (∀ k, k ∈ ks ↔ k ∈ keptOf (fe fm names bud) D d) → Q (.ref r) H'
theorem ok_kept_of (F : Fun K "kept_of" "kept_of" s_kept_of f fd) (B : Blt mg) (c_fits : Cal P w K mg base 6 "fits" ["family", "names", "demands", "budget", "base"] (spFits P1 P2)) (c_least_weights : Cal P w K mg base 3 "least_weights" ["family"] spLw) :
    FnOk P w K mg base CX0 7 f fd ["family", "names", "demands", "demand", "budget"] (spKept P1 P2) := by
  refine F.ok sc_kept_of (fun vs H Q E h => ?_) (fun cdv A outer s H vs Q E hr h => ?_)
  · obtain ⟨fa, na, da, x, fm, names, D, d, bud, rfl, _⟩ := h
    rfl
  obtain ⟨fa, na, da, x, fm, names, D, d, bud, rfl, g, hD, hd, hn, dok, dok1, hT, hyes, q⟩ := h
  refine ⟨_, (pss_cons (ps_set (i := 5) sc_kept_of.nd rfl (Or.inl rfl) (pe_cal c_least_weights (hr.mono (by omega)) (by rfl) (pa_cons (pv 0) pa_nil)))
  (pss_cons (ps_set (i := 6) sc_kept_of.nd rfl (Or.inl rfl) (pe_lst pa_nil))
  (pss_cons (ps_set (i := 7) sc_kept_of.nd rfl (Or.inl rfl) (pe_tup (pa_cons (pv 3) pa_nil)))
  (pss_cons (ps_if (pt_not (pt_val (pe_cal c_fits (hr.mono (by omega)) (by rfl) (pa_cons (pv 0) (pa_cons (pv 1) (pa_cons (pv 7) (pa_cons (pv 4) (pa_cons (pv 5) pa_nil)))))))) (pss_one (ps_ret pe_non)) pss_nil)
  (pss_cons (ps_for PassesOwn.never rfl (pi_revR (by rfl) B.reversed (prg_1 (by rfl) B.range (pe_callB call_len_seq (by rfl) B.len (by decide +kernel) (pa_cons (pv 2) pa_nil)))) (pg_name (i := 8) sc_kept_of.nd rfl (Or.inl rfl)) (pss_one (ps_if (pt_val (pe_cal c_fits (hr.mono (by omega)) (by rfl) (pa_cons (pv 0) (pa_cons (pv 1) (pa_cons (pe_op op_catA (pv 7) (pe_tup (pa_cons (pe_ix ix_seq (pv 2) (pv 8) (fun _ _ => rfl)) pa_nil))) (pa_cons (pv 4) (pa_cons (pv 5) pa_nil))))))) (pss_cons (ps_set (i := 7) sc_kept_of.nd rfl (Or.inl rfl) (pe_op op_catA (pv 7) (pe_tup (pa_cons (pe_ix ix_seq (pv 2) (pv 8) (fun _ _ => rfl)) pa_nil))))
  (pss_one (ps_expr (pe_bm PySem.F.plainAttrs_list PySem.F.slot_list_append PySem.F.type_list_append mt_append (pv 6) (pa_cons (pv 8) pa_nil))))) pss_nil)))
  (pss_one (ps_ret (pe_callTy call_tuple_of (by rfl) B.tuple (by decide +kernel) (pa_cons (pe_callB cr_sortedI (by rfl) B.sorted (by decide +kernel) (pa_cons (pv 6) pa_nil)) pa_nil))))))))), ?_⟩
  refine ⟨_, rfl, fa, fm, rfl, g.fam, g.wf, fun ba H1 xb k1 hb alb => ?_⟩
  obtain ⟨ds, hds, ald⟩ := hD
  have hdl : ds.length = D.length := ald.len
  refine ⟨(by show 0 ≤ sizeLine; decide), fun L hL => ?_⟩
  have kL : Ex H (upd H1 L (.lst [])) := k1.nw hL _
  have hL0 : H L = none := k1.fr hL
  refine ⟨_, rfl, (by show 1 ≤ sizeLine; decide), fun t1 ht1 => ?_⟩
  have k2 : Ex H (upd (upd H1 L (.lst [])) t1 (.tup [x])) := kL.nw ht1 _
  have k12 : Ex H1 (upd (upd H1 L (.lst [])) t1 (.tup [x])) := (Ex.new hL _).nw ht1 _
  have hL2 : upd (upd H1 L (.lst [])) t1 (.tup [x]) L = some (.lst []) := (Ex.new ht1 _).old _ _ upd_same
  have ht2 : upd (upd H1 L (.lst [])) t1 (.tup [x]) t1 = some (.tup [x]) := upd_same
  generalize upd (upd H1 L (.lst [])) t1 (.tup [x]) = H2 at k2 k12 hL2 ht2 ⊢
  have one : ∀ e ∈ [d], DmOk e := fun e he => by rw [List.mem_singleton.mp he]; exact dok1
  refine ⟨_, rfl, _, rfl, _, rfl, _, rfl, _, rfl, fa, na, t1, ba, fm, names, [d], lw fm, bud, rfl, ((g.ts k2.ts k2.fs).with_ (k12.old _ _ hb) (alb.mono fun _ _ z => z.ts k12.ts)), ⟨_, ht2, .cons (hd.ts k2.ts) .nil⟩, .of (by simp) one, hT.ext k2.old, fun H3 k3 => ⟨_, rfl, ?_⟩⟩
  refine ite_f (by show (!feas fm names [d] (tf (lw fm)) bud) = false; rw [show feas fm names [d] (tf (lw fm)) bud = true from hyes]; rfl) ?_
  have kp3 : Kp (TL P1 P2) H H3 := (k2.kp _).trans k3
  refine ⟨_, rfl, da, ds, rfl, .inr (sqt (kp3.ts _ _ hds)), _, rfl, by omega, by omega, by omega, by omega, ?_⟩
  have en : (((ds.length : Int)) - 0).toNat = D.length := by omega
  rw [en]
  refine for_rangeC (n := D.length) (fun i σ H' => ∃ (c : Addr) (cx : List V) (e8 : Option V), σ = [some (.ref fa), some (.ref na), some (.ref da), some x, some (oI bud), some (.ref ba), some (.ref L), some (.ref c), e8] ∧ Kp (TL P1 P2) H H' ∧ (∃ xb, H' ba = some (.tup xb) ∧ All2 (OW H') xb (lw fm)) ∧
      H' L = some (.lst ((kLoop (fe fm names bud) D d ((List.range D.length).reverse.take i)).2.map nI)) ∧ H' c = some (.tup cx) ∧ All2 (DmAt H') cx (kLoop (fe fm names bud) D d ((List.range D.length).reverse.take i)).1 ∧
      (kLoop (fe fm names bud) D d ((List.range D.length).reverse.take i)).1.length ≤ i + 1 ∧ (kLoop (fe fm names bud) D d ((List.range D.length).reverse.take i)).2.length ≤ i ∧ ∀ e ∈ (kLoop (fe fm names bud) D d ((List.range D.length).reverse.take i)).1, DmOk e)
    ⟨t1, [x], none, rfl, kp3, ⟨xb, ?_, ?_⟩, k3.old _ _ hL2 (by intro ps z; cases z), k3.ts _ _ ht2, .cons (hd.ts kp3.ts) .nil, by simp [kLoop], by simp [kLoop], one⟩ (fun i σ H' hi h => ?_) (fun σ H' h => ?_)
  · exact k3.ts _ _ (k12.old _ _ hb)
  · exact alb.mono fun _ _ z => (z.ts k12.ts).ts k3.ts
  · obtain ⟨c, cx, e8, rfl, k, ⟨xb', hb', alb'⟩, hl, hc, alc, l1, l2, oks⟩ := h
    have em : (0 + (D.length : Int) - 1 + (i : Int) * -1) = ((D.length - 1 - i : Nat) : Int) := by omega
    rw [em]
    have hnx : kLoop (fe fm names bud) D d ((List.range D.length).reverse.take (i + 1)) = kStep (fe fm names bud) D (kLoop (fe fm names bud) D d ((List.range D.length).reverse.take i)) (D.length - 1 - i) := by
      rw [take_succ_some (rev_get hi)]; unfold kLoop; rw [List.foldl_append]; rfl
    have hmi : D.length - 1 - i < D.length := by omega
    generalize kLoop (fe fm names bud) D d ((List.range D.length).reverse.take i) = st at hl alc l1 l2 oks hnx
    generalize D.length - 1 - i = m at hnx hmi
    obtain ⟨y, hy, yd⟩ := ald.get (List.getElem?_eq_getElem hmi)
    have okm : DmOk D[m] := dok _ (List.getElem_mem hmi)
    unfold kStep at hnx
    rw [List.getElem?_eq_getElem hmi] at hnx
    generalize D[m] = dm at yd okm hnx
    have ok1 : ∀ e ∈ st.1 ++ [dm], DmOk e := fun e he => by
      rcases List.mem_append.mp he with z | z
      · exact oks e z
      · rw [List.mem_singleton.mp z]; exact okm
    have hcxl : cx.length = st.1.length := alc.len
    -- chosen + (demands[index],)
    refine ⟨_, rfl, _, rfl, _, rfl, _, rfl, _, rfl, q_ixT (k.ts _ _ hds) hy ⟨(by show 1 ≤ sizeLine; decide), fun t3 ht3 => ?_⟩⟩
    refine q_catA ((Ex.new ht3 _).old _ _ hc) upd_same (line_le (by show cx.length + 1 ≤ 1000; omega)) fun c4 H4 k4 hc4 => ?_
    have kk4 : Ex H' H4 := (Ex.new ht3 _).trans k4
    have kp4 := k.trans (kk4.kp _)
    refine ⟨_, rfl, _, rfl, fa, na, c4, ba, fm, names, st.1 ++ [dm], lw fm, bud, rfl, ((g.ts kp4.ts kp4.fs).with_ (kk4.old _ _ hb') (alb'.mono fun _ _ z => z.ts kk4.ts)), ⟨_, hc4, (alc.mono fun _ _ z => z.ts kk4.ts).snoc (yd.ts kp4.ts)⟩, .of (by rw [List.length_append, List.length_singleton]; omega) ok1, kp4.tab hT, fun H5 k5 => ⟨_, rfl, ?_⟩⟩
    have kp5 := kp4.trans k5
    have hb5 : ∃ xb, H5 ba = some (.tup xb) ∧ All2 (OW H5) xb (lw fm) := ⟨xb', k5.ts _ _ (kk4.old _ _ hb'), alb'.mono fun _ _ z => (z.ts kk4.ts).ts k5.ts⟩
    have hl5 := k5.old _ _ (kk4.old _ _ hl) (by intro ps z; cases z)
    have hc5 := k5.ts _ _ (kk4.old _ _ hc)
    have alc5 : All2 (DmAt H5) cx st.1 := alc.mono fun _ _ z => (z.ts kk4.ts).ts k5.ts
    cases e : fe fm names bud (st.1 ++ [dm]) with
    | false =>
      have hnx' : kLoop (fe fm names bud) D d ((List.range D.length).reverse.take (i + 1)) = st := by rw [hnx]; simp only [e]; rfl
      rw [hnx']
      exact ite_f e ⟨c, cx, _, rfl, kp5, hb5, hl5, hc5, alc5, by omega, by omega, oks⟩
    | true =>
      have hnx' : kLoop (fe fm names bud) D d ((List.range D.length).reverse.take (i + 1)) = (st.1 ++ [dm], st.2 ++ [m]) := by rw [hnx]; simp only [e]; rfl
      rw [hnx']
      refine ite_t e ⟨_, rfl, _, rfl, _, rfl, q_ixT (kp5.ts _ _ hds) hy ⟨(by show 1 ≤ sizeLine; decide), fun t6 ht6 => ?_⟩⟩
      refine q_catA ((Ex.new ht6 _).old _ _ hc5) upd_same (line_le (by show cx.length + 1 ≤ 1000; omega)) fun c7 H7 k7 hc7 => ?_
      have kk7 : Ex H5 H7 := (Ex.new ht6 _).trans k7
      have kp7 := kp5.trans (kk7.kp _)
      have hl7 := kk7.old _ _ hl5
      refine ⟨_, rfl, ty_l hl7, _, rfl, L, _, _, rfl, rfl, hl7, small1000 (by rw [List.length_map]; omega), ?_⟩
      have ts8 : Tps H7 (upd H7 L (.lst (st.2.map nI ++ [nI m]))) := ts_lst hl7
      refine ⟨c7, _, _, rfl, kp7.mutL (.of hL0) hl7, ?_, ?_, ts8 _ _ hc7, ?_, ?_, ?_, ok1⟩
      · obtain ⟨xb5, hxb5, alb5⟩ := hb5
        exact ⟨xb5, ts8 _ _ (kk7.old _ _ hxb5), alb5.mono fun _ _ z => (z.ts kk7.ts).ts ts8⟩
      · rw [List.map_append]; exact upd_same
      · exact (alc5.mono fun _ _ z => (z.ts kk7.ts).ts ts8).snoc ((yd.ts kp7.ts).ts ts8)
      · rw [List.length_append, List.length_singleton]; omega
      · rw [List.length_append, List.length_singleton]; omega
  · obtain ⟨c, cx, e8, rfl, k, _, hl, _⟩ := h
    rw [show (List.range D.length).reverse.take D.length = (List.range D.length).reverse from List.take_of_length_le (by simp), nI_map] at hl
    refine ⟨_, rfl, L, _, rfl, sql hl, fun ns' p perm _ hp => ⟨p, _, rfl, .inl ⟨sql upd_same, fun r hr' => ?_⟩⟩⟩
    obtain ⟨ks', rfl, mem⟩ := perm_nat _ perm
    refine q r _ ks' ((k.nw hp _).nw hr' _) (upd_same.trans ?_) mem
    rw [← nI_map]
end
end K81
/-! ## WK -/
namespace K81
open PySem PySem.Spec PyProof.Rows L2

def pi_ (s : List Nat) : List L2.Key := s.map fun k : Nat => Sum.inl (k : Int)
theorem pi_kV (s : List Nat) : (pi_ s).map kV = s.map nI := by unfold pi_; rw [List.map_map]; rfl
theorem pi_inj {s t : List Nat} (h : pi_ s = pi_ t) : s = t := by
  have := congrArg (List.map kV) h
  rw [pi_kV, pi_kV] at this
  exact (List.map_inj_right (f := nI) (fun _ _ e => nI_inj e)).mp this
/-- a dict that tells F's value of the sets in done -/
def DcB (n : Nat) (H : Hp) (d : Addr) (done : List (List Nat)) (F : List Nat → Bool) : Prop := ∃ kvs : List (List L2.Key × V), H d = some (.dT kvs) ∧ kvs.length ≤ n ∧ ∀ s ∈ done, valV kvs (pi_ s) = some (.bl (F s))
section
variable {n : Nat} {H H' : Hp} {d b : Addr} {done : List (List Nat)} {F : List Nat → Bool} {s : List Nat}
theorem DcB.get (h : DcB n H d done F) (m : s ∈ done) (hb : H b = some (.tup (s.map nI))) : DGet H d (.ref b) (some (.bl (F s))) := by
  obtain ⟨kvs, h1, _, h3⟩ := h
  rw [← h3 s m]
  exact DGet.t h1 (by rw [pi_kV]; exact hb)
theorem DcB.kp {T : List (Addr × Str)} (h : DcB n H d done F) (k : Kp T H H') : DcB n H' d done F := by
  obtain ⟨kvs, h1, h2, h3⟩ := h
  exact ⟨kvs, k.old _ _ h1 (by intro ps z; cases z), h2, h3⟩
theorem DcB.put (h : DcB n H d done F) (hb : H b = some (.tup (s.map nI))) (hn : n ≤ 999) : ∃ kvs kvs', H d = some (.dT kvs) ∧ DPut H d (.ref b) (.bl (F s)) (upd H d (.dT kvs')) ∧ DcB (n + 1) (upd H d (.dT kvs')) d (done ++ [s]) F := by
  obtain ⟨kvs, h1, h2, h3⟩ := h
  have hpl := put_len kvs (pi_ s) (.bl (F s))
  refine ⟨kvs, putK kvs (pi_ s) (.bl (F s)), h1, DPut.t h1 (by rw [pi_kV]; exact hb) (small1000 (by omega)), _, upd_same, by omega, fun t ht => ?_⟩
  rw [valV_put]
  by_cases e : pi_ t = pi_ s
  · rw [if_pos e, pi_inj e]
  · rw [if_neg e]
    refine h3 t ((List.mem_append.mp ht).resolve_right fun z => e (by rw [List.mem_singleton.mp z]))
end
theorem seq_done {l : List (List Nat)} (ord : l.Pairwise fun a b => a.length ≤ b.length) {i : Nat} {s t : List Nat} (hi : l[i]? = some s) (ht : t ∈ l) (hl : t.length < s.length) : t ∈ l.take i := by
  obtain ⟨j, hj, e⟩ := List.mem_iff_getElem.mp ht
  obtain ⟨hi', ei⟩ := List.getElem?_eq_some_iff.mp hi
  have lt : j < i := by
    apply Classical.byContradiction
    intro n
    rcases Nat.lt_or_ge i j with h | h
    · have := List.pairwise_iff_getElem.mp ord i j hi' hj h
      rw [e, ei] at this; omega
    · have : i = j := by omega
      subst this
      rw [e] at ei; rw [ei] at hl; omega
  exact List.mem_take_iff_getElem.mpr ⟨j, by omega, e⟩
abbrev s_feasible_sets : Stmt := topS 20
abbrev N_feasible_sets : List Str := ["family", "names", "demands", "budget", "base", "found", "chosen", "wanted", "k", "smaller", "other"]
theorem sc_feasible_sets : FnScope N_feasible_sets ["family", "names", "demands", "budget"] (defScope s_feasible_sets) := ⟨rfl, rfl, rfl, by decide +kernel, rfl, by decide +kernel, by decide +kernel⟩
-- slots: family:0 names:1 demands:2 budget:3 base:4 found:5 chosen:6 wanted:7 k:8 smaller:9 other:10   cells: demands found   calls: all_sets fits smaller_sets least_weights
section
variable {P : Program} {w : World} {K : PySem.W.Frag} {mg : Str → Option Value} {base : Heap} {f P1 P2 : Addr} {fd : FuncData}
def spFSets (P1 P2 : Addr) : Sp := fun vs H Q _ => ∃ (fa na da : Addr) (fm : Fm) (names : List (List Str)) (D : List Dem) (bud : Option Nat), vs = [.ref fa, .ref na, .ref da, oI bud] ∧ GivenN H fa na fm names ∧ DsAt H da D ∧ D.length ≤ 8 ∧ (∀ d ∈ D, DmOk d) ∧ LamX.Tabs (TL P1 P2) H ∧
  ∀ r H', Kp (TL P1 P2) H H' → DcB 300 H' r (sets D.length) (fun s => fe fm names bud (pick D s)) → Q (.ref r) H'
theorem ok_feasible_sets (F : Fun K "feasible_sets" "feasible_sets" s_feasible_sets f fd) (B : Blt mg) (c_fits : Cal P w K mg base 6 "fits" ["family", "names", "demands", "budget", "base"] (spFits P1 P2)) (c_least_weights : Cal P w K mg base 3 "least_weights" ["family"] spLw)
    (c_all_sets : Cal P w K mg base 2 "all_sets" ["count"] (spSets P1 P2)) (c_smaller_sets : Cal P w K mg base 1 "smaller_sets" ["chosen"] spSmaller) :
    FnOk P w K mg base CX0 7 f fd ["family", "names", "demands", "budget"] (spFSets P1 P2) := by
  refine F.ok sc_feasible_sets (fun vs H Q E h => ?_) (fun cdv A outer s H vs Q E hr h => ?_)
  · obtain ⟨fa, na, da, fm, names, D, bud, rfl, _⟩ := h
    rfl
  obtain ⟨fa, na, da, fm, names, D, bud, rfl, g, hD, hn, dok, hT, q⟩ := h
  refine ⟨_, (pss_cons (ps_set (i := 4) sc_feasible_sets.nd rfl (Or.inl rfl) (pe_cal c_least_weights (hr.mono (by omega)) (by rfl) (pa_cons (pv 0) pa_nil)))
  (pss_cons (ps_set (i := 5) sc_feasible_sets.nd rfl (Or.inr rfl) pe_dnewT)
  (pss_cons (ps_for PassesOwn.never rfl (pi_seq (pe_cal c_all_sets (hr.mono (by omega)) (by rfl) (pa_cons (pe_callB call_len_seq (by rfl) B.len (by decide +kernel) (pa_cons (pv 2) pa_nil)) pa_nil))) (pg_name (i := 6) sc_feasible_sets.nd rfl (Or.inl rfl)) (pss_cons (ps_set (i := 7) sc_feasible_sets.nd rfl (Or.inl rfl) (pe_callTy call_tuple_of (by rfl) B.tuple (by decide +kernel) (pa_cons (pe_lc (own := [("k", 8)]) rfl sc_feasible_sets.nd (pi_seq (pv 6)) (blkOk_by (N := N_feasible_sets) (sc := defScope s_feasible_sets) (by decide +kernel)) (fun _ _ _ _ _ => (pg_name (i := 8) sc_feasible_sets.nd rfl (Or.inl rfl))) (fun _ _ _ _ _ => pts_nil) (fun _ _ _ _ _ => (pe_ix (r := rIx K) ix_seq (pv 2) (pv 8) (fun _ _ => rfl)))) pa_nil)))
  (pss_cons (ps_set (i := 9) sc_feasible_sets.nd rfl (Or.inl rfl) (pe_callB (cr_all rfl) (by rfl) B.all (by decide +kernel) (pa_cons (pe_lc (own := [("other", 10)]) rfl sc_feasible_sets.nd (pi_seq (pe_cal c_smaller_sets (hr.mono (by omega)) (by rfl) (pa_cons (pv 6) pa_nil))) (blkOk_by (N := N_feasible_sets) (sc := defScope s_feasible_sets) (by decide +kernel)) (fun _ _ _ _ _ => (pg_name (i := 10) sc_feasible_sets.nd rfl (Or.inl rfl))) (fun _ _ _ _ _ => pts_nil) (fun _ _ _ _ _ => (pe_dget (hu_le hr (by decide)) (pv 5) (pv 10) (fun _ _ => rfl)))) pa_nil)))
  (pss_one (ps_dput (hu_le hr (by decide)) (pv 5) (pv 6) (pe_and (pv 9) (pe_one (pe_cal c_fits (hr.mono (by omega)) (by rfl) (pa_cons (pv 0) (pa_cons (pv 1) (pa_cons (pv 7) (pa_cons (pv 3) (pa_cons (pv 4) pa_nil)))))))) rfl)))))
  (pss_one (ps_ret (pv 5)))))), ?_⟩
  obtain ⟨ds, hds, ald⟩ := hD
  have hdl : ds.length = D.length := ald.len
  refine ⟨_, rfl, fa, fm, rfl, g.fam, g.wf, fun ba H1 xb k1 hb alb => fun d hd => ?_⟩
  have k2 : Ex H (upd H1 d (.dT [])) := k1.nw hd _
  have kb2 : Ex H1 (upd H1 d (.dT [])) := .new hd _
  have hd0 : H d = none := k1.fr hd
  have dc0 : DcB 0 (upd H1 d (.dT [])) d [] (fun s => fe fm names bud (pick D s)) := ⟨[], upd_same, Nat.le_refl _, fun s hs => (nomatch hs)⟩
  generalize upd H1 d (.dT []) = H2 at k2 kb2 dc0 ⊢
  refine .inl ⟨_, rfl, da, ds, rfl, .inr (sqt (k2.old _ _ hds)), D.length, by rw [hdl]; rfl, hn, hT.ext k2.old, fun sl H3 sx k3 nsl hsl als => ⟨sl, rfl, ⟨_, sql hsl⟩, ?_⟩⟩
  have kp3 : Kp (TL P1 P2) H H3 := (k2.kp _).trans k3
  have h256 : (sets D.length).length ≤ 256 := by rw [sets_len]; exact pow_le hn
  refine for_list (xs := sx) (fun i σ H' => ∃ (e6 e7 e8 e9 e10 : Option V), σ = [some (.ref fa), some (.ref na), some (.ref da), some (oI bud), some (.ref ba), some (.ref d), e6, e7, e8, e9, e10] ∧ Kp (TL P1 P2) H H' ∧ (∃ xb, H' ba = some (.tup xb) ∧ All2 (OW H') xb (lw fm)) ∧
      H' sl = some (.lst sx) ∧ Tps H3 H' ∧ DcB i H' d ((sets D.length).take i) (fun s => fe fm names bud (pick D s)))
    ⟨none, none, none, none, none, rfl, kp3, ⟨xb, k3.ts _ _ (kb2.old _ _ hb), alb.mono fun _ _ z => (z.ts kb2.ts).ts k3.ts⟩, hsl, .refl _, dc0.kp k3⟩ (fun i σ H' _ h => by obtain ⟨_, _, _, _, _, _, _, _, k, _⟩ := h; exact sql k) (fun i x σ H' hx h => ?_) (fun σ H' h => ?_)
  · obtain ⟨e6, e7, e8, e9, e10, rfl, k, ⟨xb', hb', alb'⟩, hsl', t3, dc⟩ := h
    obtain ⟨s, hs, xs3⟩ := als.getL hx
    obtain ⟨c, rfl, hc⟩ := xs3.ts t3
    have ssub := sets_iff.mp (List.mem_of_getElem? hs)
    have slen : s.length ≤ D.length := by have := ssub.length_le; rw [List.length_range] at this; exact this
    have hil : i < 256 := by have := (List.getElem?_eq_some_iff.mp hs).1; omega
    refine .inr ⟨_, rfl, c, rfl, ⟨_, sqt hc⟩, fun D1 hD1 => lc_gT (prEx H') (R := DmAt) (fun _ _ _ _ t z => z.ts t) (bs := s) (φ := fun k => D[k]?) (small1000 (by omega)) hD1 hc (by rw [List.length_map]) (fun j y m H4 hy hm k4 N no yes => ?_) (fun H4 acc k4 ha4 al4 => ?_)⟩
    · obtain ⟨m', hm', rfl⟩ := map_at hy
      have hmm : m' = m := by rw [hm'] at hm; exact Option.some.inj hm
      subst hmm
      have ml := sub_lt ssub (List.mem_of_getElem? hm')
      obtain ⟨y, hy2, yd⟩ := ald.get (List.getElem?_eq_getElem ml)
      have ts4 := (k.trans (k4.kp _)).ts
      exact ⟨rfl, _, rfl, _, rfl, q_ixT (ts4 _ _ hds) hy2 (yes _ _ _ (.refl _) (List.getElem?_eq_getElem ml) (yd.ts ts4))⟩
    · refine ⟨D1, acc, rfl, .inl ⟨sql ha4, fun wa hwa => ?_⟩⟩
      have k5 : Ex H' (upd H4 wa (.tup acc)) := k4.nw hwa _
      have kk5 : Ex H4 (upd H4 wa (.tup acc)) := .new hwa _
      have hw5 : upd H4 wa (.tup acc) wa = some (.tup acc) := upd_same
      have alw : All2 (DmAt (upd H4 wa (.tup acc))) acc (pick D s) := al4.mono fun _ _ z => DmAt.ts kk5.ts z
      generalize upd H4 wa (.tup acc) = H5 at k5 kk5 hw5 alw ⊢
      refine .inl ⟨_, rfl, c, s, rfl, k5.old _ _ hc, by omega, fun r6 H6 x6 k6 nr6 hr6 al6 => ⟨r6, rfl, ⟨_, sql hr6⟩, fun D2 hD2 => ?_⟩⟩
      have k56 : Ex H' H6 := k5.trans k6
      have kp6 := k.trans (k56.kp _)
      have dc6 := dc.kp (k56.kp (TL P1 P2))
      refine lc_gL (prEx H6) (R := fun _ y b => y = V.bl b) (fun _ _ _ _ _ z => z) (bs := smaller s) (φ := fun t => some (fe fm names bud (pick D t))) (small1000 (by unfold smaller; rw [List.length_map, List.length_range]; omega)) hD2 (fun H k => k.old _ _ hr6) al6.len (fun j y t H7 hy ht k7 N no yes => ?_) (fun H7 acc7 k7 ha7 al7 => ?_)
      · obtain ⟨y', hy', b, rfl, hb7⟩ := al6.get ht
        have hyy : V.ref b = y := by rw [hy'] at hy; exact Option.some.inj hy
        subst hyy
        obtain ⟨t1, t2⟩ := smaller_sub (List.mem_of_getElem? ht)
        have td : t ∈ (sets D.length).take i := seq_done (sets_ord _) hs (sets_iff.mpr (t1.trans ssub)) (by omega)
        exact ⟨rfl, _, rfl, _, rfl, d, _, rfl, (dc6.kp (k7.kp (TL P1 P2))).get td (k7.old _ _ hb7), yes _ _ _ (.refl _) rfl rfl⟩
      · obtain rfl := l_bls al7
        refine ⟨D2, _, rfl, sql ha7, ?_⟩
        rw [all_fm]
        have kp7 := kp6.trans (k7.kp _)
        have k'7 := k56.trans k7
        have dc7 := dc6.kp (k7.kp (TL P1 P2))
        have hc7 := k'7.old _ _ hc
        have fin : ∀ H8, Kp (TL P1 P2) H7 H8 → ∃ H9, DPut H8 d (.ref c) (.bl (fe fm names bud (pick D s))) H9 ∧
            ∀ b8 b9 b10, ∃ (e6 e7 e8 e9 e10 : Option V), [some (V.ref fa), some (.ref na), some (.ref da), some (oI bud), some (.ref ba), some (.ref d), some (.ref c), some (.ref wa), b8, b9, b10] = [some (.ref fa), some (.ref na), some (.ref da), some (oI bud), some (.ref ba), some (.ref d), e6, e7, e8, e9, e10] ∧ Kp (TL P1 P2) H H9 ∧ (∃ xb, H9 ba = some (.tup xb) ∧ All2 (OW H9) xb (lw fm)) ∧
              H9 sl = some (.lst sx) ∧ Tps H3 H9 ∧ DcB (i + 1) H9 d ((sets D.length).take (i + 1)) (fun s => fe fm names bud (pick D s)) := fun H8 k8 => by
          have dc8 := dc7.kp k8
          obtain ⟨kvs, kvs', hk, dp, dc9⟩ := dc8.put (k8.ts _ _ hc7) (by omega)
          have ts9 : Tps H8 (upd H8 d (.dT kvs')) := ts_dt hk
          refine ⟨_, dp, fun b8 b9 b10 => ⟨_, _, _, _, _, rfl, (kp7.trans k8).mutD (.of hd0) hk, ⟨xb', ts9 _ _ (k8.ts _ _ (k'7.old _ _ hb')), alb'.mono fun _ _ z => ((z.ts k'7.ts).ts k8.ts).ts ts9⟩, ls_dt hk (k8.old _ _ (k'7.old _ _ hsl') (by intro ps z; cases z)), ((t3.trans k'7.ts).trans k8.ts).trans ts9, ?_⟩⟩
          rw [take_succ_some hs]
          exact dc9
        refine ⟨_, rfl, _, rfl, ?_⟩
        cases e : (smaller s).all fun t => fe fm names bud (pick D t) with
        | false =>
          obtain ⟨t, ht, hf⟩ := List.all_eq_false.mp e
          have hF : fe fm names bud (pick D s) = false := by
            cases q : fe fm names bud (pick D s) with
            | false => rfl
            | true =>
              have t1 := (smaller_sub ht).1
              exact absurd (dn_pick (D := D) (fe_mono (bud := bud) g.wf g.nlen) D.length s t ssub (t1.trans ssub) (fun k hk => t1.subset hk) q) hf
          obtain ⟨H9, dp, inv⟩ := fin H7 (.refl _ _)
          rw [hF] at dp
          exact ite_ff ⟨_, rfl, _, rfl, d, H9, rfl, dp, inv _ _ _⟩
        | true =>
          refine ite_tt ⟨_, rfl, _, rfl, _, rfl, _, rfl, _, rfl, fa, na, wa, ba, fm, names, pick D s, lw fm, bud, rfl, ((g.ts kp7.ts kp7.fs).with_ (k'7.old _ _ hb') (alb'.mono fun _ _ z => z.ts k'7.ts)), ⟨_, (k6.trans k7).old _ _ hw5, alw.mono fun _ _ z => z.ts (k6.trans k7).ts⟩, .of (by have := pick_le (D := D) (l := s); omega) (pick_ok dok), kp7.tab hT, fun H8 k8 => ?_⟩
          obtain ⟨H9, dp, inv⟩ := fin H8 k8
          exact ⟨_, rfl, _, rfl, d, H9, rfl, dp, inv _ _ _⟩
  · obtain ⟨e6, e7, e8, e9, e10, rfl, k, _, _, _, dc⟩ := h
    have hl : sx.length = (sets D.length).length := als.len
    rw [hl, List.take_length] at dc
    obtain ⟨kvs, h1, h2, h3⟩ := dc
    exact ⟨_, rfl, q d H' k ⟨kvs, h1, by omega, h3⟩⟩
abbrev s_conflicts_of : Stmt := topS 21
abbrev N_conflicts_of : List Str := ["family", "names", "demands", "budget", "feasible", "found", "chosen", "smaller"]
theorem sc_conflicts_of : FnScope N_conflicts_of ["family", "names", "demands", "budget"] (defScope s_conflicts_of) := ⟨rfl, rfl, rfl, by decide +kernel, rfl, by decide +kernel, by decide +kernel⟩
-- slots: family:0 names:1 demands:2 budget:3 feasible:4 found:5 chosen:6 smaller:7   cells: feasible   calls: all_sets smaller_sets feasible_sets
abbrev s_corrections_of : Stmt := topS 22
abbrev N_corrections_of : List Str := ["family", "names", "demands", "budget", "count", "feasible", "found", "chosen", "least", "smaller"]
theorem sc_corrections_of : FnScope N_corrections_of ["family", "names", "demands", "budget"] (defScope s_corrections_of) := ⟨rfl, rfl, rfl, by decide +kernel, rfl, by decide +kernel, by decide +kernel⟩
-- slots: family:0 names:1 demands:2 budget:3 count:4 feasible:5 found:6 chosen:7 least:8 smaller:9   cells: count feasible   calls: all_sets outside_of smaller_sets feasible_sets
def spConf (P1 P2 : Addr) : Sp := fun vs H Q _ => ∃ (fa na da : Addr) (fm : Fm) (names : List (List Str)) (D : List Dem) (bud : Option Nat), vs = [.ref fa, .ref na, .ref da, oI bud] ∧ GivenN H fa na fm names ∧ DsAt H da D ∧ D.length ≤ 8 ∧ (∀ d ∈ D, DmOk d) ∧ LamX.Tabs (TL P1 P2) H ∧
  ∀ r H', Kp (TL P1 P2) H H' → SetsAt H' r ((sets D.length).filter (isConf fun s => fe fm names bud (pick D s))) → Q (.ref r) H'
theorem ok_conflicts_of (F : Fun K "conflicts_of" "conflicts_of" s_conflicts_of f fd) (B : Blt mg) (c_feasible_sets : Cal P w K mg base 7 "feasible_sets" ["family", "names", "demands", "budget"] (spFSets P1 P2))
    (c_all_sets : Cal P w K mg base 2 "all_sets" ["count"] (spSets P1 P2)) (c_smaller_sets : Cal P w K mg base 1 "smaller_sets" ["chosen"] spSmaller) : FnOk P w K mg base CX0 8 f fd ["family", "names", "demands", "budget"] (spConf P1 P2) := by
  refine F.ok sc_conflicts_of (fun vs H Q E h => ?_) (fun cdv A outer s H vs Q E hr h => ?_)
  · obtain ⟨fa, na, da, fm, names, D, bud, rfl, _⟩ := h
    rfl
  obtain ⟨fa, na, da, fm, names, D, bud, rfl, g, hD, hn, dok, hT, q⟩ := h
  refine ⟨_, (pss_cons (ps_set (i := 4) sc_conflicts_of.nd rfl (Or.inr rfl) (pe_cal c_feasible_sets (hr.mono (by omega)) (by rfl) (pa_cons (pv 0) (pa_cons (pv 1) (pa_cons (pv 2) (pa_cons (pv 3) pa_nil))))))
  (pss_cons (ps_set (i := 5) sc_conflicts_of.nd rfl (Or.inl rfl) (pe_lst pa_nil))
  (pss_cons (ps_for PassesOwn.never rfl (pi_seq (pe_cal c_all_sets (hr.mono (by omega)) (by rfl) (pa_cons (pe_callB call_len_seq (by rfl) B.len (by decide +kernel) (pa_cons (pv 2) pa_nil)) pa_nil))) (pg_name (i := 6) sc_conflicts_of.nd rfl (Or.inl rfl)) (pss_one (ps_if (PW.pt (pw_and (pt_not (pt_val (pe_dget (hu_le hr (by decide)) (pv 4) (pv 6) (fun _ _ => rfl)))) (pw_and1 (pt_val (pe_callB (cr_all rfl) (by rfl) B.all (by decide +kernel) (pa_cons (pe_lc (own := [("smaller", 7)]) rfl sc_conflicts_of.nd (pi_seq (pe_cal c_smaller_sets (hr.mono (by omega)) (by rfl) (pa_cons (pv 6) pa_nil))) (blkOk_by (N := N_conflicts_of) (sc := defScope s_conflicts_of) (by decide +kernel)) (fun _ _ _ _ _ => (pg_name (i := 7) sc_conflicts_of.nd rfl (Or.inl rfl))) (fun _ _ _ _ _ => pts_nil) (fun _ _ _ _ _ => (pe_dget (hu_le hr (by decide)) (pv 4) (pv 7) (fun _ _ => rfl)))) pa_nil)))))) (pss_one (ps_expr (pe_bm PySem.F.plainAttrs_list PySem.F.slot_list_append PySem.F.type_list_append mt_append (pv 5) (pa_cons (pv 6) pa_nil)))) pss_nil)))
  (pss_one (ps_ret (pe_callTy call_tuple_of (by rfl) B.tuple (by decide +kernel) (pa_cons (pv 5) pa_nil))))))), ?_⟩
  refine ⟨_, rfl, _, rfl, _, rfl, _, rfl, fa, na, da, fm, names, D, bud, rfl, g, hD, hn, dok, hT, fun d H1 k1 dc => ?_⟩
  obtain ⟨ds, hds, ald⟩ := hD
  have hdl : ds.length = D.length := ald.len
  generalize (fun s => fe fm names bud (pick D s)) = Fb at q dc
  refine ⟨(by show 0 ≤ sizeLine; decide), fun L hL => ?_⟩
  have kL : Kp (TL P1 P2) H (upd H1 L (.lst [])) := k1.nw hL _
  have nL : Nw H L := k1.nwB (.of hL)
  have hLL : upd H1 L (.lst []) L = some (.lst []) := upd_same
  have dcL : DcB 300 (upd H1 L (.lst [])) d (sets D.length) Fb := dc.kp ((Ex.new hL _).kp (TL P1 P2))
  generalize upd H1 L (.lst []) = H2 at kL hLL dcL ⊢
  refine .inl ⟨_, rfl, da, ds, rfl, .inr (sqt (kL.ts _ _ hds)), D.length, by rw [hdl]; rfl, hn, kL.tab hT, fun sl H3 sx k3 nsl hsl als => ⟨sl, rfl, ⟨_, sql hsl⟩, ?_⟩⟩
  have kp3 := kL.trans k3
  have h256 : (sets D.length).length ≤ 256 := by rw [sets_len]; exact pow_le hn
  have hsL : sl ≠ L := fun z => by
    obtain ⟨ps, e⟩ := nsl _ (by rw [z]; exact hLL)
    cases e
  refine for_list (xs := sx) (fun i σ H' => ∃ (xs : List V) (e6 e7 : Option V), σ = [some (.ref fa), some (.ref na), some (.ref da), some (oI bud), some (.ref d), some (.ref L), e6, e7] ∧ Kp (TL P1 P2) H H' ∧ H' sl = some (.lst sx) ∧ Tps H3 H' ∧ DcB 300 H' d (sets D.length) Fb ∧
      H' L = some (.lst xs) ∧ All2 (TupI H') xs (((sets D.length).take i).filter (isConf Fb)))
    ⟨[], none, none, rfl, kp3, hsl, .refl _, dcL.kp k3, k3.old _ _ hLL (by intro ps z; cases z), .nil⟩ (fun i σ H' _ h => by obtain ⟨_, _, _, _, _, k, _⟩ := h; exact sql k) (fun i x σ H' hx h => ?_) (fun σ H' h => ?_)
  · obtain ⟨xs, e6, e7, rfl, k, hsl', t3, dc, hl, al⟩ := h
    obtain ⟨s, hs, xs3⟩ := als.getL hx
    obtain ⟨c, rfl, hc⟩ := xs3.ts t3
    have ssub := sets_iff.mp (List.mem_of_getElem? hs)
    have slen : s.length ≤ D.length := by have := ssub.length_le; rw [List.length_range] at this; exact this
    have hlen : xs.length < sizeLine := small1000 (by
      rw [al.len]
      have h1 := List.length_filter_le (isConf Fb) ((sets D.length).take i)
      have h2 := List.length_take_le i (sets D.length)
      have h3 : ((sets D.length).take i).length ≤ (sets D.length).length := by rw [List.length_take]; omega
      omega)
    have skip : isConf Fb s = false → ((sets D.length).take (i + 1)).filter (isConf Fb) = ((sets D.length).take i).filter (isConf Fb) := fun e => by
      rw [take_succ_some hs, List.filter_append]; simp [e]
    have put : isConf Fb s = true → ((sets D.length).take (i + 1)).filter (isConf Fb) = ((sets D.length).take i).filter (isConf Fb) ++ [s] := fun e => by
      rw [take_succ_some hs, List.filter_append]; simp [e]
    refine ⟨_, rfl, _, rfl, d, _, rfl, dc.get (List.mem_of_getElem? hs) hc, _, rfl, ?_⟩
    cases e : Fb s with
    | true => exact ite_ff (ite_ff ⟨xs, _, _, rfl, k, hsl', t3, dc, hl, by rw [skip (by unfold isConf; rw [e]; rfl)]; exact al⟩)
    | false =>
      refine ite_tt (.inl ⟨_, rfl, c, s, rfl, hc, by omega, fun r6 H6 x6 k6 nr6 hr6 al6 => ⟨r6, rfl, ⟨_, sql hr6⟩, fun D2 hD2 => ?_⟩⟩)
      have dc6 := dc.kp (k6.kp (TL P1 P2))
      refine lc_gL (prEx H6) (R := fun _ y b => y = V.bl b) (fun _ _ _ _ _ z => z) (bs := smaller s) (φ := fun t => some (Fb t)) (small1000 (by unfold smaller; rw [List.length_map, List.length_range]; omega)) hD2 (fun H k => k.old _ _ hr6) al6.len (fun j y t H7 hy ht k7 N no yes => ?_) (fun H7 acc7 k7 ha7 al7 => ?_)
      · obtain ⟨y', hy', b, rfl, hb7⟩ := al6.get ht
        have hyy : V.ref b = y := by rw [hy'] at hy; exact Option.some.inj hy
        subst hyy
        have t1 := (smaller_sub (List.mem_of_getElem? ht)).1
        exact ⟨rfl, _, rfl, _, rfl, d, _, rfl, (dc6.kp (k7.kp (TL P1 P2))).get (sets_iff.mpr (t1.trans ssub)) (k7.old _ _ hb7), yes _ _ _ (.refl _) rfl rfl⟩
      · obtain rfl := l_bls al7
        refine ⟨D2, _, rfl, sql ha7, _, rfl, ?_⟩
        have kk7 := k6.trans k7
        have kp7 := k.trans (kk7.kp _)
        have hl7 := kk7.old _ _ hl
        have al7' : All2 (TupI H7) xs (((sets D.length).take i).filter (isConf Fb)) := al.mono fun _ _ z => z.ts kk7.ts
        rw [all_fm]
        cases e2 : (smaller s).all Fb with
        | false => exact ite_ff ⟨xs, _, _, rfl, kp7, kk7.old _ _ hsl', t3.trans kk7.ts, dc6.kp (k7.kp (TL P1 P2)), hl7, by rw [skip (by unfold isConf; rw [e, e2]; rfl)]; exact al7'⟩
        | true =>
          refine ite_tt ⟨_, rfl, ty_l hl7, _, rfl, L, _, _, rfl, rfl, hl7, hlen, ?_⟩
          have ts8 : Tps H7 (upd H7 L (.lst (xs ++ [.ref c]))) := ts_lst hl7
          refine ⟨_, _, _, rfl, kp7.mutL nL hl7, by rw [upd_ne hsL]; exact kk7.old _ _ hsl', (t3.trans kk7.ts).trans ts8, ?_, upd_same, ?_⟩
          · obtain ⟨kvs, h1, h2, h3⟩ := dc6.kp (k7.kp (TL P1 P2))
            exact ⟨kvs, by rw [upd_ne (ne_of h1 hl7 (by intro z; cases z))]; exact h1, h2, h3⟩
          · rw [put (by unfold isConf; rw [e, e2]; rfl)]
            exact (al7'.mono fun _ _ z => TupI.ts ts8 z).snoc ⟨c, rfl, ts8 _ _ (kk7.old _ _ hc)⟩
  · obtain ⟨xs, e6, e7, rfl, k, _, _, _, hl, al⟩ := h
    rw [als.len, List.take_length] at al
    exact ⟨_, rfl, L, xs, rfl, .inl ⟨sql hl, fun r hr' => q r _ (k.nw hr' _) ⟨xs, upd_same, al.mono fun _ _ z => z.ts (Ex.new hr' _).ts⟩⟩⟩
def spCorr (P1 P2 : Addr) : Sp := fun vs H Q _ => ∃ (fa na da : Addr) (fm : Fm) (names : List (List Str)) (D : List Dem) (bud : Option Nat), vs = [.ref fa, .ref na, .ref da, oI bud] ∧ GivenN H fa na fm names ∧ DsAt H da D ∧ D.length ≤ 8 ∧ (∀ d ∈ D, DmOk d) ∧ LamX.Tabs (TL P1 P2) H ∧
  ∀ r H', Kp (TL P1 P2) H H' → SetsAt H' r ((sets D.length).filter (isCorr (fun s => fe fm names bud (pick D s)) D.length)) → Q (.ref r) H'
theorem ok_corrections_of (F : Fun K "corrections_of" "corrections_of" s_corrections_of f fd) (B : Blt mg) (c_feasible_sets : Cal P w K mg base 7 "feasible_sets" ["family", "names", "demands", "budget"] (spFSets P1 P2))
    (c_all_sets : Cal P w K mg base 2 "all_sets" ["count"] (spSets P1 P2)) (c_smaller_sets : Cal P w K mg base 1 "smaller_sets" ["chosen"] spSmaller) (c_outside_of : Cal P w K mg base 1 "outside_of" ["chosen", "count"] spOutside) : FnOk P w K mg base CX0 8 f fd ["family", "names", "demands", "budget"] (spCorr P1 P2) := by
  refine F.ok sc_corrections_of (fun vs H Q E h => ?_) (fun cdv A outer s H vs Q E hr h => ?_)
  · obtain ⟨fa, na, da, fm, names, D, bud, rfl, _⟩ := h
    rfl
  obtain ⟨fa, na, da, fm, names, D, bud, rfl, g, hD, hn, dok, hT, q⟩ := h
  refine ⟨_, (pss_cons (ps_set (i := 4) sc_corrections_of.nd rfl (Or.inr rfl) (pe_callB call_len_seq (by rfl) B.len (by decide +kernel) (pa_cons (pv 2) pa_nil)))
  (pss_cons (ps_set (i := 5) sc_corrections_of.nd rfl (Or.inr rfl) (pe_cal c_feasible_sets (hr.mono (by omega)) (by rfl) (pa_cons (pv 0) (pa_cons (pv 1) (pa_cons (pv 2) (pa_cons (pv 3) pa_nil))))))
  (pss_cons (ps_set (i := 6) sc_corrections_of.nd rfl (Or.inl rfl) (pe_lst pa_nil))
  (pss_cons (ps_for PassesOwn.never rfl (pi_seq (pe_cal c_all_sets (hr.mono (by omega)) (by rfl) (pa_cons (pv 4) pa_nil))) (pg_name (i := 7) sc_corrections_of.nd rfl (Or.inl rfl)) (pss_cons (ps_set (i := 8) sc_corrections_of.nd rfl (Or.inl rfl) (pe_not (pe_callB (cr_any rfl) (by rfl) B.any (by decide +kernel) (pa_cons (pe_lc (own := [("smaller", 9)]) rfl sc_corrections_of.nd (pi_seq (pe_cal c_smaller_sets (hr.mono (by omega)) (by rfl) (pa_cons (pv 7) pa_nil))) (blkOk_by (N := N_corrections_of) (sc := defScope s_corrections_of) (by decide +kernel)) (fun _ _ _ _ _ => (pg_name (i := 9) sc_corrections_of.nd rfl (Or.inl rfl))) (fun _ _ _ _ _ => pts_nil) (fun _ _ _ _ _ => (pe_dget (hu_le hr (by decide)) (pv 5) (pe_cal c_outside_of (hr.mono (by omega)) (by rfl) (pa_cons (pv 9) (pa_cons (pv 4) pa_nil))) (fun _ _ => rfl)))) pa_nil))))
  (pss_one (ps_if (PW.pt (pw_and (pt_val (pv 8)) (pw_and1 (pt_val (pe_dget (hu_le hr (by decide)) (pv 5) (pe_cal c_outside_of (hr.mono (by omega)) (by rfl) (pa_cons (pv 7) (pa_cons (pv 4) pa_nil))) (fun _ _ => rfl)))))) (pss_one (ps_expr (pe_bm PySem.F.plainAttrs_list PySem.F.slot_list_append PySem.F.type_list_append mt_append (pv 6) (pa_cons (pv 7) pa_nil)))) pss_nil))))
  (pss_one (ps_ret (pe_callTy call_tuple_of (by rfl) B.tuple (by decide +kernel) (pa_cons (pv 6) pa_nil)))))))), ?_⟩
  obtain ⟨ds, hds, ald⟩ := id hD
  have hdl : ds.length = D.length := ald.len
  refine ⟨_, rfl, da, ds, rfl, .inr (sqt hds), ?_⟩
  rw [hdl]
  refine ⟨_, rfl, _, rfl, _, rfl, _, rfl, fa, na, da, fm, names, D, bud, rfl, g, hD, hn, dok, hT, fun d H1 k1 dc => ?_⟩
  generalize (fun s => fe fm names bud (pick D s)) = Fb at q dc
  refine ⟨(by show 0 ≤ sizeLine; decide), fun L hL => ?_⟩
  have kL : Kp (TL P1 P2) H (upd H1 L (.lst [])) := k1.nw hL _
  have nL : Nw H L := k1.nwB (.of hL)
  have hLL : upd H1 L (.lst []) L = some (.lst []) := upd_same
  have dcL : DcB 300 (upd H1 L (.lst [])) d (sets D.length) Fb := dc.kp ((Ex.new hL _).kp (TL P1 P2))
  generalize upd H1 L (.lst []) = H2 at kL hLL dcL ⊢
  refine .inl ⟨_, rfl, D.length, rfl, hn, kL.tab hT, fun sl H3 sx k3 nsl hsl als => ⟨sl, rfl, ⟨_, sql hsl⟩, ?_⟩⟩
  have kp3 := kL.trans k3
  have h256 : (sets D.length).length ≤ 256 := by rw [sets_len]; exact pow_le hn
  have hsL : sl ≠ L := fun z => by
    obtain ⟨ps, e⟩ := nsl _ (by rw [z]; exact hLL)
    cases e
  refine for_list (xs := sx) (fun i σ H' => ∃ (xs : List V) (e7 e8 e9 : Option V), σ = [some (.ref fa), some (.ref na), some (.ref da), some (oI bud), some (nI D.length), some (.ref d), some (.ref L), e7, e8, e9] ∧ Kp (TL P1 P2) H H' ∧ H' sl = some (.lst sx) ∧ Tps H3 H' ∧ DcB 300 H' d (sets D.length) Fb ∧
      H' L = some (.lst xs) ∧ All2 (TupI H') xs (((sets D.length).take i).filter (isCorr Fb D.length)))
    ⟨[], none, none, none, rfl, kp3, hsl, .refl _, dcL.kp k3, k3.old _ _ hLL (by intro ps z; cases z), .nil⟩ (fun i σ H' _ h => by obtain ⟨_, _, _, _, _, _, k, _⟩ := h; exact sql k) (fun i x σ H' hx h => ?_) (fun σ H' h => ?_)
  · obtain ⟨xs, e7, e8, e9, rfl, k, hsl', t3, dc, hl, al⟩ := h
    obtain ⟨s, hs, xs3⟩ := als.getL hx
    obtain ⟨c, rfl, hc⟩ := xs3.ts t3
    have ssub := sets_iff.mp (List.mem_of_getElem? hs)
    have slen : s.length ≤ D.length := by have := ssub.length_le; rw [List.length_range] at this; exact this
    have hlen : xs.length < sizeLine := small1000 (by
      rw [al.len]
      have h1 := List.length_filter_le (isCorr Fb D.length) ((sets D.length).take i)
      have h3 : ((sets D.length).take i).length ≤ (sets D.length).length := by rw [List.length_take]; omega
      omega)
    have skip : isCorr Fb D.length s = false → ((sets D.length).take (i + 1)).filter (isCorr Fb D.length) = ((sets D.length).take i).filter (isCorr Fb D.length) := fun e => by
      rw [take_succ_some hs, List.filter_append]; simp [e]
    have put : isCorr Fb D.length s = true → ((sets D.length).take (i + 1)).filter (isCorr Fb D.length) = ((sets D.length).take i).filter (isCorr Fb D.length) ++ [s] := fun e => by
      rw [take_succ_some hs, List.filter_append]; simp [e]
    refine .inl ⟨_, rfl, c, s, rfl, hc, by omega, fun r6 H6 x6 k6 nr6 hr6 al6 => ⟨r6, rfl, ⟨_, sql hr6⟩, fun D2 hD2 => ?_⟩⟩
    have dc6 := dc.kp (k6.kp (TL P1 P2))
    refine lc_gL (prEx H6) (R := fun _ y b => y = V.bl b) (fun _ _ _ _ _ z => z) (bs := smaller s) (φ := fun t => some (Fb (outside t D.length))) (small1000 (by unfold smaller; rw [List.length_map, List.length_range]; omega)) hD2 (fun H k => k.old _ _ hr6) al6.len (fun j y t H7 hy ht k7 N no yes => ?_) (fun H7 acc7 k7 ha7 al7 => ?_)
    · obtain ⟨y', hy', b, rfl, hb7⟩ := al6.get ht
      have hyy : V.ref b = y := by rw [hy'] at hy; exact Option.some.inj hy
      subst hyy
      refine ⟨rfl, _, rfl, _, rfl, _, rfl, b, t, D.length, rfl, k7.old _ _ hb7, by omega, fun o H8 k8 ho => ?_⟩
      exact ⟨d, _, rfl, ((dc6.kp (k7.kp (TL P1 P2))).kp (k8.kp (TL P1 P2))).get (sets_iff.mpr (outside_sub t _)) ho, yes _ _ _ k8 rfl rfl⟩
    · obtain rfl := l_bls al7
      refine ⟨D2, _, rfl, sql ha7, _, rfl, ?_⟩
      have kk7 := k6.trans k7
      have kp7 := k.trans (kk7.kp _)
      have hl7 := kk7.old _ _ hl
      have al7' : All2 (TupI H7) xs (((sets D.length).take i).filter (isCorr Fb D.length)) := al.mono fun _ _ z => z.ts kk7.ts
      have dc7 := dc6.kp (k7.kp (TL P1 P2))
      have ea : (((smaller s).filterMap fun t => some (Fb (outside t D.length))).any id) = (smaller s).any fun t => Fb (outside t D.length) := by
        rw [fm_map, List.any_map]; rfl
      rw [ea]
      refine ⟨_, rfl, _, rfl, ?_⟩
      cases e : (smaller s).any fun t => Fb (outside t D.length) with
      | true => exact ite_ff (ite_ff ⟨xs, _, _, _, rfl, kp7, kk7.old _ _ hsl', t3.trans kk7.ts, dc7, hl7, by rw [skip (by unfold isCorr; rw [e]; rfl)]; exact al7'⟩)
      | false =>
        refine ite_tt ⟨_, rfl, _, rfl, _, rfl, c, s, D.length, rfl, kk7.old _ _ hc, by omega, fun o H8 k8 ho => ?_⟩
        have dc8 := dc7.kp (k8.kp (TL P1 P2))
        refine ⟨d, _, rfl, dc8.get (sets_iff.mpr (outside_sub s _)) ho, _, rfl, ?_⟩
        have kk8 := kk7.trans k8
        have kp8 := k.trans (kk8.kp _)
        have hl8 := kk8.old _ _ hl
        have al8 : All2 (TupI H8) xs (((sets D.length).take i).filter (isCorr Fb D.length)) := al.mono fun _ _ z => z.ts kk8.ts
        cases e2 : Fb (outside s D.length) with
        | false => exact ite_ff ⟨xs, _, _, _, rfl, kp8, kk8.old _ _ hsl', t3.trans kk8.ts, dc8, hl8, by rw [skip (by unfold isCorr; rw [e, e2]; rfl)]; exact al8⟩
        | true =>
          refine ite_tt ⟨_, rfl, ty_l hl8, _, rfl, L, _, _, rfl, rfl, hl8, hlen, ?_⟩
          have ts8 : Tps H8 (upd H8 L (.lst (xs ++ [.ref c]))) := ts_lst hl8
          refine ⟨_, _, _, _, rfl, kp8.mutL nL hl8, by rw [upd_ne hsL]; exact kk8.old _ _ hsl', (t3.trans kk8.ts).trans ts8, ?_, upd_same, ?_⟩
          · obtain ⟨kvs, h1, h2, h3⟩ := dc8
            exact ⟨kvs, by rw [upd_ne (ne_of h1 hl8 (by intro z; cases z))]; exact h1, h2, h3⟩
          · rw [put (by unfold isCorr; rw [e, e2]; rfl)]
            exact (al8.mono fun _ _ z => TupI.ts ts8 z).snoc ⟨c, rfl, ts8 _ _ (kk8.old _ _ hc)⟩
  · obtain ⟨xs, e7, e8, e9, rfl, k, _, _, _, hl, al⟩ := h
    rw [als.len, List.take_length] at al
    exact ⟨_, rfl, L, xs, rfl, .inl ⟨sql hl, fun r hr' => q r _ (k.nw hr' _) ⟨xs, upd_same, al.mono fun _ _ z => z.ts (Ex.new hr' _).ts⟩⟩⟩
end
end K81
/-! ## WL -/
namespace K81
open PySem PySem.Spec PyProof.Rows L2

abbrev s_l_weight : Stmt := topS 30
abbrev N_l_weight : List Str := ["_law_variant", "_law_weights_here", "_law_price_here", "_law_parts", "_law_state"]
theorem sc_l_weight : FnScope N_l_weight ["_law_variant", "_law_weights_here"] (defScope s_l_weight) := ⟨rfl, rfl, rfl, by decide +kernel, rfl, by decide +kernel, by decide +kernel⟩
-- slots: _law_variant:0 _law_weights_here:1 _law_price_here:2 _law_parts:3 _law_state:4   calls: 
abbrev s_l_weights : Stmt := topS 31
abbrev N_l_weights : List Str := ["_law_family_here", "_law_weights_here", "_law_state", "_law_turn", "_law_changed", "_law_variant", "_law_weight_here"]
theorem sc_l_weights : FnScope N_l_weights ["_law_family_here"] (defScope s_l_weights) := ⟨rfl, rfl, rfl, by decide +kernel, rfl, by decide +kernel, by decide +kernel⟩
-- slots: _law_family_here:0 _law_weights_here:1 _law_state:2 _law_turn:3 _law_changed:4 _law_variant:5 _law_weight_here:6   calls: _law_weight
section
variable {P : Program} {w : World} {K : PySem.W.Frag} {mg : Str → Option Value} {base : Heap} {f : Addr} {fd : FuncData}
def spLWt : Sp := fun vs H Q _ => ∃ (x : V) (a : Addr) (ws : List V) (v : Vr) (tb : Tb), vs = [x, .ref a] ∧ VarAt H x v ∧ H a = some (.lst ws) ∧ All2 (OW H) ws tb ∧ (∀ s ∈ v.slots, s < tb.length) ∧
  ∀ r H', Ex H H' → OW H' r (vw (tf tb) v) → Q r H'
theorem ok_l_weight (F : Fun K "_law_weight" "_law_weight" s_l_weight f fd) : FnOk P w K mg base CX0 1 f fd ["_law_variant", "_law_weights_here"] spLWt := by
  refine F.ok sc_l_weight (fun vs H Q E h => ?_) (fun cdv A outer s H vs Q E hr h => ?_)
  · obtain ⟨x, a, ws, v, tb, rfl, _⟩ := h
    rfl
  obtain ⟨x, a, ws, v, tb, rfl, hv, ha, hw, hs, q⟩ := h
  refine ⟨_, (pss_cons (ps_if (pt_cmpR op_isN (pe_ix ix_seq (pv 0) pe_int (fun _ _ => rfl)) pe_non (nomark _)) (pss_one (ps_ret pe_non)) pss_nil)
  (pss_cons (ps_set (i := 2) sc_l_weight.nd rfl (Or.inl rfl) (pe_ix ix_seq (pv 0) pe_int (fun _ _ => rfl)))
  (pss_cons (ps_set (i := 3) sc_l_weight.nd rfl (Or.inl rfl) pe_int)
  (pss_cons (ps_for PassesOwn.never rfl (pi_seq (pe_ix ix_seq (pv 0) pe_int (fun _ _ => rfl))) (pg_name (i := 4) sc_l_weight.nd rfl (Or.inl rfl)) (pss_cons (ps_if (pt_cmpR op_isN (pe_ix ix_seq (pv 1) (pv 4) (fun _ _ => rfl)) pe_non (nomark _)) (pss_one (ps_ret pe_non)) pss_nil)
  (pss_cons (ps_set (i := 2) sc_l_weight.nd rfl (Or.inl rfl) (pe_op op_add (pv 2) (pe_ix ix_seq (pe_ix ix_seq (pv 1) (pv 4) (fun _ _ => rfl)) pe_int (fun _ _ => rfl))))
  (pss_one (ps_set (i := 3) sc_l_weight.nd rfl (Or.inl rfl) (pe_op op_add (pv 3) (pe_ix ix_seq (pe_ix ix_seq (pv 1) (pv 4) (fun _ _ => rfl)) pe_int (fun _ _ => rfl))))))))
  (pss_one (ps_ret (pe_tup (pa_cons (pv 2) (pa_cons (pv 3) pa_nil))))))))), ?_⟩
  obtain ⟨c, sl, rfl, hc, hsl⟩ := hv
  refine ⟨_, rfl, q_ixT2 hc rfl ⟨rfl, _, rfl, ?_⟩⟩
  cases hp : v.price with
  | none => exact ite_t (decide_eq_true rfl) (q _ H (.refl H) (by unfold vw; rw [hp]; rfl))
  | some p =>
  refine ite_f (decide_eq_false (by intro z; cases z)) ?_
  rw [hp] at hc
  refine ⟨_, rfl, q_ixT2 hc rfl ?_⟩
  refine .inr ⟨_, rfl, q_ixT1 hc rfl ⟨sl, rfl, ⟨_, sqt hsl⟩, for_tup (xs := v.slots.map nI) (fun i σ H' => H' = H ∧ ∃ (pr pa : Nat) (e : Option V), σ = [some (.ref c), some (.ref a), some (nI pr), some (nI pa), e] ∧ sumO ((v.slots.take i).map (tf tb)) (p, 1) = some (pr, pa))
    ⟨rfl, p, 1, _, rfl, rfl⟩ (fun i σ H' _ h => by rw [h.1]; exact sqt hsl) (fun i x σ H' hx h => ?_) (fun σ H' h => ?_)⟩⟩
  · obtain ⟨rfl, pr, pa, e, rfl, hsum⟩ := h
    obtain ⟨t, ht, rfl⟩ := map_at hx
    have htl : t < tb.length := hs t (List.mem_of_getElem? ht)
    obtain ⟨y, hy, ho⟩ := hw.get (tb_at htl)
    refine ⟨_, rfl, _, rfl, q_ixL ha hy ⟨rfl, _, rfl, ?_⟩⟩
    rw [ho.isn]
    cases hz : tf tb t with
    | none =>
      refine ite_tt (q _ H' (.refl H') ?_)
      have : vw (tf tb) v = none := by
        unfold vw; rw [hp]
        exact sumO_none (List.mem_map.mpr ⟨t, List.mem_of_getElem? ht, hz⟩)
      rw [this]; rfl
    | some z =>
      rw [hz] at ho
      obtain ⟨b, rfl, hb⟩ := ho
      refine ite_ff ?_
      refine ⟨_, rfl, _, rfl, _, rfl, q_ixL ha hy (q_ixT0 hb rfl ⟨_, _, rfl, rfl, ?_⟩)⟩
      refine ⟨_, rfl, _, rfl, _, rfl, q_ixL ha hy (q_ixT1 hb rfl ⟨_, _, rfl, rfl, ?_⟩)⟩
      refine ⟨rfl, pr + z.1, pa + z.2, some (nI t), ?_, ?_⟩
      · show _ = _
        rw [← nI_add, ← nI_add]; rfl
      · rw [take_succ_some ht, List.map_append]
        show sumO (_ ++ [tf tb t]) _ = _
        rw [hz]
        exact sumO_snoc hsum
  · obtain ⟨rfl, pr, pa, e, rfl, hsum⟩ := h
    refine ⟨_, rfl, _, rfl, (by show 2 ≤ sizeLine; decide), fun r hr' => q _ _ (.new hr' _) ?_⟩
    have : vw (tf tb) v = some (pr, pa) := by
      unfold vw; rw [hp]
      rw [List.length_map, List.take_length] at hsum
      exact hsum
    rw [this]
    exact ⟨r, rfl, upd_same⟩
def spLWts : Sp := fun vs H Q _ => ∃ (fa : Addr) (fm : Fm), vs = [.ref fa] ∧ FamAt H fa fm ∧ fm.Wf ∧ ∀ r H' xs, Ex H H' → H r = none → H' r = some (.lst xs) → All2 (OW H') xs (lw fm) → Q (.ref r) H'
theorem gr_snoc (fm : Fm) (T : Tb) {j : Nat} {v : Vr} (h : fm.vars[j]? = some v) : (fm.vars.take (j + 1)).foldl gstep (T, false) = gstep ((fm.vars.take j).foldl gstep (T, false)) v := by
  rw [take_succ_some h, List.foldl_append]; rfl
theorem gstep_none {b : Tb × Bool} {v : Vr} (h : vw (tf b.1) v = none) : gstep b v = b := by unfold gstep; rw [h]
theorem gstep_new {b : Tb × Bool} {v : Vr} {a : Wt} (h : vw (tf b.1) v = some a) (h2 : tf b.1 v.plug = none) : gstep b v = (b.1.set v.plug (some a), true) := by unfold gstep; rw [h]; simp only [h2]
theorem gstep_lt {b : Tb × Bool} {v : Vr} {a c : Wt} (h : vw (tf b.1) v = some a) (h2 : tf b.1 v.plug = some c) (l : WLt a c) : gstep b v = (b.1.set v.plug (some a), true) := by unfold gstep; rw [h]; simp only [h2, if_pos l]
theorem gstep_ge {b : Tb × Bool} {v : Vr} {a c : Wt} (h : vw (tf b.1) v = some a) (h2 : tf b.1 v.plug = some c) (l : ¬ WLt a c) : gstep b v = b := by unfold gstep; rw [h]; simp only [h2, if_neg l]
theorem gfold_len : ∀ (l : List Vr) (b : Tb × Bool), (l.foldl gstep b).1.length = b.1.length
  | [], _ => rfl
  | v :: l, b => by rw [List.foldl_cons, gfold_len l, gstep_len]
theorem all2_none {R : V → Option Wt → Prop} (h0 : R .non none) {n : Nat} {acc : List V} (h : All2 (fun x (_ : Nat) => x = V.non) acc ((List.range n).filterMap fun k => some k)) : All2 R acc (List.replicate n none) := by
  rw [fm_some] at h
  have e : acc = List.replicate n .non := by
    have hl : acc.length = n := by rw [h.len, List.length_range]
    refine List.eq_replicate_iff.mpr ⟨hl, fun x hx => ?_⟩
    obtain ⟨i, hi, e⟩ := List.mem_iff_getElem.mp hx
    obtain ⟨y, hy, r⟩ := h.getL (List.getElem?_eq_getElem hi)
    rw [e] at r; exact r
  rw [e]; exact All2.rep h0 n
where fm_some {l : List Nat} : (l.filterMap fun k => some k) = l := by induction l with
  | nil => rfl
  | cons a l ih => rw [List.filterMap_cons_some (f := fun k => some k) (b := a) rfl, ih]
theorem ok_l_weights (F : Fun K "_law_weights" "_law_weights" s_l_weights f fd) (B : Blt mg) (c_l_weight : Cal P w K mg base 1 "_law_weight" ["_law_variant", "_law_weights_here"] spLWt) : FnOk P w K mg base CX0 2 f fd ["_law_family_here"] spLWts := by
  refine F.ok sc_l_weights (fun vs H Q E h => ?_) (fun cdv A outer s H vs Q E hr h => ?_)
  · obtain ⟨fa, fm, rfl, _⟩ := h
    rfl
  obtain ⟨fa, fm, rfl, hf, wf, q⟩ := h
  refine ⟨_, (pss_cons (ps_setLc (i := 1) (own := [("_law_state", 2)]) rfl sc_l_weights.nd rfl rfl (sw_true rfl rfl rfl (by decide +kernel)) (pi_range1 (by rfl) B.range (pa_cons (pe_ix ix_seq (pv 0) pe_int (fun _ _ => rfl)) pa_nil)) (blkOk_by (N := N_l_weights) (sc := defScope s_l_weights) (by decide +kernel)) (fun _ _ _ _ _ => (pg_name (i := 2) sc_l_weights.nd rfl (Or.inl rfl))) (fun _ _ _ _ _ => pts_nil) (fun _ _ _ _ _ => pe_non))
  (pss_cons (ps_for PassesOwn.never rfl (pi_range1 (by rfl) B.range (pa_cons (pe_op op_add (pe_ix ix_seq (pv 0) pe_int (fun _ _ => rfl)) pe_int) pa_nil)) (pg_name (i := 3) sc_l_weights.nd rfl (Or.inl rfl)) (pss_cons (ps_set (i := 4) sc_l_weights.nd rfl (Or.inl rfl) pe_bl)
  (pss_cons (ps_for PassesOwn.never rfl (pi_seq (pe_ix ix_seq (pv 0) pe_int (fun _ _ => rfl))) (pg_name (i := 5) sc_l_weights.nd rfl (Or.inl rfl)) (pss_cons (ps_set (i := 6) sc_l_weights.nd rfl (Or.inl rfl) (pe_cal c_l_weight (hr.mono (by omega)) (by rfl) (pa_cons (pv 5) (pa_cons (pv 1) pa_nil))))
  (pss_one (ps_if (PW.pt (pw_and (pt_cmpR op_notN (pv 6) pe_non (nomark _)) (pw_and1 (PW.pt (pw_or (pt_cmpR op_isN (pe_ix ix_seq (pv 1) (pe_ix ix_seq (pv 5) pe_int (fun _ _ => rfl)) (fun _ _ => rfl)) pe_non (nomark _)) (pw_or1 (pt_cmpR (op_ltW (hu_le0 hr)) (pv 6) (pe_ix ix_seq (pv 1) (pe_ix ix_seq (pv 5) pe_int (fun _ _ => rfl)) (fun _ _ => rfl)) (nomark _)))))))) (pss_cons (ps_asg (pv 6) (pg_sub (pv 1) (pe_ix ix_seq (pv 5) pe_int (fun _ _ => rfl)) set_list))
  (pss_one (ps_set (i := 4) sc_l_weights.nd rfl (Or.inl rfl) pe_bl))) pss_nil))))
  (pss_one (ps_if (pt_not (pt_val (pv 4))) (pss_one ps_break) pss_nil)))))
  (pss_one (ps_ret (pv 1))))), ?_⟩
  obtain ⟨rr, bb, vs, h1, h2, h3, h4⟩ := hf.ex
  have hc4 := wf.cnt
  refine ⟨_, rfl, q_ixT0 h1 rfl ⟨_, rfl, by omega, by omega, fun D hD => lc_gR (prEx H) (R := fun _ x (_ : Nat) => x = V.non) (fun _ _ _ _ _ z => z) (n := fm.count) (φ := fun k => some k) (small1000 (by omega)) hD (fun i H1 hi k1 N no yes => ⟨rfl, yes _ _ _ (.refl _) rfl rfl⟩) (fun H1 acc k1 ha1 al1 => ?_)⟩⟩
  refine ⟨_, rfl, q_ixT0 (k1.old _ _ h1) rfl ⟨_, _, rfl, rfl, _, rfl, by omega, by omega, ?_⟩⟩
  have en : (((fm.count : Int)) + 1).toNat = fm.count + 1 := by omega
  rw [en]
  refine for_range (n := fm.count + 1) (fun i σ H' => ∃ (xs : List V) (T : Tb) (e2 e3 e4 e5 e6 : Option V), σ = [some (.ref fa), some (.ref D), e2, e3, e4, e5, e6] ∧ Ex H H' ∧ H' D = some (.lst xs) ∧ All2 (OW H') xs T ∧ T.length = fm.count ∧ gLoop fm (fm.count + 1 - i) T = gw fm)
    ⟨_, List.replicate fm.count none, none, none, none, none, none, rfl, k1, ha1, all2_none (R := OW H1) rfl al1, by simp, rfl⟩ (fun i σ H' hi h => ?_) (fun σ H' h => ?_)
  · obtain ⟨xs, T, e2, e3, e4, e5, e6, rfl, k, hx, al, hl, hg⟩ := h
    have k' := k
    refine .inr ⟨_, rfl, q_ixT2 (k.old _ _ h1) rfl ⟨bb, rfl, ⟨_, sqt (k.old _ _ h3)⟩, for_tup (xs := vs) (fun j σ H' => ∃ (xs : List V) (e3 e5 e6 : Option V), σ = [some (.ref fa), some (.ref D), e2, e3, some (.bl ((fm.vars.take j).foldl gstep (T, false)).2), e5, e6] ∧ Ex H H' ∧ H' D = some (.lst xs) ∧ All2 (OW H') xs ((fm.vars.take j).foldl gstep (T, false)).1)
      ⟨xs, _, _, _, rfl, k, hx, al⟩ (fun j σ H' _ h => by obtain ⟨_, _, _, _, _, k, _⟩ := h; exact sqt (k.old _ _ h3)) (fun j x σ H' hx h => ?_) (fun σ H' h => ?_)⟩⟩
    · obtain ⟨xs, e3, e5, e6, rfl, k, hxs, al⟩ := h
      obtain ⟨v, hv, va⟩ := h4.getL hx
      have vm : v ∈ fm.vars := List.mem_of_getElem? hv
      have hpl : v.plug < fm.count := (wf.vars v vm).1
      have vx : VarAt H' x v := va.ts k.ts
      obtain ⟨c, sl, rfl, hc, hsl⟩ := id vx
      have hnext := gr_snoc fm T hv
      have hlen : ((fm.vars.take j).foldl gstep (T, false)).1.length = fm.count := (gfold_len _ _).trans hl
      generalize (fm.vars.take j).foldl gstep (T, false) = S at hlen hnext al
      refine ⟨_, rfl, _, rfl, _, D, xs, v, S.1, rfl, vx, hxs, al, (by rw [hlen]; exact (wf.vars v vm).2.1), fun r H2 k2 hr2 => ?_⟩
      have hxs2 := k2.old _ _ hxs
      have hc2 := k2.old _ _ hc
      have al2 : All2 (OW H2) xs S.1 := al.mono fun _ _ z => z.ts k2.ts
      obtain ⟨y, hy, ho⟩ := al2.get (tb_at (tb := S.1) (s := v.plug) (by omega))
      have hlx : xs.length = S.1.length := al.len
      refine ⟨_, rfl, rfl, _, rfl, ?_⟩
      rw [hr2.isn]
      cases ew : vw (tf S.1) v with
      | none =>
        rw [gstep_none ew] at hnext
        exact ite_ff (ite_ff ⟨xs, e3, some (.ref c), some r, by rw [hnext]; rfl, k.trans k2, hxs2, by rw [hnext]; exact al2⟩)
      | some a1 =>
        rw [ew] at hr2
        refine ite_tt ⟨_, rfl, _, rfl, q_ixT0 hc2 rfl (q_ixL hxs2 hy ⟨rfl, _, rfl, ?_⟩)⟩
        rw [ho.isn]
        have put : (fm.vars.take (j + 1)).foldl gstep (T, false) = (S.1.set v.plug (some a1), true) → ∃ (xs' : List V) (e3' e5' e6' : Option V), [some (V.ref fa), some (V.ref D), e2, e3, some (V.bl true), some (V.ref c), some r] = [some (.ref fa), some (.ref D), e2, e3', some (.bl ((fm.vars.take (j + 1)).foldl gstep (T, false)).2), e5', e6'] ∧ Ex H (upd H2 D (.lst (xs.set v.plug r))) ∧ (upd H2 D (.lst (xs.set v.plug r))) D = some (.lst xs') ∧
            All2 (OW (upd H2 D (.lst (xs.set v.plug r)))) xs' ((fm.vars.take (j + 1)).foldl gstep (T, false)).1 := fun s => by
          refine ⟨_, _, _, _, by rw [s], (k.trans k2).mut hD _, upd_same, ?_⟩
          rw [s]
          exact All2.set _ (al2.mono fun _ _ z => z.ts (ts_lst hxs2)) (hr2.ts (ts_lst hxs2))
        cases et : tf S.1 v.plug with
        | none =>
          rw [gstep_new ew et] at hnext
          exact ite_tt (ite_tt ⟨_, rfl, _, rfl, _, rfl, q_ixT0 hc2 rfl (q_setL hxs2 (by omega) (put hnext))⟩)
        | some b1 =>
          rw [et] at ho
          refine ite_ff ⟨_, rfl, _, rfl, _, rfl, q_ixT0 hc2 rfl (q_ixL hxs2 hy ⟨a1, b1, hr2, ho, _, rfl, ?_⟩)⟩
          by_cases lt : WLt a1 b1
          · rw [decide_eq_true lt]
            rw [gstep_lt ew et lt] at hnext
            exact ite_tt ⟨_, rfl, _, rfl, _, rfl, q_ixT0 hc2 rfl (q_setL hxs2 (by omega) (put hnext))⟩
          · rw [decide_eq_false lt]
            rw [gstep_ge ew et lt] at hnext
            exact ite_ff ⟨xs, e3, some (.ref c), some r, by rw [hnext]; rfl, k.trans k2, hxs2, by rw [hnext]; exact al2⟩
    · obtain ⟨xs2, e3, e5, e6, rfl, k2, hxs, al2⟩ := h
      rw [h4.len, List.take_length] at al2 ⊢
      have hgr : fm.vars.foldl gstep (T, false) = gr fm T := rfl
      rw [hgr] at al2 ⊢
      obtain ⟨m, hm⟩ : ∃ m, fm.count + 1 - i = m + 1 := ⟨fm.count - i, by omega⟩
      have hm' : fm.count + 1 - (i + 1) = m := by omega
      rw [hm] at hg
      refine ⟨_, rfl, _, rfl, ?_⟩
      cases e : (gr fm T).2 with
      | false =>
        refine ite_tt ⟨_, rfl, q D H' xs2 k2 hD hxs ?_⟩
        have : gLoop fm (m + 1) T = (gr fm T).1 := if_pos e
        rw [← gw_lw wf, ← hg, this]; exact al2
      | true =>
        refine ite_ff ⟨xs2, (gr fm T).1, _, _, _, _, _, rfl, k2, hxs, al2, (gfold_len _ _).trans hl, ?_⟩
        have : gLoop fm (m + 1) T = gLoop fm m (gr fm T).1 := if_neg (by rw [e]; decide)
        rw [hm', ← hg, this]
  · obtain ⟨xs, T, e2, e3, e4, e5, e6, rfl, k, hx, al, hl, hg⟩ := h
    refine ⟨_, rfl, q D H' xs k hD hx ?_⟩
    rw [Nat.sub_self] at hg
    rw [← gw_lw wf, ← hg]; exact al
end
end K81
/-! ## WM -/
namespace K81
open PySem PySem.Spec PyProof.Rows L2

abbrev s_l_size : Stmt := topS 28
abbrev N_l_size : List Str := ["_law_variant", "_law_sizes_here", "_law_size_here", "_law_state"]
theorem sc_l_size : FnScope N_l_size ["_law_variant", "_law_sizes_here"] (defScope s_l_size) := ⟨rfl, rfl, rfl, by decide +kernel, rfl, by decide +kernel, by decide +kernel⟩
-- slots: _law_variant:0 _law_sizes_here:1 _law_size_here:2 _law_state:3   calls: 
abbrev s_l_sizes : Stmt := topS 29
abbrev N_l_sizes : List Str := ["_law_family_here", "_law_sizes_here", "_law_state", "_law_turn", "_law_changed", "_law_variant", "_law_size_here"]
theorem sc_l_sizes : FnScope N_l_sizes ["_law_family_here"] (defScope s_l_sizes) := ⟨rfl, rfl, rfl, by decide +kernel, rfl, by decide +kernel, by decide +kernel⟩
-- slots: _law_family_here:0 _law_sizes_here:1 _law_state:2 _law_turn:3 _law_changed:4 _law_variant:5 _law_size_here:6   calls: _law_size
def vz (v : Vr) : Vr := ⟨v.plug, v.slots, v.price.map fun _ => 0⟩
/-- the family without its prices -/
def fz (f : Fm) : Fm := ⟨f.count, f.roots, f.vars.map vz⟩
theorem fz_wf {f : Fm} (h : f.Wf) : (fz f).Wf where
  pos := h.pos
  cnt := h.cnt
  vars v hv := by
    obtain ⟨u, hu, rfl⟩ := List.mem_map.mp hv
    exact h.vars u hu
  roots := h.roots
  nv := by show (f.vars.map vz).length ≤ 11; rw [List.length_map]; exact h.nv
  nr := h.nr
def Z (T : Tb) : Prop := ∀ s a, tf T s = some a → a.1 = 0
theorem sumO_zero : ∀ {l : List (Option Wt)} {n : Nat} {w : Wt}, (∀ x ∈ l, ∀ a, x = some a → a.1 = 0) → sumO l (0, n) = some w → w.1 = 0
  | [], n, w, _, h => by cases h; rfl
  | none :: _, _, _, _, h => by cases h
  | some y :: r, n, w, hz, h => by
    have y0 := hz (some y) (List.mem_cons_self ..) y rfl
    have : sumO r (0 + y.1, n + y.2) = some w := h
    rw [y0] at this
    exact sumO_zero (fun x hx => hz x (List.mem_cons_of_mem _ hx)) this
theorem vz_zero {T : Tb} (h : Z T) {v : Vr} {a : Wt} (e : vw (tf T) (vz v) = some a) : a.1 = 0 := by
  cases hp : v.price with
  | none => unfold vw vz at e; rw [hp] at e; cases e
  | some p =>
    have e2 : sumO (v.slots.map (tf T)) (0, 1) = some a := by unfold vw vz at e; rw [hp] at e; exact e
    exact sumO_zero (fun x hx b eb => by
      obtain ⟨s, _, rfl⟩ := List.mem_map.mp hx
      exact h s b eb) e2
theorem z_set {T : Tb} (h : Z T) {i : Nat} (hi : i < T.length) {a : Wt} (h0 : a.1 = 0) : Z (T.set i (some a)) := fun s b e => by
  rw [tf_set hi] at e
  by_cases q : s = i
  · rw [if_pos q] at e; rw [← Option.some.inj e]; exact h0
  · rw [if_neg q] at e; exact h s b e
theorem z_rep (n : Nat) : Z (List.replicate n none) := fun s a e => by rw [tf_rep] at e; cases e
def OS (x : V) (w : Option Wt) : Prop := x = oI (w.map (·.2))
theorem OS.isn {x : V} {o : Option Wt} (h : OS x o) : (decide (x = V.non)) = o.isNone := by
  rw [show x = _ from h]
  cases o with
  | none => exact decide_eq_true rfl
  | some w => exact decide_eq_false (by intro z; cases z)
section
variable {P : Program} {w : World} {K : PySem.W.Frag} {mg : Str → Option Value} {base : Heap} {f : Addr} {fd : FuncData}
def spLSz : Sp := fun vs H Q _ => ∃ (x : V) (a : Addr) (ws : List V) (v : Vr) (tb : Tb), vs = [x, .ref a] ∧ VarAt H x v ∧ H a = some (.lst ws) ∧ All2 OS ws tb ∧ (∀ s ∈ v.slots, s < tb.length) ∧
  Q (oI ((vw (tf tb) (vz v)).map (·.2))) H
theorem ok_l_size (F : Fun K "_law_size" "_law_size" s_l_size f fd) : FnOk P w K mg base CX0 1 f fd ["_law_variant", "_law_sizes_here"] spLSz := by
  refine F.ok sc_l_size (fun vs H Q E h => ?_) (fun cdv A outer s H vs Q E hr h => ?_)
  · obtain ⟨x, a, ws, v, tb, rfl, _⟩ := h
    rfl
  obtain ⟨x, a, ws, v, tb, rfl, hv, ha, hw, hs, q⟩ := h
  refine ⟨_, (pss_cons (ps_if (pt_cmpR op_isN (pe_ix ix_seq (pv 0) pe_int (fun _ _ => rfl)) pe_non (nomark _)) (pss_one (ps_ret pe_non)) pss_nil)
  (pss_cons (ps_set (i := 2) sc_l_size.nd rfl (Or.inl rfl) pe_int)
  (pss_cons (ps_for PassesOwn.never rfl (pi_seq (pe_ix ix_seq (pv 0) pe_int (fun _ _ => rfl))) (pg_name (i := 3) sc_l_size.nd rfl (Or.inl rfl)) (pss_cons (ps_if (pt_cmpR op_isN (pe_ix ix_seq (pv 1) (pv 3) (fun _ _ => rfl)) pe_non (nomark _)) (pss_one (ps_ret pe_non)) pss_nil)
  (pss_one (ps_set (i := 2) sc_l_size.nd rfl (Or.inl rfl) (pe_op op_add (pv 2) (pe_ix ix_seq (pv 1) (pv 3) (fun _ _ => rfl)))))))
  (pss_one (ps_ret (pv 2)))))), ?_⟩
  obtain ⟨c, sl, rfl, hc, hsl⟩ := hv
  refine ⟨_, rfl, q_ixT2 hc rfl ⟨rfl, _, rfl, ?_⟩⟩
  cases hp : v.price with
  | none => exact ite_t (decide_eq_true rfl) (by have : vw (tf tb) (vz v) = none := by { unfold vw vz; rw [hp]; rfl }; rw [this] at q; exact q)
  | some p =>
  have hvw : vw (tf tb) (vz v) = sumO (v.slots.map (tf tb)) (0, 1) := by unfold vw vz; rw [hp]; rfl
  refine ite_f (decide_eq_false (by intro z; cases z)) ?_
  refine .inr ⟨_, rfl, q_ixT1 hc rfl ⟨sl, rfl, ⟨_, sqt hsl⟩, for_tup (xs := v.slots.map nI) (fun i σ H' => H' = H ∧ ∃ (pr pa : Nat) (e : Option V), σ = [some (.ref c), some (.ref a), some (nI pa), e] ∧ sumO ((v.slots.take i).map (tf tb)) (0, 1) = some (pr, pa))
    ⟨rfl, 0, 1, _, rfl, rfl⟩ (fun i σ H' _ h => by rw [h.1]; exact sqt hsl) (fun i x σ H' hx h => ?_) (fun σ H' h => ?_)⟩⟩
  · obtain ⟨rfl, pr, pa, e, rfl, hsum⟩ := h
    obtain ⟨t, ht, rfl⟩ := map_at hx
    have htl : t < tb.length := hs t (List.mem_of_getElem? ht)
    obtain ⟨y, hy, ho⟩ := hw.get (tb_at htl)
    refine ⟨_, rfl, _, rfl, q_ixL ha hy ⟨rfl, _, rfl, ?_⟩⟩
    rw [ho.isn]
    cases hz : tf tb t with
    | none =>
      refine ite_tt ?_
      rw [hvw, sumO_none (List.mem_map.mpr ⟨t, List.mem_of_getElem? ht, hz⟩)] at q
      exact q
    | some z =>
      rw [hz] at ho
      have hyz : y = nI z.2 := ho
      refine ite_ff ⟨_, rfl, _, rfl, _, rfl, q_ixL ha hy ⟨_, _, rfl, hyz, ?_⟩⟩
      refine ⟨rfl, pr + z.1, pa + z.2, some (nI t), ?_, ?_⟩
      · show _ = _
        rw [← nI_add]; rfl
      · rw [take_succ_some ht, List.map_append]
        show sumO (_ ++ [tf tb t]) _ = _
        rw [hz]
        exact sumO_snoc hsum
  · obtain ⟨rfl, pr, pa, e, rfl, hsum⟩ := h
    rw [List.length_map, List.take_length] at hsum
    rw [hvw, hsum] at q
    exact ⟨_, rfl, q⟩
/-- the least sizes -/
def szs (fm : Fm) : Tb := lw (fz fm)
def spLSzs : Sp := fun vs H Q _ => ∃ (fa : Addr) (fm : Fm), vs = [.ref fa] ∧ FamAt H fa fm ∧ fm.Wf ∧ ∀ r H' xs, Ex H H' → H r = none → H' r = some (.lst xs) → All2 OS xs (szs fm) → Z (szs fm) → Q (.ref r) H'
theorem fz_at {fm : Fm} {j : Nat} {v : Vr} (h : fm.vars[j]? = some v) : (fz fm).vars[j]? = some (vz v) := by
  show (fm.vars.map vz)[j]? = _
  rw [List.getElem?_map, h]; rfl
theorem ok_l_sizes (F : Fun K "_law_sizes" "_law_sizes" s_l_sizes f fd) (B : Blt mg) (c_l_size : Cal P w K mg base 1 "_law_size" ["_law_variant", "_law_sizes_here"] spLSz) : FnOk P w K mg base CX0 2 f fd ["_law_family_here"] spLSzs := by
  refine F.ok sc_l_sizes (fun vs H Q E h => ?_) (fun cdv A outer s H vs Q E hr h => ?_)
  · obtain ⟨fa, fm, rfl, _⟩ := h
    rfl
  obtain ⟨fa, fm, rfl, hf, wf, q⟩ := h
  refine ⟨_, (pss_cons (ps_setLc (i := 1) (own := [("_law_state", 2)]) rfl sc_l_sizes.nd rfl rfl (sw_true rfl rfl rfl (by decide +kernel)) (pi_range1 (by rfl) B.range (pa_cons (pe_ix ix_seq (pv 0) pe_int (fun _ _ => rfl)) pa_nil)) (blkOk_by (N := N_l_sizes) (sc := defScope s_l_sizes) (by decide +kernel)) (fun _ _ _ _ _ => (pg_name (i := 2) sc_l_sizes.nd rfl (Or.inl rfl))) (fun _ _ _ _ _ => pts_nil) (fun _ _ _ _ _ => pe_non))
  (pss_cons (ps_for PassesOwn.never rfl (pi_range1 (by rfl) B.range (pa_cons (pe_op op_add (pe_ix ix_seq (pv 0) pe_int (fun _ _ => rfl)) pe_int) pa_nil)) (pg_name (i := 3) sc_l_sizes.nd rfl (Or.inl rfl)) (pss_cons (ps_set (i := 4) sc_l_sizes.nd rfl (Or.inl rfl) pe_bl)
  (pss_cons (ps_for PassesOwn.never rfl (pi_seq (pe_ix ix_seq (pv 0) pe_int (fun _ _ => rfl))) (pg_name (i := 5) sc_l_sizes.nd rfl (Or.inl rfl)) (pss_cons (ps_set (i := 6) sc_l_sizes.nd rfl (Or.inl rfl) (pe_cal c_l_size (hr.mono (by omega)) (by rfl) (pa_cons (pv 5) (pa_cons (pv 1) pa_nil))))
  (pss_one (ps_if (PW.pt (pw_and (pt_cmpR op_notN (pv 6) pe_non (nomark _)) (pw_and1 (PW.pt (pw_or (pt_cmpR op_isN (pe_ix ix_seq (pv 1) (pe_ix ix_seq (pv 5) pe_int (fun _ _ => rfl)) (fun _ _ => rfl)) pe_non (nomark _)) (pw_or1 (pt_cmpR op_lt (pv 6) (pe_ix ix_seq (pv 1) (pe_ix ix_seq (pv 5) pe_int (fun _ _ => rfl)) (fun _ _ => rfl)) (nomark _)))))))) (pss_cons (ps_asg (pv 6) (pg_sub (pv 1) (pe_ix ix_seq (pv 5) pe_int (fun _ _ => rfl)) set_list))
  (pss_one (ps_set (i := 4) sc_l_sizes.nd rfl (Or.inl rfl) pe_bl))) pss_nil))))
  (pss_one (ps_if (pt_not (pt_val (pv 4))) (pss_one ps_break) pss_nil)))))
  (pss_one (ps_ret (pv 1))))), ?_⟩
  obtain ⟨rr, bb, vs, h1, h2, h3, h4⟩ := hf.ex
  have hc4 := wf.cnt
  refine ⟨_, rfl, q_ixT0 h1 rfl ⟨_, rfl, by omega, by omega, fun D hD => lc_gR (prEx H) (R := fun _ x (_ : Nat) => x = V.non) (fun _ _ _ _ _ z => z) (n := fm.count) (φ := fun k => some k) (small1000 (by omega)) hD (fun i H1 hi k1 N no yes => ⟨rfl, yes _ _ _ (.refl _) rfl rfl⟩) (fun H1 acc k1 ha1 al1 => ?_)⟩⟩
  refine ⟨_, rfl, q_ixT0 (k1.old _ _ h1) rfl ⟨_, _, rfl, rfl, _, rfl, by omega, by omega, ?_⟩⟩
  have en : (((fm.count : Int)) + 1).toNat = fm.count + 1 := by omega
  rw [en]
  refine for_range (n := fm.count + 1) (fun i σ H' => ∃ (xs : List V) (T : Tb) (e2 e3 e4 e5 e6 : Option V), σ = [some (.ref fa), some (.ref D), e2, e3, e4, e5, e6] ∧ Ex H H' ∧ H' D = some (.lst xs) ∧ All2 OS xs T ∧ Z T ∧ T.length = fm.count ∧ gLoop (fz fm) (fm.count + 1 - i) T = gw (fz fm))
    ⟨_, List.replicate fm.count none, none, none, none, none, none, rfl, k1, ha1, all2_none (R := OS) rfl al1, z_rep _, by simp, rfl⟩ (fun i σ H' hi h => ?_) (fun σ H' h => ?_)
  · obtain ⟨xs, T, e2, e3, e4, e5, e6, rfl, k, hx, al, hzT, hl, hg⟩ := h
    have k' := k
    refine .inr ⟨_, rfl, q_ixT2 (k.old _ _ h1) rfl ⟨bb, rfl, ⟨_, sqt (k.old _ _ h3)⟩, for_tup (xs := vs) (fun j σ H' => ∃ (xs : List V) (e3 e5 e6 : Option V), σ = [some (.ref fa), some (.ref D), e2, e3, some (.bl (((fz fm).vars.take j).foldl gstep (T, false)).2), e5, e6] ∧ Ex H H' ∧ H' D = some (.lst xs) ∧ All2 OS xs (((fz fm).vars.take j).foldl gstep (T, false)).1 ∧ Z (((fz fm).vars.take j).foldl gstep (T, false)).1)
      ⟨xs, _, _, _, rfl, k, hx, al, hzT⟩ (fun j σ H' _ h => by obtain ⟨_, _, _, _, _, k, _⟩ := h; exact sqt (k.old _ _ h3)) (fun j x σ H' hx h => ?_) (fun σ H' h => ?_)⟩⟩
    · obtain ⟨xs, e3, e5, e6, rfl, k, hxs, al, hzS⟩ := h
      obtain ⟨v, hv, va⟩ := h4.getL hx
      have vm : v ∈ fm.vars := List.mem_of_getElem? hv
      have hpl : v.plug < fm.count := (wf.vars v vm).1
      have vx : VarAt H' x v := va.ts k.ts
      obtain ⟨c, sl, rfl, hc, hsl⟩ := id vx
      have hnext := gr_snoc (fz fm) T (fz_at hv)
      have hlen : (((fz fm).vars.take j).foldl gstep (T, false)).1.length = fm.count := (gfold_len _ _).trans hl
      generalize ((fz fm).vars.take j).foldl gstep (T, false) = S at hlen hnext al hzS
      refine ⟨_, rfl, _, rfl, _, D, xs, v, S.1, rfl, vx, hxs, al, (by rw [hlen]; exact (wf.vars v vm).2.1), ?_⟩
      obtain ⟨y, hy, ho⟩ := al.get (tb_at (tb := S.1) (s := v.plug) (by omega))
      have hlx : xs.length = S.1.length := al.len
      refine ⟨_, rfl, rfl, _, rfl, ?_⟩
      have hr2 : OS (oI ((vw (tf S.1) (vz v)).map (·.2))) (vw (tf S.1) (vz v)) := rfl
      rw [hr2.isn]
      cases ew : vw (tf S.1) (vz v) with
      | none =>
        rw [gstep_none ew] at hnext
        exact ite_ff (ite_ff ⟨xs, e3, some (.ref c), some _, by rw [hnext]; rfl, k, hxs, by rw [hnext]; exact al, by rw [hnext]; exact hzS⟩)
      | some a1 =>
        have a0 := vz_zero hzS ew
        refine ite_tt ⟨_, rfl, _, rfl, q_ixT0 hc rfl (q_ixL hxs hy ⟨rfl, _, rfl, ?_⟩)⟩
        rw [ho.isn]
        have put : ((fz fm).vars.take (j + 1)).foldl gstep (T, false) = (S.1.set v.plug (some a1), true) → ∃ (xs' : List V) (e3' e5' e6' : Option V), [some (V.ref fa), some (V.ref D), e2, e3, some (V.bl true), some (V.ref c), some (nI a1.2)] = [some (.ref fa), some (.ref D), e2, e3', some (.bl (((fz fm).vars.take (j + 1)).foldl gstep (T, false)).2), e5', e6'] ∧ Ex H (upd H' D (.lst (xs.set v.plug (nI a1.2)))) ∧ (upd H' D (.lst (xs.set v.plug (nI a1.2)))) D = some (.lst xs') ∧
            All2 OS xs' (((fz fm).vars.take (j + 1)).foldl gstep (T, false)).1 ∧ Z (((fz fm).vars.take (j + 1)).foldl gstep (T, false)).1 := fun s => by
          refine ⟨_, _, _, _, by rw [s], k.mut hD _, upd_same, ?_, ?_⟩
          · rw [s]; exact All2.set _ al rfl
          · rw [s]; exact z_set hzS (by omega) a0
        cases et : tf S.1 v.plug with
        | none =>
          rw [gstep_new ew et] at hnext
          exact ite_tt (ite_tt ⟨_, rfl, _, rfl, _, rfl, q_ixT0 hc rfl (q_setL hxs (by omega) (put hnext))⟩)
        | some b1 =>
          rw [et] at ho
          have hyz : y = nI b1.2 := ho
          have b0 := hzS _ _ et
          have iff : decide ((a1.2 : Int) < (b1.2 : Int)) = decide (WLt a1 b1) := by
            rw [decide_eq_decide]; unfold WLt; omega
          refine ite_ff ⟨_, rfl, _, rfl, _, rfl, q_ixT0 hc rfl (q_ixL hxs hy ⟨_, _, rfl, hyz, _, rfl, ?_⟩)⟩
          show (if decide ((a1.2 : Int) < (b1.2 : Int)) = true then _ else _)
          rw [iff]
          by_cases lt : WLt a1 b1
          · rw [decide_eq_true lt]
            rw [gstep_lt ew et lt] at hnext
            exact ite_tt ⟨_, rfl, _, rfl, _, rfl, q_ixT0 hc rfl (q_setL hxs (by omega) (put hnext))⟩
          · rw [decide_eq_false lt]
            rw [gstep_ge ew et lt] at hnext
            exact ite_ff ⟨xs, e3, some (.ref c), some _, by rw [hnext]; rfl, k, hxs, by rw [hnext]; exact al, by rw [hnext]; exact hzS⟩
    · obtain ⟨xs2, e3, e5, e6, rfl, k2, hxs, al2, hz2⟩ := h
      have hvl : vs.length = (fz fm).vars.length := by rw [h4.len]; show _ = (fm.vars.map vz).length; rw [List.length_map]
      rw [hvl, List.take_length] at al2 hz2 ⊢
      have hgr : (fz fm).vars.foldl gstep (T, false) = gr (fz fm) T := rfl
      rw [hgr] at al2 hz2 ⊢
      obtain ⟨m, hm⟩ : ∃ m, fm.count + 1 - i = m + 1 := ⟨fm.count - i, by omega⟩
      have hm' : fm.count + 1 - (i + 1) = m := by omega
      rw [hm] at hg
      refine ⟨_, rfl, _, rfl, ?_⟩
      cases e : (gr (fz fm) T).2 with
      | false =>
        refine ite_tt ⟨_, rfl, q D H' xs2 k2 hD hxs (by have e8 : szs fm = (gr (fz fm) T).1 := by { unfold szs; rw [← gw_lw (fz_wf wf), ← hg]; exact if_pos e }; rw [e8]; exact al2) ?_⟩
        have : gLoop (fz fm) (m + 1) T = (gr (fz fm) T).1 := if_pos e
        have e9 : szs fm = (gr (fz fm) T).1 := by unfold szs; rw [← gw_lw (fz_wf wf), ← hg, this]
        rw [e9]; exact hz2
      | true =>
        refine ite_ff ⟨xs2, (gr (fz fm) T).1, _, _, _, _, _, rfl, k2, hxs, al2, hz2, (gfold_len _ _).trans hl, ?_⟩
        have : gLoop (fz fm) (m + 1) T = gLoop (fz fm) m (gr (fz fm) T).1 := if_neg (by rw [e]; decide)
        rw [hm', ← hg, this]
  · obtain ⟨xs, T, e2, e3, e4, e5, e6, rfl, k, hx, al, hzT, hl, hg⟩ := h
    rw [Nat.sub_self] at hg
    have e9 : szs fm = T := by unfold szs; rw [← gw_lw (fz_wf wf), ← hg]; rfl
    exact ⟨_, rfl, q D H' xs k hD hx (by rw [e9]; exact al) (by rw [e9]; exact hzT)⟩
end
end K81
/-! ## WN -/
namespace K81
open PySem PySem.Spec PyProof.Rows L2

abbrev s_l_stands : Stmt := topS 43
abbrev N_l_stands : List Str := ["_law_family_here", "_law_names_here", "_law_demands_here", "_law_number", "_law_path_here", "_law_demand_here"]
theorem sc_l_stands : FnScope N_l_stands ["_law_family_here", "_law_names_here", "_law_demands_here", "_law_number", "_law_path_here"] (defScope s_l_stands) := ⟨rfl, rfl, rfl, by decide +kernel, rfl, by decide +kernel, by decide +kernel⟩
-- slots: _law_family_here:0 _law_names_here:1 _law_demands_here:2 _law_number:3 _law_path_here:4 _law_demand_here:5   calls: 
section
variable {P : Program} {w : World} {K : PySem.W.Frag} {mg : Str → Option Value} {base : Heap} {f : Addr} {fd : FuncData}
def spStands : Sp := fun vs H Q _ => ∃ (fa na da qa : Addr) (fm : Fm) (names : List (List Str)) (D : List Dem) (i : Nat) (v : Vr) (p : List Str), vs = [.ref fa, .ref na, .ref da, nI i, .ref qa] ∧ GivenN H fa na fm names ∧ DsAt H da D ∧ DsOk D ∧ fm.vars[i]? = some v ∧ H qa = some (.tup (p.map V.str)) ∧ WsOk p ∧
  ∀ H', Ex H H' → Q (.bl (v.price.isSome && stands names D i p)) H'
theorem ok_stands (F : Fun K "_law_stands" "_law_stands" s_l_stands f fd) (B : Blt mg) : FnOk P w K mg base CX0 1 f fd ["_law_family_here", "_law_names_here", "_law_demands_here", "_law_number", "_law_path_here"] spStands := by
  refine F.ok sc_l_stands (fun vs H Q E h => ?_) (fun cdv A outer s H vs Q E hr h => ?_)
  · obtain ⟨fa, na, da, qa, fm, names, D, i, v, p, rfl, _⟩ := h
    rfl
  obtain ⟨fa, na, da, qa, fm, names, D, i, v, p, rfl, g, hD, dok, hv, hq, hw, q⟩ := h
  refine ⟨_, (pss_cons (ps_if (pt_cmpR op_isN (pe_ix ix_seq (pe_ix ix_seq (pe_ix ix_seq (pv 0) pe_int (fun _ _ => rfl)) (pv 3) (fun _ _ => rfl)) pe_int (fun _ _ => rfl)) pe_non (nomark _)) (pss_one (ps_ret pe_bl)) pss_nil)
  (pss_cons (ps_for PassesOwn.never rfl (pi_seq (pv 2)) (pg_name (i := 5) sc_l_stands.nd rfl (Or.inl rfl)) (pss_cons (ps_if (PW.pt (pw_and (pt_cmpR (op_eqD (hu_le hr (by decide))) (pe_ix ix_seq (pv 5) pe_int (fun _ _ => rfl)) (pv 4) (nomark _)) (pw_and1 (pt_cmpR op_notIn_seq (pv 3) (pe_ix ix_seq (pv 5) pe_int (fun _ _ => rfl)) (by rfl))))) (pss_one (ps_ret pe_bl)) pss_nil)
  (pss_one (ps_if (PW.pt (pw_and (pt_cmpR op_gt (pe_callB call_len_seq (by rfl) B.len (by decide +kernel) (pa_cons (pe_ix ix_seq (pv 5) pe_int (fun _ _ => rfl)) pa_nil)) (pe_callB call_len_seq (by rfl) B.len (by decide +kernel) (pa_cons (pv 4) pa_nil)) (nomark _)) (pw_and (pt_cmpR (op_eqD (hu_le hr (by decide))) (pe_slice sl_tupA (pe_ix ix_seq (pv 5) pe_int (fun _ _ => rfl)) po_none (po_some (pe_callB call_len_seq (by rfl) B.len (by decide +kernel) (pa_cons (pv 4) pa_nil)))) (pv 4) (nomark _)) (pw_and1 (pt_cmpR op_notIn_seq (pe_ix ix_seq (pe_ix ix_seq (pv 5) pe_int (fun _ _ => rfl)) (pe_callB call_len_seq (by rfl) B.len (by decide +kernel) (pa_cons (pv 4) pa_nil)) (fun _ _ => rfl)) (pe_ix ix_seq (pv 1) (pv 3) (fun _ _ => rfl)) (by rfl)))))) (pss_one (ps_ret pe_bl)) pss_nil))))
  (pss_one (ps_ret pe_bl)))), ?_⟩
  obtain ⟨rr, bb, vs, h1, h2, h3, h4⟩ := g.fam.ex
  obtain ⟨x, hx, c, sl, rfl, hc, hsl⟩ := h4.get hv
  obtain ⟨ds, hds, ald⟩ := hD
  refine ⟨_, rfl, q_ixT2 h1 rfl ⟨_, rfl, q_ixT h3 hx (q_ixT2 hc rfl ⟨rfl, _, rfl, ?_⟩)⟩⟩
  cases hp : v.price with
  | none =>
    refine ite_t (decide_eq_true rfl) ?_
    have := q H (.refl H)
    rw [hp] at this
    exact this
  | some pr =>
  refine ite_f (decide_eq_false (by intro z; cases z)) ?_
  have q : ∀ H', Ex H H' → Q (.bl (stands names D i p)) H' := fun H' k => by have := q H' k; rw [hp] at this; exact this
  refine .inr ⟨_, rfl, da, rfl, ⟨_, sqt hds⟩, for_tup (xs := ds) (fun j σ H' => ∃ e5 : Option V, σ = [some (.ref fa), some (.ref na), some (.ref da), some (nI i), some (.ref qa), e5] ∧ Ex H H' ∧ ∀ d ∈ D.take j, lets (names.getD i []) i p d = true)
    ⟨none, rfl, .refl H, fun d hd => by simp at hd⟩ (fun j σ H' _ h => by obtain ⟨_, _, k, _⟩ := h; exact sqt (k.old _ _ hds)) (fun j x σ H' hx h => ?_) (fun σ H' h => ?_)⟩
  · obtain ⟨e5, rfl, k, hl⟩ := h
    obtain ⟨d, hd, dm⟩ := ald.getL hx
    obtain ⟨a, pa, ka, rfl, ha, hpa, hka⟩ := dm
    have dD : d ∈ D := List.mem_of_getElem? hd
    have wd := (dok.each d dD).2.1
    have hqp : ∀ H', Ex H H' → TupS H' (.ref qa) p := fun H' k => ⟨qa, rfl, k.old _ _ hq⟩
    have bad : ∀ H', Ex H H' → lets (names.getD i []) i p d = false → Q (.bl false) H' := fun H' k e => by
      have := q H' k
      have e2 : stands names D i p = false := by
        unfold stands
        exact List.all_eq_false.mpr ⟨d, dD, by rw [e]; decide⟩
      rw [e2] at this
      exact this
    have good : lets (names.getD i []) i p d = true → ∀ d' ∈ D.take (j + 1), lets (names.getD i []) i p d' = true := fun e d' hd' => by
      rw [take_succ_some hd] at hd'
      rcases List.mem_append.mp hd' with m | m
      · exact hl d' m
      · rw [List.mem_singleton.mp m]; exact e
    have join : ∀ (t : TS) (E : Ends), E.rt = Q → (∀ H2, Ex H H2 → (d.path = p → i ∈ d.ok) → t E [some (.ref fa), some (.ref na), some (.ref da), some (nI i), some (.ref qa), some (.ref a)] H2) →
        tSeq (tIfS (tAnd (tTest (tOp (rEqD K) (tOp (rIx K) (tVar 5) (tC (.int 0))) (tVar 4))) (tTest (tOp (rIn K true) (tVar 3) (tOp (rIx K) (tVar 5) (tC (.int 1)))))) (tRet (tC (.bl false))) tNext) t E [some (.ref fa), some (.ref na), some (.ref da), some (nI i), some (.ref qa), some (.ref a)] H' := fun t E hE ht => by
      refine ⟨_, rfl, q_ixT0 (k.old _ _ ha) rfl ⟨_, rfl, q_eqS ⟨pa, rfl, k.old _ _ hpa⟩ (hqp _ k) wd hw (fun e => ⟨_, rfl, ite_tt ?_⟩) fun e => ⟨_, rfl, ite_ff (ite_ff (ht H' k fun z => absurd z e))⟩⟩⟩
      refine ⟨_, rfl, _, rfl, q_ixT1 (k.old _ _ ha) rfl ⟨ka, _, rfl, .inr (sqt (k.old _ _ hka)), rfl, flat_ints d.ok, _, rfl, ?_⟩⟩
      by_cases hin : i ∈ d.ok
      · exact ite_f (by show (!inV (nI i) (d.ok.map nI)) = false; rw [(in_int i d.ok).mpr hin]; rfl) (ht H' k fun _ => hin)
      · refine ite_t (by show (!inV (nI i) (d.ok.map nI)) = true; rw [Bool.eq_false_iff.mpr fun z => hin ((in_int i d.ok).mp z)]; rfl) ?_
        show E.rt (.bl false) H'
        rw [hE]
        exact bad H' k (Bool.eq_false_iff.mpr fun z => hin ((lets_iff.mp z).1 e))
    refine join _ _ rfl fun H2 k2 h1' => ?_
    have hil : i < names.length := by rw [g.nl]; exact (List.getElem?_eq_some_iff.mp hv).1
    have hnm : names[i]? = some (names.getD i []) := by rw [List.getD_eq_getElem?_getD, List.getElem?_eq_getElem hil]; rfl
    have nx : ∀ H3, Ex H H3 → ((∀ x, d.path.take (p.length + 1) = p ++ [x] → x ∈ names.getD i []) → ∃ e5 : Option V, [some (V.ref fa), some (.ref na), some (.ref da), some (nI i), some (.ref qa), some (.ref a)] = [some (.ref fa), some (.ref na), some (.ref da), some (nI i), some (.ref qa), e5] ∧ Ex H H3 ∧ ∀ d ∈ D.take (j + 1), lets (names.getD i []) i p d = true) := fun H3 k3 h2' => ⟨_, rfl, k3, good (lets_iff.mpr ⟨h1', h2'⟩)⟩
    refine ⟨_, rfl, q_ixT0 (k2.old _ _ ha) rfl ⟨pa, _, rfl, .inr (sqt (k2.old _ _ hpa)), _, rfl, qa, _, rfl, .inr (sqt (k2.old _ _ hq)), _, _, rfl, rfl, _, rfl, ?_⟩⟩
    by_cases lt : p.length < d.path.length
    · refine ite_t (decide_eq_true (by rw [List.length_map, List.length_map]; omega)) ?_
      refine ⟨_, rfl, q_ixT0 (k2.old _ _ ha) rfl ⟨_, rfl, qa, _, rfl, .inr (sqt (k2.old _ _ hq)), _, rfl, q_slA (zs := (d.path.take p.length).map V.str) (k2.old _ _ hpa) (by rw [List.length_map, cut_take, List.map_take]) fun t1 H3 k3 ht1 => ?_⟩⟩
      have k23 := k2.trans k3
      refine ⟨_, rfl, q_eqS ⟨t1, rfl, ht1⟩ (hqp _ k23) (fun x hx => wd x (List.mem_of_mem_take hx)) hw (fun e => ⟨_, rfl, ite_tt ?_⟩) fun e => ⟨_, rfl, ite_ff (ite_ff (nx H3 k23 fun x hx => absurd ?_ e))⟩⟩
      · have hx : d.path.take (p.length + 1) = p ++ [d.path[p.length]] := by rw [List.take_succ, List.getElem?_eq_getElem lt, e]; rfl
        obtain ⟨ns, hns, aln⟩ := g.nms
        obtain ⟨na', hna, an, o, rfl, hfz, _⟩ := aln.get hnm
        refine ⟨_, rfl, q_ixT0 (k23.old _ _ ha) rfl ⟨_, rfl, qa, _, rfl, .inr (sqt (k23.old _ _ hq)), ?_⟩⟩
        rw [List.length_map]
        refine q_ixT (k23.old _ _ hpa) (by rw [List.getElem?_map, List.getElem?_eq_getElem lt]; rfl) ⟨_, rfl, _, rfl, q_ixT (k23.old _ _ hns) hna ⟨an, _, rfl, .inr (.inl (.inr ⟨o, k23.old _ _ hfz⟩)), rfl, flat_strs _, _, rfl, ?_⟩⟩
        by_cases hin : d.path[p.length] ∈ names.getD i []
        · refine ite_f (by show (!inV _ _) = false; rw [(in_str _ _).mpr hin]; rfl) (nx H3 k23 fun x e2 => ?_)
          rw [hx] at e2
          have := List.append_cancel_left e2
          rw [← (List.cons.inj this).1]; exact hin
        · refine ite_t (by show (!inV _ _) = true; rw [Bool.eq_false_iff.mpr fun z => hin ((in_str _ _).mp z)]; rfl) ?_
          exact bad H3 k23 (Bool.eq_false_iff.mpr fun z => hin ((lets_iff.mp z).2 _ hx))
      · have := congrArg (List.take p.length) hx
        rw [List.take_take, Nat.min_eq_left (by omega), List.take_append_of_le_length (Nat.le_refl _), List.take_length] at this
        exact this
    · refine ite_f (decide_eq_false (by rw [List.length_map, List.length_map]; omega)) (ite_ff (nx H2 k2 fun x hx => ?_))
      have := congrArg List.length hx
      rw [List.length_take, List.length_append, List.length_singleton] at this
      omega
  · obtain ⟨e5, rfl, k, hl⟩ := h
    rw [ald.len, List.take_length] at hl
    have := q H' k
    rw [show stands names D i p = true from List.all_eq_true.mpr hl] at this
    exact this
end
end K81
/-! ## WO -/
namespace K81
open PySem PySem.Spec PyProof.Rows L2

theorem zip_take_left {α β : Type} : ∀ (l : List α) (m : List β) (j : Nat), (l.take j).zip m = (l.zip m).take j
  | [], _, j => by simp
  | _ :: _, [], j => by simp
  | _ :: _, _ :: _, 0 => rfl
  | a :: l, b :: m, j + 1 => by rw [List.take_succ_cons, List.zip_cons_cons, List.zip_cons_cons, List.take_succ_cons, zip_take_left l m j]
theorem parts_take {names : List (List Str)} {rc : Nat → List Str → Option Wt} {i j : Nat} {p : List Str} {l : List Nat} : partsAt names rc i p (l.take j) = (partsAt names rc i p l).take j := by
  unfold partsAt; rw [zip_take_left, List.map_take]
abbrev s_l_worth : Stmt := topS 44
abbrev N_l_worth : List Str := ["_law_family_here", "_law_names_here", "_law_demands_here", "_law_weights_here", "_law_known", "_law_number", "_law_path_here", "_law_price_here", "_law_parts", "_law_k", "_law_part"]
theorem sc_l_worth : FnScope N_l_worth ["_law_family_here", "_law_names_here", "_law_demands_here", "_law_weights_here", "_law_known", "_law_number", "_law_path_here"] (defScope s_l_worth) := ⟨rfl, rfl, rfl, by decide +kernel, rfl, by decide +kernel, by decide +kernel⟩
-- slots: _law_family_here:0 _law_names_here:1 _law_demands_here:2 _law_weights_here:3 _law_known:4 _law_number:5 _law_path_here:6 _law_price_here:7 _law_parts:8 _law_k:9 _law_part:10   calls: _law_least _law_stands
abbrev s_l_least : Stmt := topS 45
abbrev N_l_least : List Str := ["_law_family_here", "_law_names_here", "_law_demands_here", "_law_weights_here", "_law_known", "_law_state", "_law_path_here", "_law_demand_here", "_law_best", "_law_number", "_law_worth_here"]
theorem sc_l_least : FnScope N_l_least ["_law_family_here", "_law_names_here", "_law_demands_here", "_law_weights_here", "_law_known", "_law_state", "_law_path_here"] (defScope s_l_least) := ⟨rfl, rfl, rfl, by decide +kernel, rfl, by decide +kernel, by decide +kernel⟩
-- slots: _law_family_here:0 _law_names_here:1 _law_demands_here:2 _law_weights_here:3 _law_known:4 _law_state:5 _law_path_here:6 _law_demand_here:7 _law_best:8 _law_number:9 _law_worth_here:10   cells: _law_path_here   calls: _law_worth
/-- how many entries a call with n steps left may add -/
def cn : Nat → Nat
  | 0 => 0
  | n + 1 => 1 + 33 * cn n
/-- what the dict of known weights tells is so -/
def KnOk (P : Program) (w : World) (H : Hp) (kn : Addr) (m : Nat) (L : Nat → List Str → Option Wt) : Prop := ∃ xs kvs, H kn = some (KnO P w kn xs) ∧ KnIs H xs kvs ∧ kvs.length ≤ m ∧ ∀ kv ∈ kvs, OW H kv.2 (L kv.1.1 kv.1.2)
theorem KnO.ne_lst {P : Program} {w : World} {a : Addr} {xs : List (NestedKey × Addr × Value)} {ys : List V} : KnO P w a xs ≠ .lst ys := fun z => by unfold KnO at z; cases z
theorem KnO.ne_tup {P : Program} {w : World} {a : Addr} {xs : List (NestedKey × Addr × Value)} {ys : List V} : KnO P w a xs ≠ .tup ys := fun z => by unfold KnO at z; cases z
theorem KnO.ne_frz {P : Program} {w : World} {a : Addr} {xs : List (NestedKey × Addr × Value)} {o : Obj} {u : HO} : KnO P w a xs ≠ .frz o u := fun z => by unfold KnO at z; cases z
section
variable {P : Program} {w : World} {H H' : Hp} {kn : Addr} {m : Nat} {L : Nat → List Str → Option Wt}
theorem KnOk.ex (h : KnOk P w H kn m L) (k : Ex H H') : KnOk P w H' kn m L := by
  obtain ⟨xs, kvs, h1, h2, h3, h4⟩ := h
  exact ⟨xs, kvs, k.old _ _ h1, h2.ts k.ts, h3, fun kv hk => (h4 kv hk).ts k.ts⟩
theorem KnOk.le {m' : Nat} (h : KnOk P w H kn m L) (l : m ≤ m') : KnOk P w H kn m' L := by
  obtain ⟨xs, kvs, h1, h2, h3, h4⟩ := h
  exact ⟨xs, kvs, h1, h2, Nat.le_trans h3 l, h4⟩
theorem KnOk.ts (h : KnOk P w H kn m L) (k : E1 kn H H') : Tps H H' := by
  obtain ⟨xs, kvs, h1, _⟩ := h
  exact k.tsN fun ys e => by rw [h1] at e; exact KnO.ne_tup (Option.some.inj e)
theorem KnOk.fs (h : KnOk P w H kn m L) (k : E1 kn H H') : Fzs H H' := by
  obtain ⟨xs, kvs, h1, _⟩ := h
  exact k.fsN fun o u e => by rw [h1] at e; exact KnO.ne_frz (Option.some.inj e)
theorem KnOk.ls (h : KnOk P w H kn m L) (k : E1 kn H H') {a : Addr} {xs : List V} (e : H a = some (.lst xs)) : H' a = some (.lst xs) := by
  obtain ⟨ys, kvs, h1, _⟩ := h
  exact k.old _ _ (fun z => by rw [z, h1] at e; exact KnO.ne_lst (Option.some.inj e)) e
end
section
variable {P : Program} {w : World} {K : PySem.W.Frag} {mg : Str → Option Value} {base : Heap} {f : Addr} {fd : FuncData}
/-- the law's search: a family, names, demands, the weights without demands -/
structure LGiven (H : Hp) (fa na da wa : Addr) (fm : Fm) (names : List (List Str)) (D : List Dem) (tb : Tb) : Prop where
  g : GivenN H fa na fm names
  d : DsAt H da D
  dok : DsOk D
  wl : ∃ xs, H wa = some (.lst xs) ∧ All2 (OW H) xs tb
  tl : tb.length = fm.count
theorem LGiven.ts {H H' : Hp} {fa na da wa : Addr} {fm : Fm} {names : List (List Str)} {D : List Dem} {tb : Tb} (h : LGiven H fa na da wa fm names D tb) (t : Tps H H') (z : Fzs H H') (l : ∀ a xs, H a = some (.lst xs) → H' a = some (.lst xs)) : LGiven H' fa na da wa fm names D tb :=
  ⟨h.g.ts t z, h.d.ts t, h.dok, let ⟨xs, e, al⟩ := h.wl; ⟨xs, l _ _ e, al.mono fun _ _ q => q.ts t⟩, h.tl⟩
theorem LGiven.ex {H H' : Hp} {fa na da wa : Addr} {fm : Fm} {names : List (List Str)} {D : List Dem} {tb : Tb} (h : LGiven H fa na da wa fm names D tb) (k : Ex H H') : LGiven H' fa na da wa fm names D tb := h.ts k.ts k.fs fun _ _ e => k.old _ _ e
def LL (fm : Fm) (names : List (List Str)) (D : List Dem) (tb : Tb) (s : Nat) (p : List Str) : Option Wt := lp fm names D (tf tb) (5 - p.length) s p
def spLeast (P : Program) (w : World) (n : Nat) : Sp := fun vs H Q _ => ∃ (fa na da wa kn qa : Addr) (fm : Fm) (names : List (List Str)) (D : List Dem) (tb : Tb) (s : Nat) (p : List Str) (m : Nat), vs = [.ref fa, .ref na, .ref da, .ref wa, .ref kn, nI s, .ref qa] ∧ LGiven H fa na da wa fm names D tb ∧ s < fm.count ∧
  H qa = some (.tup (p.map V.str)) ∧ WsOk p ∧ p.length + n = 5 ∧ KnOk P w H kn m (LL fm names D tb) ∧ m + cn n ≤ 8000000 ∧
  ∀ r H', E1 kn H H' → KnOk P w H' kn (m + cn n) (LL fm names D tb) → OW H' r (LL fm names D tb s p) → Q r H'
def spWorth (P : Program) (w : World) (n : Nat) : Sp := fun vs H Q _ => ∃ (fa na da wa kn qa : Addr) (fm : Fm) (names : List (List Str)) (D : List Dem) (tb : Tb) (i : Nat) (v : Vr) (p : List Str) (m : Nat), vs = [.ref fa, .ref na, .ref da, .ref wa, .ref kn, nI i, .ref qa] ∧ LGiven H fa na da wa fm names D tb ∧ fm.vars[i]? = some v ∧
  H qa = some (.tup (p.map V.str)) ∧ WsOk p ∧ p.length + n = 5 ∧ 1 ≤ n ∧ KnOk P w H kn m (LL fm names D tb) ∧ m + 3 * cn (n - 1) ≤ 8000000 ∧
  ∀ r H', E1 kn H H' → KnOk P w H' kn (m + 3 * cn (n - 1)) (LL fm names D tb) → OW H' r (worth names D (LL fm names D tb) i p v) → Q r H'
def psW : List Str := ["_law_family_here", "_law_names_here", "_law_demands_here", "_law_weights_here", "_law_known", "_law_number", "_law_path_here"]
def psL : List Str := ["_law_family_here", "_law_names_here", "_law_demands_here", "_law_weights_here", "_law_known", "_law_state", "_law_path_here"]
theorem ok_worth {n k : Nat} (hk : 1 ≤ k) (F : Fun K "_law_worth" "_law_worth" s_l_worth f fd) (B : Blt mg) (c_l_stands : Cal P w K mg base 1 "_law_stands" ["_law_family_here", "_law_names_here", "_law_demands_here", "_law_number", "_law_path_here"] spStands)
    (c_l_least : Cal P w K mg base k "_law_least" psL (spLeast P w n)) : FnOk P w K mg base CX0 (k + 1) f fd psW (spWorth P w (n + 1)) := by
  refine F.ok sc_l_worth (fun vs H Q E h => ?_) (fun cdv A outer s H vs Q E hr h => ?_)
  · obtain ⟨fa, na, da, wa, kn, qa, fm, names, D, tb, i, v, p, m, rfl, _⟩ := h
    rfl
  obtain ⟨fa, na, da, wa, kn, qa, fm, names, D, tb, i, v, p, m, rfl, g, hv, hq, hw, hpn, _, hkn, hm, q⟩ := h
  refine ⟨_, (pss_cons (ps_if (pt_not (pt_val (pe_cal c_l_stands (hr.mono (by omega)) (by rfl) (pa_cons (pv 0) (pa_cons (pv 1) (pa_cons (pv 2) (pa_cons (pv 5) (pa_cons (pv 6) pa_nil)))))))) (pss_one (ps_ret pe_non)) pss_nil)
  (pss_cons (ps_set (i := 7) sc_l_worth.nd rfl (Or.inl rfl) (pe_ix ix_seq (pe_ix ix_seq (pe_ix ix_seq (pv 0) pe_int (fun _ _ => rfl)) (pv 5) (fun _ _ => rfl)) pe_int (fun _ _ => rfl)))
  (pss_cons (ps_set (i := 8) sc_l_worth.nd rfl (Or.inl rfl) pe_int)
  (pss_cons (ps_for PassesOwn.never rfl (pi_range1 (by rfl) B.range (pa_cons (pe_callB call_len_seq (by rfl) B.len (by decide +kernel) (pa_cons (pe_ix ix_seq (pe_ix ix_seq (pe_ix ix_seq (pv 0) pe_int (fun _ _ => rfl)) (pv 5) (fun _ _ => rfl)) pe_int (fun _ _ => rfl)) pa_nil)) pa_nil)) (pg_name (i := 9) sc_l_worth.nd rfl (Or.inl rfl)) (pss_cons (ps_set (i := 10) sc_l_worth.nd rfl (Or.inl rfl) (pe_cal c_l_least (hr.mono (by omega)) (by rfl) (pa_cons (pv 0) (pa_cons (pv 1) (pa_cons (pv 2) (pa_cons (pv 3) (pa_cons (pv 4) (pa_cons (pe_ix ix_seq (pe_ix ix_seq (pe_ix ix_seq (pe_ix ix_seq (pv 0) pe_int (fun _ _ => rfl)) (pv 5) (fun _ _ => rfl)) pe_int (fun _ _ => rfl)) (pv 9) (fun _ _ => rfl)) (pa_cons (pe_op op_catA (pv 6) (pe_tup (pa_cons (pe_ix ix_seq (pe_ix ix_seq (pv 1) (pv 5) (fun _ _ => rfl)) (pv 9) (fun _ _ => rfl)) pa_nil))) pa_nil)))))))))
  (pss_cons (ps_if (pt_cmpR op_isN (pv 10) pe_non (nomark _)) (pss_one (ps_ret pe_non)) pss_nil)
  (pss_cons (ps_set (i := 7) sc_l_worth.nd rfl (Or.inl rfl) (pe_op op_add (pv 7) (pe_ix ix_seq (pv 10) pe_int (fun _ _ => rfl))))
  (pss_one (ps_set (i := 8) sc_l_worth.nd rfl (Or.inl rfl) (pe_op op_add (pv 8) (pe_ix ix_seq (pv 10) pe_int (fun _ _ => rfl)))))))))
  (pss_one (ps_ret (pe_tup (pa_cons (pv 7) (pa_cons (pv 8) pa_nil))))))))), ?_⟩
  have hkn0 := hkn
  obtain ⟨rr, bb, vs, h1, h2, h3, h4⟩ := g.g.fam.ex
  obtain ⟨x, hx, c, sl, rfl, hc, hsl⟩ := h4.get hv
  have hm : m + 3 * cn n ≤ 8000000 := hm
  have q : ∀ (r : V) (H' : Hp), E1 kn H H' → KnOk P w H' kn (m + 3 * cn n) (LL fm names D tb) → OW H' r (worth names D (LL fm names D tb) i p v) → Q r H' := q
  refine ⟨_, rfl, _, rfl, _, rfl, _, rfl, _, rfl, fa, na, da, qa, fm, names, D, i, v, p, rfl, g.g, g.d, g.dok, hv, hq, hw, fun H1 k1 => ⟨_, rfl, ?_⟩⟩
  have hkn1 := hkn.ex k1
  cases hst : (v.price.isSome && stands names D i p) with
  | false =>
    refine ite_tt (q _ H1 (k1.e1 kn) (hkn1.le (by omega)) ?_)
    have : worth names D (LL fm names D tb) i p v = none := by
      unfold worth
      by_cases s : stands names D i p = true
      · rw [if_pos s]
        rw [s, Bool.and_true] at hst
        unfold weighs
        cases hp : v.price with
        | none => rfl
        | some z => rw [hp] at hst; cases hst
      · rw [if_neg s]
    rw [this]; rfl
  | true =>
  obtain ⟨hs1, hs2⟩ := Bool.and_eq_true_iff.mp hst
  obtain ⟨pr0, hp⟩ := Option.isSome_iff_exists.mp hs1
  rw [hp] at hc
  have hwo : worth names D (LL fm names D tb) i p v = sumO (partsAt names (LL fm names D tb) i p v.slots) (pr0, 1) := by
    unfold worth; rw [if_pos hs2]; unfold weighs; rw [hp]
  have T1 : Tps H H1 := k1.ts
  refine ite_ff ⟨_, rfl, q_ixT2 (T1 _ _ h1) rfl ⟨_, rfl, q_ixT (T1 _ _ h3) hx (q_ixT2 (T1 _ _ hc) rfl ?_)⟩⟩
  have hl3 := (g.g.wf.vars v (List.mem_of_getElem? hv)).2.2
  refine ⟨_, rfl, q_ixT2 (T1 _ _ h1) rfl ⟨_, rfl, q_ixT (T1 _ _ h3) hx (q_ixT1 (T1 _ _ hc) rfl ⟨sl, _, rfl, .inr (sqt (T1 _ _ hsl)), _, rfl, by rw [List.length_map]; omega, by rw [List.length_map]; omega, ?_⟩)⟩⟩
  have en : (((List.map nI v.slots).length : Int)).toNat = v.slots.length := by rw [List.length_map]; omega
  rw [en]
  have hnl := g.g.nlen i v (zip_iff.mpr hv)
  have hil : i < names.length := by rw [g.g.nl]; exact (List.getElem?_eq_some_iff.mp hv).1
  have hnm : names[i]? = some (names.getD i []) := by rw [List.getD_eq_getElem?_getD, List.getElem?_eq_getElem hil]; rfl
  refine for_range (n := v.slots.length) (fun j σ H' => ∃ (pr pa : Nat) (e9 e10 : Option V), σ = [some (.ref fa), some (.ref na), some (.ref da), some (.ref wa), some (.ref kn), some (nI i), some (.ref qa), some (nI pr), some (nI pa), e9, e10] ∧ E1 kn H H' ∧
      KnOk P w H' kn (m + j * cn n) (LL fm names D tb) ∧ sumO (partsAt names (LL fm names D tb) i p (v.slots.take j)) (pr0, 1) = some (pr, pa))
    ⟨pr0, 1, none, none, rfl, k1.e1 kn, hkn1.le (by omega), rfl⟩ (fun j σ H' hj h => ?_) (fun σ H' h => ?_)
  · obtain ⟨pr, pa, e9, e10, rfl, k, hkn', hsum⟩ := h
    have T := hkn.ts k
    have Fz := hkn.fs k
    have g' := g.ts T Fz fun _ _ e => hkn.ls k e
    have hs : v.slots[j]? = some v.slots[j] := List.getElem?_eq_getElem hj
    have hz : (names.getD i [])[j]? = some (names.getD i [])[j] := List.getElem?_eq_getElem (by rw [hnl]; exact hj)
    have hsn := parts_snoc (names := names) (rc := LL fm names D tb) (i := i) (p := p) hs hz
    have hsm : v.slots[j] < fm.count := (g.g.wf.vars v (List.mem_of_getElem? hv)).2.1 _ (List.getElem_mem hj)
    have hzw : PyData.strOk (names.getD i [])[j] = true := (g.g.nok.each _ (List.mem_of_getElem? hnm)).2.1 _ (List.getElem_mem _)
    generalize v.slots[j] = s at hs hsn hsm
    generalize (names.getD i [])[j] = z at hz hsn hzw
    obtain ⟨ns, hns, aln⟩ := g'.g.nms
    obtain ⟨na', hna, an, o, rfl, hfz, _⟩ := aln.get hnm
    rw [show (0 : Int) + (j : Int) = (j : Int) from Int.zero_add _]
    refine ⟨_, rfl, _, rfl, _, rfl, _, rfl, _, rfl, _, rfl, q_ixT2 (T _ _ h1) rfl ⟨_, rfl, q_ixT (T _ _ h3) hx (q_ixT1 (T _ _ hc) rfl ⟨_, rfl, q_ixT (T _ _ hsl) (by rw [List.getElem?_map, hs]; rfl) ?_⟩)⟩⟩
    refine ⟨_, rfl, _, rfl, _, rfl, q_ixT hns hna ⟨_, rfl, q_ixS (i := j) (.inl (.inr ⟨o, hfz⟩)) (by rw [List.getElem?_map, hz]; rfl) ⟨(by show 1 ≤ sizeLine; decide), fun t1 ht1 => ?_⟩⟩⟩
    refine q_catA ((Ex.new ht1 _).old _ _ (T _ _ hq)) upd_same (line_le (by rw [List.length_map]; show p.length + 1 ≤ 1000; omega)) fun t2 H2 k2 ht2 => ?_
    have ke : Ex H' H2 := (Ex.new ht1 _).trans k2
    have ht2' : H2 t2 = some (.tup ((p ++ [z]).map V.str)) := by rw [ht2, List.map_append]; rfl
    have hkn2 := hkn'.ex ke
    have hmul : (j + 1) * cn n ≤ 3 * cn n := Nat.mul_le_mul_right _ (by omega)
    rw [Nat.add_mul, Nat.one_mul] at hmul
    refine ⟨fa, na, da, wa, kn, t2, fm, names, D, tb, s, p ++ [z], m + j * cn n, rfl, g'.ex ke, hsm, ht2', fun y hy => ?_, by rw [List.length_append, List.length_singleton]; omega, hkn2, by omega, fun r H3 k3 hkn3 hr => ?_⟩
    · rcases List.mem_append.mp hy with m' | m'
      · exact hw y m'
      · rw [List.mem_singleton.mp m']; exact hzw
    have k03 : E1 kn H H3 := (k.trans (ke.e1 kn)).trans k3
    refine ⟨_, rfl, rfl, _, rfl, ?_⟩
    rw [hr.isn]
    cases er : LL fm names D tb s (p ++ [z]) with
    | none =>
      refine ite_tt (q _ H3 k03 (hkn3.le (by omega)) ?_)
      have : worth names D (LL fm names D tb) i p v = none := by
        rw [hwo]
        refine sumO_none ?_
        have : none ∈ partsAt names (LL fm names D tb) i p (v.slots.take (j + 1)) := by
          rw [hsn, er]; exact List.mem_append_right _ (List.mem_singleton.mpr rfl)
        rw [parts_take] at this
        exact List.mem_of_mem_take this
      rw [this]; rfl
    | some b =>
      rw [er] at hr hsn
      obtain ⟨ob, rfl, hob⟩ := hr
      refine ite_ff ⟨_, rfl, _, rfl, q_ixT0 hob rfl ⟨_, _, rfl, rfl, ?_⟩⟩
      refine ⟨_, rfl, _, rfl, q_ixT1 hob rfl ⟨_, _, rfl, rfl, ?_⟩⟩
      refine ⟨pr + b.1, pa + b.2, some (nI j), some (.ref ob), ?_, k03, hkn3.le (by rw [Nat.add_mul, Nat.one_mul]; omega), ?_⟩
      · rw [← nI_add, ← nI_add]; rfl
      · rw [hsn]; exact sumO_snoc hsum
  · obtain ⟨pr, pa, e9, e10, rfl, k, hkn', hsum⟩ := h
    rw [List.take_length] at hsum
    have hmul : v.slots.length * cn n ≤ 3 * cn n := Nat.mul_le_mul_right _ hl3
    refine ⟨_, rfl, _, rfl, (by show 2 ≤ sizeLine; decide), fun r hr' => q _ _ (k.nw hr' _) ((hkn'.ex (.new hr' _)).le (by omega)) ?_⟩
    rw [hwo, hsum]
    exact ⟨r, rfl, upd_same⟩
theorem best_snoc (l : List (Option Wt)) (x : Option Wt) : bestOf (l ++ [x]) = better (bestOf l) x := by unfold bestOf; rw [List.foldl_append]; rfl
theorem ok_least {n k : Nat} (F : Fun K "_law_least" "_law_least" s_l_least f fd) (B : Blt mg) (c_l_worth : Cal P w K mg base k "_law_worth" psW (spWorth P w n)) : FnOk P w K mg base CX0 (k + 1) f fd psL (spLeast P w n) := by
  refine F.ok sc_l_least (fun vs H Q E h => ?_) (fun cdv A outer s H vs Q E hr h => ?_)
  · obtain ⟨fa, na, da, wa, kn, qa, fm, names, D, tb, s, p, m, rfl, _⟩ := h
    rfl
  obtain ⟨fa, na, da, wa, kn, qa, fm, names, D, tb, s, p, m, rfl, g, hs, hq, hw, hpn, hkn, hm, q⟩ := h
  refine ⟨_, (pss_cons (ps_if (pt_not (pt_truth (pe_lc (own := [("_law_demand_here", 7)]) rfl sc_l_least.nd (pi_seq (pv 2)) (blkOk_by (N := N_l_least) (sc := defScope s_l_least) (by decide +kernel)) (fun _ _ _ _ _ => (pg_name (i := 7) sc_l_least.nd rfl (Or.inl rfl))) (fun _ _ _ _ _ => (pts_one (pt_cmpR (r := rEqD K) (op_eqD (hu_le hr (by decide))) (pe_slice (r := rSlA K) sl_tupA (pe_ix (r := rIx K) ix_seq (pv 7) pe_int (fun _ _ => rfl)) po_none (po_some (pe_callB (r := rLenQ K) call_lenQ (by rfl) B.len (by decide +kernel) (pa_cons (pv 6) pa_nil)))) (pv 6) (nomark _)))) (fun _ _ _ _ _ => (pv 7))) (by intro _; rfl))) (pss_one (ps_ret (pe_ix ix_seq (pv 3) (pv 5) (fun _ _ => rfl)))) pss_nil)
  (pss_cons (ps_if (pt_cmpR (op_knNot (hu_le hr (by decide))) (pe_tup (pa_cons (pv 5) (pa_cons (pv 6) pa_nil))) (pv 4) (by rfl)) (pss_cons (ps_set (i := 8) sc_l_least.nd rfl (Or.inl rfl) pe_non)
  (pss_cons (ps_for PassesOwn.never rfl (pi_range1 (by rfl) B.range (pa_cons (pe_callB call_len_seq (by rfl) B.len (by decide +kernel) (pa_cons (pe_ix ix_seq (pv 0) pe_int (fun _ _ => rfl)) pa_nil)) pa_nil)) (pg_name (i := 9) sc_l_least.nd rfl (Or.inl rfl)) (pss_one (ps_if (pt_cmpR op_eq (pe_ix ix_seq (pe_ix ix_seq (pe_ix ix_seq (pv 0) pe_int (fun _ _ => rfl)) (pv 9) (fun _ _ => rfl)) pe_int (fun _ _ => rfl)) (pv 5) (nomark _)) (pss_cons (ps_set (i := 10) sc_l_least.nd rfl (Or.inl rfl) (pe_cal c_l_worth (hr.mono (by omega)) (by rfl) (pa_cons (pv 0) (pa_cons (pv 1) (pa_cons (pv 2) (pa_cons (pv 3) (pa_cons (pv 4) (pa_cons (pv 9) (pa_cons (pv 6) pa_nil)))))))))
  (pss_one (ps_if (PW.pt (pw_and (pt_cmpR op_notN (pv 10) pe_non (nomark _)) (pw_and1 (PW.pt (pw_or (pt_cmpR op_isN (pv 8) pe_non (nomark _)) (pw_or1 (pt_cmpR (op_ltW (hu_le0 hr)) (pv 10) (pv 8) (nomark _)))))))) (pss_one (ps_set (i := 8) sc_l_least.nd rfl (Or.inl rfl) (pv 10))) pss_nil))) pss_nil)))
  (pss_one (ps_asg (pv 8) (pg_sub (pv 4) (pe_tup (pa_cons (pv 5) (pa_cons (pv 6) pa_nil))) (set_kn (hu_le hr (by decide)))))))) pss_nil)
  (pss_one (ps_ret (pe_knGet (hu_le hr (by decide)) (pv 4) (pe_tup (pa_cons (pv 5) (pa_cons (pv 6) pa_nil))) (fun _ _ => rfl)))))), ?_⟩
  obtain ⟨rr, bb, vs, h1, h2, h3, h4⟩ := g.g.fam.ex
  obtain ⟨ds, hds, ald⟩ := g.d
  have hdl := g.dok.len
  refine .inr ⟨_, rfl, da, rfl, ⟨_, sqt hds⟩, fun D1 hD1 => lc_gT (prEx H) (R := fun _ _ (_ : Dem) => True) (fun _ _ _ _ _ z => z) (bs := D) (φ := fun d => if d.path.take p.length = p then some d else none) (small1000 (by omega)) hD1 hds ald.len (fun j x d H1 hx hd k1 N no yes => ?_) (fun H1 acc k1 ha1 al1 => ?_)⟩
  · obtain ⟨x', hx', a, pa, ka, rfl, h5, h6, h7⟩ := ald.get hd
    have hxx : V.ref a = x := by rw [hx'] at hx; exact Option.some.inj hx
    subst hxx
    have wd := (g.dok.each d (List.mem_of_getElem? hd)).2.1
    refine ⟨rfl, _, rfl, q_ixT0 (k1.old _ _ h5) rfl ⟨_, rfl, qa, _, rfl, .inr (sqt (k1.old _ _ hq)), _, rfl, q_slA (zs := (d.path.take p.length).map V.str) (k1.old _ _ h6) (by rw [List.length_map, cut_take, List.map_take]) fun t1 H2 k2 ht1 => ?_⟩⟩
    refine ⟨_, rfl, q_eqS ⟨t1, rfl, ht1⟩ ⟨qa, rfl, (k1.trans k2).old _ _ hq⟩ (fun x hx => wd x (List.mem_of_mem_take hx)) hw (fun e => ⟨_, rfl, ite_tt ⟨_, rfl, yes _ _ _ k2 (if_pos e) trivial⟩⟩) fun e => ⟨_, rfl, ite_ff (no _ k2 (if_neg e))⟩⟩
  refine ⟨_, .inl ⟨acc, sql ha1, rfl⟩, ?_⟩
  have hpre : acc.isEmpty = !hasPre D p := by
    cases e : hasPre D p with
    | true =>
      obtain ⟨d, hd, e2⟩ := hasPre_iff.mp e
      have : d ∈ D.filterMap fun d => if d.path.take p.length = p then some d else none := List.mem_filterMap.mpr ⟨d, hd, if_pos e2⟩
      cases acc with
      | nil => rw [List.length_eq_zero_iff.mp al1.len.symm] at this; cases this
      | cons a r => rfl
    | false =>
      have : (D.filterMap fun d => if d.path.take p.length = p then some d else none) = [] := List.filterMap_eq_nil_iff.mpr fun d hd => if_neg fun z => by
        rw [hasPre_iff.mpr ⟨d, hd, z⟩] at e; cases e
      rw [this] at al1
      rw [List.length_eq_zero_iff.mp al1.len]; rfl
  rw [hpre, Bool.not_not]
  have hkn1 := hkn.ex k1
  have g1 := g.ex k1
  cases hP : hasPre D p with
  | false =>
    obtain ⟨ws, hws, alw⟩ := g1.wl
    obtain ⟨y, hy, hyo⟩ := alw.get (tb_at (tb := tb) (s := s) (by rw [g.tl]; exact hs))
    refine ite_t rfl ⟨_, rfl, _, rfl, q_ixL hws hy (q y H1 (k1.e1 kn) (hkn1.le (by omega)) ?_)⟩
    have : LL fm names D tb s p = tf tb s := lp_nopre hP
    rw [this]; exact hyo
  | true =>
  refine ite_f rfl ?_
  -- there is a demand below p, so a step is left
  have hn0 : 1 ≤ n := by
    obtain ⟨d, hd, e⟩ := hasPre_iff.mp hP
    have := congrArg List.length e
    rw [List.length_take] at this
    have := (g.dok.each d hd).1
    omega
  obtain ⟨n', rfl⟩ : ∃ n', n = n' + 1 := ⟨n - 1, by omega⟩
  have hLL : LL fm names D tb s p = full fm names D (LL fm names D tb) s p := by
    unfold LL
    rw [show 5 - p.length = n' + 1 by omega]
    show (if hasPre D p then full fm names D (lp fm names D (tf tb) n') s p else tf tb s) = _
    rw [if_pos hP]
    refine full_congr (fun s x => ?_) s
    rw [show 5 - (p ++ [x]).length = n' by rw [List.length_append, List.length_singleton]; omega]
  have hfull : full fm names D (LL fm names D tb) s p = bestOf (((pairsAt fm names D (LL fm names D tb) p).filter fun q => decide (q.1 = s)).map (·.2)) := rfl
  have hm : m + (1 + 33 * cn n') ≤ 8000000 := hm
  have q : ∀ (r : V) (H' : Hp), E1 kn H H' → KnOk P w H' kn (m + (1 + 33 * cn n')) (LL fm names D tb) → OW H' r (LL fm names D tb s p) → Q r H' := q
  have kput_ts : ∀ {H2 : Hp} {xs xs' : List (NestedKey × Addr × Value)}, H2 kn = some (KnO P w kn xs) → Tps H2 (upd H2 kn (KnO P w kn xs')) := fun h b ys e => by
    rw [upd_ne (fun z => by rw [z, h] at e; exact KnO.ne_tup (Option.some.inj e))]; exact e
  -- the last line
  have ret : ∀ (σ : L2.St) (H2 : Hp), σ[4]? = some (some (.ref kn)) → σ[5]? = some (some (nI s)) → σ[6]? = some (some (.ref qa)) → E1 kn H H2 → (∃ xs kvs y, H2 kn = some (KnO P w kn xs) ∧ KnIs H2 xs kvs ∧ kvs.length ≤ m + (1 + 33 * cn n') ∧ (∀ kv ∈ kvs, OW H2 kv.2 (LL fm names D tb kv.1.1 kv.1.2)) ∧ kget kvs (s, p) = some y) →
      tRet (tKnGet P w (tVar 4) (tTup (tCons (tVar 5) (tCons (tVar 6) tNil)))) { nx := fun _ H' => Q .non H', rt := Q } σ H2 := fun σ H2 e4 e5 e6 k ⟨xs, kvs, y, a1, a2, a3, a4, a5⟩ => by
    refine ⟨_, e4, _, e5, _, e6, (by show 2 ≤ sizeLine; decide), fun kb hkb => ?_⟩
    have kx : Ex H2 (upd H2 kb (.tup [nI s, .ref qa])) := .new hkb _
    have hqa := kx.old _ _ (hkn.ts k _ _ hq)
    refine ⟨kb, kn, (s, p), xs, kvs, y, rfl, rfl, ⟨qa, upd_same, hqa⟩, kx.old _ _ a1, a2.ts kx.ts, a5, ?_⟩
    exact q y _ (k.trans (kx.e1 kn)) ⟨xs, kvs, kx.old _ _ a1, a2.ts kx.ts, a3, fun kv hk => (a4 kv hk).ts kx.ts⟩ ((a4 _ (kget_mem a5)).ts kx.ts)
  refine ⟨_, rfl, _, rfl, (by show 2 ≤ sizeLine; decide), fun kb hkb => ?_⟩
  have kx : Ex H1 (upd H1 kb (.tup [nI s, .ref qa])) := .new hkb _
  have k2 := k1.trans kx
  have hkey : KeyAt (upd H1 kb (.tup [nI s, .ref qa])) kb (s, p) := ⟨qa, upd_same, k2.old _ _ hq⟩
  have hkn2 := hkn1.ex kx
  generalize upd H1 kb (.tup [nI s, .ref qa]) = H2 at kx k2 hkey hkn2 ⊢
  obtain ⟨xs, kvs, a1, a2, a3, a4⟩ := id hkn2
  refine ⟨_, rfl, kb, kn, (s, p), xs, kvs, rfl, rfl, hkey, a1, a2, _, rfl, ?_⟩
  cases eg : kget kvs (s, p) with
  | some y => exact ite_f rfl (ret _ _ rfl rfl rfl (k2.e1 kn) ⟨xs, kvs, y, a1, a2, by omega, a4, eg⟩)
  | none =>
  refine ite_t rfl ?_
  have g2 := g.ex k2
  have hvl : vs.length = fm.vars.length := h4.len
  have hnv := g.g.wf.nv
  refine ⟨_, rfl, q_ixT2 (k2.old _ _ h1) rfl ⟨bb, vs, rfl, .inr (sqt (k2.old _ _ h3)), _, rfl, by omega, by omega, ?_⟩⟩
  have en : ((vs.length : Int)).toNat = fm.vars.length := by omega
  rw [en]
  have hpl : (pairsAt fm names D (LL fm names D tb) p).length = fm.vars.length := by unfold pairsAt zipIx; simp
  have hpg : ∀ (i : Nat) (v : Vr), fm.vars[i]? = some v → (pairsAt fm names D (LL fm names D tb) p)[i]? = some (v.plug, worth names D (LL fm names D tb) i p v) := fun i v hv => by
    have hi := (List.getElem?_eq_some_iff.mp hv).1
    unfold pairsAt zipIx
    have e1 : fm.vars[i] = v := (List.getElem?_eq_some_iff.mp hv).2
    simp [hi, e1]
  rw [hLL, hfull] at q
  generalize hpr : pairsAt fm names D (LL fm names D tb) p = prs at hpl hpg hfull q
  refine for_range (n := fm.vars.length) (fun i σ H' => ∃ (y : V) (e7 e9 e10 : Option V), σ = [some (.ref fa), some (.ref na), some (.ref da), some (.ref wa), some (.ref kn), some (nI s), some (.ref qa), e7, some y, e9, e10] ∧ E1 kn H H' ∧
      KnOk P w H' kn (m + i * (3 * cn n')) (LL fm names D tb) ∧ OW H' y (bestOf (((prs.take i).filter fun q => decide (q.1 = s)).map (·.2))))
    ⟨.non, none, none, none, rfl, k2.e1 kn, hkn2.le (by omega), rfl⟩ (fun i σ H' hi h => ?_) (fun σ H' h => ?_)
  · obtain ⟨y, e7, e9, e10, rfl, k, hkn', hy⟩ := h
    have T := hkn.ts k
    have Fz := hkn.fs k
    have g' := g.ts T Fz fun _ _ e => hkn.ls k e
    have hv : fm.vars[i]? = some fm.vars[i] := List.getElem?_eq_getElem hi
    have hp1 := hpg i _ hv
    obtain ⟨x, hx, c, sl, rfl, hc, hsl⟩ := h4.get hv
    generalize fm.vars[i] = v at hv hp1 hc hsl
    have hmul : i * (3 * cn n') ≤ 10 * (3 * cn n') := Nat.mul_le_mul_right _ (by omega)
    have hsplit : (i + 1) * (3 * cn n') = i * (3 * cn n') + 3 * cn n' := by rw [Nat.add_mul, Nat.one_mul]
    rw [show (0 : Int) + (i : Int) = (i : Int) from Int.zero_add _]
    refine ⟨_, rfl, q_ixT2 (T _ _ h1) rfl ⟨_, rfl, q_ixT (T _ _ h3) hx (q_ixT0 (T _ _ hc) rfl ⟨_, rfl, rfl, _, rfl, ?_⟩)⟩⟩
    by_cases es : v.plug = s
    · refine ite_t (decide_eq_true (by rw [es])) ?_
      have hnx : bestOf (((prs.take (i + 1)).filter fun q => decide (q.1 = s)).map (·.2)) = better (bestOf (((prs.take i).filter fun q => decide (q.1 = s)).map (·.2))) (worth names D (LL fm names D tb) i p v) := by
        rw [take_succ_some hp1, List.filter_append, List.map_append]
        rw [show List.filter (fun q => decide (q.1 = s)) [(v.plug, worth names D (LL fm names D tb) i p v)] = [(v.plug, worth names D (LL fm names D tb) i p v)] by simp [es]]
        exact best_snoc _ _
      generalize bestOf (((prs.take i).filter fun q => decide (q.1 = s)).map (·.2)) = bo at hy hnx
      refine ⟨_, rfl, _, rfl, _, rfl, _, rfl, _, rfl, _, rfl, _, rfl, fa, na, da, wa, kn, qa, fm, names, D, tb, i, v, p, m + i * (3 * cn n'), rfl, g', hv, T _ _ hq, hw, hpn, by omega, hkn', by show _ + 3 * cn n' ≤ _; omega, fun r H3 k3 hkn3 hr => ?_⟩
      have hkn3 : KnOk P w H3 kn (m + i * (3 * cn n') + 3 * cn n') (LL fm names D tb) := hkn3
      have k03 := k.trans k3
      have T3 := hkn'.ts k3
      have hy3 := hy.ts T3
      refine ⟨_, rfl, rfl, _, rfl, ?_⟩
      rw [hr.isn]
      have keep : ∀ z, OW H3 z (bestOf (((prs.take (i + 1)).filter fun q => decide (q.1 = s)).map (·.2))) → ∃ (y : V) (e7' e9 e10 : Option V), [some (V.ref fa), some (.ref na), some (.ref da), some (.ref wa), some (.ref kn), some (nI s), some (.ref qa), e7, some z, some (nI i), some r] = [some (.ref fa), some (.ref na), some (.ref da), some (.ref wa), some (.ref kn), some (nI s), some (.ref qa), e7', some y, e9, e10] ∧ E1 kn H H3 ∧
          KnOk P w H3 kn (m + (i + 1) * (3 * cn n')) (LL fm names D tb) ∧ OW H3 y (bestOf (((prs.take (i + 1)).filter fun q => decide (q.1 = s)).map (·.2))) := fun z hz =>
        ⟨z, e7, some (nI i), some r, rfl, k03, hkn3.le (by omega), hz⟩
      cases ew : worth names D (LL fm names D tb) i p v with
      | none => exact ite_ff (ite_ff (keep y (by rw [hnx, ew]; exact hy3)))
      | some a =>
        rw [ew] at hr
        refine ite_tt ⟨_, rfl, rfl, _, rfl, ?_⟩
        rw [hy3.isn]
        cases eb : bo with
        | none => exact ite_tt (ite_tt ⟨_, rfl, keep r (by rw [hnx, ew, eb]; exact hr)⟩)
        | some b =>
          rw [eb] at hy3
          refine ite_ff ⟨_, rfl, _, rfl, a, b, hr, hy3, _, rfl, ?_⟩
          by_cases lt : WLt a b
          · rw [decide_eq_true lt]
            exact ite_tt ⟨_, rfl, keep r (by rw [hnx, ew, eb, show better (some b) (some a) = some a from if_pos lt]; exact hr)⟩
          · rw [decide_eq_false lt]
            exact ite_ff (keep y (by rw [hnx, ew, eb, show better (some b) (some a) = some b from if_neg lt]; exact hy3))
    · refine ite_f (decide_eq_false fun z => es (nI_inj z)) ⟨y, e7, some (nI i), e10, rfl, k, hkn'.le (by omega), ?_⟩
      rw [take_succ_some hp1, List.filter_append, List.map_append]
      rw [show List.filter (fun q => decide (q.1 = s)) [(v.plug, worth names D (LL fm names D tb) i p v)] = [] by simp [es]]
      rw [List.map_nil, List.append_nil]; exact hy
  · obtain ⟨y, e7, e9, e10, rfl, k, hkn', hy⟩ := h
    have hmul : fm.vars.length * (3 * cn n') ≤ 11 * (3 * cn n') := Nat.mul_le_mul_right _ hnv
    rw [show prs.take fm.vars.length = prs from List.take_of_length_le (by omega)] at hy
    refine ⟨_, rfl, _, rfl, _, rfl, _, rfl, (by show 2 ≤ sizeLine; decide), fun kb2 hkb2 => ?_⟩
    have kx2 : Ex H' (upd H' kb2 (.tup [nI s, .ref qa])) := .new hkb2 _
    have hkey2 : KeyAt (upd H' kb2 (.tup [nI s, .ref qa])) kb2 (s, p) := ⟨qa, upd_same, kx2.old _ _ (hkn.ts k _ _ hq)⟩
    obtain ⟨xs3, kvs3, c1, c2, c3, c4⟩ := hkn'.ex kx2
    have hy3 := hy.ts kx2.ts
    have k3 := k.trans (kx2.e1 kn)
    generalize upd H' kb2 (.tup [nI s, .ref qa]) = H3 at kx2 hkey2 c1 c2 c4 hy3 k3 ⊢
    refine ⟨kb2, kn, (s, p), xs3, kvs3, rfl, rfl, hkey2, c1, c2, by omega, fun xs' his => ?_⟩
    have T4 : Tps H3 (upd H3 kn (KnO P w kn xs')) := kput_ts c1
    have hlen := kput_len kvs3 (s, p) y
    refine ret _ _ rfl rfl rfl (k3.put _) ⟨xs', _, y, upd_same, his.ts T4, by omega, fun kv hk => ?_, kget_put _ _ _⟩
    rcases kput_mem hk with z | z
    · exact (c4 kv z).ts T4
    · subst z
      show OW _ y (LL fm names D tb s p)
      rw [hLL, hfull]
      exact hy3.ts T4
end
end K81
/-! ## WP -/
namespace K81
open PySem PySem.Spec PyProof.Rows L2

abbrev s_l_lightest : Stmt := topS 46
abbrev N_l_lightest : List Str := ["_law_family_here", "_law_names_here", "_law_demands_here", "_law_weights_here", "_law_known", "_law_found", "_law_root", "_law_weight_here"]
theorem sc_l_lightest : FnScope N_l_lightest ["_law_family_here", "_law_names_here", "_law_demands_here", "_law_weights_here"] (defScope s_l_lightest) := ⟨rfl, rfl, rfl, by decide +kernel, rfl, by decide +kernel, by decide +kernel⟩
-- slots: _law_family_here:0 _law_names_here:1 _law_demands_here:2 _law_weights_here:3 _law_known:4 _law_found:5 _law_root:6 _law_weight_here:7   cells: _law_demands_here _law_family_here _law_known _law_names_here _law_weights_here   calls: _law_least
abbrev s_l_feasible : Stmt := topS 47
abbrev N_l_feasible : List Str := ["_law_family_here", "_law_names_here", "_law_demands_here", "_law_weights_here", "_law_budget_here", "_law_best"]
theorem sc_l_feasible : FnScope N_l_feasible ["_law_family_here", "_law_names_here", "_law_demands_here", "_law_weights_here", "_law_budget_here"] (defScope s_l_feasible) := ⟨rfl, rfl, rfl, by decide +kernel, rfl, by decide +kernel, by decide +kernel⟩
-- slots: _law_family_here:0 _law_names_here:1 _law_demands_here:2 _law_weights_here:3 _law_budget_here:4 _law_best:5   calls: _law_lightest
abbrev s_l_picked : Stmt := topS 49
abbrev N_l_picked : List Str := ["_law_demands_here", "_law_indices", "_law_k"]
theorem sc_l_picked : FnScope N_l_picked ["_law_demands_here", "_law_indices"] (defScope s_l_picked) := ⟨rfl, rfl, rfl, by decide +kernel, rfl, by decide +kernel, by decide +kernel⟩
-- slots: _law_demands_here:0 _law_indices:1 _law_k:2   cells: _law_demands_here   calls: 
theorem ex_e1 {H A B : Hp} {t : Addr} (a : Ex H A) (n : H t = none) (b : E1 t A B) : Ex H B := ⟨fun x o h => b.old x o (ne_of_none h n) (a.old x o h)⟩
theorem list_map_all2 {α : Type} {R : V → Option Wt → Prop} {g : α → Option Wt} : ∀ {xs : List V} {l : List α}, All2 R xs (l.map g) → All2 (fun x a => R x (g a)) xs l
  | _, [], .nil => .nil
  | _, _ :: _, .cons r t => .cons r (list_map_all2 t)
section
variable {P : Program} {w : World} {K : PySem.W.Frag} {mg : Str → Option Value} {base : Heap} {f : Addr} {fd : FuncData}
def spLightest : Sp := fun vs H Q _ => ∃ (fa na da wa : Addr) (fm : Fm) (names : List (List Str)) (D : List Dem) (tb : Tb), vs = [.ref fa, .ref na, .ref da, .ref wa] ∧ LGiven H fa na da wa fm names D tb ∧
  ∀ r H', Ex H H' → OW H' r (lightest fm names D (tf tb)) → Q r H'
theorem ok_lightest (F : Fun K "_law_lightest" "_law_lightest" s_l_lightest f fd) (B : Blt mg) (c_l_least : Cal P w K mg base 11 "_law_least" psL (spLeast P w 5)) : FnOk P w K mg base CX0 12 f fd ["_law_family_here", "_law_names_here", "_law_demands_here", "_law_weights_here"] spLightest := by
  refine F.ok sc_l_lightest (fun vs H Q E h => ?_) (fun cdv A outer s H vs Q E hr h => ?_)
  · obtain ⟨fa, na, da, wa, fm, names, D, tb, rfl, _⟩ := h
    rfl
  obtain ⟨fa, na, da, wa, fm, names, D, tb, rfl, g, q⟩ := h
  refine ⟨_, (pss_cons (ps_set (i := 4) sc_l_lightest.nd rfl (Or.inr rfl) pe_knNew)
  (pss_cons (ps_setLc (i := 5) (own := [("_law_root", 6)]) rfl sc_l_lightest.nd rfl rfl (sw_true rfl rfl rfl (by decide +kernel)) (pi_seq (pe_ix ix_seq (pv 0) pe_int (fun _ _ => rfl))) (blkOk_by (N := N_l_lightest) (sc := defScope s_l_lightest) (by decide +kernel)) (fun _ _ _ _ _ => (pg_name (i := 6) sc_l_lightest.nd rfl (Or.inl rfl))) (fun _ _ _ _ _ => pts_nil) (fun _ _ _ _ _ => (pe_cal c_l_least (hr.mono (by omega)) (by rfl) (pa_cons (pv 0) (pa_cons (pv 1) (pa_cons (pv 2) (pa_cons (pv 3) (pa_cons (pv 4) (pa_cons (pv 6) (pa_cons (pe_tup pa_nil) pa_nil))))))))))
  (pss_cons (ps_setLc (i := 5) (own := [("_law_weight_here", 7)]) rfl sc_l_lightest.nd rfl rfl (sw_true rfl rfl rfl (by decide +kernel)) (pi_seq (pv 5)) (blkOk_by (N := N_l_lightest) (sc := defScope s_l_lightest) (by decide +kernel)) (fun _ _ _ _ _ => (pg_name (i := 7) sc_l_lightest.nd rfl (Or.inl rfl))) (fun _ _ _ _ _ => (pts_one (pt_cmpR op_notN (pv 7) pe_non (nomark _)))) (fun _ _ _ _ _ => (pv 7)))
  (pss_cons (ps_if (pt_not (pt_truth (pv 5) (by intro _; rfl))) (pss_one (ps_ret pe_non)) pss_nil)
  (pss_one (ps_ret (pe_callB (cr_minW rfl (hu_le hr (by decide))) (by rfl) B.min (by decide +kernel) (pa_cons (pv 5) pa_nil)))))))), ?_⟩
  obtain ⟨rr, bb, vs, h1, h2, h3, h4⟩ := g.g.fam.ex
  have hnr := g.g.wf.nr
  have hc5 : cn 5 = 1222981 + 37060 * 0 + (cn 5 - 1222981) := by decide
  refine fun kn hkn => ?_
  have k0 : Ex H (upd H kn (KnO P w kn [])) := .new hkn _
  have kk0 : KnOk P w (upd H kn (KnO P w kn [])) kn 0 (LL fm names D tb) := ⟨[], [], upd_same, .nil, Nat.le_refl _, fun kv h => (nomatch h)⟩
  refine .inr ⟨_, rfl, q_ixT1 (k0.old _ _ h1) rfl ⟨rr, rfl, ⟨_, sqt (k0.old _ _ h2)⟩, fun L hL => ?_⟩⟩
  have hLk : L ≠ kn := fun z => by
    obtain ⟨xs, kvs, e, _⟩ := kk0
    have hL' : upd H kn (KnO P w kn []) L = none := hL
    rw [z, e] at hL'; cases hL'
  have hL0 : H L = none := k0.fr hL
  refine lc_tup (xs := fm.roots.map nI) (fun i H' => Ex H H' ∧ KnOk P w H' kn (i * cn 5) (LL fm names D tb) ∧ ∃ acc, H' L = some (.lst acc) ∧ All2 (OW H') acc ((fm.roots.take i).map fun r => LL fm names D tb r []))
    ⟨k0.nw hL _, (kk0.ex (.new hL _)).le (by omega), [], upd_same, .nil⟩ (fun i H' _ h => sqt (h.1.old _ _ h2)) (fun i x H' hx h => ?_) (fun H' h => ?_)
  · obtain ⟨k, hk, acc, hl, al⟩ := h
    obtain ⟨r, hr1, rfl⟩ := map_at hx
    have hi : i < fm.roots.length := (List.getElem?_eq_some_iff.mp hr1).1
    have hcn : cn 5 = 1222981 := by decide
    refine ⟨rfl, _, rfl, _, rfl, _, rfl, _, rfl, _, rfl, _, rfl, (by decide), fun t ht => ?_⟩
    have kt : Ex H' (upd H' t (.tup [])) := .new ht _
    refine ⟨fa, na, da, wa, kn, t, fm, names, D, tb, r, [], i * cn 5, rfl, g.ex (k.trans kt), g.g.wf.roots r (List.mem_of_getElem? hr1), upd_same, fun x hx => (nomatch hx), rfl, hk.ex kt, by rw [hcn]; omega, fun y H2 k2 hk2 hy => ?_⟩
    have kt2 : E1 kn H' H2 := (kt.e1 kn).trans k2
    have hl2 := hk.ls kt2 hl
    have T2 := hk.ts kt2
    have T3 : Tps H2 (upd H2 L (.lst (acc ++ [y]))) := ts_lst hl2
    refine ⟨acc, hl2, small1000 (by rw [al.len, List.length_map, List.length_take]; omega), (ex_e1 k hkn kt2).mut hL0 _, ?_, _, upd_same, ?_⟩
    · obtain ⟨xs, kvs, a1, a2, a3, a4⟩ := hk2
      exact ⟨xs, kvs, by rw [upd_ne hLk.symm]; exact a1, a2.ts T3, by rw [Nat.add_mul, Nat.one_mul]; exact a3, fun kv hk => (a4 kv hk).ts T3⟩
    · rw [take_succ_some hr1, List.map_append]
      exact (al.mono fun _ _ z => (z.ts T2).ts T3).snoc (hy.ts T3)
  · obtain ⟨k, hk, acc, hl, al⟩ := h
    rw [List.length_map, List.take_length] at al
    have al' := list_map_all2 al
    refine .inl ⟨_, rfl, L, rfl, ⟨_, sql hl⟩, fun D2 hD2 => lc_gL (prEx H') (R := fun H y (w : Wt) => OW H y (some w)) (fun _ _ _ _ t z => z.ts t) (bs := fm.roots) (φ := fun r => LL fm names D tb r []) (small1000 (by omega)) hD2 (fun H k => k.old _ _ hl) al'.len (fun j x r H2 hx hr' k2 N no yes => ?_) (fun H2 acc2 k2 ha2 al2 => ?_)⟩
    · obtain ⟨x', hx', hy⟩ := al'.get hr'
      have hxx : x' = x := by rw [hx'] at hx; exact Option.some.inj hx
      subst hxx
      have hy2 := OW.ts k2.ts hy
      refine ⟨rfl, _, rfl, rfl, _, rfl, ?_⟩
      rw [hy2.isn]
      cases e : LL fm names D tb r [] with
      | none => exact ite_ff (no _ (.refl _) e)
      | some b => exact ite_tt ⟨_, rfl, yes _ _ _ (.refl _) e (by rw [e] at hy2; exact hy2)⟩
    · have k02 := k.trans k2
      have hli : lightest fm names D (tf tb) = bestOf (fm.roots.map fun r => LL fm names D tb r []) := rfl
      refine ⟨_, rfl, _, .inl ⟨acc2, sql ha2, rfl⟩, ?_⟩
      cases acc2 with
      | nil =>
        refine ite_tt (q _ H2 k02 ?_)
        rw [hli, best_none (l := fm.roots.map fun r => LL fm names D tb r []) (fun y hy => fm_none (List.length_eq_zero_iff.mp al2.len.symm) hy)]; rfl
      | cons a0 acc2 =>
        refine ite_ff ⟨_, rfl, D2, _, _, rfl, sql ha2, al2, (fun z => by rw [z] at al2; cases al2), fun v m hm hle hv => q v H2 k02 ?_⟩
        rw [hli, best_min hm hle]; exact hv
def spLFeas : Sp := fun vs H Q _ => ∃ (fa na da wa : Addr) (fm : Fm) (names : List (List Str)) (D : List Dem) (tb : Tb) (bud : Option Nat), vs = [.ref fa, .ref na, .ref da, .ref wa, oI bud] ∧ LGiven H fa na da wa fm names D tb ∧
  ∀ H', Ex H H' → Q (.bl (feas fm names D (tf tb) bud)) H'
theorem ok_l_feasible (F : Fun K "_law_feasible" "_law_feasible" s_l_feasible f fd) (c_l_lightest : Cal P w K mg base 12 "_law_lightest" ["_law_family_here", "_law_names_here", "_law_demands_here", "_law_weights_here"] spLightest) :
    FnOk P w K mg base CX0 13 f fd ["_law_family_here", "_law_names_here", "_law_demands_here", "_law_weights_here", "_law_budget_here"] spLFeas := by
  refine F.ok sc_l_feasible (fun vs H Q E h => ?_) (fun cdv A outer s H vs Q E hr h => ?_)
  · obtain ⟨fa, na, da, wa, fm, names, D, tb, bud, rfl, _⟩ := h
    rfl
  obtain ⟨fa, na, da, wa, fm, names, D, tb, bud, rfl, g, q⟩ := h
  refine ⟨_, (pss_cons (ps_set (i := 5) sc_l_feasible.nd rfl (Or.inl rfl) (pe_cal c_l_lightest (hr.mono (by omega)) (by rfl) (pa_cons (pv 0) (pa_cons (pv 1) (pa_cons (pv 2) (pa_cons (pv 3) pa_nil))))))
  (pss_one (ps_ret (pe_and (pe_cmpR op_notN (pv 5) pe_non (nomark _)) (pe_one (pe_or (pe_cmpR op_isN (pv 4) pe_non (nomark _)) (pe_one (pe_cmpR op_le (pe_ix ix_seq (pv 5) pe_int (fun _ _ => rfl)) (pv 4) (nomark _))))))))), ?_⟩
  refine ⟨_, rfl, _, rfl, _, rfl, _, rfl, fa, na, da, wa, fm, names, D, tb, rfl, g, fun r H1 k1 hr1 => ?_⟩
  have q1 := q H1 k1
  unfold feas at q1
  refine ⟨_, rfl, rfl, _, rfl, ?_⟩
  rw [hr1.isn]
  cases e : lightest fm names D (tf tb) with
  | none => rw [e] at q1; exact ite_ff q1
  | some b =>
    rw [e] at hr1 q1
    obtain ⟨ob, rfl, hob⟩ := hr1
    refine ite_tt ⟨_, rfl, rfl, _, rfl, ?_⟩
    cases bud with
    | none => exact ite_t rfl q1
    | some y =>
      refine ite_f rfl ⟨_, rfl, q_ixT0 hob rfl ⟨_, rfl, _, _, rfl, rfl, ?_⟩⟩
      have : decide ((b.1 : Int) ≤ (y : Int)) = decide (b.1 ≤ y) := by simp
      show Q (.bl (decide ((b.1 : Int) ≤ (y : Int)))) H1
      rw [this]; exact q1
def spPicked : Sp := fun vs H Q _ => ∃ (da a : Addr) (D : List Dem) (l : List Nat), vs = [.ref da, .ref a] ∧ DsAt H da D ∧ (H a = some (.tup (l.map nI)) ∨ H a = some (.lst (l.map nI))) ∧ (∀ k ∈ l, k < D.length) ∧ l.length ≤ 100 ∧
  ∀ r H', Ex H H' → DsAt H' r (pick D l) → Q (.ref r) H'
theorem ok_picked (F : Fun K "_law_picked" "_law_picked" s_l_picked f fd) (B : Blt mg) : FnOk P w K mg base CX0 1 f fd ["_law_demands_here", "_law_indices"] spPicked := by
  refine F.ok sc_l_picked (fun vs H Q E h => ?_) (fun cdv A outer s H vs Q E hr h => ?_)
  · obtain ⟨da, a, D, l, rfl, _⟩ := h
    rfl
  obtain ⟨da, a, D, l, rfl, hD, ha, hlt, hll, q⟩ := h
  refine ⟨_, (pss_one (ps_ret (pe_callTy call_tuple_of (by rfl) B.tuple (by decide +kernel) (pa_cons (pe_lc (own := [("_law_k", 2)]) rfl sc_l_picked.nd (pi_seq (pv 1)) (blkOk_by (N := N_l_picked) (sc := defScope s_l_picked) (by decide +kernel)) (fun _ _ _ _ _ => (pg_name (i := 2) sc_l_picked.nd rfl (Or.inl rfl))) (fun _ _ _ _ _ => pts_nil) (fun _ _ _ _ _ => (pe_ix (r := rIx K) ix_seq (pv 0) (pv 2) (fun _ _ => rfl)))) pa_nil)))), ?_⟩
  obtain ⟨ds, hds, ald⟩ := hD
  have turn : ∀ (D1 : Addr) (j : Nat) (y : V) (c : Nat) (H1 : Hp), (l.map nI)[j]? = some y → l[j]? = some c → Ex H H1 → LcT Ex D1 (gName 2) tYes (tOp (rIx K) (tVar 0) (tVar 2)) (L2.start N_l_picked [.ref da, .ref a]) [2] DmAt (fun k => D[k]?) y c H1 := fun D1 j y c H1 hy hc k1 N no yes => by
    obtain ⟨c', hc', rfl⟩ := map_at hy
    have hcc : c' = c := by rw [hc'] at hc; exact Option.some.inj hc
    subst hcc
    have cl := hlt c' (List.mem_of_getElem? hc')
    obtain ⟨y, hy2, yd⟩ := ald.get (List.getElem?_eq_getElem cl)
    exact ⟨rfl, _, rfl, _, rfl, q_ixT (k1.old _ _ hds) hy2 (yes _ _ _ (.refl _) (List.getElem?_eq_getElem cl) (yd.ts k1.ts))⟩
  have fin : ∀ (D1 : Addr) (H1 : Hp) (acc : List V), Ex H H1 → H1 D1 = some (.lst acc) → All2 (DmAt H1) acc (pick D l) → ∃ p ys, ([.ref D1] : List V) = [.ref p] ∧ ((SqL K H1 p ys ∧ ∀ r, H1 r = none → Q (.ref r) (upd H1 r (.tup ys))) ∨ (SqT K H1 p ys ∧ Q (.ref p) H1)) := fun D1 H1 acc k1 h1 al1 =>
    ⟨D1, acc, rfl, .inl ⟨sql h1, fun r hr' => q r _ (k1.nw hr' _) ⟨acc, upd_same, al1.mono fun _ _ z => z.ts (Ex.new hr' _).ts⟩⟩⟩
  rcases ha with ha | ha
  · exact .inr ⟨_, rfl, a, rfl, ⟨_, sqt ha⟩, fun D1 hD1 => lc_gT (prEx H) (R := DmAt) (fun _ _ _ _ t z => z.ts t) (bs := l) (φ := fun k => D[k]?) (small1000 (by omega)) hD1 ha (by rw [List.length_map]) (fun j y c H1 hy hc k1 => turn D1 j y c H1 hy hc k1) fun H1 acc k1 h1 al1 => fin D1 H1 acc k1 h1 al1⟩
  · exact .inl ⟨_, rfl, a, rfl, ⟨_, sql ha⟩, fun D1 hD1 => lc_gL (prEx H) (R := DmAt) (fun _ _ _ _ t z => z.ts t) (bs := l) (φ := fun k => D[k]?) (small1000 (by omega)) hD1 (fun H k => k.old _ _ ha) (by rw [List.length_map]) (fun j y c H1 hy hc k1 => turn D1 j y c H1 hy hc k1) fun H1 acc k1 h1 al1 => fin D1 H1 acc k1 h1 al1⟩
end
end K81
/-! ## WQ -/
namespace K81
open PySem PySem.Spec PyProof.Rows L2

abbrev s_l_subsets : Stmt := topS 50
abbrev N_l_subsets : List Str := ["_law_number", "_law_rows", "_law_k", "_law_row", "_law_pair"]
theorem sc_l_subsets : FnScope N_l_subsets ["_law_number"] (defScope s_l_subsets) := ⟨rfl, rfl, rfl, by decide +kernel, rfl, by decide +kernel, by decide +kernel⟩
-- slots: _law_number:0 _law_rows:1 _law_k:2 _law_row:3 _law_pair:4   cells: _law_k   calls: 
abbrev s_l_crosses : Stmt := topS 51
abbrev N_l_crosses : List Str := ["_law_row", "_law_others", "_law_other", "_law_k"]
theorem sc_l_crosses : FnScope N_l_crosses ["_law_row", "_law_others"] (defScope s_l_crosses) := ⟨rfl, rfl, rfl, by decide +kernel, rfl, by decide +kernel, by decide +kernel⟩
-- slots: _law_row:0 _law_others:1 _law_other:2 _law_k:3   cells: _law_row   calls: 
abbrev s_l_crossing : Stmt := topS 52
abbrev N_l_crossing : List Str := ["_law_number", "_law_others", "_law_found", "_law_row", "_law_less", "_law_k", "_law_part"]
theorem sc_l_crossing : FnScope N_l_crossing ["_law_number", "_law_others"] (defScope s_l_crossing) := ⟨rfl, rfl, rfl, by decide +kernel, rfl, by decide +kernel, by decide +kernel⟩
-- slots: _law_number:0 _law_others:1 _law_found:2 _law_row:3 _law_less:4 _law_k:5 _law_part:6   cells: _law_others _law_row   calls: _law_subsets _law_crosses
/-- a pair (len, row) -/
def RowR (H : Hp) (x : V) (l : List Nat) : Prop := ∃ a p, x = .ref a ∧ H a = some (.tup [nI l.length, .ref p]) ∧ H p = some (.tup (l.map nI))
theorem RowR.ts {H H' : Hp} {x : V} {l : List Nat} (t : Tps H H') (h : RowR H x l) : RowR H' x l := let ⟨a, p, e, q1, q2⟩ := h; ⟨a, p, e, t _ _ q1, t _ _ q2⟩
theorem RowR.dp {K : PySem.W.Frag} {H : Hp} {x : V} {l : List Nat} (h : RowR H x l) : Dp K H x (keyD List.length dI l) := by
  obtain ⟨a, p, rfl, h1, h2⟩ := h
  exact .tup (sqt h1) (.cons (.int _) (.cons (TupI.dp ⟨p, rfl, h2⟩) .nil))
section
variable {P : Program} {w : World} {K : PySem.W.Frag} {mg : Str → Option Value} {base : Heap} {f : Addr} {fd : FuncData}
def spSubs : Sp := fun vs H Q _ => ∃ n : Nat, vs = [nI n] ∧ n ≤ 8 ∧ ∀ r H' xs, Ex H H' → H' r = some (.lst xs) → All2 (TupI H') xs (sets n) → Q (.ref r) H'
theorem ok_subsets (F : Fun K "_law_subsets" "_law_subsets" s_l_subsets f fd) (B : Blt mg) : FnOk P w K mg base CX0 1 f fd ["_law_number"] spSubs := by
  refine F.ok sc_l_subsets (fun vs H Q E h => ?_) (fun cdv A outer s H vs Q E hr h => ?_)
  · obtain ⟨n, rfl, _⟩ := h
    rfl
  obtain ⟨n, rfl, hn, q⟩ := h
  refine ⟨_, (pss_cons (ps_set (i := 1) sc_l_subsets.nd rfl (Or.inl rfl) (pe_lst (pa_cons (pe_tup pa_nil) pa_nil)))
  (pss_cons (ps_for PassesOwn.never rfl (pi_range1 (by rfl) B.range (pa_cons (pv 0) pa_nil)) (pg_name (i := 2) sc_l_subsets.nd rfl (Or.inr rfl)) (pss_one (ps_set (i := 1) sc_l_subsets.nd rfl (Or.inl rfl) (pe_op op_cat (pv 1) (pe_lc (own := [("_law_row", 3)]) rfl sc_l_subsets.nd (pi_seq (pv 1)) (blkOk_by (N := N_l_subsets) (sc := defScope s_l_subsets) (by decide +kernel)) (fun _ _ _ _ _ => (pg_name (i := 3) sc_l_subsets.nd rfl (Or.inl rfl))) (fun _ _ _ _ _ => pts_nil) (fun _ _ _ _ _ => (pe_op (r := rCatA K) op_catA (pv 3) (pe_tup (pa_cons (pv 2) pa_nil)))))))))
  (pss_one (ps_ret (pe_lc (own := [("_law_pair", 4)]) rfl sc_l_subsets.nd (pi_seq (pe_callB (cr_sortD RowR (keyD List.length dI) (hu_le hr (by decide))) (by rfl) B.sorted (by decide +kernel) (pa_cons (pe_lc (own := [("_law_row", 3)]) rfl sc_l_subsets.nd (pi_seq (pv 1)) (blkOk_by (N := N_l_subsets) (sc := defScope s_l_subsets) (by decide +kernel)) (fun _ _ _ _ _ => (pg_name (i := 3) sc_l_subsets.nd rfl (Or.inl rfl))) (fun _ _ _ _ _ => pts_nil) (fun _ _ _ _ _ => (pe_tup (pa_cons (pe_callB (r := rLenQ K) call_lenQ (by rfl) B.len (by decide +kernel) (pa_cons (pv 3) pa_nil)) (pa_cons (pv 3) pa_nil))))) pa_nil))) (blkOk_by (N := N_l_subsets) (sc := defScope s_l_subsets) (by decide +kernel)) (fun _ _ _ _ _ => (pg_name (i := 4) sc_l_subsets.nd rfl (Or.inl rfl))) (fun _ _ _ _ _ => pts_nil) (fun _ _ _ _ _ => (pe_ix (r := rIx K) ix_seq (pv 4) pe_int (fun _ _ => rfl)))))))), ?_⟩
  refine ⟨(by show 0 ≤ sizeLine; decide), fun t0 ht0 => ⟨(by show 1 ≤ sizeLine; decide), fun L hL => ?_⟩⟩
  have k0 : Ex H (upd (upd H t0 (.tup [])) L (.lst [.ref t0])) := (Ex.new ht0 _).nw hL _
  refine ⟨_, rfl, _, rfl, by omega, by omega, for_range (n := n) (fun i σ H' => ∃ (a : Addr) (xs : List V) (e2 e3 e4 : Option V), σ = [some (nI n), some (.ref a), e2, e3, e4] ∧ Ex H H' ∧ H' a = some (.lst xs) ∧ All2 (TupI H') xs (raw i))
    ⟨L, _, none, none, none, rfl, k0, upd_same, .cons ⟨t0, rfl, by rw [upd_ne (ne_of_none upd_same hL)]; exact upd_same⟩ .nil⟩ (fun i σ H' hi h => ?_) (fun σ H' h => ?_)⟩
  · obtain ⟨a, xs, e2, e3, e4, rfl, k, ha, al⟩ := h
    have hp8 : (raw i).length ≤ 256 := by rw [raw_len]; exact pow_le (by omega)
    refine ⟨_, rfl, .inl ⟨_, rfl, a, rfl, ⟨_, sql ha⟩, fun D hD => lc_gL (prEx H') (R := TupI) (fun _ _ _ _ t z => z.ts t) (bs := raw i) (φ := fun r => some (r ++ [i])) (small1000 (by omega)) hD (fun H k => k.old _ _ ha) al.len (fun j x r H1 hx hr' k1 N no yes => ?_) (fun H1 acc k1 ha1 al1 => ?_)⟩⟩
    · obtain ⟨x', hx', b, rfl, hb⟩ := al.get hr'
      have hxx : V.ref b = x := by rw [hx'] at hx; exact Option.some.inj hx
      subst hxx
      have hrl : r.length ≤ 8 := by
        have := ((raw_iff i r).mp (List.mem_of_getElem? hr')).length_le
        rw [List.length_range] at this; omega
      refine ⟨rfl, _, rfl, _, rfl, (by show 1 ≤ sizeLine; decide), fun t1 ht1 => q_catA ((Ex.new ht1 _).old _ _ (k1.old _ _ hb)) upd_same (line_le (by rw [List.length_map]; show r.length + 1 ≤ 1000; omega)) fun t2 H2 k2 ht2 => ?_⟩
      refine yes _ _ _ ((Ex.new ht1 _).trans k2) rfl ⟨t2, rfl, ?_⟩
      rw [ht2, List.map_append, show (0 : Int) + (i : Int) = (i : Int) from Int.zero_add _]; rfl
    · rw [fm_map] at al1
      refine ⟨a, D, xs, acc, rfl, rfl, k1.old _ _ ha, ha1, line_le (by rw [al.len, al1.len, List.length_map]; omega), fun p hp => ?_⟩
      exact ⟨p, _, _, _, _, rfl, (k.trans k1).nw hp _, upd_same, ((al.mono fun _ _ z => (z.ts k1.ts).ts (Ex.new hp _).ts).app (al1.mono fun _ _ z => z.ts (Ex.new hp _).ts))⟩
  · obtain ⟨a, xs, e2, e3, e4, rfl, k, ha, al⟩ := h
    have hp8 : (raw n).length ≤ 256 := by rw [raw_len]; exact pow_le (by omega)
    refine .inl (.inl ⟨_, rfl, a, rfl, ⟨_, sql ha⟩, fun D1 hD1 => lc_gL (prEx H') (R := RowR) (fun _ _ _ _ t z => z.ts t) (bs := raw n) (φ := fun r => some r) (small1000 (by omega)) hD1 (fun H k => k.old _ _ ha) al.len (fun j x r H1 hx hr' k1 N no yes => ?_) (fun H1 acc k1 ha1 al1 => ?_)⟩)
    · obtain ⟨x', hx', b, rfl, hb⟩ := al.get hr'
      have hxx : V.ref b = x := by rw [hx'] at hx; exact Option.some.inj hx
      subst hxx
      have hb1 := k1.old _ _ hb
      refine ⟨rfl, _, rfl, b, _, rfl, .inr (sqt hb1), _, rfl, (by show 2 ≤ sizeLine; decide), fun t1 ht1 => yes _ _ _ (.new ht1 _) rfl ⟨t1, b, rfl, ?_, (Ex.new ht1 _).old _ _ hb1⟩⟩
      rw [List.length_map]; exact upd_same
    · rw [fm_map, List.map_id'] at al1
      refine ⟨D1, acc, raw n, rfl, sql ha1, al1, fun x b _ z => z.dp, alike_keyI _, .inl fun d hd => ?_, by omega, fun b _ => depth_keyI b, fun p ys hp als => ?_⟩
      · obtain ⟨b, _, e⟩ := List.mem_map.mp hd
        exact ⟨_, _, e.symm⟩
      have als : All2 (RowR H1) ys (sets n) := als
      have k2 : Ex H1 (upd H1 p (.lst ys)) := .new hp _
      have h256 : (sets n).length ≤ 256 := by rw [sets_len]; exact pow_le hn
      have hp2 : upd H1 p (.lst ys) p = some (.lst ys) := upd_same
      generalize upd H1 p (.lst ys) = H2 at k2 hp2 ⊢
      refine ⟨p, rfl, ⟨_, sql hp2⟩, fun D2 hD2 => lc_gL (prEx H2) (R := TupI) (fun _ _ _ _ t z => z.ts t) (bs := sets n) (φ := fun r => some r) (small1000 (by omega)) hD2 (fun H k => k.old _ _ hp2) als.len (fun j x r H3 hx hr' k3 N no yes => ?_) (fun H3 acc k3 ha3 al3 => ?_)⟩
      · obtain ⟨x', hx', b, c, rfl, hb, hc⟩ := als.get hr'
        have hxx : V.ref b = x := by rw [hx'] at hx; exact Option.some.inj hx
        subst hxx
        have k23 := k2.trans k3
        exact ⟨rfl, _, rfl, q_ixT1 (k23.old _ _ hb) rfl (yes _ _ _ (.refl _) rfl ⟨c, rfl, k23.old _ _ hc⟩)⟩
      · rw [fm_map, List.map_id'] at al3
        exact q D2 H3 acc (((k.trans k1).trans k2).trans k3) ha3 al3
def spCrosses : Sp := fun vs H Q _ => ∃ (a oa : Addr) (s : List Nat) (os : List (List Nat)), vs = [.ref a, .ref oa] ∧ H a = some (.tup (s.map nI)) ∧ SetsAt H oa os ∧ os.length ≤ 256 ∧ (∀ t ∈ os, t.length ≤ 8) ∧ ∀ H', Ex H H' → Q (.bl (crosses s os)) H'
theorem ok_crosses (F : Fun K "_law_crosses" "_law_crosses" s_l_crosses f fd) (B : Blt mg) : FnOk P w K mg base CX0 1 f fd ["_law_row", "_law_others"] spCrosses := by
  refine F.ok sc_l_crosses (fun vs H Q E h => ?_) (fun cdv A outer s H vs Q E hr h => ?_)
  · obtain ⟨a, oa, s, os, rfl, _⟩ := h
    rfl
  obtain ⟨a, oa, s, os, rfl, ha, ⟨xs, hxs, al⟩, hol, htl, q⟩ := h
  refine ⟨_, (pss_one (ps_ret (pe_cmpR op_eq (pe_callB call_len_seq (by rfl) B.len (by decide +kernel) (pa_cons (pe_lc (own := [("_law_other", 2)]) rfl sc_l_crosses.nd (pi_seq (pv 1)) (blkOk_by (N := N_l_crosses) (sc := defScope s_l_crosses) (by decide +kernel)) (fun _ _ _ _ _ => (pg_name (i := 2) sc_l_crosses.nd rfl (Or.inl rfl))) (fun _ _ _ _ _ => (pts_one (pt_not (pt_truthK K rfl (pe_lc (own := [("_law_k", 3)]) rfl sc_l_crosses.nd (pi_seqK K rfl (pv 2)) (blkOk_by (by rfl)) (fun _ _ _ _ _ => (pg_name (i := 3) sc_l_crosses.nd rfl (Or.inl rfl))) (fun _ _ _ _ _ => (pts_one (pt_cmpR (r := rIn K false) op_in_seq (pv 3) (pv 0) (by rfl)))) (fun _ _ _ _ _ => (pv 3))) (by intro _; rfl))))) (fun _ _ _ _ _ => (pv 2))) pa_nil)) pe_int (nomark _)))), ?_⟩
  refine .inr ⟨_, rfl, oa, rfl, ⟨_, sqt hxs⟩, fun D1 hD1 => lc_gT (prEx H) (R := TupI) (fun _ _ _ _ t z => z.ts t) (bs := os) (φ := fun t => if meet s t then none else some t) (small1000 (by omega)) hD1 hxs al.len (fun j x t H1 hx ht k1 N no yes => ?_) (fun H1 acc k1 ha1 al1 => ?_)⟩
  · obtain ⟨x', hx', b, rfl, hb⟩ := al.get ht
    have hxx : V.ref b = x := by rw [hx'] at hx; exact Option.some.inj hx
    subst hxx
    have tl := htl t (List.mem_of_getElem? ht)
    have hb1 := k1.old _ _ hb
    refine ⟨rfl, .inr ⟨_, rfl, b, rfl, ⟨_, sqt hb1⟩, fun D2 hD2 => lc_gT (prEx H1) (R := fun _ y (m : Nat) => y = nI m) (fun _ _ _ _ _ z => z) (bs := t) (φ := fun k => if s.contains k then some k else none) (small1000 (by omega)) hD2 hb1 (by rw [List.length_map]) (fun i y c H2 hy hc k2 N2 no2 yes2 => ?_) (fun H2 acc2 k2 ha2 al2 => ?_)⟩⟩
    · obtain ⟨c', hc', rfl⟩ := map_at hy
      have hcc : c' = c := by rw [hc'] at hc; exact Option.some.inj hc
      subst hcc
      refine ⟨rfl, _, rfl, _, rfl, a, _, rfl, .inr (sqt ((k1.trans k2).old _ _ ha)), rfl, flat_ints s, _, rfl, ?_⟩
      cases e : s.contains c' with
      | true => exact ite_t (by show inV (nI c') (s.map nI) = true; rw [(in_int c' s).mpr (by simpa using e)]) ⟨_, rfl, yes2 _ _ _ (.refl _) (if_pos e) rfl⟩
      | false =>
        refine ite_f ?_ (no2 _ (.refl _) (if_neg (by rw [e]; decide)))
        show inV (nI c') (s.map nI) = false
        exact Bool.eq_false_iff.mpr fun z => by have := (in_int c' s).mp z; simp [this] at e
    · refine ⟨_, .inl ⟨acc2, sql ha2, rfl⟩, ?_⟩
      have hm : acc2.isEmpty = !meet s t := by
        have hl := al2.len
        cases e : meet s t with
        | true =>
          obtain ⟨k, hk, hks⟩ := meet_iff.mp e
          have : k ∈ t.filterMap fun k => if s.contains k then some k else none := List.mem_filterMap.mpr ⟨k, hk, if_pos (by simpa using hks)⟩
          cases acc2 with
          | nil => rw [List.length_eq_zero_iff.mp hl.symm] at this; cases this
          | cons _ _ => rfl
        | false =>
          have : (t.filterMap fun k => if s.contains k then some k else none) = [] := List.filterMap_eq_nil_iff.mpr fun k hk => if_neg fun z => by
            rw [meet_iff.mpr ⟨k, hk, by simpa using z⟩] at e; cases e
          rw [this] at hl
          rw [List.length_eq_zero_iff.mp hl]; rfl
      rw [hm, Bool.not_not]
      cases e : meet s t with
      | true => exact ite_f rfl (no _ k2 (if_pos e))
      | false => exact ite_t rfl ⟨_, rfl, yes _ _ _ k2 (if_neg (by rw [e]; decide)) ⟨b, rfl, k2.old _ _ hb1⟩⟩
  · refine ⟨D1, _, rfl, .inl (sql ha1), rfl, ?_⟩
    rw [filter_fm] at al1
    have := q H1 k1
    have e : crosses s os = decide (V.int (acc.length : Int) = V.int 0) := by
      rw [Bool.eq_iff_iff, decide_eq_true_iff]
      unfold crosses
      rw [List.all_eq_true]
      constructor
      · intro h
        have : os.filter (fun t => !meet s t) = [] := List.filter_eq_nil_iff.mpr fun t ht => by rw [h t ht]; decide
        rw [this] at al1
        rw [al1.len]; rfl
      · intro h t ht
        have h0 := V.int.inj h
        have hn : (os.filter fun t => !meet s t) = [] := List.length_eq_zero_iff.mp (by rw [← al1.len]; omega)
        have := List.filter_eq_nil_iff.mp hn t ht
        simpa using this
    rw [e] at this
    exact this
def spCrossing : Sp := fun vs H Q _ => ∃ (n : Nat) (oa : Addr) (os : List (List Nat)), vs = [nI n, .ref oa] ∧ n ≤ 8 ∧ SetsAt H oa os ∧ os.length ≤ 256 ∧ (∀ t ∈ os, t.length ≤ 8) ∧ ∀ r H', Ex H H' → SetsAt H' r ((sets n).filter (isCross os)) → Q (.ref r) H'
theorem ok_crossing (F : Fun K "_law_crossing" "_law_crossing" s_l_crossing f fd) (B : Blt mg) (c_l_subsets : Cal P w K mg base 1 "_law_subsets" ["_law_number"] spSubs) (c_l_crosses : Cal P w K mg base 1 "_law_crosses" ["_law_row", "_law_others"] spCrosses) : FnOk P w K mg base CX0 2 f fd ["_law_number", "_law_others"] spCrossing := by
  refine F.ok sc_l_crossing (fun vs H Q E h => ?_) (fun cdv A outer s H vs Q E hr h => ?_)
  · obtain ⟨n, oa, os, rfl, _⟩ := h
    rfl
  obtain ⟨n, oa, os, rfl, hn, ho, hol, htl, q⟩ := h
  refine ⟨_, (pss_cons (ps_set (i := 2) sc_l_crossing.nd rfl (Or.inl rfl) (pe_lst pa_nil))
  (pss_cons (ps_for PassesOwn.never rfl (pi_seq (pe_cal c_l_subsets (hr.mono (by omega)) (by rfl) (pa_cons (pv 0) pa_nil))) (pg_name (i := 3) sc_l_crossing.nd rfl (Or.inr rfl)) (pss_cons (ps_setLc (i := 4) (own := [("_law_k", 5)]) rfl sc_l_crossing.nd rfl rfl (sw_true rfl rfl rfl (by decide +kernel)) (pi_range1 (by rfl) B.range (pa_cons (pe_callB call_len_seq (by rfl) B.len (by decide +kernel) (pa_cons (pv 3) pa_nil)) pa_nil)) (blkOk_by (N := N_l_crossing) (sc := defScope s_l_crossing) (by decide +kernel)) (fun _ _ _ _ _ => (pg_name (i := 5) sc_l_crossing.nd rfl (Or.inl rfl))) (fun _ _ _ _ _ => pts_nil) (fun _ _ _ _ _ => (pe_op (r := rCatA K) op_catA (pe_slice (r := rSlA K) sl_tupA (pv 3) po_none (po_some (pv 5))) (pe_slice (r := rSlA K) sl_tupA (pv 3) (po_some (pe_op op_add (pv 5) pe_int)) po_none))))
  (pss_one (ps_if (PW.pt (pw_and (pt_val (pe_cal c_l_crosses (hr.mono (by omega)) (by rfl) (pa_cons (pv 3) (pa_cons (pv 1) pa_nil)))) (pw_and1 (pt_not (pt_truth (pe_lc (own := [("_law_part", 6)]) rfl sc_l_crossing.nd (pi_seq (pv 4)) (blkOk_by (N := N_l_crossing) (sc := defScope s_l_crossing) (by decide +kernel)) (fun _ _ _ _ _ => (pg_name (i := 6) sc_l_crossing.nd rfl (Or.inl rfl))) (fun _ _ _ _ _ => (pts_one (pt_val (pe_cal c_l_crosses (hr.mono (by omega)) (by rfl) (pa_cons (pv 6) (pa_cons (pv 1) pa_nil)))))) (fun _ _ _ _ _ => (pv 6))) (by intro _; rfl)))))) (pss_one (ps_expr (pe_bm PySem.F.plainAttrs_list PySem.F.slot_list_append PySem.F.type_list_append mt_append (pv 2) (pa_cons (pv 3) pa_nil)))) pss_nil))))
  (pss_one (ps_ret (pe_callTy call_tuple_of (by rfl) B.tuple (by decide +kernel) (pa_cons (pv 2) pa_nil)))))), ?_⟩
  refine ⟨(by show 0 ≤ sizeLine; decide), fun L hL => ?_⟩
  have k0 : Ex H (upd H L (.lst [])) := .new hL _
  refine .inl ⟨_, rfl, n, rfl, hn, fun sl H1 sx k1 hsl als => ⟨sl, rfl, ⟨_, sql hsl⟩, ?_⟩⟩
  have h256 : (sets n).length ≤ 256 := by rw [sets_len]; exact pow_le hn
  have k01 := k0.trans k1
  have hL0 : H L = none := hL
  have hsl0 : sl ≠ L := fun z => by
    have := k1.old _ _ (show upd H L (.lst []) L = some (.lst []) from upd_same)
    rw [← z, hsl] at this
    have e : sx = [] := HO.lst.inj (Option.some.inj this)
    have l1 := als.len
    rw [e, sets_len] at l1
    have := Nat.one_le_two_pow (n := n)
    simp at l1
    omega
  refine for_list (xs := sx) (fun i σ H' => ∃ (xs : List V) (e3 e4 e5 e6 : Option V), σ = [some (nI n), some (.ref oa), some (.ref L), e3, e4, e5, e6] ∧ Ex H H' ∧ H' sl = some (.lst sx) ∧ Tps H1 H' ∧ H' L = some (.lst xs) ∧ All2 (TupI H') xs (((sets n).take i).filter (isCross os)))
    ⟨[], none, none, none, none, rfl, k01, hsl, .refl _, k1.old _ _ upd_same, .nil⟩ (fun i σ H' _ h => by obtain ⟨_, _, _, _, _, _, _, k, _⟩ := h; exact sql k) (fun i x σ H' hx h => ?_) (fun σ H' h => ?_)
  · obtain ⟨xs, e3, e4, e5, e6, rfl, k, hsl', t1, hl, al⟩ := h
    obtain ⟨s, hs, xs3⟩ := als.getL hx
    obtain ⟨c, rfl, hc⟩ := xs3.ts t1
    have ssub := sets_iff.mp (List.mem_of_getElem? hs)
    have slen : s.length ≤ n := by have := ssub.length_le; rw [List.length_range] at this; exact this
    have hlen : xs.length < sizeLine := small1000 (by
      rw [al.len]
      have h1 := List.length_filter_le (isCross os) ((sets n).take i)
      have h3 : ((sets n).take i).length ≤ (sets n).length := by rw [List.length_take]; omega
      omega)
    have skip : isCross os s = false → ((sets n).take (i + 1)).filter (isCross os) = ((sets n).take i).filter (isCross os) := fun e => by
      rw [take_succ_some hs, List.filter_append]; simp [e]
    have put : isCross os s = true → ((sets n).take (i + 1)).filter (isCross os) = ((sets n).take i).filter (isCross os) ++ [s] := fun e => by
      rw [take_succ_some hs, List.filter_append]; simp [e]
    -- the row without each of its own
    refine ⟨_, rfl, c, _, rfl, .inr (sqt hc), _, rfl, by rw [List.length_map]; omega, by rw [List.length_map]; omega, fun D hD => ?_⟩
    have en : (((List.map nI s).length : Int)).toNat = s.length := by rw [List.length_map]; omega
    rw [en]
    refine lc_gR (prEx H') (R := TupI) (fun _ _ _ _ t z => z.ts t) (n := s.length) (φ := fun k => some (s.take k ++ s.drop (k + 1))) (small1000 (by omega)) hD (fun i H1 hi k1 N no yes => ?_) (fun H2 acc k2 ha2 al2 => ?_)
    · have ha1 := k1.old _ _ hc
      refine ⟨rfl, _, rfl, _, rfl, _, rfl, q_slA ha1 (cut_take i) fun t1 H2 k2 ht1 => ⟨_, rfl, _, rfl, _, _, rfl, rfl, _, rfl, ?_⟩⟩
      unfold tNoPart
      show rSlA K (.ref c) (some ((i : Int) + 1)) none H2 _
      refine q_slA (zs := (s.map nI).drop (i + 1)) (k2.old _ _ ha1) (by rw [show ((i : Int) + 1) = ((i + 1 : Nat) : Int) by omega]; exact cut_drop (i + 1)) fun t2 H3 k3 ht2 => ?_
      refine q_catA (k3.old _ _ ht1) ht2 (line_le (by rw [List.length_take, List.length_drop, List.length_map]; omega)) fun t3 H4 k4 ht3 => yes _ _ _ ((k2.trans k3).trans k4) rfl ⟨t3, rfl, ?_⟩
      rw [ht3, List.map_append, List.map_take, List.map_drop]
    · rw [fm_map] at al2
      have al2 : All2 (TupI H2) acc (smaller s) := al2
      have ho2 : SetsAt H2 oa os := (ho.ts k.ts).ts k2.ts
      have k02 := k.trans k2
      refine ⟨_, rfl, _, rfl, c, oa, s, os, rfl, k2.old _ _ hc, ho2, hol, htl, fun H3 k3 => ⟨_, rfl, ?_⟩⟩
      have k23 := k2.trans k3
      have k03 := k.trans k23
      have hl3 := k23.old _ _ hl
      cases e : crosses s os with
      | false => exact ite_ff (ite_ff ⟨xs, _, _, _, _, rfl, k03, k23.old _ _ hsl', t1.trans k23.ts, hl3, by rw [skip (by unfold isCross; rw [e]; rfl)]; exact al.mono fun _ _ z => z.ts k23.ts⟩)
      | true =>
        have ha3 := k3.old _ _ ha2
        refine ite_tt (.inl ⟨_, rfl, D, rfl, ⟨_, sql ha3⟩, fun D2 hD2 => lc_gL (prEx H3) (R := TupI) (fun _ _ _ _ t z => z.ts t) (bs := smaller s) (φ := fun t => if crosses t os then some t else none) (small1000 (by unfold smaller; rw [List.length_map, List.length_range]; omega)) hD2 (fun H k => k.old _ _ ha3) al2.len (fun j y t H4 hy ht k4 N no yes => ?_) (fun H4 acc4 k4 ha4 al4 => ?_)⟩)
        · obtain ⟨y', hy', b, rfl, hb⟩ := al2.get ht
          have hyy : V.ref b = y := by rw [hy'] at hy; exact Option.some.inj hy
          subst hyy
          have hb4 := k4.old _ _ (k3.old _ _ hb)
          refine ⟨rfl, _, rfl, _, rfl, b, oa, t, os, rfl, hb4, (ho2.ts k3.ts).ts k4.ts, hol, htl, fun H5 k5 => ⟨_, rfl, ?_⟩⟩
          cases e2 : crosses t os with
          | true => exact ite_tt ⟨_, rfl, yes _ _ _ k5 (if_pos e2) ⟨b, rfl, k5.old _ _ hb4⟩⟩
          | false => exact ite_ff (no _ k5 (if_neg (by rw [e2]; decide)))
        · have k24 := k23.trans k4
          have k04 := k.trans k24
          have hl4 := k24.old _ _ hl
          refine ⟨_, .inl ⟨acc4, sql ha4, rfl⟩, ?_⟩
          have hm : acc4.isEmpty = !(smaller s).any fun t => crosses t os := by
            have hlen4 := al4.len
            cases e3 : (smaller s).any fun t => crosses t os with
            | true =>
              obtain ⟨t, ht, hct⟩ := List.any_eq_true.mp e3
              have : t ∈ (smaller s).filterMap fun t => if crosses t os then some t else none := List.mem_filterMap.mpr ⟨t, ht, if_pos hct⟩
              cases acc4 with
              | nil => rw [List.length_eq_zero_iff.mp hlen4.symm] at this; cases this
              | cons _ _ => rfl
            | false =>
              have : ((smaller s).filterMap fun t => if crosses t os then some t else none) = [] := List.filterMap_eq_nil_iff.mpr fun t ht => if_neg fun z => by
                rw [List.any_eq_true.mpr ⟨t, ht, z⟩] at e3; cases e3
              rw [this] at hlen4
              rw [List.length_eq_zero_iff.mp hlen4]; rfl
          rw [hm, Bool.not_not]
          cases e3 : (smaller s).any fun t => crosses t os with
          | true => exact ite_f rfl ⟨xs, _, _, _, _, rfl, k04, k24.old _ _ hsl', t1.trans k24.ts, hl4, by rw [skip (by unfold isCross; rw [e, e3]; rfl)]; exact al.mono fun _ _ z => z.ts k24.ts⟩
          | false =>
            refine ite_t rfl ⟨_, rfl, ty_l hl4, _, rfl, L, _, _, rfl, rfl, hl4, hlen, ?_⟩
            have ts5 : Tps H4 (upd H4 L (.lst (xs ++ [.ref c]))) := ts_lst hl4
            refine ⟨_, _, _, _, _, rfl, k04.mut hL0 _, by rw [upd_ne hsl0]; exact k24.old _ _ hsl', (t1.trans k24.ts).trans ts5, upd_same, ?_⟩
            rw [put (by unfold isCross; rw [e, e3]; rfl)]
            exact (al.mono fun _ _ z => (z.ts k24.ts).ts ts5).snoc ⟨c, rfl, ts5 _ _ (k24.old _ _ hc)⟩
  · obtain ⟨xs, e3, e4, e5, e6, rfl, k, _, _, hl, al⟩ := h
    rw [als.len, List.take_length] at al
    exact ⟨_, rfl, L, xs, rfl, .inl ⟨sql hl, fun r hr' => q r _ (k.nw hr' _) ⟨xs, upd_same, al.mono fun _ _ z => z.ts (Ex.new hr' _).ts⟩⟩⟩
abbrev s_l_meets : Stmt := topS 53
abbrev N_l_meets : List Str := ["_law_family_here", "_law_names_here", "_law_demands_here", "_law_weights_here", "_law_budget_here", "_law_conflicts", "_law_corrections", "_law_row", "_law_rest", "_law_k"]
theorem sc_l_meets : FnScope N_l_meets ["_law_family_here", "_law_names_here", "_law_demands_here", "_law_weights_here", "_law_budget_here", "_law_conflicts", "_law_corrections"] (defScope s_l_meets) := ⟨rfl, rfl, rfl, by decide +kernel, rfl, by decide +kernel, by decide +kernel⟩
-- slots: _law_family_here:0 _law_names_here:1 _law_demands_here:2 _law_weights_here:3 _law_budget_here:4 _law_conflicts:5 _law_corrections:6 _law_row:7 _law_rest:8 _law_k:9   cells: _law_row   calls: is_feasible _law_picked _law_feasible
def spMeets (P1 P2 : Addr) : Sp := fun vs H Q _ => ∃ (fa na da wa ca ra : Addr) (fm : Fm) (names : List (List Str)) (D : List Dem) (bud : Option Nat) (cs rs : List (List Nat)), vs = [.ref fa, .ref na, .ref da, .ref wa, oI bud, .ref ca, .ref ra] ∧ LGiven H fa na da wa fm names D (lw fm) ∧ (∀ d ∈ D, DmOk d) ∧ D.length ≤ 8 ∧
  SetsAt H ca cs ∧ SetsAt H ra rs ∧ (∀ c ∈ cs, c.Sublist (List.range D.length) ∧ fe fm names bud (pick D c) = false) ∧ (∀ c ∈ rs, fe fm names bud (pick D (outside c D.length)) = true) ∧ LamX.Tabs (TL P1 P2) H ∧
  ∀ H', Kp (TL P1 P2) H H' → Q (.bl true) H'
theorem ok_meets {P1 P2 : Addr} (F : Fun K "_law_meets" "_law_meets" s_l_meets f fd) (B : Blt mg) (c_l_feasible : Cal P w K mg base 13 "_law_feasible" ["_law_family_here", "_law_names_here", "_law_demands_here", "_law_weights_here", "_law_budget_here"] spLFeas)
    (c_l_picked : Cal P w K mg base 1 "_law_picked" ["_law_demands_here", "_law_indices"] spPicked) (c_is_feasible : Cal P w K mg base 7 "is_feasible" ["family", "names", "demands", "budget"] (spFeas P1 P2)) :
    FnOk P w K mg base CX0 14 f fd ["_law_family_here", "_law_names_here", "_law_demands_here", "_law_weights_here", "_law_budget_here", "_law_conflicts", "_law_corrections"] (spMeets P1 P2) := by
  refine F.ok sc_l_meets (fun vs H Q E h => ?_) (fun cdv A outer s H vs Q E hr h => ?_)
  · obtain ⟨fa, na, da, wa, ca, ra, fm, names, D, bud, cs, rs, rfl, _⟩ := h
    rfl
  obtain ⟨fa, na, da, wa, ca, ra, fm, names, D, bud, cs, rs, rfl, g, dok, hn, ⟨cx, hcx, alc⟩, ⟨rx, hrx, alr⟩, hcs, hrs, hT, q⟩ := h
  refine ⟨_, (pss_cons (ps_for PassesOwn.never rfl (pi_seq (pv 5)) (pg_name (i := 7) sc_l_meets.nd rfl (Or.inr rfl)) (pss_cons (ps_if (pt_val (pe_cal c_l_feasible (hr.mono (by omega)) (by rfl) (pa_cons (pv 0) (pa_cons (pv 1) (pa_cons (pe_cal c_l_picked (hr.mono (by omega)) (by rfl) (pa_cons (pv 2) (pa_cons (pv 7) pa_nil))) (pa_cons (pv 3) (pa_cons (pv 4) pa_nil))))))) (pss_one (ps_ret pe_bl)) pss_nil)
  (pss_one (ps_if (pt_cmpR op_isnot_bl (pe_cal c_is_feasible (hr.mono (by omega)) (by rfl) (pa_cons (pv 0) (pa_cons (pv 1) (pa_cons (pe_cal c_l_picked (hr.mono (by omega)) (by rfl) (pa_cons (pv 2) (pa_cons (pv 7) pa_nil))) (pa_cons (pv 4) pa_nil))))) pe_bl (nomark _)) (pss_one (ps_ret pe_bl)) pss_nil))))
  (pss_cons (ps_for PassesOwn.never rfl (pi_seq (pv 6)) (pg_name (i := 7) sc_l_meets.nd rfl (Or.inr rfl)) (pss_cons (ps_setLc (i := 8) (own := [("_law_k", 9)]) rfl sc_l_meets.nd rfl rfl (sw_true rfl rfl rfl (by decide +kernel)) (pi_range1 (by rfl) B.range (pa_cons (pe_callB call_len_seq (by rfl) B.len (by decide +kernel) (pa_cons (pv 2) pa_nil)) pa_nil)) (blkOk_by (N := N_l_meets) (sc := defScope s_l_meets) (by decide +kernel)) (fun _ _ _ _ _ => (pg_name (i := 9) sc_l_meets.nd rfl (Or.inl rfl))) (fun _ _ _ _ _ => (pts_one (pt_cmpR (r := rIn K true) op_notIn_seq (pv 9) (pv 7) (by rfl)))) (fun _ _ _ _ _ => (pv 9)))
  (pss_cons (ps_if (pt_not (pt_val (pe_cal c_l_feasible (hr.mono (by omega)) (by rfl) (pa_cons (pv 0) (pa_cons (pv 1) (pa_cons (pe_cal c_l_picked (hr.mono (by omega)) (by rfl) (pa_cons (pv 2) (pa_cons (pv 8) pa_nil))) (pa_cons (pv 3) (pa_cons (pv 4) pa_nil)))))))) (pss_one (ps_ret pe_bl)) pss_nil)
  (pss_one (ps_if (pt_cmpR op_isnot_bl (pe_cal c_is_feasible (hr.mono (by omega)) (by rfl) (pa_cons (pv 0) (pa_cons (pv 1) (pa_cons (pe_cal c_l_picked (hr.mono (by omega)) (by rfl) (pa_cons (pv 2) (pa_cons (pv 8) pa_nil))) (pa_cons (pv 4) pa_nil))))) pe_bl (nomark _)) (pss_one (ps_ret pe_bl)) pss_nil)))))
  (pss_one (ps_ret pe_bl)))), ?_⟩
  have gk : ∀ {H' : Hp}, Kp (TL P1 P2) H H' → LGiven H' fa na da wa fm names D (lw fm) := fun k => g.ts k.ts k.fs fun _ _ e => k.old _ _ e (by intro ps z; cases z)
  have dokp : ∀ l : List Nat, l.length ≤ 8 → DsOk (pick D l) := fun l hl => .of (Nat.le_trans pick_le hl) (pick_ok dok)
  -- the first loop
  refine .inr ⟨_, rfl, ca, rfl, ⟨_, sqt hcx⟩, for_tup (xs := cx) (fun i σ H' => ∃ e7 e8 e9 : Option V, σ = [some (.ref fa), some (.ref na), some (.ref da), some (.ref wa), some (oI bud), some (.ref ca), some (.ref ra), e7, e8, e9] ∧ Kp (TL P1 P2) H H')
    ⟨none, none, none, rfl, .refl _ _⟩ (fun i σ H' _ h => by obtain ⟨_, _, _, _, k⟩ := h; exact sqt (k.ts _ _ hcx)) (fun i x σ H' hx h => ?_) (fun σ H' h => ?_)⟩
  · obtain ⟨e7, e8, e9, rfl, k⟩ := h
    obtain ⟨c, hc, a, rfl, ha⟩ := alc.getL hx
    obtain ⟨csub, cf⟩ := hcs c (List.mem_of_getElem? hc)
    have cl : c.length ≤ 8 := by have := csub.length_le; rw [List.length_range] at this; omega
    have g' := gk k
    refine ⟨_, rfl, _, rfl, _, rfl, _, rfl, da, a, D, c, rfl, g'.d, .inl (k.ts _ _ ha), fun k hk => sub_lt csub hk, by omega, fun p1 H1 k1 hp1 => ?_⟩
    have g1 := g'.ex k1
    refine ⟨_, rfl, _, rfl, fa, na, p1, wa, fm, names, pick D c, lw fm, bud, rfl, ⟨g1.g, hp1, dokp c cl, g1.wl, g1.tl⟩, fun H2 k2 => ⟨_, rfl, ite_f cf ?_⟩⟩
    have kp2 : Kp (TL P1 P2) H H2 := k.trans ((k1.trans k2).kp _)
    have g2 := gk kp2
    refine ⟨_, rfl, _, rfl, _, rfl, _, rfl, da, a, D, c, rfl, g2.d, .inl (kp2.ts _ _ ha), fun k hk => sub_lt csub hk, by omega, fun p3 H3 k3 hp3 => ?_⟩
    have kp3 : Kp (TL P1 P2) H H3 := kp2.trans (k3.kp _)
    refine ⟨_, rfl, fa, na, p3, fm, names, pick D c, bud, rfl, (gk kp3).g, hp3, dokp c cl, kp3.tab hT, fun H4 k4 => ⟨_, _, rfl, rfl, _, rfl, ite_f (by rw [cf]; rfl) ⟨_, _, _, rfl, kp3.trans k4⟩⟩⟩
  · obtain ⟨e7, e8, e9, rfl, k⟩ := h
    refine .inr ⟨_, rfl, ra, rfl, ⟨_, sqt (k.ts _ _ hrx)⟩, for_tup (xs := rx) (fun i σ H' => ∃ e7 e8 e9 : Option V, σ = [some (.ref fa), some (.ref na), some (.ref da), some (.ref wa), some (oI bud), some (.ref ca), some (.ref ra), e7, e8, e9] ∧ Kp (TL P1 P2) H H')
      ⟨_, _, _, rfl, k⟩ (fun i σ H' _ h => by obtain ⟨_, _, _, _, k⟩ := h; exact sqt (k.ts _ _ hrx)) (fun i x σ H' hx h => ?_) (fun σ H' h => ?_)⟩
    · obtain ⟨e7, e8, e9, rfl, k⟩ := h
      obtain ⟨c, hc, a, rfl, ha⟩ := alr.getL hx
      have cf := hrs c (List.mem_of_getElem? hc)
      have g' := gk k
      obtain ⟨ds, hds, ald⟩ := id g'.d
      have hdl : ds.length = D.length := ald.len
      have ha' := k.ts _ _ ha
      refine ⟨_, rfl, da, ds, rfl, .inr (sqt hds), _, rfl, by omega, by omega, fun D1 hD1 => ?_⟩
      have en : ((ds.length : Int)).toNat = D.length := by omega
      rw [en]
      refine lc_gR (prEx H') (R := fun _ y (m : Nat) => y = nI m) (fun _ _ _ _ _ z => z) (n := D.length) (φ := fun k => if c.contains k then none else some k) (small1000 (by omega)) hD1 (fun i H1 hi k1 N no yes => ?_) (fun H1 acc k1 ha1 al1 => ?_)
      · refine ⟨rfl, _, rfl, _, rfl, a, _, rfl, .inr (sqt (k1.old _ _ ha')), rfl, flat_ints c, _, rfl, ?_⟩
        cases e : c.contains i with
        | true =>
          refine ite_f ?_ (no _ (.refl _) (if_pos e))
          show (!inV (nI i) (c.map nI)) = false
          rw [(in_int i c).mpr (by simpa using e)]; rfl
        | false =>
          refine ite_t ?_ ⟨_, rfl, yes _ _ _ (.refl _) (if_neg (by rw [e]; decide)) rfl⟩
          show (!inV (nI i) (c.map nI)) = true
          have e2 : inV (nI i) (c.map nI) = false := Bool.eq_false_iff.mpr fun z => by
            have := (in_int i c).mp z
            simp [this] at e
          rw [e2]; rfl
      · obtain rfl := l_ints al1
        rw [filter_fm] at ha1
        have ho : H1 D1 = some (.lst ((outside c D.length).map nI)) := ha1
        have ol : (outside c D.length).length ≤ 8 := by have := (outside_sub c D.length).length_le; rw [List.length_range] at this; omega
        have olt : ∀ k ∈ outside c D.length, k < D.length := fun k hk => (mem_outside.mp hk).1
        have g1 := g'.ex k1
        refine ⟨_, rfl, _, rfl, _, rfl, _, rfl, da, D1, D, _, rfl, g1.d, .inr ho, olt, by omega, fun p1 H2 k2 hp1 => ?_⟩
        have g2 := g1.ex k2
        refine ⟨_, rfl, _, rfl, fa, na, p1, wa, fm, names, pick D (outside c D.length), lw fm, bud, rfl, ⟨g2.g, hp1, dokp _ ol, g2.wl, g2.tl⟩, fun H3 k3 => ⟨_, rfl, ite_f (by show (!fe fm names bud (pick D (outside c D.length))) = false; rw [cf]; rfl) ?_⟩⟩
        have kp3 : Kp (TL P1 P2) H H3 := k.trans (((k1.trans k2).trans k3).kp _)
        have g3 := gk kp3
        refine ⟨_, rfl, _, rfl, _, rfl, _, rfl, da, D1, D, _, rfl, g3.d, .inr ((k2.trans k3).old _ _ ho), olt, by omega, fun p4 H4 k4 hp4 => ?_⟩
        have kp4 : Kp (TL P1 P2) H H4 := kp3.trans (k4.kp _)
        exact ⟨_, rfl, fa, na, p4, fm, names, pick D (outside c D.length), bud, rfl, (gk kp4).g, hp4, dokp _ ol, kp4.tab hT, fun H5 k5 => ⟨_, _, rfl, rfl, _, rfl, ite_f (by rw [cf]; rfl) ⟨_, _, _, rfl, kp4.trans k5⟩⟩⟩
    · obtain ⟨e7, e8, e9, rfl, k⟩ := h
      exact q H' k
end
end K81
/-! ## WR -/
namespace K81
open PySem PySem.Spec PyProof.Rows L2

abbrev s_l_tape : Stmt := topS 24
abbrev N_l_tape : List Str := ["_law_script", "_law_total", "_law_cell"]
theorem sc_l_tape : FnScope N_l_tape ["_law_script"] (defScope s_l_tape) := ⟨rfl, rfl, rfl, by decide +kernel, rfl, by decide +kernel, by decide +kernel⟩
-- slots: _law_script:0 _law_total:1 _law_cell:2   calls: 
abbrev s_l_draw : Stmt := topS 25
abbrev N_l_draw : List Str := ["_law_tape_here", "_law_menu", "_law_place", "_law_number"]
theorem sc_l_draw : FnScope N_l_draw ["_law_tape_here", "_law_menu"] (defScope s_l_draw) := ⟨rfl, rfl, rfl, by decide +kernel, rfl, by decide +kernel, by decide +kernel⟩
-- slots: _law_tape_here:0 _law_menu:1 _law_place:2 _law_number:3   calls: 
theorem sql_ex {K : PySem.W.Frag} {H H' : Hp} {a : Addr} {xs : List V} (k : Ex H H') (h : SqL K H a xs) : SqL K H' a xs := by
  rcases h with (h | ⟨o, h⟩) | h
  · exact .inl (.inl (k.old _ _ h))
  · exact .inl (.inr ⟨o, k.old _ _ h⟩)
  · exact .inr h
theorem q_ixLi {K : PySem.W.Frag} {H : Hp} {a : Addr} {xs : List V} {i : Int} {v : V} {Q : VK} (h : H a = some (.lst xs)) (h0 : 0 ≤ i) (e : xs[i.toNat]? = some v) (q : Q v H) : rIx K (.ref a) (.int i) H Q := by
  have : i = ((i.toNat : Nat) : Int) := by omega
  rw [this]; exact q_ixL h e q
theorem fmod_rng {i m : Int} (h : 0 < m) : 0 ≤ i.fmod m ∧ i.fmod m < m := ⟨Int.fmod_nonneg_of_pos i h, Int.fmod_lt_of_pos i h⟩
section
variable {P : Program} {w : World} {K : PySem.W.Frag} {mg : Str → Option Value} {base : Heap} {f : Addr} {fd : FuncData}
def spTape (K : PySem.W.Frag) : Sp := fun vs H Q _ => ∃ (a : Addr) (ns : List Int), vs = [.ref a] ∧ SqL K H a (ns.map V.int) ∧ ns.length ≤ 63 ∧ ∀ t sc H', Ex H H' → TapeOk H' t sc → H t = none → Q (.ref t) H'
theorem ok_tape (F : Fun K "_law_tape" "_law_tape" s_l_tape f fd) (B : Blt mg) : FnOk P w K mg base CX0 1 f fd ["_law_script"] (spTape K) := by
  refine F.ok sc_l_tape (fun vs H Q E h => ?_) (fun cdv A outer s H vs Q E hr h => ?_)
  · obtain ⟨a, ns, rfl, _⟩ := h
    rfl
  obtain ⟨a, ns, rfl, ha, hn, q⟩ := h
  refine ⟨_, (pss_cons (ps_set (i := 1) sc_l_tape.nd rfl (Or.inl rfl) pe_int)
  (pss_cons (ps_for PassesOwn.never rfl (pi_seq (pv 0)) (pg_name (i := 2) sc_l_tape.nd rfl (Or.inl rfl)) (pss_one (ps_set (i := 1) sc_l_tape.nd rfl (Or.inl rfl) (pe_op op_modN (pe_callTy call_int1 (by rfl) B.int (by decide +kernel) (pa_cons (pe_op op_add (pe_op op_mul (pv 1) pe_int) (pe_callB call_abs (by rfl) B.abs (by decide +kernel) (pa_cons (pe_callTy call_int1 (by rfl) B.int (by decide +kernel) (pa_cons (pv 2) pa_nil)) pa_nil))) pa_nil)) pe_int))))
  (pss_one (ps_ret (pe_lst (pa_cons (pe_callTy call_list_of (by rfl) B.list (by decide +kernel) (pa_cons (pv 0) pa_nil)) (pa_cons pe_int (pa_cons pe_int (pa_cons (pv 1) pa_nil))))))))), ?_⟩
  refine .inl ⟨_, rfl, a, rfl, ⟨_, ha⟩, for_list (xs := ns.map V.int) (fun i σ H' => H' = H ∧ ∃ (tt : Int) (e : Option V), σ = [some (.ref a), some (.int tt), e] ∧ 0 ≤ tt ∧ tt < 2147483647)
    ⟨rfl, 7, none, rfl, by omega, by omega⟩ (fun i σ H' _ h => by rw [h.1]; exact ha) (fun i x σ H' hx h => ?_) (fun σ H' h => ?_)⟩
  · obtain ⟨rfl, tt, e, rfl, t0, t1⟩ := h
    rw [List.getElem?_map] at hx
    obtain ⟨c, hc, rfl⟩ := Option.map_eq_some_iff.mp hx
    refine ⟨_, rfl, _, _, rfl, rfl, .inl ⟨by omega, by omega⟩, ?_⟩
    refine ⟨_, rfl, .inl ⟨_, rfl, _, rfl, _, _, rfl, rfl, .inl ⟨_, rfl, _, _, rfl, rfl, (by show (2147483647 : Int) ≠ 0; decide), ?_⟩⟩⟩
    have := @fmod_rng (tt * 31 + (if c < 0 then -c else c)) 2147483647 (by decide)
    exact ⟨rfl, _, _, rfl, this.1, this.2⟩
  · obtain ⟨rfl, tt, e, rfl, t0, t1⟩ := h
    refine ⟨_, rfl, a, _, rfl, .inl ha, fun sc hsc => ⟨_, rfl, (by show 4 ≤ sizeLine; decide), fun t ht => ?_⟩⟩
    have k1 : Ex H' (upd H' sc (.lst (ns.map V.int))) := .new hsc _
    refine q t sc _ (k1.nw ht _) ⟨ns, 0, 0, tt, upd_same, (Ex.new ht _).old _ _ upd_same, (ne_of_none upd_same ht), by decide, by decide, t0, t1⟩ (k1.fr ht)
def spDraw : Sp := fun vs H Q _ => ∃ (t sc : Addr) (m : Nat), vs = [.ref t, nI m] ∧ TapeOk H t sc ∧ m < 1073741824 ∧ ∀ (n : Nat) H', TR t sc H H' → TapeOk H' t sc → n < max m 1 → Q (nI n) H'
theorem ok_draw (F : Fun K "_law_draw" "_law_draw" s_l_draw f fd) (B : Blt mg) : FnOk P w K mg base CX0 1 f fd ["_law_tape_here", "_law_menu"] spDraw := by
  refine F.ok sc_l_draw (fun vs H Q E h => ?_) (fun cdv A outer s H vs Q E hr h => ?_)
  · obtain ⟨t, sc, m, rfl, _⟩ := h
    rfl
  obtain ⟨t, sc, m, rfl, hT, hm, q⟩ := h
  refine ⟨_, (pss_cons (ps_if (pt_cmpR op_eq (pe_ix ix_seq (pv 0) pe_int (fun _ _ => rfl)) pe_int (nomark _)) (pss_cons (ps_set (i := 2) sc_l_draw.nd rfl (Or.inl rfl) (pe_ix ix_seq (pv 0) pe_int (fun _ _ => rfl)))
  (pss_cons (ps_set (i := 3) sc_l_draw.nd rfl (Or.inl rfl) pe_int)
  (pss_cons (ps_if (pt_cmpR op_lt (pv 2) (pe_callB call_len_seq (by rfl) B.len (by decide +kernel) (pa_cons (pe_ix ix_seq (pv 0) pe_int (fun _ _ => rfl)) pa_nil)) (nomark _)) (pss_one (ps_set (i := 3) sc_l_draw.nd rfl (Or.inl rfl) (pe_callB call_abs (by rfl) B.abs (by decide +kernel) (pa_cons (pe_callTy call_int1 (by rfl) B.int (by decide +kernel) (pa_cons (pe_ix ix_seq (pe_ix ix_seq (pv 0) pe_int (fun _ _ => rfl)) (pv 2) (fun _ _ => rfl)) pa_nil)) pa_nil)))) (pss_cons (ps_asg (pe_op op_modN (pe_callTy call_int1 (by rfl) B.int (by decide +kernel) (pa_cons (pe_op op_add (pe_op op_add (pe_op op_mul (pe_ix ix_seq (pv 0) pe_int (fun _ _ => rfl)) pe_int) (pv 2)) pe_int) pa_nil)) pe_int) (pg_sub (pv 0) pe_int set_list))
  (pss_one (ps_set (i := 3) sc_l_draw.nd rfl (Or.inl rfl) (pe_ix ix_seq (pv 0) pe_int (fun _ _ => rfl))))))
  (pss_cons (ps_asg (pe_op op_add (pv 2) pe_int) (pg_sub (pv 0) pe_int set_list))
  (pss_cons (ps_if (pt_cmpR op_lt (pv 3) (pe_op op_pow pe_int pe_int) (nomark _)) (pss_cons (ps_set (i := 3) sc_l_draw.nd rfl (Or.inl rfl) (pe_op op_modN (pe_callTy call_int1 (by rfl) B.int (by decide +kernel) (pa_cons (pe_op op_add (pe_op op_add (pe_op op_mul (pv 3) pe_int) (pe_op op_mul (pv 2) pe_int)) pe_int) pa_nil)) pe_int))
  (pss_cons (ps_set (i := 3) sc_l_draw.nd rfl (Or.inl rfl) (pe_op op_modN (pe_callTy call_int1 (by rfl) B.int (by decide +kernel) (pa_cons (pe_op op_mul (pv 3) pe_int) pa_nil)) pe_int))
  (pss_one (ps_ret (pe_op op_modN (pe_callTy call_int1 (by rfl) B.int (by decide +kernel) (pa_cons (pv 3) pa_nil)) (pe_callB (call_max2 rfl) (by rfl) B.max (by decide +kernel) (pa_cons (pv 1) (pa_cons pe_int pa_nil)))))))) pss_nil)
  (pss_one (ps_asg (pv 3) (pg_sub (pv 0) pe_int set_list)))))))) pss_nil)
  (pss_cons (ps_set (i := 3) sc_l_draw.nd rfl (Or.inl rfl) (pe_ix ix_seq (pv 0) pe_int (fun _ _ => rfl)))
  (pss_cons (ps_asg (pe_op op_fdivN (pv 3) (pe_callB (call_max2 rfl) (by rfl) B.max (by decide +kernel) (pa_cons (pv 1) (pa_cons pe_int pa_nil)))) (pg_sub (pv 0) pe_int set_list))
  (pss_one (ps_ret (pe_op op_modN (pe_callTy call_int1 (by rfl) B.int (by decide +kernel) (pa_cons (pv 3) pa_nil)) (pe_callB (call_max2 rfl) (by rfl) B.max (by decide +kernel) (pa_cons (pv 1) (pa_cons pe_int pa_nil))))))))), ?_⟩
  obtain ⟨ns, pl, rs, st, ht, hsc, hne, p0, r0, s0, s1⟩ := id hT
  -- what is given back at the end
  have mx : (if (1 : Int) > (m : Int) then (1 : Int) else (m : Int)) = ((max m 1 : Nat) : Int) := by
    by_cases e : m = 0
    · subst e; decide
    · rw [if_neg (by omega)]; omega
  have mx2 : (if (2 : Int) > (m : Int) then (2 : Int) else (m : Int)) = ((max m 2 : Nat) : Int) := by
    by_cases e : m < 2
    · rw [if_pos (by omega)]; omega
    · rw [if_neg (by omega)]; omega
  have last : ∀ (H' : Hp) (x : Int), TR t sc H H' → TapeOk H' t sc → Q (.int (x.fmod ((max m 1 : Nat) : Int))) H' := fun H' x k h => by
    have := @fmod_rng x ((max m 1 : Nat) : Int) (by omega)
    have e : x.fmod ((max m 1 : Nat) : Int) = (((x.fmod ((max m 1 : Nat) : Int)).toNat : Nat) : Int) := by omega
    rw [e]
    exact q _ H' k h (by omega)
  have tr : ∀ (H' : Hp) (pl rs st : Int), TR t sc H H' → 0 ≤ pl → 0 ≤ rs → 0 ≤ st → st < 2147483647 → H' sc = some (.lst (ns.map V.int)) → TR t sc H (upd H' t (.lst [.ref sc, .int pl, .int rs, .int st])) ∧ TapeOk (upd H' t (.lst [.ref sc, .int pl, .int rs, .int st])) t sc := fun H' pl rs st k a b c d hs => by
    have : TapeOk (upd H' t (.lst [.ref sc, .int pl, .int rs, .int st])) t sc := ⟨ns, pl, rs, st, upd_same, by rw [upd_ne hne]; exact hs, hne, a, b, c, d⟩
    exact ⟨⟨k.e.put _, fun _ => this⟩, this⟩
  let imod : R2 := rI (fun x j => j ≠ 0) fun i j => V.int (i.fmod j)
  let rint : List V → Hp → VK → Prop := fun xs H Q => (∃ i, xs = [V.int i] ∧ Q (V.int i) H) ∨ ∃ k, xs = [V.bl k] ∧ Q (V.int (if k = true then 1 else 0)) H
  let rmax : List V → Hp → VK → Prop := fun xs H Q => ∃ i j, xs = [V.int i, V.int j] ∧ Q (V.int (if j > i then j else i)) H
  let D0 : Ends := { nx := fun _ H' => Q V.non H', rt := Q }
  -- the end: what is left of the cell is told
  have tail3 : ∀ (H' : Hp) (pl rs st : Int) (e2 e3 : Option V), TR t sc H H' → H' t = some (.lst [.ref sc, .int pl, .int rs, .int st]) → H' sc = some (.lst (ns.map V.int)) → 0 ≤ pl → 0 ≤ rs → 0 ≤ st → st < 2147483647 →
      tSeq (tAsg (tOp (rIx K) (tVar 0) (tC (V.int 2))) (gName 3)) (tSeq (tAsg (tOp (rI CDivN fun i j => V.int (i.fdiv j)) (tVar 3) (tCB rmax (tCons (tVar 1) (tCons (tC (V.int 2)) tNil)))) (gSub (tVar 0) (tC (V.int 2)) rSetL))
        (tRet (tOp imod (tCB rint (tCons (tVar 3) tNil)) (tCB rmax (tCons (tVar 1) (tCons (tC (V.int 1)) tNil)))))) D0 [some (.ref t), some (nI m), e2, e3] H' := fun H' pl rs st e2 e3 k ht hsc a b c d => by
    refine ⟨_, rfl, q_ixL (i := 2) ht rfl ?_⟩
    refine ⟨_, rfl, _, rfl, _, _, rfl, ?_⟩
    show rI CDivN (fun i j => V.int (i.fdiv j)) (.int rs) (.int (if (2 : Int) > (m : Int) then 2 else m)) H' _
    rw [mx2]
    refine ⟨_, _, rfl, rfl, ⟨by omega, by omega⟩, ?_⟩
    obtain ⟨t1, t2⟩ := tr H' pl (rs.fdiv ((max m 2 : Nat) : Int)) st k a (Int.fdiv_nonneg b (by omega)) c d hsc
    refine ⟨_, rfl, q_setL (i := 2) ht (by show 2 < 4; decide) ⟨_, rfl, .inl ⟨_, rfl, _, rfl, _, _, rfl, ?_⟩⟩⟩
    show imod (.int rs) (.int (if (1 : Int) > (m : Int) then 1 else m)) _ _
    rw [mx]
    exact ⟨_, _, rfl, rfl, by omega, last _ _ t1 t2⟩
  refine ⟨_, rfl, q_ixL (i := 2) ht rfl ⟨rfl, _, rfl, ?_⟩⟩
  by_cases hrs : rs = 0
  case neg => exact ite_f (decide_eq_false fun z => hrs (V.int.inj z)) (tail3 H pl rs st none none (.refl _ _ _) ht hsc p0 r0 s0 s1)
  subst hrs
  refine ite_t (decide_eq_true rfl) ?_
  -- from the cell's number on
  have tail2 : ∀ (H' : Hp) (x st : Int), TR t sc H H' → H' t = some (.lst [.ref sc, .int pl, .int 0, .int st]) → H' sc = some (.lst (ns.map V.int)) → 0 ≤ st → st < 2147483647 → 0 ≤ x → ∀ D : Ends, D.rt = Q → (∀ (H' : Hp) (pl rs st : Int) (e2 e3 : Option V), TR t sc H H' → H' t = some (.lst [.ref sc, .int pl, .int rs, .int st]) → H' sc = some (.lst (ns.map V.int)) → 0 ≤ pl → 0 ≤ rs → 0 ≤ st → st < 2147483647 → D.nx [some (.ref t), some (nI m), e2, e3] H') →
      tSeq (tAsg (tOp (rI0 fun i j => V.int (i + j)) (tVar 2) (tC (V.int 1))) (gSub (tVar 0) (tC (V.int 1)) rSetL))
        (tSeq (tIfS (tTest (tOp (rI0 fun i j => V.bl (decide (i < j))) (tVar 3) (tOp (rI CPow fun i j => V.int (i ^ j.toNat)) (tC (V.int 10)) (tC (V.int 18)))))
          (tSeq (tAsg (tOp imod (tCB rint (tCons (tOp (rI0 fun i j => V.int (i + j)) (tOp (rI0 fun i j => V.int (i + j)) (tOp (rI CMul fun i j => V.int (i * j)) (tVar 3) (tC (V.int 48271))) (tOp (rI CMul fun i j => V.int (i * j)) (tVar 2) (tC (V.int 69621)))) (tC (V.int 5))) tNil)) (tC (V.int 2147483647))) (gName 3))
            (tSeq (tAsg (tOp imod (tCB rint (tCons (tOp (rI CMul fun i j => V.int (i * j)) (tVar 3) (tC (V.int 69621))) tNil)) (tC (V.int 2147483629))) (gName 3))
              (tRet (tOp imod (tCB rint (tCons (tVar 3) tNil)) (tCB rmax (tCons (tVar 1) (tCons (tC (V.int 1)) tNil))))))) tNext)
          (tAsg (tVar 3) (gSub (tVar 0) (tC (V.int 2)) rSetL))) D [some (.ref t), some (nI m), some (.int pl), some (.int x)] H' := fun H' x st k ht hsc a b c D hrt hnx => by
    obtain ⟨t1, t2⟩ := tr H' (pl + 1) 0 st k (by omega) (by omega) a b hsc
    refine ⟨_, rfl, _, _, rfl, rfl, _, rfl, q_setL (i := 1) ht (by show 1 < 4; decide) ?_⟩
    show tSeq _ _ D _ (upd H' t (.lst [.ref sc, .int (pl + 1), .int 0, .int st]))
    have ht1 : upd H' t (.lst [.ref sc, .int (pl + 1), .int 0, .int st]) t = some (.lst [.ref sc, .int (pl + 1), .int 0, .int st]) := upd_same
    have hsc1 : upd H' t (.lst [.ref sc, .int (pl + 1), .int 0, .int st]) sc = some (.lst (ns.map V.int)) := by rw [upd_ne hne]; exact hsc
    generalize upd H' t (.lst [.ref sc, .int (pl + 1), .int 0, .int st]) = H1 at t1 t2 ht1 hsc1 ⊢
    refine ⟨_, rfl, _, _, rfl, rfl, ⟨by omega, by omega, by decide⟩, _, _, rfl, rfl, _, rfl, ?_⟩
    by_cases lt : x < 10 ^ (18 : Int).toNat
    · refine ite_t (decide_eq_true lt) ?_
      refine ⟨_, rfl, _, _, rfl, rfl, .inr ⟨by omega, by omega⟩, _, rfl, _, _, rfl, rfl, .inr ⟨by omega, by omega⟩, _, _, rfl, rfl, _, _, rfl, rfl, .inl ⟨_, rfl, _, _, rfl, rfl, (by show (2147483647 : Int) ≠ 0; decide), ?_⟩⟩
      refine ⟨_, rfl, _, _, rfl, rfl, .inr ⟨by omega, by omega⟩, .inl ⟨_, rfl, _, _, rfl, rfl, (by show (2147483629 : Int) ≠ 0; decide), ?_⟩⟩
      refine ⟨_, rfl, .inl ⟨_, rfl, _, rfl, _, _, rfl, ?_⟩⟩
      show imod (.int _) (.int (if (1 : Int) > (m : Int) then 1 else m)) _ _
      rw [mx]
      refine ⟨_, _, rfl, rfl, by omega, ?_⟩
      rw [hrt]
      exact last _ _ t1 t2
    · refine ite_f (decide_eq_false lt) ?_
      have hx0 : 0 ≤ x := c
      obtain ⟨t3, t4⟩ := tr H1 (pl + 1) x st t1 (by omega) hx0 a b hsc1
      refine ⟨_, rfl, _, rfl, q_setL (i := 2) ht1 (by show 2 < 4; decide) ?_⟩
      exact hnx (upd H1 t (.lst [.ref sc, .int (pl + 1), .int x, .int st])) (pl + 1) x st _ _ t3 upd_same (by rw [upd_ne hne]; exact hsc1) (by omega) hx0 a b
  refine ⟨_, rfl, q_ixL (i := 1) ht rfl ?_⟩
  refine ⟨_, rfl, _, rfl, q_ixL (i := 0) ht rfl ⟨sc, _, rfl, .inl (sql hsc), _, _, rfl, rfl, _, rfl, ?_⟩⟩
  by_cases lt : pl < ((ns.map V.int).length : Int)
  · refine ite_t (decide_eq_true lt) ?_
    have hpl : pl.toNat < ns.length := by rw [List.length_map] at lt; omega
    have hix : (ns.map V.int)[pl.toNat]? = some (.int ns[pl.toNat]) := by rw [List.getElem?_map, List.getElem?_eq_getElem hpl]; rfl
    refine ⟨_, rfl, q_ixL (i := 0) ht rfl ⟨_, rfl, q_ixLi hsc p0 hix (.inl ⟨_, rfl, _, rfl, ?_⟩)⟩⟩
    exact tail2 H _ st (.refl _ _ _) ht hsc s0 s1 (by split <;> omega) _ rfl tail3
  · refine ite_f (decide_eq_false lt) ?_
    refine ⟨_, rfl, q_ixL (i := 3) ht rfl ⟨_, _, rfl, rfl, .inr ⟨by omega, by omega⟩, _, rfl, _, _, rfl, rfl, _, _, rfl, rfl, .inl ⟨_, rfl, _, _, rfl, rfl, (by show (2147483647 : Int) ≠ 0; decide), ?_⟩⟩⟩
    have rng := @fmod_rng (st * 48271 + pl + 1) 2147483647 (by decide)
    obtain ⟨t1, t2⟩ := tr H pl 0 ((st * 48271 + pl + 1).fmod 2147483647) (.refl _ _ _) p0 (by omega) rng.1 rng.2 hsc
    refine ⟨_, rfl, q_setL (i := 3) ht (by show 3 < 4; decide) ?_⟩
    exact ⟨_, rfl, q_ixL (i := 3) upd_same rfl (tail2 (upd H t (.lst [.ref sc, .int pl, .int 0, .int ((st * 48271 + pl + 1).fmod 2147483647)])) _ _ t1 upd_same (by rw [upd_ne hne]; exact hsc) rng.1 rng.2 rng.1 _ rfl tail3)⟩
end
end K81
/-! ## WS -/
namespace K81
open PySem PySem.Spec PyProof.Rows L2

def VOk (cnt : Nat) (v : Vr) : Prop := v.plug < cnt ∧ (∀ s ∈ v.slots, s < cnt) ∧ v.slots.length ≤ 3
abbrev s_l_price : Stmt := topS 26
abbrev N_l_price : List Str := ["_law_tape_here", "_law_mode", "_law_low", "_law_price_here"]
theorem sc_l_price : FnScope N_l_price ["_law_tape_here", "_law_mode", "_law_low"] (defScope s_l_price) := ⟨rfl, rfl, rfl, by decide +kernel, rfl, by decide +kernel, by decide +kernel⟩
-- slots: _law_tape_here:0 _law_mode:1 _law_low:2 _law_price_here:3   calls: _law_draw
abbrev s_l_family : Stmt := topS 27
abbrev N_l_family : List Str := ["_law_tape_here", "_law_states", "_law_variants", "_law_low", "_law_count", "_law_shape", "_law_mode", "_law_rows", "_law_k", "_law_plug", "_law_slots", "_law_j", "_law_goal", "_law_row", "_law_state", "_law_roots"]
theorem sc_l_family : FnScope N_l_family ["_law_tape_here", "_law_states", "_law_variants", "_law_low"] (defScope s_l_family) := ⟨rfl, rfl, rfl, by decide +kernel, rfl, by decide +kernel, by decide +kernel⟩
-- slots: _law_tape_here:0 _law_states:1 _law_variants:2 _law_low:3 _law_count:4 _law_shape:5 _law_mode:6 _law_rows:7 _law_k:8 _law_plug:9 _law_slots:10 _law_j:11 _law_goal:12 _law_row:13 _law_state:14 _law_roots:15   cells: _law_tape_here   calls: _law_draw _law_price
section
variable {P : Program} {w : World} {K : PySem.W.Frag} {mg : Str → Option Value} {base : Heap} {f : Addr} {fd : FuncData}
def spPrice : Sp := fun vs H Q _ => ∃ (t sc : Addr) (m : Nat), vs = [.ref t, nI m, .int 0] ∧ TapeOk H t sc ∧ m < 4 ∧ ∀ (o : Option Nat) H', TR t sc H H' → TapeOk H' t sc → Q (oI o) H'
theorem ok_price (F : Fun K "_law_price" "_law_price" s_l_price f fd) (c_l_draw : Cal P w K mg base 1 "_law_draw" ["_law_tape_here", "_law_menu"] spDraw) : FnOk P w K mg base CX0 2 f fd ["_law_tape_here", "_law_mode", "_law_low"] spPrice := by
  refine F.ok sc_l_price (fun vs H Q E h => ?_) (fun cdv A outer s H vs Q E hr h => ?_)
  · obtain ⟨t, sc, m, rfl, _⟩ := h
    rfl
  obtain ⟨t, sc, m, rfl, hT, hm, q⟩ := h
  refine ⟨_, (pss_cons (ps_if (pt_cmpR op_eq (pe_cal c_l_draw (hr.mono (by omega)) (by rfl) (pa_cons (pv 0) (pa_cons pe_int pa_nil))) pe_int (nomark _)) (pss_one (ps_ret pe_non)) pss_nil)
  (pss_cons (ps_set (i := 3) sc_l_price.nd rfl (Or.inl rfl) (pe_cal c_l_draw (hr.mono (by omega)) (by rfl) (pa_cons (pv 0) (pa_cons (pe_ix ix_seq (pe_lst (pa_cons pe_int (pa_cons pe_int (pa_cons pe_int (pa_cons (pe_op op_add (pe_op op_pow pe_int pe_int) pe_int) pa_nil))))) (pv 1) (fun _ _ => rfl)) pa_nil))))
  (pss_cons (ps_if (PW.pt (pw_and (pt_cmpR op_eq (pv 2) pe_int (nomark _)) (pw_and1 (pt_cmpR op_eq (pe_cal c_l_draw (hr.mono (by omega)) (by rfl) (pa_cons (pv 0) (pa_cons pe_int pa_nil))) pe_int (nomark _))))) (pss_one (ps_set (i := 3) sc_l_price.nd rfl (Or.inl rfl) (pe_un un_neg (pv 3)))) pss_nil)
  (pss_one (ps_ret (pv 3)))))), ?_⟩
  refine ⟨_, rfl, t, sc, 8, rfl, hT, by omega, fun n1 H1 k1 hT1 hn1 => ⟨rfl, _, rfl, ?_⟩⟩
  by_cases z : n1 = 0
  · subst z; exact ite_t (decide_eq_true rfl) (q none H1 k1 hT1)
  refine ite_f (decide_eq_false fun e => z (by have := V.int.inj e; omega)) ?_
  have fin : ∀ (n : Nat) (H2 : Hp) (b : Nat), TR t sc H1 H2 → TapeOk H2 t sc → tSeq (tIfS (tAnd (tTest (tOp rEq (tVar 2) (tC (V.int 1)))) (tTest (tOp rEq (tCall spDraw [] E0 (tCons (tVar 0) (tCons (tC (V.int 3)) tNil))) (tC (V.int 0))))) (tAsg (tUn (rU fun i => V.int (-i)) (tVar 3)) (gName 3)) tNext) (tRet (tVar 3)) { nx := fun _ H' => Q V.non H', rt := Q } [some (.ref t), some (nI m), some (.int 0), some (nI n)] H2 := fun n H2 b k2 hT2 =>
    ⟨_, rfl, rfl, _, rfl, ite_f (decide_eq_false (by intro z; cases z)) (ite_ff ⟨_, rfl, q (some n) H2 (k1.trans k2) hT2⟩)⟩
  refine ⟨_, rfl, _, _, rfl, rfl, ⟨by omega, by omega, by decide⟩, _, _, rfl, rfl, (by show 4 ≤ sizeLine; decide), fun l hl => ?_⟩
  have hk : ∃ k : Nat, ([V.int 1, V.int 2, V.int 10, V.int (10 ^ (9 : Int).toNat + 1)] : List V)[m]? = some (nI k) ∧ k < 1073741824 := by
    match m, hm with
    | 0, _ => exact ⟨1, rfl, by omega⟩
    | 1, _ => exact ⟨2, rfl, by omega⟩
    | 2, _ => exact ⟨10, rfl, by omega⟩
    | 3, _ => exact ⟨1000000001, rfl, by omega⟩
  obtain ⟨k, hk1, hk2⟩ := hk
  have kx : Ex H1 (upd H1 l (.lst [V.int 1, V.int 2, V.int 10, V.int (10 ^ (9 : Int).toNat + 1)])) := .new hl _
  exact ⟨_, rfl, q_ixL upd_same hk1 ⟨t, sc, k, rfl, hT1.ext kx.old, hk2, fun n H2 k2 hT2 hn => fin n H2 0 ((kx.tr t sc).trans k2) hT2⟩⟩
def spFam : Sp := fun vs H Q _ => ∃ (t sc : Addr), vs = [.ref t, .int 4, .int 7, .int 0] ∧ TapeOk H t sc ∧ ∀ fa fm H', TR t sc H H' → TapeOk H' t sc → FamAt H' fa fm → fm.Wf → Q (.ref fa) H'
theorem ok_family (F : Fun K "_law_family" "_law_family" s_l_family f fd) (B : Blt mg) (c_l_draw : Cal P w K mg base 1 "_law_draw" ["_law_tape_here", "_law_menu"] spDraw) (c_l_price : Cal P w K mg base 2 "_law_price" ["_law_tape_here", "_law_mode", "_law_low"] spPrice) :
    FnOk P w K mg base CX0 3 f fd ["_law_tape_here", "_law_states", "_law_variants", "_law_low"] spFam := by
  refine F.ok sc_l_family (fun vs H Q E h => ?_) (fun cdv A outer s H vs Q E hr h => ?_)
  · obtain ⟨t, sc, rfl, _⟩ := h
    rfl
  obtain ⟨t, sc, rfl, hT, q⟩ := h
  refine ⟨_, (pss_cons (ps_set (i := 4) sc_l_family.nd rfl (Or.inl rfl) (pe_op op_add pe_int (pe_cal c_l_draw (hr.mono (by omega)) (by rfl) (pa_cons (pv 0) (pa_cons (pv 1) pa_nil)))))
  (pss_cons (ps_set (i := 5) sc_l_family.nd rfl (Or.inl rfl) (pe_cal c_l_draw (hr.mono (by omega)) (by rfl) (pa_cons (pv 0) (pa_cons pe_int pa_nil))))
  (pss_cons (ps_set (i := 6) sc_l_family.nd rfl (Or.inl rfl) (pe_cal c_l_draw (hr.mono (by omega)) (by rfl) (pa_cons (pv 0) (pa_cons pe_int pa_nil))))
  (pss_cons (ps_set (i := 7) sc_l_family.nd rfl (Or.inl rfl) (pe_lst pa_nil))
  (pss_cons (ps_for PassesOwn.never rfl (pi_range1 (by rfl) B.range (pa_cons (pe_cal c_l_draw (hr.mono (by omega)) (by rfl) (pa_cons (pv 0) (pa_cons (pe_op op_add (pv 2) pe_int) pa_nil))) pa_nil)) (pg_name (i := 8) sc_l_family.nd rfl (Or.inl rfl)) (pss_cons (ps_set (i := 9) sc_l_family.nd rfl (Or.inl rfl) (pe_cal c_l_draw (hr.mono (by omega)) (by rfl) (pa_cons (pv 0) (pa_cons (pv 4) pa_nil))))
  (pss_cons (ps_set (i := 10) sc_l_family.nd rfl (Or.inl rfl) (pe_lst pa_nil))
  (pss_cons (ps_for PassesOwn.never rfl (pi_range1 (by rfl) B.range (pa_cons (pe_ix ix_seq (pe_lst (pa_cons pe_int (pa_cons pe_int (pa_cons pe_int (pa_cons pe_int (pa_cons pe_int (pa_cons pe_int pa_nil))))))) (pe_cal c_l_draw (hr.mono (by omega)) (by rfl) (pa_cons (pv 0) (pa_cons pe_int pa_nil))) (fun _ _ => rfl)) pa_nil)) (pg_name (i := 11) sc_l_family.nd rfl (Or.inl rfl)) (pss_cons (ps_set (i := 12) sc_l_family.nd rfl (Or.inl rfl) (pe_cal c_l_draw (hr.mono (by omega)) (by rfl) (pa_cons (pv 0) (pa_cons (pv 4) pa_nil))))
  (pss_cons (ps_if (pt_cmpR op_eq (pv 5) pe_int (nomark _)) (pss_one (ps_set (i := 12) sc_l_family.nd rfl (Or.inl rfl) (pe_op op_add (pe_op op_add (pv 9) pe_int) (pv 12)))) pss_nil)
  (pss_cons (ps_if (pt_cmpR op_eq (pv 5) pe_int (nomark _)) (pss_one (ps_set (i := 12) sc_l_family.nd rfl (Or.inl rfl) (pe_op op_sub (pe_op op_sub (pv 9) pe_int) (pv 12)))) pss_nil)
  (pss_one (ps_if (PW.pt (pw_and (pt_cmpR op_le pe_int (pv 12) (nomark _)) (pw_and1 (pt_cmpR op_lt (pv 12) (pv 4) (nomark _))))) (pss_one (ps_expr (pe_bm PySem.F.plainAttrs_list PySem.F.slot_list_append PySem.F.type_list_append mt_append (pv 10) (pa_cons (pv 12) pa_nil)))) pss_nil))))))
  (pss_cons (ps_set (i := 13) sc_l_family.nd rfl (Or.inl rfl) (pe_tup (pa_cons (pv 9) (pa_cons (pe_callTy call_tuple_of (by rfl) B.tuple (by decide +kernel) (pa_cons (pv 10) pa_nil)) (pa_cons (pe_cal c_l_price (hr.mono (by omega)) (by rfl) (pa_cons (pv 0) (pa_cons (pv 6) (pa_cons (pv 3) pa_nil)))) pa_nil)))))
  (pss_cons (ps_if (PW.pt (pw_and (pt_truth (pv 7) (by intro _; rfl)) (pw_and1 (pt_cmpR op_eq (pe_cal c_l_draw (hr.mono (by omega)) (by rfl) (pa_cons (pv 0) (pa_cons pe_int pa_nil))) pe_int (nomark _))))) (pss_one (ps_set (i := 13) sc_l_family.nd rfl (Or.inl rfl) (pe_ix ix_seq (pv 7) (pe_cal c_l_draw (hr.mono (by omega)) (by rfl) (pa_cons (pv 0) (pa_cons (pe_callB call_len_seq (by rfl) B.len (by decide +kernel) (pa_cons (pv 7) pa_nil)) pa_nil))) (fun _ _ => rfl)))) pss_nil)
  (pss_one (ps_expr (pe_bm PySem.F.plainAttrs_list PySem.F.slot_list_append PySem.F.type_list_append mt_append (pv 7) (pa_cons (pv 13) pa_nil))))))))))
  (pss_cons (ps_if (pt_cmpR op_eq (pe_cal c_l_draw (hr.mono (by omega)) (by rfl) (pa_cons (pv 0) (pa_cons pe_int pa_nil))) pe_int (nomark _)) (pss_one (ps_for PassesOwn.never rfl (pi_range1 (by rfl) B.range (pa_cons (pv 4) pa_nil)) (pg_name (i := 14) sc_l_family.nd rfl (Or.inl rfl)) (pss_one (ps_expr (pe_bm PySem.F.plainAttrs_list PySem.F.slot_list_insert PySem.F.type_list_insert mt_insert (pv 7) (pa_cons (pe_cal c_l_draw (hr.mono (by omega)) (by rfl) (pa_cons (pv 0) (pa_cons (pe_op op_add (pe_callB call_len_seq (by rfl) B.len (by decide +kernel) (pa_cons (pv 7) pa_nil)) pe_int) pa_nil))) (pa_cons (pe_tup (pa_cons (pv 14) (pa_cons (pe_tup pa_nil) (pa_cons (pe_cal c_l_price (hr.mono (by omega)) (by rfl) (pa_cons (pv 0) (pa_cons (pv 6) (pa_cons (pv 3) pa_nil)))) pa_nil)))) pa_nil))))))) pss_nil)
  (pss_cons (ps_setLc (i := 15) (own := [("_law_state", 14)]) rfl sc_l_family.nd rfl rfl (sw_true rfl rfl rfl (by decide +kernel)) (pi_range1 (by rfl) B.range (pa_cons (pv 4) pa_nil)) (blkOk_by (N := N_l_family) (sc := defScope s_l_family) (by decide +kernel)) (fun _ _ _ _ _ => (pg_name (i := 14) sc_l_family.nd rfl (Or.inl rfl))) (fun _ _ _ _ _ => (pts_one (pt_cmpR op_gt (pe_cal c_l_draw (hr.mono (by omega)) (by rfl) (pa_cons (pv 0) (pa_cons pe_int pa_nil))) pe_int (nomark _)))) (fun _ _ _ _ _ => (pv 14)))
  (pss_cons (ps_if (PW.pt (pw_and (pt_not (pt_truth (pv 15) (by intro _; rfl))) (pw_and1 (pt_cmpR op_gt (pe_cal c_l_draw (hr.mono (by omega)) (by rfl) (pa_cons (pv 0) (pa_cons pe_int pa_nil))) pe_int (nomark _))))) (pss_one (ps_set (i := 15) sc_l_family.nd rfl (Or.inl rfl) (pe_lst (pa_cons (pe_cal c_l_draw (hr.mono (by omega)) (by rfl) (pa_cons (pv 0) (pa_cons (pv 4) pa_nil))) pa_nil)))) pss_nil)
  (pss_one (ps_ret (pe_tup (pa_cons (pv 4) (pa_cons (pe_callTy call_tuple_of (by rfl) B.tuple (by decide +kernel) (pa_cons (pv 15) pa_nil)) (pa_cons (pe_callTy call_tuple_of (by rfl) B.tuple (by decide +kernel) (pa_cons (pv 7) pa_nil)) pa_nil)))))))))))))), ?_⟩
  refine ⟨_, rfl, _, rfl, t, sc, 4, rfl, hT, by omega, fun n0 H1 k1 hT1 hn0 => ⟨_, _, rfl, rfl, ?_⟩⟩
  refine ⟨_, rfl, t, sc, 8, rfl, hT1, by omega, fun shp H2 k2 hT2 hshp => ?_⟩
  refine ⟨_, rfl, t, sc, 4, rfl, hT2, by omega, fun md H3 k3 hT3 hmd => ?_⟩
  have k03 : TR t sc H H3 := (k1.trans k2).trans k3
  obtain ⟨cnt, hcnt, c1, c4⟩ : ∃ cnt : Nat, V.int (1 + (n0 : Int)) = nI cnt ∧ 1 ≤ cnt ∧ cnt ≤ 4 := ⟨1 + n0, by unfold nI; rw [Int.natCast_add]; rfl, by omega, by omega⟩
  refine ⟨(by show 0 ≤ sizeLine; decide), fun L hL => ?_⟩
  have k04 : TR t sc H (upd H3 L (.lst [])) := k03.nw hL _
  have hT4 : TapeOk (upd H3 L (.lst [])) t sc := k04.tp hT
  have hL0 : H L = none := k03.fr hL
  refine ⟨_, rfl, _, rfl, _, _, rfl, rfl, t, sc, 8, rfl, hT4, by omega, fun nr H5 k5 hT5 hnr => ⟨_, rfl, by omega, by omega, ?_⟩⟩
  have en : ((nr : Int)).toNat = nr := by omega
  rw [en]
  have hLt : L ≠ t ∧ L ≠ sc := hT.fr hL0
  have lsT : ∀ {A B : Hp} {p : Addr} {ys : List V}, TR t sc A B → p ≠ t → A p = some (.lst ys) → B p = some (.lst ys) := fun k n e => k.e.old _ _ n e
  have k05 := k04.trans k5
  have hL5 : H5 L = some (.lst []) := lsT k5 hLt.1 upd_same
  refine for_range (n := nr) (fun i σ H' => ∃ (xs : List V) (vars : List Vr) (e8 e9 e10 e11 e12 e13 e14 e15 : Option V), σ = [some (.ref t), some (.int 4), some (.int 7), some (.int 0), some (nI cnt), some (nI shp), some (nI md), some (.ref L), e8, e9, e10, e11, e12, e13, e14, e15] ∧
      TR t sc H H' ∧ TapeOk H' t sc ∧ H' L = some (.lst xs) ∧ All2 (VarAt H') xs vars ∧ (∀ v ∈ vars, VOk cnt v) ∧ vars.length ≤ i)
    ⟨[], [], none, none, none, none, none, none, none, none, by rw [← hcnt]; rfl, k05, hT5, hL5, .nil, fun v h => (nomatch h), Nat.le_refl _⟩ (fun i σ H' hi h => ?_) (fun σ H' h => ?_)
  · obtain ⟨xs, vars, e8, e9, e10, e11, e12, e13, e14, e15, rfl, k, hT', hL', al, ok, hvl⟩ := h
    refine ⟨_, rfl, _, rfl, t, sc, cnt, rfl, hT', by omega, fun plug Ha ka hTa hplug => ?_⟩
    have hplug : plug < cnt := by omega
    refine ⟨(by show 0 ≤ sizeLine; decide), fun S hS => ?_⟩
    have kS : TR t sc H' (upd Ha S (.lst [])) := ka.nw hS _
    have hS0 : H' S = none := ka.fr hS
    have hSt := hT'.fr hS0
    have hLS : L ≠ S := ne_of_none hL' hS0
    -- the number of slots
    refine ⟨(by show 6 ≤ sizeLine; decide), fun l6 hl6 => ⟨_, rfl, t, sc, 6, rfl, (hTa.ext (Ex.new hS (.lst [])).old).ext (Ex.new hl6 _).old, by omega, fun dn Hb kb hTb hdn => ?_⟩⟩
    have kb0 : TR t sc H' Hb := (kS.nw hl6 _).trans kb
    have h6 : Hb l6 = some (.lst [.int 0, .int 1, .int 1, .int 2, .int 2, .int 3]) := lsT kb (by
      intro z
      have := (hTa.ext (Ex.new hS (.lst [])).old).fr hl6
      exact this.1 z) upd_same
    have hSb : Hb S = some (.lst []) := lsT ((TR.refl t sc _).nw hl6 _ |>.trans kb) hSt.1 upd_same
    obtain ⟨ns, hns, hns3⟩ : ∃ ns : Nat, ([.int 0, .int 1, .int 1, .int 2, .int 2, .int 3] : List V)[dn]? = some (nI ns) ∧ ns ≤ 3 := by
      have : dn < 6 := by omega
      match dn, this with
      | 0, _ => exact ⟨0, rfl, by omega⟩
      | 1, _ => exact ⟨1, rfl, by omega⟩
      | 2, _ => exact ⟨1, rfl, by omega⟩
      | 3, _ => exact ⟨2, rfl, by omega⟩
      | 4, _ => exact ⟨2, rfl, by omega⟩
      | 5, _ => exact ⟨3, rfl, by omega⟩
    refine q_ixL h6 hns ⟨_, rfl, by omega, by omega, ?_⟩
    have en2 : ((ns : Int)).toNat = ns := by omega
    rw [en2]
    refine for_range (n := ns) (fun j σ H2 => ∃ (sl : List Nat) (e11 e12 : Option V), σ = [some (.ref t), some (.int 4), some (.int 7), some (.int 0), some (nI cnt), some (nI shp), some (nI md), some (.ref L), some (.int (0 + (i : Int))), some (nI plug), some (.ref S), e11, e12, e13, e14, e15] ∧
        TR t sc H' H2 ∧ TapeOk H2 t sc ∧ H2 S = some (.lst (sl.map nI)) ∧ (∀ s ∈ sl, s < cnt) ∧ sl.length ≤ j)
      ⟨[], e11, e12, rfl, kb0, hTb, hSb, fun s h => (nomatch h), Nat.le_refl _⟩ (fun j σ H2 hj h => ?_) (fun σ H2 h => ?_)
    · obtain ⟨sl, e11, e12, rfl, k2, hT2, hS2, hsl, hsll⟩ := h
      refine ⟨_, rfl, _, rfl, t, sc, cnt, rfl, hT2, by omega, fun goal H3 k3 hT3 hgoal => ?_⟩
      have k23 := k2.trans k3
      have hS3 := lsT k3 hSt.1 hS2
      have fin : ∀ g : Int, tIfS (tAnd (tTest (tOp (rI0 fun i j => V.bl (decide (i ≤ j))) (tC (V.int 0)) (tVar 12))) (tTest (tOp (rI0 fun i j => V.bl (decide (i < j))) (tVar 12) (tVar 4)))) (tDrop (tBM K "list" rAppend (tVar 10) (tCons (tVar 12) tNil))) tNext
          { nx := fun σ H2 => ∃ (sl : List Nat) (e11 e12 : Option V), σ = [some (.ref t), some (.int 4), some (.int 7), some (.int 0), some (nI cnt), some (nI shp), some (nI md), some (.ref L), some (.int (0 + (i : Int))), some (nI plug), some (.ref S), e11, e12, e13, e14, e15] ∧
              TR t sc H' H2 ∧ TapeOk H2 t sc ∧ H2 S = some (.lst (sl.map nI)) ∧ (∀ s ∈ sl, s < cnt) ∧ sl.length ≤ j + 1, rt := Q }
          [some (.ref t), some (.int 4), some (.int 7), some (.int 0), some (nI cnt), some (nI shp), some (nI md), some (.ref L), some (.int (0 + (i : Int))), some (nI plug), some (.ref S), some (.int (0 + (j : Int))), some (.int g), e13, e14, e15] H3 := fun g => by
        refine ⟨_, rfl, _, _, rfl, rfl, _, rfl, ?_⟩
        by_cases g0 : 0 ≤ g
        · refine ite_t (decide_eq_true g0) ⟨_, rfl, _, rfl, _, _, rfl, rfl, _, rfl, ?_⟩
          by_cases g1 : g < (cnt : Int)
          · refine ite_t (decide_eq_true g1) ⟨_, rfl, ty_l hS3, _, rfl, S, _, _, rfl, rfl, hS3, small1000 (by rw [List.length_map]; omega), ?_⟩
            refine ⟨sl ++ [g.toNat], _, _, rfl, k23.mut hS0 _, (k23.mut hS0 _).tp hT', ?_, fun s hs => ?_, by rw [List.length_append, List.length_singleton]; omega⟩
            · rw [List.map_append]
              have : V.int g = nI g.toNat := by unfold nI; congr 1; omega
              rw [this]; exact upd_same
            · rcases List.mem_append.mp hs with z | z
              · exact hsl s z
              · rw [List.mem_singleton.mp z]; omega
          · exact ite_f (decide_eq_false g1) ⟨sl, _, _, rfl, k23, hT3, hS3, hsl, by omega⟩
        · exact ite_f (decide_eq_false g0) (ite_ff ⟨sl, _, _, rfl, k23, hT3, hS3, hsl, by omega⟩)
      refine ⟨_, rfl, rfl, _, rfl, ?_⟩
      by_cases z0 : shp = 0
      · subst z0
        refine ite_t (decide_eq_true rfl) ⟨_, rfl, _, _, rfl, rfl, _, rfl, _, _, rfl, rfl, _, rfl, rfl, _, rfl, ite_f (decide_eq_false (by intro z; cases z)) (fin _)⟩
      · refine ite_f (decide_eq_false fun z => z0 (by have := V.int.inj z; omega)) ⟨_, rfl, rfl, _, rfl, ?_⟩
        by_cases z1 : shp = 1
        · subst z1
          exact ite_t (decide_eq_true rfl) ⟨_, rfl, _, _, rfl, rfl, _, rfl, _, _, rfl, rfl, fin _⟩
        · exact ite_f (decide_eq_false fun z => z1 (by have := V.int.inj z; omega)) (fin _)
    · obtain ⟨sl, e11, e12, rfl, k2, hT2, hS2, hsl, hsll⟩ := h
      -- the row
      refine ⟨_, rfl, _, rfl, S, _, rfl, .inl ⟨sql hS2, fun st hst => ?_⟩⟩
      have kst : Ex H2 (upd H2 st (.tup (sl.map nI))) := .new hst _
      have hst1 : upd H2 st (.tup (sl.map nI)) st = some (.tup (sl.map nI)) := upd_same
      generalize upd H2 st (.tup (sl.map nI)) = H3 at kst hst1 ⊢
      have hT3 := hT2.ext kst.old
      refine ⟨_, rfl, _, rfl, _, rfl, t, sc, md, rfl, hT3, by omega, fun pr H4 k4 hT4 => ⟨(by show 3 ≤ sizeLine; decide), fun rw_ hrw => ?_⟩⟩
      have k04' : TR t sc H' H4 := (k2.trans (kst.tr t sc)).trans k4
      have krw : Ex H4 (upd H4 rw_ (.tup [nI plug, .ref st, oI pr])) := .new hrw _
      have hv5 : VarAt (upd H4 rw_ (.tup [nI plug, .ref st, oI pr])) (.ref rw_) ⟨plug, sl, pr⟩ := ⟨rw_, st, rfl, upd_same, krw.old _ _ (k4.ts hT3 _ _ hst1)⟩
      generalize upd H4 rw_ (.tup [nI plug, .ref st, oI pr]) = H5 at krw hv5 ⊢
      have k05' : TR t sc H' H5 := k04'.trans (krw.tr t sc)
      have hT5' := hT4.ext krw.old
      have hL5' := lsT k05' hLt.1 hL'
      have al5 : All2 (VarAt H5) xs vars := al.mono fun _ _ z => z.ts (k05'.ts hT')
      have vok : VOk cnt ⟨plug, sl, pr⟩ := ⟨hplug, hsl, by show sl.length ≤ 3; omega⟩
      -- the row is put
      have fin : ∀ (H6 : Hp) (c : Addr) (v : Vr) , TR t sc H5 H6 → TapeOk H6 t sc → VarAt H6 (.ref c) v → VOk cnt v → tDrop (tBM K "list" rAppend (tVar 7) (tCons (tVar 13) tNil))
          { nx := fun σ H' => ∃ (xs : List V) (vars : List Vr) (e8 e9 e10 e11 e12 e13 e14 e15 : Option V), σ = [some (.ref t), some (.int 4), some (.int 7), some (.int 0), some (nI cnt), some (nI shp), some (nI md), some (.ref L), e8, e9, e10, e11, e12, e13, e14, e15] ∧
              TR t sc H H' ∧ TapeOk H' t sc ∧ H' L = some (.lst xs) ∧ All2 (VarAt H') xs vars ∧ (∀ v ∈ vars, VOk cnt v) ∧ vars.length ≤ i + 1, rt := Q }
          [some (.ref t), some (.int 4), some (.int 7), some (.int 0), some (nI cnt), some (nI shp), some (nI md), some (.ref L), some (.int (0 + (i : Int))), some (nI plug), some (.ref S), e11, e12, some (.ref c), e14, e15] H6 := fun H6 c v k6 hT6 hv6 vok6 => by
        have hL6 := lsT k6 hLt.1 hL5'
        have al6 : All2 (VarAt H6) xs vars := al5.mono fun _ _ z => z.ts (k6.ts hT5')
        refine ⟨_, rfl, ty_l hL6, _, rfl, L, _, _, rfl, rfl, hL6, small1000 (by rw [al.len]; omega), ?_⟩
        have ts7 : Tps H6 (upd H6 L (.lst (xs ++ [.ref c]))) := ts_lst hL6
        have k07 := ((k.trans k05').trans k6).mut hL0 (.lst (xs ++ [.ref c]))
        refine ⟨_, vars ++ [v], _, _, _, _, _, _, _, _, rfl, k07, k07.tp hT, upd_same, (al6.mono fun _ _ z => z.ts ts7).snoc (hv6.ts ts7), fun u hu => ?_, by rw [List.length_append, List.length_singleton]; omega⟩
        rcases List.mem_append.mp hu with z | z
        · exact ok u z
        · rw [List.mem_singleton.mp z]; exact vok6
      refine ⟨_, rfl, _, .inl ⟨xs, sql hL5', rfl⟩, ?_⟩
      have keep := fin H5 rw_ ⟨plug, sl, pr⟩ (.refl _ _ _) hT5' hv5 vok
      cases hxs : xs with
      | nil => exact ite_ff (ite_ff keep)
      | cons x0 xr =>
        rw [← hxs]
        refine ite_t (by rw [hxs]; rfl) ⟨_, rfl, t, sc, 8, rfl, hT5', by omega, fun d1 H6 k6 hT6 hd1 => ⟨rfl, _, rfl, ?_⟩⟩
        by_cases dz : d1 = 0
        · subst dz
          have hL6 := lsT k6 hLt.1 hL5'
          refine ite_t (decide_eq_true rfl) ⟨_, rfl, _, rfl, _, rfl, L, xs, rfl, .inl (sql hL6), t, sc, xs.length, rfl, hT6, by rw [al.len]; omega, fun d2 H7 k7 hT7 hd2 => ?_⟩
          have hL7 := lsT k7 hLt.1 hL6
          have hd2' : d2 < xs.length := by rw [hxs] at hd2 ⊢; simp at hd2 ⊢; omega
          obtain ⟨u, hu, hvu⟩ := al.getL (List.getElem?_eq_getElem hd2')
          have T7 : Tps H' H7 := (k05'.ts hT').trans ((k6.ts hT5').trans (k7.ts hT6))
          obtain ⟨c, s', ec, h1, h2⟩ := hvu
          refine q_ixL hL7 (List.getElem?_eq_getElem hd2') ?_
          rw [ec]
          exact fin H7 c u (k6.trans k7) hT7 ⟨c, s', rfl, T7 _ _ h1, T7 _ _ h2⟩ (ok u (List.mem_of_getElem? hu))
        · exact ite_f (decide_eq_false fun z => dz (by have := V.int.inj z; omega)) (fin H6 rw_ ⟨plug, sl, pr⟩ k6 hT6 (hv5.ts (k6.ts hT5')) vok)
  · obtain ⟨xs, vars, e8, e9, e10, e11, e12, e13, e14, e15, rfl, k, hT', hL', al, ok, hvl⟩ := h
    let rtup : List V → Hp → VK → Prop := fun xs H Q => ∃ p ys, xs = [V.ref p] ∧ ((SqL K H p ys ∧ ∀ (l : Addr), H l = none → Q (V.ref l) (upd H l (HO.tup ys))) ∨ SqT K H p ys ∧ Q (V.ref p) H)
    -- the end
    have tail : ∀ (H' : Hp) (R : Addr) (xs : List V) (vars : List Vr) (roots : List Nat) (e8 e9 e10 e11 e12 e13 e14 : Option V), TR t sc H H' → TapeOk H' t sc → H' L = some (.lst xs) → All2 (VarAt H') xs vars → (∀ v ∈ vars, VOk cnt v) → vars.length ≤ 11 → H' R = some (.lst (roots.map nI)) → (∀ s ∈ roots, s < cnt) → roots.length ≤ 4 →
        tRet (tTup (tCons (tVar 4) (tCons (tCB rtup (tCons (tVar 15) tNil)) (tCons (tCB rtup (tCons (tVar 7) tNil)) tNil)))) { nx := fun _ H' => Q V.non H', rt := Q }
          [some (.ref t), some (.int 4), some (.int 7), some (.int 0), some (nI cnt), some (nI shp), some (nI md), some (.ref L), e8, e9, e10, e11, e12, e13, e14, some (.ref R)] H' := fun H' R xs vars roots e8 e9 e10 e11 e12 e13 e14 k hT' hL' al ok hvl hR hr1 hr2 => by
      refine ⟨_, rfl, _, rfl, R, _, rfl, .inl ⟨sql hR, fun r1 hr1' => ?_⟩⟩
      have kx1 : Ex H' (upd H' r1 (.tup (roots.map nI))) := .new hr1' _
      refine ⟨_, rfl, L, _, rfl, .inl ⟨sql (kx1.old _ _ hL'), fun r2 hr2' => ⟨(by show 3 ≤ sizeLine; decide), fun fa hfa => ?_⟩⟩⟩
      have kx2 := Ex.new hr2' (.tup xs)
      have kx3 := Ex.new hfa (.tup [nI cnt, .ref r1, .ref r2])
      have kx : Ex H' _ := (kx1.trans kx2).trans kx3
      refine q fa ⟨cnt, roots, vars⟩ _ (k.trans (kx.tr t sc)) (hT'.ext kx.old) ⟨r1, r2, xs, upd_same, kx3.old _ _ (kx2.old _ _ upd_same), kx3.old _ _ upd_same, al.mono fun _ _ z => z.ts kx.ts⟩ ⟨c1, c4, fun v hv => ok v hv, hr1, hvl, hr2⟩
    have rest : ∀ (H' : Hp) (xs : List V) (vars : List Vr) (e8 e9 e10 e11 e12 e13 e14 e15 : Option V), TR t sc H H' → TapeOk H' t sc → H' L = some (.lst xs) → All2 (VarAt H') xs vars → (∀ v ∈ vars, VOk cnt v) → vars.length ≤ 11 →
        tSeq (tAsg (tLc (iRng1 (tCons (tVar 4) tNil)) (gName 14) (tTest (tOp (rI0 fun i j => V.bl (decide (j < i))) (tCall spDraw [] E0 (tCons (tVar 0) (tCons (tC (V.int 3)) tNil))) (tC (V.int 0)))) (tVar 14) [14]) (gName 15))
          (tSeq (tIfS (tAnd (tNot (tTruK K (tVar 15))) (tTest (tOp (rI0 fun i j => V.bl (decide (j < i))) (tCall spDraw [] E0 (tCons (tVar 0) (tCons (tC (V.int 8)) tNil))) (tC (V.int 0))))) (tAsg (tLst (tCons (tCall spDraw [] E0 (tCons (tVar 0) (tCons (tVar 4) tNil))) tNil)) (gName 15)) tNext)
            (tRet (tTup (tCons (tVar 4) (tCons (tCB rtup (tCons (tVar 15) tNil)) (tCons (tCB rtup (tCons (tVar 7) tNil)) tNil)))))) { nx := fun _ H' => Q V.non H', rt := Q }
          [some (.ref t), some (.int 4), some (.int 7), some (.int 0), some (nI cnt), some (nI shp), some (nI md), some (.ref L), e8, e9, e10, e11, e12, e13, e14, e15] H' := fun H' xs vars e8 e9 e10 e11 e12 e13 e14 e15 k hT' hL' al ok hvl => by
      refine ⟨_, rfl, _, rfl, by omega, by omega, fun D hD => ?_⟩
      have en3 : ((cnt : Int)).toNat = cnt := by omega
      rw [en3]
      have hDt := hT'.fr hD
      refine lc_range (n := cnt) (fun i H2 => TR t sc H' H2 ∧ TapeOk H2 t sc ∧ ∃ l : List Nat, H2 D = some (.lst (l.map nI)) ∧ (∀ s ∈ l, s < cnt) ∧ l.length ≤ i)
        ⟨(TR.refl t sc _).nw hD _, hT'.ext (Ex.new hD _).old, [], upd_same, fun s h => (nomatch h), Nat.le_refl _⟩ (fun i H2 hi h => ?_) (fun H2 h => ?_)
      · obtain ⟨k2, hT2, l, hl, hl1, hl2⟩ := h
        refine ⟨rfl, _, rfl, t, sc, 3, rfl, hT2, by omega, fun d H3 k3 hT3 hd => ⟨_, _, rfl, rfl, _, rfl, ?_⟩⟩
        have k23 := k2.trans k3
        have hl3 := lsT k3 hDt.1 hl
        by_cases dz : (0 : Int) < (d : Int)
        · refine ite_t (decide_eq_true dz) ⟨_, rfl, _, hl3, small1000 (by rw [List.length_map]; omega), k23.mut hD _, (k23.mut hD _).tp hT', l ++ [i], ?_, fun s hs => ?_, by rw [List.length_append, List.length_singleton]; omega⟩
          · rw [List.map_append, show (0 : Int) + (i : Int) = (i : Int) from Int.zero_add _]; exact upd_same
          · rcases List.mem_append.mp hs with z | z
            · exact hl1 s z
            · rw [List.mem_singleton.mp z]; exact hi
        · exact ite_f (decide_eq_false dz) ⟨k23, hT3, l, hl3, hl1, by omega⟩
      · obtain ⟨k2, hT2, l, hl, hl1, hl2⟩ := h
        have k02 := k.trans k2
        have hL2 := lsT k2 hLt.1 hL'
        have al2 : All2 (VarAt H2) xs vars := al.mono fun _ _ z => z.ts (k2.ts hT')
        refine ⟨_, rfl, _, .inl ⟨_, sql hl, rfl⟩, ?_⟩
        cases hle : (l.map nI).isEmpty with
        | false => exact ite_ff (ite_ff (tail H2 D xs vars l _ _ _ _ _ _ _ k02 hT2 hL2 al2 ok hvl hl hl1 (by omega)))
        | true =>
          refine ite_tt ⟨_, rfl, t, sc, 8, rfl, hT2, by omega, fun d H3 k3 hT3 hd => ⟨_, _, rfl, rfl, _, rfl, ?_⟩⟩
          have k03 := k02.trans k3
          have hL3 := lsT k3 hLt.1 hL2
          have al3 : All2 (VarAt H3) xs vars := al2.mono fun _ _ z => z.ts (k3.ts hT2)
          by_cases dz : (0 : Int) < (d : Int)
          · refine ite_t (decide_eq_true dz) ⟨_, rfl, _, rfl, t, sc, cnt, rfl, hT3, by omega, fun r H4 k4 hT4 hr => ⟨(by show 1 ≤ sizeLine; decide), fun R hR => ?_⟩⟩
            have kx := Ex.new hR (.lst [nI r])
            have k4' := k4.trans (kx.tr t sc)
            exact tail _ R xs vars [r] _ _ _ _ _ _ _ (k03.trans k4') (hT4.ext kx.old) (kx.old _ _ (lsT k4 hLt.1 hL3)) (al3.mono fun _ _ z => z.ts (k4'.ts hT3)) ok hvl upd_same (fun s hs => by rw [List.mem_singleton.mp hs]; omega) (by simp)
          · exact ite_f (decide_eq_false dz) (tail H3 D xs vars l _ _ _ _ _ _ _ k03 hT3 hL3 al3 ok hvl (lsT k3 hDt.1 hl) hl1 (by omega))
    refine ⟨_, rfl, t, sc, 2, rfl, hT', by omega, fun d0 H1 k1 hT1 hd0 => ⟨rfl, _, rfl, ?_⟩⟩
    have hL1 := lsT k1 hLt.1 hL'
    have al1 : All2 (VarAt H1) xs vars := al.mono fun _ _ z => z.ts (k1.ts hT')
    have k01 := k.trans k1
    by_cases dz : d0 = 0
    case neg => exact ite_f (decide_eq_false fun z => dz (by have := V.int.inj z; omega)) (rest H1 xs vars _ _ _ _ _ _ _ _ k01 hT1 hL1 al1 ok (by omega))
    subst dz
    refine ite_t (decide_eq_true rfl) ⟨_, rfl, _, rfl, by omega, by omega, ?_⟩
    have en3 : ((cnt : Int)).toNat = cnt := by omega
    rw [en3]
    refine for_range (n := cnt) (fun i σ H' => ∃ (xs : List V) (vars : List Vr) (e14 : Option V), σ = [some (.ref t), some (.int 4), some (.int 7), some (.int 0), some (nI cnt), some (nI shp), some (nI md), some (.ref L), e8, e9, e10, e11, e12, e13, e14, e15] ∧
        TR t sc H H' ∧ TapeOk H' t sc ∧ H' L = some (.lst xs) ∧ All2 (VarAt H') xs vars ∧ (∀ v ∈ vars, VOk cnt v) ∧ vars.length ≤ 7 + i)
      ⟨xs, vars, e14, rfl, k01, hT1, hL1, al1, ok, by omega⟩ (fun i σ H' hi h => ?_) (fun σ H' h => ?_)
    · obtain ⟨xs, vars, e14, rfl, k, hT', hL', al, ok, hvl⟩ := h
      refine ⟨_, rfl, ty_l hL', _, rfl, _, rfl, L, xs, rfl, .inl (sql hL'), _, _, rfl, rfl, t, sc, xs.length + 1, rfl, hT', by rw [al.len]; omega, fun d H2 k2 hT2 hd => ?_⟩
      refine ⟨_, rfl, (by decide), fun st hst => ?_⟩
      have kst := Ex.new hst (.tup [])
      have hT3 := hT2.ext kst.old
      refine ⟨_, rfl, _, rfl, _, rfl, t, sc, md, rfl, hT3, by omega, fun pr H4 k4 hT4 => ⟨(by show 3 ≤ sizeLine; decide), fun rw_ hrw => ?_⟩⟩
      have krw := Ex.new hrw (.tup [.int (0 + (i : Int)), .ref st, oI pr])
      have k24 : TR t sc H' H4 := (k2.trans (kst.tr t sc)).trans k4
      have k25 := k24.trans (krw.tr t sc)
      have hv5 : VarAt (upd H4 rw_ (.tup [.int (0 + (i : Int)), .ref st, oI pr])) (.ref rw_) ⟨i, [], pr⟩ := ⟨rw_, st, rfl, by rw [show (0 : Int) + (i : Int) = (i : Int) from Int.zero_add _]; exact upd_same, krw.old _ _ (k4.ts hT3 _ _ upd_same)⟩
      have hL5 := lsT k25 hLt.1 hL'
      have hT5 := hT4.ext krw.old
      have al5 : All2 (VarAt (upd H4 rw_ (.tup [.int (0 + (i : Int)), .ref st, oI pr]))) xs vars := al.mono fun _ _ z => z.ts (k25.ts hT')
      refine ⟨L, xs, _, _, rfl, rfl, hL5, small1000 (by rw [al.len]; omega), by omega, by have := al.len; omega, ?_⟩
      have ts6 := ts_lst (xs := xs.take d ++ [.ref rw_] ++ xs.drop d) hL5
      have k06 := (k.trans k25).mut hL0 (.lst (xs.take d ++ [.ref rw_] ++ xs.drop d))
      refine ⟨_, vars.take d ++ [⟨i, [], pr⟩] ++ vars.drop d, _, rfl, k06, k06.tp hT, upd_same, ?_, fun u hu => ?_, ?_⟩
      · have e : ((d : Int)).toNat = d := by omega
        rw [e]
        have a6 := al5.mono fun _ _ z => VarAt.ts ts6 z
        exact ((a6.take d).snoc (hv5.ts ts6)).app (a6.drop d)
      · rcases List.mem_append.mp hu with z | z
        · rcases List.mem_append.mp z with z | z
          · exact ok u (List.mem_of_mem_take z)
          · rw [List.mem_singleton.mp z]; exact ⟨hi, fun s h => (nomatch h), by simp⟩
        · exact ok u (List.mem_of_mem_drop z)
      · rw [List.length_append, List.length_append, List.length_singleton, List.length_take, List.length_drop]; omega
    · obtain ⟨xs, vars, e14, rfl, k, hT', hL', al, ok, hvl⟩ := h
      exact rest H' xs vars _ _ _ _ _ _ _ _ k hT' hL' al ok (by omega)
end
end K81
/-! ## WT -/
namespace K81
open PySem PySem.Spec PyProof.Rows L2

theorem nI_eq {a b : Nat} (h : nI a = nI b) : a = b := by
  have := V.int.inj h
  omega
abbrev s_l_tree : Stmt := topS 32
abbrev N_l_tree : List Str := ["_law_tape_here", "_law_family_here", "_law_sizes_here", "_law_state", "_law_room", "_law_stack", "_law_need", "_law_tree_here", "_law_turn", "_law_goal", "_law_fitting", "_law_number", "_law_size_here", "_law_slot"]
theorem sc_l_tree : FnScope N_l_tree ["_law_tape_here", "_law_family_here", "_law_sizes_here", "_law_state", "_law_room"] (defScope s_l_tree) := ⟨rfl, rfl, rfl, by decide +kernel, rfl, by decide +kernel, by decide +kernel⟩
-- slots: _law_tape_here:0 _law_family_here:1 _law_sizes_here:2 _law_state:3 _law_room:4 _law_stack:5 _law_need:6 _law_tree_here:7 _law_turn:8 _law_goal:9 _law_fitting:10 _law_number:11 _law_size_here:12 _law_slot:13   calls: _law_size _law_draw
/-- over reversed(t), t a tuple that stays -/
theorem for_revT {K : PySem.W.Frag} {a : Addr} {xs : List V} {g : TG} {tb : TS} {D : Ends} {σ : L2.St} {H : Hp} (Pv : Nat → L2.St → Hp → Prop) (h0 : Pv 0 σ H) (hl : ∀ i σ H, Pv i σ H → SqT K H a xs)
    (hs : ∀ i x σ H, i < xs.length → xs[xs.length - 1 - i]? = some x → Pv i σ H → g x σ H fun σ2 H2 => tb { D with nx := Pv (i + 1), ct := Pv (i + 1), bk := D.nx } σ2 H2) (hd : ∀ σ H, Pv xs.length σ H → D.nx σ H) :
    ∃ W : Nat → Nat → L2.St → Hp → Prop, (∃ m, W 0 m σ H) ∧ ∀ i m σ H, W i m σ H →
      ((RT.ItvT K a xs.length).stop i H ∧ D.nx σ H) ∨ ((RT.ItvT K a xs.length).go i H ∧ ∃ N : L2.St → Hp → Prop, (∀ σ' H', N σ' H' → ∃ m', m' < m ∧ W (i + 1) m' σ' H') ∧ ∀ x H', (RT.ItvT K a xs.length).yld i H x H' → g x σ H' fun σ2 H2 => tb { D with nx := N, ct := N, bk := D.nx } σ2 H2) := by
  refine ⟨fun i m σ H => m + i = xs.length ∧ Pv i σ H, ⟨xs.length, Nat.add_zero _, h0⟩, ?_⟩
  rintro i m σ H ⟨em, p⟩
  have q := hl i σ H p
  cases m with
  | zero =>
    have e : i = xs.length := by omega
    subst e
    exact .inl ⟨Nat.le_refl _, hd σ H p⟩
  | succ m =>
    have hi : i < xs.length := by omega
    refine .inr ⟨⟨hi, xs, xs[xs.length - 1 - i], q, List.getElem?_eq_getElem (by omega)⟩, Pv (i + 1), fun σ' H' p' => ⟨m, Nat.lt_succ_self _, by omega, p'⟩, ?_⟩
    rintro y H' ⟨rfl, hx⟩
    exact hs i y σ H' hi (hx xs q) p
section
variable {P : Program} {w : World} {K : PySem.W.Frag} {mg : Str → Option Value} {base : Heap} {f : Addr} {fd : FuncData}
/-- a state that can be built -/
def Bld (fm : Fm) (g : Nat) : Prop := g < fm.count ∧ ∃ w, tf (szs fm) g = some w
def spTree : Sp := fun vs H Q _ => ∃ (t sc fa sa : Addr) (fm : Fm) (sx : List V) (s : Nat) (b : Wt), vs = [.ref t, .ref fa, .ref sa, nI s, .int 12] ∧ TapeOk H t sc ∧ FamAt H fa fm ∧ fm.Wf ∧ H sa = some (.lst sx) ∧ All2 OS sx (szs fm) ∧ sa ≠ t ∧ s < fm.count ∧ tf (szs fm) s = some b ∧ b.2 ≤ 40 ∧
  ∀ r H' (l : List Nat), TR t sc H H' → TapeOk H' t sc → H' r = some (.tup (l.map nI)) → (∀ k ∈ l, k < fm.vars.length) → l.length ≤ 40 → Q (.ref r) H'
theorem ok_tree (F : Fun K "_law_tree" "_law_tree" s_l_tree f fd) (B : Blt mg) (c_l_draw : Cal P w K mg base 1 "_law_draw" ["_law_tape_here", "_law_menu"] spDraw) (c_l_size : Cal P w K mg base 1 "_law_size" ["_law_variant", "_law_sizes_here"] spLSz) :
    FnOk P w K mg base CX0 2 f fd ["_law_tape_here", "_law_family_here", "_law_sizes_here", "_law_state", "_law_room"] spTree := by
  refine F.ok sc_l_tree (fun vs H Q E h => ?_) (fun cdv A outer s H vs Q E hr h => ?_)
  · obtain ⟨t, sc, fa, sa, fm, sx, s, b, rfl, _⟩ := h
    rfl
  obtain ⟨t, sc, fa, sa, fm, sx, s, b, rfl, hT, hf, wf, hsa, als, hne, hs, hb, hb40, q⟩ := h
  refine ⟨_, (pss_cons (ps_set (i := 5) sc_l_tree.nd rfl (Or.inl rfl) (pe_lst (pa_cons (pv 3) pa_nil)))
  (pss_cons (ps_set (i := 6) sc_l_tree.nd rfl (Or.inl rfl) (pe_ix ix_seq (pv 2) (pv 3) (fun _ _ => rfl)))
  (pss_cons (ps_set (i := 7) sc_l_tree.nd rfl (Or.inl rfl) (pe_lst pa_nil))
  (pss_cons (ps_for PassesOwn.never rfl (pi_range1 (by rfl) B.range (pa_cons (pe_callB (call_max2 rfl) (by rfl) B.max (by decide +kernel) (pa_cons (pv 4) (pa_cons (pe_ix ix_seq (pv 2) (pv 3) (fun _ _ => rfl)) pa_nil))) pa_nil)) (pg_name (i := 8) sc_l_tree.nd rfl (Or.inl rfl)) (pss_cons (ps_if (pt_not (pt_truth (pv 5) (by intro _; rfl))) (pss_one ps_break) pss_nil)
  (pss_cons (ps_set (i := 9) sc_l_tree.nd rfl (Or.inl rfl) (pe_bm0 PySem.F.plainAttrs_list PySem.F.slot_list_pop PySem.F.type_list_pop mt_pop (pv 5)))
  (pss_cons (ps_set (i := 6) sc_l_tree.nd rfl (Or.inl rfl) (pe_op op_sub (pv 6) (pe_ix ix_seq (pv 2) (pv 9) (fun _ _ => rfl))))
  (pss_cons (ps_set (i := 10) sc_l_tree.nd rfl (Or.inl rfl) (pe_lst pa_nil))
  (pss_cons (ps_for PassesOwn.never rfl (pi_range1 (by rfl) B.range (pa_cons (pe_callB call_len_seq (by rfl) B.len (by decide +kernel) (pa_cons (pe_ix ix_seq (pv 1) pe_int (fun _ _ => rfl)) pa_nil)) pa_nil)) (pg_name (i := 11) sc_l_tree.nd rfl (Or.inl rfl)) (pss_cons (ps_set (i := 12) sc_l_tree.nd rfl (Or.inl rfl) (pe_cal c_l_size (hr.mono (by omega)) (by rfl) (pa_cons (pe_ix ix_seq (pe_ix ix_seq (pv 1) pe_int (fun _ _ => rfl)) (pv 11) (fun _ _ => rfl)) (pa_cons (pv 2) pa_nil))))
  (pss_one (ps_if (PW.pt (pw_and (pt_cmpR op_eq (pe_ix ix_seq (pe_ix ix_seq (pe_ix ix_seq (pv 1) pe_int (fun _ _ => rfl)) (pv 11) (fun _ _ => rfl)) pe_int (fun _ _ => rfl)) (pv 9) (nomark _)) (pw_and1 (pt_cmpR op_notN (pv 12) pe_non (nomark _))))) (pss_one (ps_if (PW.pt (pw_or (pt_cmpR op_eq (pv 12) (pe_ix ix_seq (pv 2) (pv 9) (fun _ _ => rfl)) (nomark _)) (pw_or1 (pt_cmpR op_le (pe_op op_add (pe_op op_add (pe_callB call_len_seq (by rfl) B.len (by decide +kernel) (pa_cons (pv 7) pa_nil)) (pv 6)) (pv 12)) (pv 4) (nomark _))))) (pss_one (ps_expr (pe_bm PySem.F.plainAttrs_list PySem.F.slot_list_append PySem.F.type_list_append mt_append (pv 10) (pa_cons (pv 11) pa_nil)))) pss_nil)) pss_nil))))
  (pss_cons (ps_set (i := 11) sc_l_tree.nd rfl (Or.inl rfl) (pe_ix ix_seq (pv 10) (pe_cal c_l_draw (hr.mono (by omega)) (by rfl) (pa_cons (pv 0) (pa_cons (pe_callB call_len_seq (by rfl) B.len (by decide +kernel) (pa_cons (pv 10) pa_nil)) pa_nil))) (fun _ _ => rfl)))
  (pss_cons (ps_expr (pe_bm PySem.F.plainAttrs_list PySem.F.slot_list_append PySem.F.type_list_append mt_append (pv 7) (pa_cons (pv 11) pa_nil)))
  (pss_cons (ps_set (i := 6) sc_l_tree.nd rfl (Or.inl rfl) (pe_op op_sub (pe_op op_add (pv 6) (pe_cal c_l_size (hr.mono (by omega)) (by rfl) (pa_cons (pe_ix ix_seq (pe_ix ix_seq (pv 1) pe_int (fun _ _ => rfl)) (pv 11) (fun _ _ => rfl)) (pa_cons (pv 2) pa_nil)))) pe_int))
  (pss_one (ps_for PassesOwn.never rfl (RT.pi_revA (by rfl) B.reversed (pe_ix ix_seq (pe_ix ix_seq (pe_ix ix_seq (pv 1) pe_int (fun _ _ => rfl)) (pv 11) (fun _ _ => rfl)) pe_int (fun _ _ => rfl))) (pg_name (i := 13) sc_l_tree.nd rfl (Or.inl rfl)) (pss_one (ps_expr (pe_bm PySem.F.plainAttrs_list PySem.F.slot_list_append PySem.F.type_list_append mt_append (pv 5) (pa_cons (pv 13) pa_nil)))))))))))))))
  (pss_one (ps_ret (pe_callTy call_tuple_of (by rfl) B.tuple (by decide +kernel) (pa_cons (pv 7) pa_nil)))))))), ?_⟩
  obtain ⟨rr, bb, vs, h1, h2, h3, h4⟩ := hf.ex
  have hszl : (szs fm).length = fm.count := lw_len (fz_wf wf)
  have hnv := wf.nv
  have hvl : vs.length = fm.vars.length := h4.len
  have szAt : ∀ (H' : Hp) (g : Nat) (w : Wt) (Q : VK), H' sa = some (.lst sx) → tf (szs fm) g = some w → g < fm.count → Q (nI w.2) H' → rIx K (.ref sa) (nI g) H' Q := fun H' g w Q ha hg hlt q => by
    obtain ⟨y, hy, ho⟩ := als.get (tb_at (tb := szs fm) (s := g) (by omega))
    rw [hg] at ho
    have : y = nI w.2 := ho
    subst this
    exact q_ixL ha hy q
  have lsT : ∀ {A B : Hp} {p : Addr} {ys : List V}, TR t sc A B → p ≠ t → A p = some (.lst ys) → B p = some (.lst ys) := fun k n e => k.e.old _ _ n e
  -- the start
  refine ⟨_, rfl, (by show 1 ≤ sizeLine; decide), fun S hS => ?_⟩
  have k0 : Ex H (upd H S (.lst [nI s])) := .new hS _
  have hSS : upd H S (.lst [nI s]) S = some (.lst [nI s]) := upd_same
  generalize upd H S (.lst [nI s]) = H0 at k0 hSS ⊢
  refine ⟨_, rfl, _, rfl, szAt _ s b _ (k0.old _ _ hsa) hb hs ⟨(by show 0 ≤ sizeLine; decide), fun L hL => ?_⟩⟩
  have k1 : Ex H (upd H0 L (.lst [])) := k0.nw hL _
  have hLL : upd H0 L (.lst []) L = some (.lst []) := upd_same
  have hSS1 := (Ex.new hL (.lst [])).old _ _ hSS
  have hL0 : H L = none := k0.fr hL
  have hSL : S ≠ L := ne_of_none hSS hL
  generalize upd H0 L (.lst []) = H1 at k1 hLL hSS1 ⊢
  have hSt := hT.fr hS
  have hLt := hT.fr hL0
  have hSsa : sa ≠ S := ne_of_none hsa hS
  have hLsa : sa ≠ L := ne_of_none hsa hL0
  refine ⟨_, rfl, _, rfl, _, rfl, szAt _ s b _ (k1.old _ _ hsa) hb hs ⟨_, _, rfl, ?_⟩⟩
  obtain ⟨mx, hmx, hmx40⟩ : ∃ mx : Nat, (if (b.2 : Int) > 12 then (b.2 : Int) else 12) = ((mx : Nat) : Int) ∧ mx ≤ 40 := by
    by_cases e : (b.2 : Int) > 12
    · exact ⟨b.2, by rw [if_pos e], hb40⟩
    · exact ⟨12, by rw [if_neg e]; rfl, by omega⟩
  refine ⟨_, rfl, ?_⟩
  show -(2 ^ 62) ≤ (if (b.2 : Int) > 12 then (b.2 : Int) else 12) ∧ (if (b.2 : Int) > 12 then (b.2 : Int) else 12) < 2 ^ 62 ∧ _
  rw [hmx]
  refine ⟨by omega, by omega, ?_⟩
  have en : ((mx : Int)).toNat = mx := by omega
  rw [en]
  refine for_range (n := mx) (fun i σ H' => ∃ (st l : List Nat) (nd : Int) (e8 e9 e10 e11 e12 e13 : Option V), σ = [some (.ref t), some (.ref fa), some (.ref sa), some (nI s), some (.int 12), some (.ref S), some (.int nd), some (.ref L), e8, e9, e10, e11, e12, e13] ∧
      TR t sc H H' ∧ TapeOk H' t sc ∧ H' S = some (.lst (st.map nI)) ∧ (∀ g ∈ st, Bld fm g) ∧ st.length ≤ 1 + 3 * i ∧ H' L = some (.lst (l.map nI)) ∧ (∀ k ∈ l, k < fm.vars.length) ∧ l.length ≤ i)
    ⟨[s], [], b.2, none, none, none, none, none, none, rfl, k1.tr t sc, hT.ext k1.old, hSS1, fun g hg => (by rw [List.mem_singleton.mp hg]; exact ⟨hs, b, hb⟩), by simp, hLL, fun k hk => (nomatch hk), Nat.le_refl _⟩ (fun i σ H' hi h => ?_) (fun σ H' h => ?_)
  case refine_2 =>
    obtain ⟨st, l, nd, e8, e9, e10, e11, e12, e13, rfl, k, hT', hS', hst, hsl, hL', hl, hll⟩ := h
    exact ⟨_, rfl, L, _, rfl, .inl ⟨sql hL', fun r hr' => q r _ l (k.nw hr' _) (hT'.ext (Ex.new hr' _).old) upd_same hl (by omega)⟩⟩
  obtain ⟨st, l, nd, e8, e9, e10, e11, e12, e13, rfl, k, hT', hS', hst, hsl, hL', hl, hll⟩ := h
  refine ⟨_, rfl, _, .inl ⟨_, sql hS', rfl⟩, ?_⟩
  cases hem : (st.map nI).isEmpty with
  | true =>
    exact ite_tt ⟨_, rfl, L, _, rfl, .inl ⟨sql hL', fun r hr' => q r _ l (k.nw hr' _) (hT'.ext (Ex.new hr' _).old) upd_same hl (by omega)⟩⟩
  | false =>
  have hne0 : st ≠ [] := fun z => by rw [z] at hem; cases hem
  have hdl := List.dropLast_concat_getLast hne0
  have gB := hst _ (List.getLast_mem hne0)
  have hdm : ∀ g ∈ st.dropLast, Bld fm g := fun g hg => hst g (List.dropLast_subset _ hg)
  have hdll : st.dropLast.length + 1 = st.length := by rw [List.length_dropLast]; have := List.length_pos_iff.mpr hne0; omega
  have hpop : (st.map nI)[(st.map nI).length - 1]? = some (nI (st.getLast hne0)) := by
    rw [← List.getLast?_eq_getElem?, List.getLast?_map, List.getLast?_eq_some_getLast hne0]; rfl
  refine ite_ff ⟨_, rfl, ty_l hS', S, _, _, rfl, rfl, hS', hpop, ?_⟩
  rw [map_dropLast]
  generalize st.getLast hne0 = g at gB hpop hdl
  generalize st.dropLast = st' at hdm hdll hdl
  have kS : TR t sc H (upd H' S (.lst (st'.map nI))) := k.mut hS _
  have hTS := kS.tp hT
  have hSS2 : upd H' S (.lst (st'.map nI)) S = some (.lst (st'.map nI)) := upd_same
  have hLS2 : upd H' S (.lst (st'.map nI)) L = some (.lst (l.map nI)) := by rw [upd_ne hSL.symm]; exact hL'
  generalize upd H' S (.lst (st'.map nI)) = H2 at kS hTS hSS2 hLS2 ⊢
  obtain ⟨gl, w0, hw0⟩ := gB
  have saT : ∀ {A : Hp}, TR t sc H A → A sa = some (.lst sx) := fun kk => kk.e.old _ _ hne hsa
  refine ⟨_, rfl, _, rfl, _, rfl, szAt _ g w0 _ (saT kS) hw0 gl ⟨_, _, rfl, rfl, ?_⟩⟩
  refine ⟨(by show 0 ≤ sizeLine; decide), fun Ft hFt => ?_⟩
  have kF := kS.nw hFt (.lst [])
  have hTF := hTS.ext (Ex.new hFt (.lst [])).old
  have hFF : upd H2 Ft (.lst []) Ft = some (.lst []) := upd_same
  have hSF := (Ex.new hFt (.lst [])).old _ _ hSS2
  have hLF := (Ex.new hFt (.lst [])).old _ _ hLS2
  have hF0 : H2 Ft = none := hFt
  have hFtT : Ft ≠ t := (hTS.fr hF0).1
  have hFS : Ft ≠ S := (ne_of_none hSS2 hF0).symm
  have hFL : Ft ≠ L := (ne_of_none hLS2 hF0).symm
  generalize upd H2 Ft (.lst []) = H3 at kF hTF hFF hSF hLF ⊢
  have hFH : H Ft = none := kS.fr hF0
  have ts3 : ∀ {A : Hp}, TR t sc H A → Tps H A := fun kk => kk.ts hT
  refine ⟨_, rfl, q_ixT2 (ts3 kF _ _ h1) rfl ⟨bb, vs, rfl, .inr (sqt (ts3 kF _ _ h3)), _, rfl, by omega, by omega, ?_⟩⟩
  have en2 : ((vs.length : Int)).toNat = fm.vars.length := by omega
  rw [en2]
  -- what fits
  refine for_range (n := fm.vars.length) (fun j σ H4 => ∃ (ft : List Nat) (e11 e12 : Option V), σ = [some (.ref t), some (.ref fa), some (.ref sa), some (nI s), some (.int 12), some (.ref S), some (.int (nd - (w0.2 : Int))), some (.ref L), some (.int (0 + (i : Int))), some (nI g), some (.ref Ft), e11, e12, e13] ∧
      TR t sc H H4 ∧ TapeOk H4 t sc ∧ H4 S = some (.lst (st'.map nI)) ∧ H4 L = some (.lst (l.map nI)) ∧ H4 Ft = some (.lst (ft.map nI)) ∧ ft.length ≤ j ∧ (∀ c ∈ ft, c < fm.vars.length ∧ ∃ w, vw (tf (szs fm)) (vz (vAt fm c)) = some w) ∧
      (∀ c, c < j → (vAt fm c).plug = g → vw (tf (szs fm)) (vz (vAt fm c)) = some w0 → c ∈ ft))
    ⟨[], e11, e12, rfl, kF, hTF, hSF, hLF, hFF, Nat.le_refl _, fun c h => (nomatch h), fun c h => absurd h (by omega)⟩ (fun j σ H4 hj h => ?_) (fun σ H4 h => ?_)
  · obtain ⟨ft, e11, e12, rfl, k4, hT4, hS4, hL4, hF4, hfl, hf1, hf2⟩ := h
    have hv := vAt_get hj
    obtain ⟨cx, hcx, va⟩ := h4.get hv
    have va4 := va.ts (ts3 k4)
    obtain ⟨c, sl, rfl, hc, hsl'⟩ := va4
    have vslots := (wf.vars _ (List.mem_of_getElem? hv)).2.1
    rw [show (0 : Int) + (j : Int) = (j : Int) from Int.zero_add _]
    refine ⟨_, rfl, q_ixT2 (ts3 k4 _ _ h1) rfl ⟨_, rfl, q_ixT (ts3 k4 _ _ h3) hcx ⟨_, rfl, _, sa, sx, vAt fm j, szs fm, rfl, ⟨c, sl, rfl, hc, hsl'⟩, saT k4, als, by rw [hszl]; exact vslots, ?_⟩⟩⟩
    have skip : (∀ w, (vAt fm j).plug = g → vw (tf (szs fm)) (vz (vAt fm j)) = some w → w ≠ w0) → ∀ c, c < j + 1 → (vAt fm c).plug = g → vw (tf (szs fm)) (vz (vAt fm c)) = some w0 → c ∈ ft := fun h c hc hp hw => by
      by_cases e : c = j
      · subst e; exact absurd rfl (h w0 hp hw)
      · exact hf2 c (by omega) hp hw
    refine ⟨_, rfl, q_ixT2 (ts3 k4 _ _ h1) rfl ⟨_, rfl, q_ixT (ts3 k4 _ _ h3) hcx (q_ixT0 hc rfl ⟨_, rfl, rfl, _, rfl, ?_⟩)⟩⟩
    by_cases hp : (vAt fm j).plug = g
    case neg => exact ite_f (decide_eq_false fun z => hp (nI_eq z)) (ite_ff ⟨ft, _, _, rfl, k4, hT4, hS4, hL4, hF4, by omega, hf1, skip fun w h => absurd h hp⟩)
    refine ite_t (decide_eq_true (by rw [hp])) ⟨_, rfl, rfl, _, rfl, ?_⟩
    cases hw : vw (tf (szs fm)) (vz (vAt fm j)) with
    | none => exact ite_f rfl ⟨ft, _, _, rfl, k4, hT4, hS4, hL4, hF4, by omega, hf1, skip fun w _ h => by rw [hw] at h; cases h⟩
    | some a =>
      refine ite_tt ?_
      have add : tDrop (tBM K "list" rAppend (tVar 10) (tCons (tVar 11) tNil))
          { nx := fun σ H4 => ∃ (ft : List Nat) (e11 e12 : Option V), σ = [some (.ref t), some (.ref fa), some (.ref sa), some (nI s), some (.int 12), some (.ref S), some (.int (nd - (w0.2 : Int))), some (.ref L), some (.int (0 + (i : Int))), some (nI g), some (.ref Ft), e11, e12, e13] ∧
              TR t sc H H4 ∧ TapeOk H4 t sc ∧ H4 S = some (.lst (st'.map nI)) ∧ H4 L = some (.lst (l.map nI)) ∧ H4 Ft = some (.lst (ft.map nI)) ∧ ft.length ≤ j + 1 ∧ (∀ c ∈ ft, c < fm.vars.length ∧ ∃ w, vw (tf (szs fm)) (vz (vAt fm c)) = some w) ∧
              (∀ c, c < j + 1 → (vAt fm c).plug = g → vw (tf (szs fm)) (vz (vAt fm c)) = some w0 → c ∈ ft), rt := Q }
          [some (.ref t), some (.ref fa), some (.ref sa), some (nI s), some (.int 12), some (.ref S), some (.int (nd - (w0.2 : Int))), some (.ref L), some (.int (0 + (i : Int))), some (nI g), some (.ref Ft), some (nI j), some (nI a.2), e13] H4 := by
        have k5 := k4.mut hFH (.lst (ft.map nI ++ [nI j]))
        refine ⟨_, rfl, ty_l hF4, _, rfl, Ft, _, _, rfl, rfl, hF4, small1000 (by rw [List.length_map]; omega), ?_⟩
        refine ⟨ft ++ [j], _, _, rfl, k5, k5.tp hT, by rw [upd_ne hFS.symm]; exact hS4, by rw [upd_ne hFL.symm]; exact hL4, by rw [List.map_append]; exact upd_same, by rw [List.length_append, List.length_singleton]; omega, fun c hc => ?_, fun c hc hp' hw' => ?_⟩
        · rcases List.mem_append.mp hc with z | z
          · exact hf1 c z
          · rw [List.mem_singleton.mp z]; exact ⟨hj, a, hw⟩
        · by_cases e : c = j
          · exact List.mem_append_right _ (List.mem_singleton.mpr e)
          · exact List.mem_append_left _ (hf2 c (by omega) hp' hw')
      refine ⟨_, rfl, _, rfl, _, rfl, szAt _ g w0 _ (saT k4) hw0 gl ⟨rfl, _, rfl, ?_⟩⟩
      by_cases e : a.2 = w0.2
      · exact ite_t (decide_eq_true (congrArg nI e)) (ite_tt add)
      · refine ite_f (decide_eq_false fun z => e (nI_eq z)) ⟨_, rfl, L, _, rfl, .inl (sql hL4), _, rfl, _, _, rfl, rfl, _, rfl, _, _, rfl, rfl, _, rfl, _, _, rfl, rfl, _, rfl, ?_⟩
        by_cases le : (((l.map nI).length : Int) + (nd - (w0.2 : Int)) + (a.2 : Int)) ≤ 12
        · exact ite_t (decide_eq_true le) add
        · exact ite_f (decide_eq_false le) ⟨ft, _, _, rfl, k4, hT4, hS4, hL4, hF4, by omega, hf1, skip fun w _ h => fun z => e (by rw [hw] at h; rw [Option.some.inj h, z])⟩
  · obtain ⟨ft, e11, e12, rfl, k4, hT4, hS4, hL4, hF4, hfl, hf1, hf2⟩ := h
    have hft : ft ≠ [] := by
      obtain ⟨v, hv, hp, hw⟩ := (lw_fix (fz_wf wf)).att g w0 hw0
      obtain ⟨u, hu, rfl⟩ := List.mem_map.mp hv
      obtain ⟨c, hc, ec⟩ := List.mem_iff_getElem.mp hu
      have ev : vAt fm c = u := vAt_eq (by rw [List.getElem?_eq_getElem hc, ec])
      have := hf2 c hc (by rw [ev]; exact hp) (by rw [ev]; exact hw)
      intro z
      rw [z] at this; cases this
    have k4F : ∀ {A : Hp}, TR t sc H A → TapeOk A t sc := fun kk => kk.tp hT
    refine ⟨_, rfl, _, rfl, _, rfl, Ft, _, rfl, .inl (sql hF4), t, sc, (ft.map nI).length, rfl, hT4, by rw [List.length_map]; omega, fun d H5 k5 hT5 hd => ?_⟩
    have hd' : d < ft.length := by
      have := List.length_pos_iff.mpr hft
      rw [List.length_map] at hd; omega
    have k05 := k4.trans k5
    have hS5 := lsT k5 hSt.1 hS4
    have hL5 := lsT k5 hLt.1 hL4
    have hF5 := lsT k5 hFtT hF4
    obtain ⟨cl, a, ha⟩ := hf1 ft[d] (List.getElem_mem hd')
    refine q_ixL hF5 (by rw [List.getElem?_map, List.getElem?_eq_getElem hd']; rfl) ?_
    generalize ft[d] = c at cl ha
    -- the number is put
    refine ⟨_, rfl, ty_l hL5, _, rfl, L, _, _, rfl, rfl, hL5, small1000 (by rw [List.length_map]; omega), ?_⟩
    have k6 : TR t sc H (upd H5 L (.lst (l.map nI ++ [nI c]))) := k05.mut hL0 _
    have hL6 : upd H5 L (.lst (l.map nI ++ [nI c])) L = some (.lst ((l ++ [c]).map nI)) := by rw [List.map_append]; exact upd_same
    have hS6 : upd H5 L (.lst (l.map nI ++ [nI c])) S = some (.lst (st'.map nI)) := by rw [upd_ne hSL]; exact hS5
    generalize upd H5 L (.lst (l.map nI ++ [nI c])) = H6 at k6 hL6 hS6 ⊢
    have hv := vAt_get cl
    obtain ⟨cx, hcx, va⟩ := h4.get hv
    obtain ⟨cc, sl, rfl, hc, hsl'⟩ := va.ts (ts3 k6)
    have vinfo := wf.vars _ (List.mem_of_getElem? hv)
    refine ⟨_, rfl, _, rfl, q_ixT2 (ts3 k6 _ _ h1) rfl ⟨_, rfl, q_ixT (ts3 k6 _ _ h3) hcx ⟨_, rfl, _, sa, sx, vAt fm c, szs fm, rfl, ⟨cc, sl, rfl, hc, hsl'⟩, saT k6, als, by rw [hszl]; exact vinfo.2.1, ?_⟩⟩⟩
    rw [ha]
    refine ⟨_, _, rfl, rfl, _, _, rfl, rfl, ?_⟩
    -- its slots
    refine ⟨_, rfl, q_ixT2 (ts3 k6 _ _ h1) rfl ⟨_, rfl, q_ixT (ts3 k6 _ _ h3) hcx (q_ixT1 hc rfl ⟨sl, _, rfl, .inr ⟨sqt hsl', ?_⟩⟩)⟩⟩
    have hbld : ∀ s ∈ (vAt fm c).slots, Bld fm s := fun s hs => by
      obtain ⟨y, hy, _⟩ := vw_slots ha s hs
      exact ⟨vinfo.2.1 s hs, y, hy⟩
    have hsl3 := vinfo.2.2
    generalize (vAt fm c).slots = slots at hsl' hbld hsl3
    refine for_revT (xs := slots.map nI) (fun j σ H7 => ∃ (st2 : List Nat) (nd : Int) (e13 : Option V), σ = [some (.ref t), some (.ref fa), some (.ref sa), some (nI s), some (.int 12), some (.ref S), some (.int nd), some (.ref L), some (.int (0 + (i : Int))), some (nI g), some (.ref Ft), some (nI c), e12, e13] ∧
        TR t sc H H7 ∧ TapeOk H7 t sc ∧ Tps H6 H7 ∧ H7 S = some (.lst (st2.map nI)) ∧ (∀ g ∈ st2, Bld fm g) ∧ st2.length ≤ st'.length + j ∧ H7 L = some (.lst ((l ++ [c]).map nI)))
      ⟨st', _, _, rfl, k6, k4F k6, .refl _, hS6, hdm, Nat.le_refl _, hL6⟩ (fun j σ H7 h => by obtain ⟨_, _, _, _, _, _, t7, _⟩ := h; exact sqt (t7 _ _ hsl')) (fun j x σ H7 hj hx h => ?_) (fun σ H7 h => ?_)
    · obtain ⟨st2, nd2, e13, rfl, k7, hT7, t7, hS7, hb7, hl7, hL7⟩ := h
      obtain ⟨sx', hsx, rfl⟩ := map_at hx
      rw [List.length_map] at hj
      have k8 := k7.mut hS (.lst (st2.map nI ++ [nI sx']))
      refine ⟨_, rfl, ty_l hS7, _, rfl, S, _, _, rfl, rfl, hS7, small1000 (by rw [List.length_map]; omega), ?_⟩
      refine ⟨st2 ++ [sx'], nd2, _, rfl, k8, k8.tp hT, t7.trans (ts_lst hS7), by rw [List.map_append]; exact upd_same, fun g hg => ?_, by rw [List.length_append, List.length_singleton]; omega, by rw [upd_ne hSL.symm]; exact hL7⟩
      rcases List.mem_append.mp hg with z | z
      · exact hb7 g z
      · rw [List.mem_singleton.mp z]; exact hbld sx' (List.mem_of_getElem? hsx)
    · obtain ⟨st2, nd2, e13, rfl, k7, hT7, t7, hS7, hb7, hl7, hL7⟩ := h
      rw [List.length_map] at hl7
      refine ⟨st2, l ++ [c], nd2, _, _, _, _, _, _, rfl, k7, hT7, hS7, hb7, by omega, hL7, fun k hk => ?_, by rw [List.length_append, List.length_singleton]; omega⟩
      rcases List.mem_append.mp hk with z | z
      · exact hl k z
      · rw [List.mem_singleton.mp z]; exact cl
end
end K81
/-! ## WU -/
namespace K81
open PySem PySem.Spec PyProof.Rows L2

abbrev s_l_word : Stmt := topS 33
abbrev N_l_word : List Str := ["_law_tape_here", "_law_stem", "_law_letters", "_law_word_here", "_law_k"]
theorem sc_l_word : FnScope N_l_word ["_law_tape_here", "_law_stem"] (defScope s_l_word) := ⟨rfl, rfl, rfl, by decide +kernel, rfl, by decide +kernel, by decide +kernel⟩
-- slots: _law_tape_here:0 _law_stem:1 _law_letters:2 _law_word_here:3 _law_k:4   calls: _law_draw
abbrev s_l_words : Stmt := topS 34
abbrev N_l_words : List Str := ["_law_tape_here", "_law_top", "_law_stem", "_law_words_here", "_law_k", "_law_word_here"]
theorem sc_l_words : FnScope N_l_words ["_law_tape_here", "_law_top"] (defScope s_l_words) := ⟨rfl, rfl, rfl, by decide +kernel, rfl, by decide +kernel, by decide +kernel⟩
-- slots: _law_tape_here:0 _law_top:1 _law_stem:2 _law_words_here:3 _law_k:4 _law_word_here:5   calls: _law_word _law_draw
abbrev s_l_slot_words : Stmt := topS 37
abbrev N_l_slot_words : List Str := ["_law_tape_here", "_law_words_here", "_law_extra"]
theorem sc_l_slot_words : FnScope N_l_slot_words ["_law_tape_here"] (defScope s_l_slot_words) := ⟨rfl, rfl, rfl, by decide +kernel, rfl, by decide +kernel, by decide +kernel⟩
-- slots: _law_tape_here:0 _law_words_here:1 _law_extra:2   calls: _law_words
/-- a text of at most n signs, each a code point -/
structure SOk (n : Nat) (x : Str) : Prop where
  len : x.length ≤ n
  ok : PyData.strOk x = true
theorem SOk.app {n m : Nat} {x y : Str} (a : SOk n x) (b : SOk m y) : SOk (n + m) (x ++ y) := ⟨by rw [strLen_append]; have := a.len; have := b.len; omega, by
  have h1 := a.ok
  have h2 := b.ok
  unfold PyData.strOk at *
  show (x.cps ++ y.cps).all _ = true
  rw [Array.all_append, h1, h2]; rfl⟩
theorem SOk.le {n m : Nat} {x : Str} (a : SOk n x) (h : n ≤ m) : SOk m x := ⟨Nat.le_trans a.len h, a.ok⟩
def abc : Str := "abcdefghijklmnopqrstuvwxyzABCDEFGHIJKLMNOPQRSTUVWXYZ0123456789"
theorem abc_len : abc.cps.toList.length = 62 := by decide +kernel
theorem abc_all : ∀ c ∈ abc.cps.toList, c < 0x110000 := by decide +kernel
theorem abc_at {n : Nat} (h : n < 62) : ∃ c, atI abc.cps.toList ((n : Nat) : Int) = some c ∧ SOk 1 ⟨#[c]⟩ := by
  have hl : n < abc.cps.toList.length := by rw [abc_len]; exact h
  refine ⟨_, atI_nat (List.getElem?_eq_getElem hl), Nat.le_refl _, ?_⟩
  have := abc_all _ (List.getElem_mem hl)
  unfold PyData.strOk
  simpa using this
theorem q_abc {K : PySem.W.Frag} {H : Hp} {Q : VK} {n : Nat} (h : n < 62) (q : ∀ x, SOk 1 x → Q (.str x) H) : rIx K (.str abc) (nI n) H Q := by
  obtain ⟨c, hc, ok⟩ := abc_at h
  exact .inr (.inr ⟨abc, _, c, rfl, rfl, by decide +kernel, hc, q _ ok⟩)
theorem nodup_sub_len {α : Type} [DecidableEq α] : ∀ (l m : List α), l.Nodup → (∀ x ∈ l, x ∈ m) → l.length ≤ m.length
  | [], _, _, _ => Nat.zero_le _
  | x :: l, m, hn, hs => by
    have hx := hs x (List.mem_cons_self ..)
    obtain ⟨h1, h2⟩ := List.nodup_cons.mp hn
    have := nodup_sub_len l (m.erase x) h2 fun y hy => (List.mem_erase_of_ne fun e => h1 (by rw [← e]; exact hy)).mpr (hs y (List.mem_cons_of_mem _ hy))
    rw [List.length_erase_of_mem hx] at this
    have := List.length_pos_of_mem hx
    rw [List.length_cons]; omega
section
variable {P : Program} {w : World} {K : PySem.W.Frag} {mg : Str → Option Value} {base : Heap} {f : Addr} {fd : FuncData}
def spWord : Sp := fun vs H Q _ => ∃ (t sc : Addr) (stem : Str), vs = [.ref t, .str stem] ∧ TapeOk H t sc ∧ SOk 5 stem ∧ ∀ (x : Str) H', TR t sc H H' → TapeOk H' t sc → SOk 100 x → Q (.str x) H'
theorem ok_word (F : Fun K "_law_word" "_law_word" s_l_word f fd) (B : Blt mg) (c_l_draw : Cal P w K mg base 1 "_law_draw" ["_law_tape_here", "_law_menu"] spDraw) : FnOk P w K mg base CX0 2 f fd ["_law_tape_here", "_law_stem"] spWord := by
  refine F.ok sc_l_word (fun vs H Q E h => ?_) (fun cdv A outer s H vs Q E hr h => ?_)
  · obtain ⟨t, sc, stem, rfl, _⟩ := h
    rfl
  obtain ⟨t, sc, stem, rfl, hT, hst, q⟩ := h
  refine ⟨_, (pss_cons (ps_set (i := 2) sc_l_word.nd rfl (Or.inl rfl) pe_str)
  (pss_cons (ps_set (i := 3) sc_l_word.nd rfl (Or.inl rfl) (pe_op op_add_str (pv 1) (pe_ix ix_seq (pv 2) (pe_cal c_l_draw (hr.mono (by omega)) (by rfl) (pa_cons (pv 0) (pa_cons pe_int pa_nil))) (fun _ _ => rfl))))
  (pss_cons (ps_for PassesOwn.never rfl (pi_range1 (by rfl) B.range (pa_cons (pe_ix ix_seq (pe_lst (pa_cons pe_int (pa_cons pe_int (pa_cons pe_int (pa_cons pe_int (pa_cons pe_int (pa_cons pe_int pa_nil))))))) (pe_cal c_l_draw (hr.mono (by omega)) (by rfl) (pa_cons (pv 0) (pa_cons pe_int pa_nil))) (fun _ _ => rfl)) pa_nil)) (pg_name (i := 4) sc_l_word.nd rfl (Or.inl rfl)) (pss_one (ps_set (i := 3) sc_l_word.nd rfl (Or.inl rfl) (pe_op op_add_str (pv 3) (pe_ix ix_seq (pv 2) (pe_cal c_l_draw (hr.mono (by omega)) (by rfl) (pa_cons (pv 0) (pa_cons pe_int pa_nil))) (fun _ _ => rfl))))))
  (pss_cons (ps_if (pt_cmpR op_in_seq (pv 3) (pe_lst (pa_cons pe_str (pa_cons pe_str (pa_cons pe_str (pa_cons pe_str (pa_cons pe_str (pa_cons pe_str (pa_cons pe_str (pa_cons pe_str pa_nil))))))))) (by rfl)) (pss_one (ps_set (i := 3) sc_l_word.nd rfl (Or.inl rfl) (pe_op op_add_str (pv 3) pe_str))) pss_nil)
  (pss_one (ps_ret (pv 3))))))), ?_⟩
  have line : ∀ {x y : Str}, SOk 100 x → SOk 1 y → x.length + y.length ≤ sizeLine := fun a b => line_le (by have := a.len; have := b.len; omega)
  refine ⟨_, rfl, _, rfl, _, rfl, t, sc, 52, rfl, hT, by omega, fun n0 H1 k1 hT1 hn0 => q_abc (by omega) fun x0 ok0 => ⟨_, _, rfl, rfl, line (hst.le (by omega)) ok0, ?_⟩⟩
  refine ⟨(by show 6 ≤ sizeLine; decide), fun l6 hl6 => ⟨_, rfl, t, sc, 6, rfl, hT1.ext (Ex.new hl6 _).old, by omega, fun dn H2 k2 hT2 hdn => ?_⟩⟩
  have k02 : TR t sc H H2 := (k1.nw hl6 _).trans k2
  have h6 : H2 l6 = some (.lst [.int 0, .int 0, .int 1, .int 3, .int 0, .int 14]) := k2.e.old _ _ (hT1.fr hl6).1 upd_same
  obtain ⟨ns, hns, hns3⟩ : ∃ ns : Nat, ([.int 0, .int 0, .int 1, .int 3, .int 0, .int 14] : List V)[dn]? = some (nI ns) ∧ ns ≤ 14 := by
    have : dn < 6 := by omega
    match dn, this with
    | 0, _ => exact ⟨0, rfl, by omega⟩
    | 1, _ => exact ⟨0, rfl, by omega⟩
    | 2, _ => exact ⟨1, rfl, by omega⟩
    | 3, _ => exact ⟨3, rfl, by omega⟩
    | 4, _ => exact ⟨0, rfl, by omega⟩
    | 5, _ => exact ⟨14, rfl, by omega⟩
  refine q_ixL h6 hns ⟨_, rfl, by omega, by omega, ?_⟩
  have en : ((ns : Int)).toNat = ns := by omega
  rw [en]
  refine for_range (n := ns) (fun i σ H' => ∃ (x : Str) (e4 : Option V), σ = [some (.ref t), some (.str stem), some (.str abc), some (.str x), e4] ∧ TR t sc H H' ∧ TapeOk H' t sc ∧ SOk (6 + i) x)
    ⟨_, none, rfl, k02, hT2, (hst.app ok0).le (by omega)⟩ (fun i σ H' hi h => ?_) (fun σ H' h => ?_)
  · obtain ⟨x, e4, rfl, k, hT', ok⟩ := h
    exact ⟨_, rfl, _, rfl, _, rfl, t, sc, 62, rfl, hT', by omega, fun n1 H3 k3 hT3 hn1 => q_abc (by omega) fun y oky => ⟨_, _, rfl, rfl, line (ok.le (by omega)) oky, _, _, rfl, k.trans k3, hT3, (ok.app oky).le (by omega)⟩⟩
  · obtain ⟨x, e4, rfl, k, hT', ok⟩ := h
    refine ⟨_, rfl, (by show 8 ≤ sizeLine; decide), fun l hl => ⟨l, _, rfl, .inl (sql upd_same), rfl, rfl, _, rfl, ?_⟩⟩
    have kx := Ex.new hl (.lst [.str "and", .str "or", .str "not", .str "implies", .str "true", .str "false", .str "plug", .str "component"])
    have k2 := k.trans (kx.tr t sc)
    have ok0' : SOk 1 ("0" : Str) := ⟨by decide +kernel, by decide +kernel⟩
    have fin1 := q x _ k2 (hT'.ext kx.old) (ok.le (by omega))
    have fin2 := q (x ++ "0") _ k2 (hT'.ext kx.old) ((ok.app ok0').le (by omega))
    refine ite2 (fun c => ?_) (fun c => ?_)
    · exact ⟨_, rfl, _, _, rfl, rfl, line (ok.le (by omega)) ok0', _, rfl, fin2⟩
    · exact ⟨_, rfl, fin1⟩
def spWords : Sp := fun vs H Q _ => ∃ (t sc : Addr), vs = [.ref t, .int 5] ∧ TapeOk H t sc ∧ ∀ r H' (l : List Str), TR t sc H H' → TapeOk H' t sc → H r = none → H' r = some (.lst (l.map V.str)) → (∀ x ∈ l, SOk 100 x) → l.Nodup → l.length ≤ 5 → Q (.ref r) H'
theorem ok_words (F : Fun K "_law_words" "_law_words" s_l_words f fd) (B : Blt mg) (c_l_draw : Cal P w K mg base 1 "_law_draw" ["_law_tape_here", "_law_menu"] spDraw) (c_l_word : Cal P w K mg base 2 "_law_word" ["_law_tape_here", "_law_stem"] spWord) : FnOk P w K mg base CX0 3 f fd ["_law_tape_here", "_law_top"] spWords := by
  refine F.ok sc_l_words (fun vs H Q E h => ?_) (fun cdv A outer s H vs Q E hr h => ?_)
  · obtain ⟨t, sc, rfl, _⟩ := h
    rfl
  obtain ⟨t, sc, rfl, hT, q⟩ := h
  refine ⟨_, (pss_cons (ps_set (i := 2) sc_l_words.nd rfl (Or.inl rfl) (pe_ix ix_seq (pe_lst (pa_cons pe_str (pa_cons pe_str (pa_cons pe_str (pa_cons pe_str (pa_cons pe_str (pa_cons pe_str (pa_cons pe_str (pa_cons pe_str pa_nil))))))))) (pe_cal c_l_draw (hr.mono (by omega)) (by rfl) (pa_cons (pv 0) (pa_cons pe_int pa_nil))) (fun _ _ => rfl)))
  (pss_cons (ps_set (i := 3) sc_l_words.nd rfl (Or.inl rfl) (pe_lst pa_nil))
  (pss_cons (ps_for PassesOwn.never rfl (pi_range1 (by rfl) B.range (pa_cons (pv 1) pa_nil)) (pg_name (i := 4) sc_l_words.nd rfl (Or.inl rfl)) (pss_cons (ps_set (i := 5) sc_l_words.nd rfl (Or.inl rfl) (pe_cal c_l_word (hr.mono (by omega)) (by rfl) (pa_cons (pv 0) (pa_cons (pv 2) pa_nil))))
  (pss_one (ps_if (pt_cmpR op_notIn_seq (pv 5) (pv 3) (by rfl)) (pss_one (ps_expr (pe_bm PySem.F.plainAttrs_list PySem.F.slot_list_append PySem.F.type_list_append mt_append (pv 3) (pa_cons (pv 5) pa_nil)))) pss_nil))))
  (pss_one (ps_ret (pv 3)))))), ?_⟩
  refine ⟨(by show 8 ≤ sizeLine; decide), fun l8 hl8 => ⟨_, rfl, t, sc, 8, rfl, hT.ext (Ex.new hl8 _).old, by omega, fun dn H1 k1 hT1 hdn => ?_⟩⟩
  have k01 : TR t sc H H1 := ((TR.refl t sc _).nw hl8 _).trans k1
  have h8 : H1 l8 = some (.lst [.str "", .str "", .str "", .str "notch", .str "or", .str "plug", .str "trueA", .str "b"]) := k1.e.old _ _ (hT.fr hl8).1 upd_same
  obtain ⟨stem, hst, sok⟩ : ∃ stem : Str, ([.str "", .str "", .str "", .str "notch", .str "or", .str "plug", .str "trueA", .str "b"] : List V)[dn]? = some (.str stem) ∧ SOk 5 stem := by
    have : dn < 8 := by omega
    match dn, this with
    | 0, _ => exact ⟨"", rfl, by decide +kernel, by decide +kernel⟩
    | 1, _ => exact ⟨"", rfl, by decide +kernel, by decide +kernel⟩
    | 2, _ => exact ⟨"", rfl, by decide +kernel, by decide +kernel⟩
    | 3, _ => exact ⟨"notch", rfl, by decide +kernel, by decide +kernel⟩
    | 4, _ => exact ⟨"or", rfl, by decide +kernel, by decide +kernel⟩
    | 5, _ => exact ⟨"plug", rfl, by decide +kernel, by decide +kernel⟩
    | 6, _ => exact ⟨"trueA", rfl, by decide +kernel, by decide +kernel⟩
    | 7, _ => exact ⟨"b", rfl, by decide +kernel, by decide +kernel⟩
  refine q_ixL h8 hst ⟨(by show 0 ≤ sizeLine; decide), fun L hL => ⟨_, rfl, _, rfl, by omega, by omega, ?_⟩⟩
  have hL0 : H L = none := k01.fr hL
  have hLt := hT.fr hL0
  have k02 := k01.nw hL (.lst [])
  refine for_range (n := 5) (fun i σ H' => ∃ (l : List Str) (e4 e5 : Option V), σ = [some (.ref t), some (.int 5), some (.str stem), some (.ref L), e4, e5] ∧ TR t sc H H' ∧ TapeOk H' t sc ∧ H' L = some (.lst (l.map V.str)) ∧ (∀ x ∈ l, SOk 100 x) ∧ l.Nodup ∧ l.length ≤ i)
    ⟨[], none, none, rfl, k02, k02.tp hT, upd_same, fun x h => (nomatch h), List.nodup_nil, Nat.le_refl _⟩ (fun i σ H' hi h => ?_) (fun σ H' h => ?_)
  · obtain ⟨l, e4, e5, rfl, k, hT', hl, ok, nd, ll⟩ := h
    refine ⟨_, rfl, _, rfl, t, sc, stem, rfl, hT', sok, fun x H3 k3 hT3 xok => ?_⟩
    have k03 := k.trans k3
    have hl3 : H3 L = some (.lst (l.map V.str)) := k3.e.old _ _ hLt.1 hl
    refine ⟨_, rfl, _, rfl, L, _, rfl, .inl (sql hl3), rfl, flat_strs l, _, rfl, ?_⟩
    by_cases hin : x ∈ l
    · exact ite_f (by show (!inV _ _) = false; rw [(in_str _ _).mpr hin]; rfl) ⟨l, _, _, rfl, k03, hT3, hl3, ok, nd, by omega⟩
    · refine ite_t (by show (!inV _ _) = true; rw [Bool.eq_false_iff.mpr fun z => hin ((in_str _ _).mp z)]; rfl) ⟨_, rfl, ty_l hl3, _, rfl, L, _, _, rfl, rfl, hl3, small1000 (by rw [List.length_map]; omega), ?_⟩
      have k4 := k03.mut hL0 (.lst (l.map V.str ++ [.str x]))
      refine ⟨l ++ [x], _, _, rfl, k4, k4.tp hT, by rw [List.map_append]; exact upd_same, fun y hy => ?_, ?_, by rw [List.length_append, List.length_singleton]; omega⟩
      · rcases List.mem_append.mp hy with z | z
        · exact ok y z
        · rw [List.mem_singleton.mp z]; exact xok
      · refine List.nodup_append.mpr ⟨nd, by simp, fun a ha b hb => ?_⟩
        rw [List.mem_singleton.mp hb]
        intro e; exact hin (by rw [← e]; exact ha)
  · obtain ⟨l, e4, e5, rfl, k, hT', hl, ok, nd, ll⟩ := h
    exact ⟨_, rfl, q L H' l k hT' hL0 hl ok nd ll⟩
def spSWords : Sp := fun vs H Q _ => ∃ (t sc : Addr), vs = [.ref t] ∧ TapeOk H t sc ∧ ∀ r H' (l : List Str), TR t sc H H' → TapeOk H' t sc → H r = none → H' r = some (.lst (l.map V.str)) → (∀ x ∈ l, SOk 100 x) → l.Nodup → l.length = 4 → Q (.ref r) H'
theorem ok_slot_words (F : Fun K "_law_slot_words" "_law_slot_words" s_l_slot_words f fd) (B : Blt mg) (c_l_words : Cal P w K mg base 3 "_law_words" ["_law_tape_here", "_law_top"] spWords) : FnOk P w K mg base CX0 4 f fd ["_law_tape_here"] spSWords := by
  refine F.ok sc_l_slot_words (fun vs H Q E h => ?_) (fun cdv A outer s H vs Q E hr h => ?_)
  · obtain ⟨t, sc, rfl, _⟩ := h
    rfl
  obtain ⟨t, sc, rfl, hT, q⟩ := h
  refine ⟨_, (pss_cons (ps_set (i := 1) sc_l_slot_words.nd rfl (Or.inl rfl) (pe_cal c_l_words (hr.mono (by omega)) (by rfl) (pa_cons (pv 0) (pa_cons pe_int pa_nil))))
  (pss_cons (ps_for PassesOwn.never rfl (pi_seq (pe_lst (pa_cons pe_str (pa_cons pe_str (pa_cons pe_str (pa_cons pe_str (pa_cons pe_str pa_nil))))))) (pg_name (i := 2) sc_l_slot_words.nd rfl (Or.inl rfl)) (pss_one (ps_if (PW.pt (pw_and (pt_cmpR op_lt (pe_callB call_len_seq (by rfl) B.len (by decide +kernel) (pa_cons (pv 1) pa_nil)) pe_int (nomark _)) (pw_and1 (pt_cmpR op_notIn_seq (pv 2) (pv 1) (by rfl))))) (pss_one (ps_expr (pe_bm PySem.F.plainAttrs_list PySem.F.slot_list_append PySem.F.type_list_append mt_append (pv 1) (pa_cons (pv 2) pa_nil)))) pss_nil)))
  (pss_one (ps_ret (pe_slice sl_list (pv 1) po_none (po_some pe_int)))))), ?_⟩
  refine ⟨_, rfl, t, sc, rfl, hT, fun L H1 l0 k1 hT1 hL0 hL1 ok0 nd0 ll0 => ?_⟩
  have hLt := hT.fr hL0
  let ex : List Str := ["x", "y0", "slot", "top", "end"]
  have exok : ∀ x ∈ ex, SOk 100 x := by
    intro x hx
    simp only [ex, List.mem_cons, List.not_mem_nil, or_false] at hx
    rcases hx with rfl | rfl | rfl | rfl | rfl <;> exact ⟨by decide +kernel, by decide +kernel⟩
  have exnd : ex.Nodup := by decide +kernel
  refine .inl ⟨(by show 5 ≤ sizeLine; decide), fun X hX => ⟨X, rfl, ⟨_, sql upd_same⟩, ?_⟩⟩
  have hX0 : H1 X = none := hX
  have hXL : X ≠ L := (ne_of_none hL1 hX0).symm
  have kX := k1.nw hX (.lst (ex.map V.str))
  refine for_list (xs := ex.map V.str) (fun i σ H' => ∃ (l : List Str) (e2 : Option V), σ = [some (.ref t), some (.ref L), e2] ∧ TR t sc H H' ∧ TapeOk H' t sc ∧ H' X = some (.lst (ex.map V.str)) ∧ H' L = some (.lst (l.map V.str)) ∧ (∀ x ∈ l, SOk 100 x) ∧ l.Nodup ∧ l.length ≤ 5 + i ∧ (4 ≤ l.length ∨ ∀ x ∈ ex.take i, x ∈ l))
    ⟨l0, none, rfl, kX, kX.tp hT, upd_same, (Ex.new hX _).old _ _ hL1, ok0, nd0, by omega, .inr fun x h => (nomatch h)⟩ (fun i σ H' _ h => by obtain ⟨_, _, _, _, _, k, _⟩ := h; exact sql k) (fun i x σ H' hx h => ?_) (fun σ H' h => ?_)
  · obtain ⟨l, e2, rfl, k, hT', hX', hl, ok, nd, ll, hc⟩ := h
    obtain ⟨x, hx', rfl⟩ := map_at hx
    have hi5 : i < 5 := (List.getElem?_eq_some_iff.mp hx').1
    have xm : x ∈ ex := List.mem_of_getElem? hx'
    refine ⟨_, rfl, L, _, rfl, .inl (sql hl), _, _, rfl, rfl, _, rfl, ?_⟩
    by_cases lt : (((l.map V.str).length : Nat) : Int) < 4
    · refine ite_t (decide_eq_true lt) ⟨_, rfl, _, rfl, L, _, rfl, .inl (sql hl), rfl, flat_strs l, _, rfl, ?_⟩
      have lt4 : l.length < 4 := by rw [List.length_map] at lt; omega
      have hall : ∀ x ∈ ex.take i, x ∈ l := hc.resolve_left (by omega)
      by_cases hin : x ∈ l
      · refine ite_f (by show (!inV _ _) = false; rw [(in_str _ _).mpr hin]; rfl) ⟨l, _, rfl, k, hT', hX', hl, ok, nd, by omega, .inr fun y hy => ?_⟩
        rw [take_succ_some hx'] at hy
        rcases List.mem_append.mp hy with z | z
        · exact hall y z
        · rw [List.mem_singleton.mp z]; exact hin
      · refine ite_t (by show (!inV _ _) = true; rw [Bool.eq_false_iff.mpr fun z => hin ((in_str _ _).mp z)]; rfl) ⟨_, rfl, ty_l hl, _, rfl, L, _, _, rfl, rfl, hl, small1000 (by rw [List.length_map]; omega), ?_⟩
        have k4 := k.mut hL0 (.lst (l.map V.str ++ [.str x]))
        refine ⟨l ++ [x], _, rfl, k4, k4.tp hT, by rw [upd_ne hXL]; exact hX', by rw [List.map_append]; exact upd_same, fun y hy => ?_, ?_, by rw [List.length_append, List.length_singleton]; omega, .inr fun y hy => ?_⟩
        · rcases List.mem_append.mp hy with z | z
          · exact ok y z
          · rw [List.mem_singleton.mp z]; exact exok x xm
        · refine List.nodup_append.mpr ⟨nd, by simp, fun a ha b hb => ?_⟩
          rw [List.mem_singleton.mp hb]
          intro e; exact hin (by rw [← e]; exact ha)
        · rw [take_succ_some hx'] at hy
          rcases List.mem_append.mp hy with z | z
          · exact List.mem_append_left _ (hall y z)
          · exact List.mem_append_right _ z
    · refine ite_f (decide_eq_false lt) (ite_ff ⟨l, _, rfl, k, hT', hX', hl, ok, nd, by omega, .inl (by rw [List.length_map] at lt; omega)⟩)
  · obtain ⟨l, e2, rfl, k, hT', hX', hl, ok, nd, ll, hc⟩ := h
    have l4 : 4 ≤ l.length := by
      rcases hc with hc | hc
      · exact hc
      · have := nodup_sub_len ex l exnd fun x hx => hc x (by simpa [ex] using hx)
        have : ex.length = 5 := rfl
        omega
    refine ⟨_, rfl, _, rfl, L, _, rfl, sql hl, fun p hp => ?_⟩
    have e : cutV (l.map V.str) none (some 4) = (l.take 4).map V.str := by
      rw [show (some (4 : Int)) = some ((4 : Nat) : Int) from rfl, cut_take, List.map_take]
    refine q p _ (l.take 4) (k.nw hp _) (hT'.ext (Ex.new hp _).old) (k.fr hp) (by rw [← e]; exact upd_same) (fun x hx => ok x (List.mem_of_mem_take hx)) (nd.sublist (List.take_sublist 4 l)) (by rw [List.length_take]; omega)
end
end K81
/-! ## WV -/
namespace K81
open PySem PySem.Spec PyProof.Rows L2

abbrev s_l_names : Stmt := topS 38
abbrev N_l_names : List Str := ["_law_tape_here", "_law_family_here", "_law_words_here", "_law_names_here", "_law_variant", "_law_turn", "_law_k"]
theorem sc_l_names : FnScope N_l_names ["_law_tape_here", "_law_family_here", "_law_words_here"] (defScope s_l_names) := ⟨rfl, rfl, rfl, by decide +kernel, rfl, by decide +kernel, by decide +kernel⟩
-- slots: _law_tape_here:0 _law_family_here:1 _law_words_here:2 _law_names_here:3 _law_variant:4 _law_turn:5 _law_k:6   cells: _law_turn _law_words_here   calls: _law_draw
theorem fs_lst {H : Hp} {p : Addr} {xs ys : List V} (h : H p = some (.lst xs)) : Fzs H (upd H p (.lst ys)) := fun b o u q => by rw [upd_ne (ne_of q h (by intro z; cases z))]; exact q
/-- a variant's slot names -/
def nmOf (l : List Str) (tn n : Nat) : List Str := (List.range n).filterMap fun k => l[(tn + k) % 4]?
theorem nmOf_ok {l : List Str} (h4 : l.length = 4) (nd : l.Nodup) {tn n : Nat} (ht : tn ≤ 2) (hn : n ≤ 3) : (nmOf l tn n).length = n ∧ (nmOf l tn n).Nodup ∧ ∀ x ∈ nmOf l tn n, x ∈ l := by
  match l, h4 with
  | [a, b, c, d], _ =>
    have hab : a ≠ b ∧ a ≠ c ∧ a ≠ d ∧ b ≠ c ∧ b ≠ d ∧ c ≠ d := by
      simp at nd; obtain ⟨⟨h1, h2, h3⟩, ⟨h4, h5⟩, h6⟩ := nd; exact ⟨h1, h2, h3, h4, h5, h6⟩
    obtain ⟨h1, h2, h3, h4, h5, h6⟩ := hab
    have e3 : List.range 3 = [0, 1, 2] := rfl
    have e2 : List.range 2 = [0, 1] := rfl
    have e1 : List.range 1 = [0] := rfl
    refine ⟨?_, ?_, fun x hx => ?_⟩
    · unfold nmOf
      match tn, ht, n, hn with
      | 0, _, 0, _ => rfl
      | 0, _, 1, _ => rfl
      | 0, _, 2, _ => rfl
      | 0, _, 3, _ => rfl
      | 1, _, 0, _ => rfl
      | 1, _, 1, _ => rfl
      | 1, _, 2, _ => rfl
      | 1, _, 3, _ => rfl
      | 2, _, 0, _ => rfl
      | 2, _, 1, _ => rfl
      | 2, _, 2, _ => rfl
      | 2, _, 3, _ => rfl
    · have key : ∀ m : List Str, nmOf [a, b, c, d] tn n = m → m.Nodup → (nmOf [a, b, c, d] tn n).Nodup := fun m e h => by rw [e]; exact h
      match tn, ht, n, hn with
      | 0, _, 0, _ => exact List.nodup_nil
      | 0, _, 1, _ => exact key [a] rfl (by simp)
      | 0, _, 2, _ => exact key [a, b] rfl (by simp [h1])
      | 0, _, 3, _ => exact key [a, b, c] rfl (by simp [h1, h2, h4])
      | 1, _, 0, _ => exact List.nodup_nil
      | 1, _, 1, _ => exact key [b] rfl (by simp)
      | 1, _, 2, _ => exact key [b, c] rfl (by simp [h4])
      | 1, _, 3, _ => exact key [b, c, d] rfl (by simp [h4, h5, h6])
      | 2, _, 0, _ => exact List.nodup_nil
      | 2, _, 1, _ => exact key [c] rfl (by simp)
      | 2, _, 2, _ => exact key [c, d] rfl (by simp [h6])
      | 2, _, 3, _ => exact key [c, d, a] rfl (by simp [h6, h2.symm, h3.symm])
    · obtain ⟨k, _, e⟩ := List.mem_filterMap.mp hx
      exact List.mem_of_getElem? e
section
variable {P : Program} {w : World} {K : PySem.W.Frag} {mg : Str → Option Value} {base : Heap} {f : Addr} {fd : FuncData}
def spNames : Sp := fun vs H Q _ => ∃ (t sc fa wa : Addr) (fm : Fm) (l : List Str), vs = [.ref t, .ref fa, .ref wa] ∧ TapeOk H t sc ∧ FamAt H fa fm ∧ fm.Wf ∧ wa ≠ t ∧ H wa = some (.lst (l.map V.str)) ∧ (∀ x ∈ l, SOk 100 x) ∧ l.Nodup ∧ l.length = 4 ∧
  ∀ na H' (names : List (List Str)), TR t sc H H' → TapeOk H' t sc → GivenN H' fa na fm names → Q (.ref na) H'
theorem ok_names (F : Fun K "_law_names" "_law_names" s_l_names f fd) (B : Blt mg) (c_l_draw : Cal P w K mg base 1 "_law_draw" ["_law_tape_here", "_law_menu"] spDraw) : FnOk P w K mg base CX0 2 f fd ["_law_tape_here", "_law_family_here", "_law_words_here"] spNames := by
  refine F.ok sc_l_names (fun vs H Q E h => ?_) (fun cdv A outer s H vs Q E hr h => ?_)
  · obtain ⟨t, sc, fa, wa, fm, l, rfl, _⟩ := h
    rfl
  obtain ⟨t, sc, fa, wa, fm, l, rfl, hT, hf, wf, hwt, hwa, sok, nd, l4, q⟩ := h
  refine ⟨_, (pss_cons (ps_set (i := 3) sc_l_names.nd rfl (Or.inl rfl) (pe_lst pa_nil))
  (pss_cons (ps_for PassesOwn.never rfl (pi_seq (pe_ix ix_seq (pv 1) pe_int (fun _ _ => rfl))) (pg_name (i := 4) sc_l_names.nd rfl (Or.inl rfl)) (pss_cons (ps_set (i := 5) sc_l_names.nd rfl (Or.inr rfl) (pe_ix ix_seq (pe_lst (pa_cons pe_int (pa_cons pe_int (pa_cons pe_int (pa_cons pe_int pa_nil))))) (pe_cal c_l_draw (hr.mono (by omega)) (by rfl) (pa_cons (pv 0) (pa_cons pe_int pa_nil))) (fun _ _ => rfl)))
  (pss_one (ps_expr (pe_bm PySem.F.plainAttrs_list PySem.F.slot_list_append PySem.F.type_list_append mt_append (pv 3) (pa_cons (pe_callTy call_tupF (by rfl) B.tuple (by decide +kernel) (pa_cons (pe_lc (own := [("_law_k", 6)]) rfl sc_l_names.nd (pi_range1 (by rfl) B.range (pa_cons (pe_callB call_len_seq (by rfl) B.len (by decide +kernel) (pa_cons (pe_ix ix_seq (pv 4) pe_int (fun _ _ => rfl)) pa_nil)) pa_nil)) (blkOk_by (N := N_l_names) (sc := defScope s_l_names) (by decide +kernel)) (fun _ _ _ _ _ => (pg_name (i := 6) sc_l_names.nd rfl (Or.inl rfl))) (fun _ _ _ _ _ => pts_nil) (fun _ _ _ _ _ => (pe_ix (r := rIx K) ix_seq (pv 2) (pe_op op_modN (pe_callTy call_int1 (by rfl) B.int (by decide +kernel) (pa_cons (pe_op op_add (pv 5) (pv 6)) pa_nil)) pe_int) (fun _ _ => rfl)))) pa_nil)) pa_nil))))))
  (pss_one (ps_ret (pe_callTy call_tuple_of (by rfl) B.tuple (by decide +kernel) (pa_cons (pv 3) pa_nil)))))), ?_⟩
  obtain ⟨rr, bb, vs, h1, h2, h3, h4⟩ := hf.ex
  have hnv := wf.nv
  refine ⟨(by show 0 ≤ sizeLine; decide), fun L hL => ?_⟩
  have hL0 : H L = none := hL
  have hLt := hT.fr hL0
  have kL : TR t sc H (upd H L (.lst [])) := (TR.refl t sc _).nw hL _
  have wsT : ∀ {A : Hp}, TR t sc H A → A wa = some (.lst (l.map V.str)) := fun kk => kk.e.old _ _ hwt hwa
  refine .inr ⟨_, rfl, q_ixT2 (kL.ts hT _ _ h1) rfl ⟨bb, rfl, ⟨_, sqt (kL.ts hT _ _ h3)⟩, for_tup (xs := vs) (fun i σ H' => ∃ (xs : List V) (names : List (List Str)) (e4 e5 e6 : Option V), σ = [some (.ref t), some (.ref fa), some (.ref wa), some (.ref L), e4, e5, e6] ∧ TR t sc H H' ∧ TapeOk H' t sc ∧ H' L = some (.lst xs) ∧ All2 (NmAt H') xs names ∧
      names.length = i ∧ (∀ nm ∈ names, nm.length ≤ 3 ∧ WsOk nm ∧ nm.Nodup) ∧ ∀ k v, k < i → fm.vars[k]? = some v → (names.getD k []).length = v.slots.length)
    ⟨[], [], none, none, none, rfl, kL, kL.tp hT, upd_same, .nil, rfl, fun nm h => (nomatch h), fun k v h => absurd h (by omega)⟩ (fun i σ H' _ h => by obtain ⟨_, _, _, _, _, _, k, _⟩ := h; exact sqt (k.ts hT _ _ h3)) (fun i x σ H' hx h => ?_) (fun σ H' h => ?_)⟩⟩
  · obtain ⟨xs, names, e4, e5, e6, rfl, k, hT', hl, al, nl, nok, nln⟩ := h
    obtain ⟨v, hv, va⟩ := h4.getL hx
    have vi := wf.vars v (List.mem_of_getElem? hv)
    have hi : i < fm.vars.length := (List.getElem?_eq_some_iff.mp hv).1
    obtain ⟨c, sl, rfl, hc, hsl⟩ := va
    refine ⟨(by show 4 ≤ sizeLine; decide), fun l4' hl4' => ⟨_, rfl, t, sc, 4, rfl, hT'.ext (Ex.new hl4' _).old, by omega, fun dn H2 k2 hT2 hdn => ?_⟩⟩
    have k2' : TR t sc H' H2 := ((TR.refl t sc _).nw hl4' _).trans k2
    have h4' : H2 l4' = some (.lst [.int 0, .int 0, .int 1, .int 2]) := k2.e.old _ _ (hT'.fr hl4').1 upd_same
    obtain ⟨tn, htn, tn2⟩ : ∃ tn : Nat, ([.int 0, .int 0, .int 1, .int 2] : List V)[dn]? = some (nI tn) ∧ tn ≤ 2 := by
      have : dn < 4 := by omega
      match dn, this with
      | 0, _ => exact ⟨0, rfl, by omega⟩
      | 1, _ => exact ⟨0, rfl, by omega⟩
      | 2, _ => exact ⟨1, rfl, by omega⟩
      | 3, _ => exact ⟨2, rfl, by omega⟩
    have k02 := k.trans k2'
    have hl2 : H2 L = some (.lst xs) := k2'.e.old _ _ hLt.1 hl
    have T2 := k02.ts hT
    refine q_ixL h4' htn ⟨_, rfl, ty_l hl2, ?_⟩
    refine ⟨_, rfl, q_ixT1 (T2 _ _ hc) rfl ⟨sl, _, rfl, .inr (sqt (T2 _ _ hsl)), _, rfl, by rw [List.length_map]; omega, by rw [List.length_map]; omega, fun D hD => ?_⟩⟩
    have en : (((List.map nI v.slots).length : Int)).toNat = v.slots.length := by rw [List.length_map]; omega
    rw [en]
    refine lc_gR (prEx H2) (R := fun _ y (x : Str) => y = V.str x) (fun _ _ _ _ _ z => z) (n := v.slots.length) (φ := fun k => l[(tn + k) % 4]?) (small1000 (by omega)) hD (fun j H3 hj k3 N no yes => ?_) (fun H3 acc k3 ha3 al3 => ?_)
    · have em : ((tn : Int) + (j : Int)).fmod 4 = (((tn + j) % 4 : Nat) : Int) := by
        rw [Int.fmod_eq_emod_of_nonneg _ (by decide)]; omega
      have hlt : (tn + j) % 4 < l.length := by rw [l4]; exact Nat.mod_lt _ (by decide)
      refine ⟨rfl, _, rfl, _, rfl, _, rfl, _, _, rfl, rfl, .inl ⟨_, rfl, _, _, rfl, rfl, (by show (4 : Int) ≠ 0; decide), ?_⟩⟩
      show rIx K (.ref wa) (.int (((tn : Int) + (j : Int)).fmod 4)) H3 _
      rw [em]
      exact q_ixL (k3.old _ _ (wsT k02)) (by rw [List.getElem?_map, List.getElem?_eq_getElem hlt]; rfl) (yes _ _ _ (.refl _) (List.getElem?_eq_getElem hlt) rfl)
    · obtain rfl := l_strs al3
      have nmok := nmOf_ok l4 nd tn2 vi.2.2
      refine ⟨D, _, rfl, sql ha3, fun r o hr' hd0 => ?_⟩
      have kr : Ex H2 (upd H3 r (.frz o (.tup ((nmOf l tn v.slots.length).map V.str)))) := k3.nw hr' _
      have hfz : upd H3 r (.frz o (.tup ((nmOf l tn v.slots.length).map V.str))) r = some (.frz o (.tup ((nmOf l tn v.slots.length).map V.str))) := upd_same
      have k04 := k02.trans (kr.tr t sc)
      have k24 := k2'.trans (kr.tr t sc)
      have hl4 := kr.old _ _ hl2
      refine ⟨L, _, _, rfl, rfl, hl4, small1000 (by rw [al.len, nl]; omega), ?_⟩
      have k5 := k04.mut hL0 (.lst (xs ++ [.ref r]))
      have F4 : Fzs H' (upd (upd H3 r (.frz o (.tup ((nmOf l tn v.slots.length).map V.str)))) L (.lst (xs ++ [.ref r]))) := fun b o u h => fs_lst hl4 _ _ _ (k24.fs hT' _ _ _ h)
      refine ⟨_, names ++ [nmOf l tn v.slots.length], _, _, _, rfl, k5, k5.tp hT, upd_same, (al.mono fun _ _ z => z.fs F4).snoc ⟨r, o, rfl, fs_lst hl4 _ _ _ hfz, hd0⟩, by rw [List.length_append, List.length_singleton, nl], fun y hy => ?_, fun kk u hk hu => ?_⟩
      · rcases List.mem_append.mp hy with z | z
        · exact nok y z
        · rw [List.mem_singleton.mp z]
          exact ⟨by rw [nmok.1]; exact vi.2.2, fun x hx => (sok x (nmok.2.2 x hx)).ok, nmok.2.1⟩
      · by_cases e : kk = i
        · subst e
          have : u = v := by rw [hv] at hu; exact (Option.some.inj hu).symm
          subst this
          rw [List.getD_eq_getElem?_getD, List.getElem?_append_right (by omega), nl, Nat.sub_self]
          exact nmok.1
        · rw [List.getD_eq_getElem?_getD, List.getElem?_append_left (by omega), ← List.getD_eq_getElem?_getD]
          exact nln kk u (by omega) hu
  · obtain ⟨xs, names, e4, e5, e6, rfl, k, hT', hl, al, nl, nok, nln⟩ := h
    have hvl : vs.length = fm.vars.length := h4.len
    refine ⟨_, rfl, L, _, rfl, .inl ⟨sql hl, fun r hr' => ?_⟩⟩
    have kx := Ex.new hr' (.tup xs)
    have k2 := k.nw hr' (.tup xs)
    exact q r _ names k2 (k2.tp hT) ⟨hf.ts (k2.ts hT), wf, ⟨xs, upd_same, al.mono fun _ _ z => z.fs kx.fs⟩, ⟨by omega, nok⟩, fun kk v hv => nln kk v (by rw [hvl]; exact (List.getElem?_eq_some_iff.mp (zip_iff.mp hv)).1) (zip_iff.mp hv), by omega⟩
end
end K81
/-! ## WW -/
namespace K81
open PySem PySem.Spec PyProof.Rows L2

abbrev s_l_span : Stmt := topS 36
abbrev N_l_span : List Str := ["_law_family_here", "_law_tree_here", "_law_number", "_law_need", "_law_span_here", "_law_part"]
theorem sc_l_span : FnScope N_l_span ["_law_family_here", "_law_tree_here", "_law_number"] (defScope s_l_span) := ⟨rfl, rfl, rfl, by decide +kernel, rfl, by decide +kernel, by decide +kernel⟩
-- slots: _law_family_here:0 _law_tree_here:1 _law_number:2 _law_need:3 _law_span_here:4 _law_part:5   calls: 
abbrev s_l_path : Stmt := topS 40
abbrev N_l_path : List Str := ["_law_family_here", "_law_names_here", "_law_tree_here", "_law_number", "_law_path_here", "_law_at_here", "_law_turn", "_law_place", "_law_name", "_law_span_here"]
theorem sc_l_path : FnScope N_l_path ["_law_family_here", "_law_names_here", "_law_tree_here", "_law_number"] (defScope s_l_path) := ⟨rfl, rfl, rfl, by decide +kernel, rfl, by decide +kernel, by decide +kernel⟩
-- slots: _law_family_here:0 _law_names_here:1 _law_tree_here:2 _law_number:3 _law_path_here:4 _law_at_here:5 _law_turn:6 _law_place:7 _law_name:8 _law_span_here:9   calls: _law_span
abbrev s_l_at : Stmt := topS 39
abbrev N_l_at : List Str := ["_law_family_here", "_law_names_here", "_law_tree_here", "_law_path_here", "_law_number", "_law_name", "_law_place", "_law_k"]
theorem sc_l_at : FnScope N_l_at ["_law_family_here", "_law_names_here", "_law_tree_here", "_law_path_here"] (defScope s_l_at) := ⟨rfl, rfl, rfl, by decide +kernel, rfl, by decide +kernel, by decide +kernel⟩
-- slots: _law_family_here:0 _law_names_here:1 _law_tree_here:2 _law_path_here:3 _law_number:4 _law_name:5 _law_place:6 _law_k:7   calls: _law_span
/-- how many parts stand below and at the first of l, nd of them wanted -/
def spanL (fm : Fm) : List Nat → Nat → Nat
  | [], _ => 0
  | k :: r, nd => if nd = 0 then 0 else spanL fm r (nd - 1 + (vAt fm k).slots.length) + 1
theorem spanL_zero (fm : Fm) (l : List Nat) : spanL fm l 0 = 0 := by cases l <;> rfl
def spn (fm : Fm) (tree : List Nat) (n : Nat) : Nat := spanL fm (tree.drop n) 1
/-- where the j-th part below the one at a stands -/
def plc (fm : Fm) (tree : List Nat) (a : Nat) : Nat → Nat
  | 0 => a + 1
  | j + 1 => plc fm tree a j + spn fm tree (plc fm tree a j)
/-- the path p leads to the part at a -/
inductive Wk (fm : Fm) (names : List (List Str)) (tree : List Nat) : List Str → Nat → Prop
  | nil : Wk fm names tree [] 0
  | snoc {p : List Str} {a j k : Nat} {x : Str} : Wk fm names tree p a → tree[a]? = some k → (names.getD k [])[j]? = some x → plc fm tree a j < tree.length → Wk fm names tree (p ++ [x]) (plc fm tree a j)
section
variable {fm : Fm} {names : List (List Str)} {tree : List Nat}
theorem Wk.inv {p : List Str} {b : Nat} {x : Str} (h : Wk fm names tree (p ++ [x]) b) : ∃ a j k, Wk fm names tree p a ∧ tree[a]? = some k ∧ (names.getD k [])[j]? = some x ∧ plc fm tree a j < tree.length ∧ b = plc fm tree a j := by
  generalize hq : p ++ [x] = q at h
  cases h with
  | nil => simp at hq
  | snoc h1 h2 h3 h4 =>
    obtain ⟨e1, e2⟩ := List.append_inj' hq rfl
    subst e1
    have e3 := (List.cons.inj e2).1
    subst e3
    exact ⟨_, _, _, h1, h2, h3, h4, rfl⟩
theorem Wk.det (nd : ∀ nm ∈ names, nm.Nodup) {p : List Str} {a : Nat} (h : Wk fm names tree p a) : ∀ b, Wk fm names tree p b → a = b := by
  induction h with
  | nil =>
    intro b hb
    generalize hq : ([] : List Str) = q at hb
    cases hb with
    | nil => rfl
    | snoc => simp at hq
  | @snoc p a j k x h1 h2 h3 h4 ih =>
    intro b hb
    obtain ⟨a', j', k', w, e1, e2, _, e4⟩ := hb.inv
    have ea := ih a' w
    subst ea
    rw [h2] at e1
    have ek := Option.some.inj e1
    subst ek
    rw [e4]
    congr 1
    obtain ⟨l1, q1⟩ := List.getElem?_eq_some_iff.mp h3
    obtain ⟨l2, q2⟩ := List.getElem?_eq_some_iff.mp e2
    have hm : (names.getD k []).Nodup := by
      rw [List.getD_eq_getElem?_getD]
      cases e : names[k]? with
      | none => exact List.nodup_nil
      | some nm => exact nd nm (List.mem_of_getElem? e)
    have p1 := List.pairwise_iff_getElem.mp hm
    rcases Nat.lt_trichotomy j j' with g | g | g
    · exact absurd (q1.trans q2.symm) (p1 j j' l1 l2 g)
    · exact g
    · exact absurd (q2.trans q1.symm) (p1 j' j l2 l1 g)
theorem Wk.take {p : List Str} {a : Nat} (h : Wk fm names tree p a) : ∀ n, ∃ b, Wk fm names tree (p.take n) b := by
  induction h with
  | nil => exact fun n => ⟨0, by rw [List.take_nil]; exact .nil⟩
  | @snoc p a j k x h1 h2 h3 h4 ih =>
    intro n
    by_cases e : n ≤ p.length
    · obtain ⟨b, hb⟩ := ih n
      exact ⟨b, by rw [List.take_append_of_le_length e]; exact hb⟩
    · refine ⟨plc fm tree a j, ?_⟩
      rw [List.take_of_length_le (by rw [List.length_append, List.length_singleton]; omega)]
      exact .snoc h1 h2 h3 h4
theorem Wk.lt {p : List Str} {a : Nat} (h : Wk fm names tree p a) (h0 : 0 < tree.length) : a < tree.length := by
  cases h with
  | nil => exact h0
  | snoc _ _ _ h4 => exact h4
theorem Wk.ws (ok : ∀ nm ∈ names, WsOk nm) {p : List Str} {a : Nat} (h : Wk fm names tree p a) : WsOk p := by
  induction h with
  | nil => exact fun x hx => (nomatch hx)
  | @snoc p a j k x h1 h2 h3 h4 ih =>
    intro y hy
    rcases List.mem_append.mp hy with z | z
    · exact ih y z
    · rw [List.mem_singleton.mp z]
      rw [List.getD_eq_getElem?_getD] at h3
      cases e : names[k]? with
      | none => rw [e] at h3; simp at h3
      | some nm => rw [e] at h3; exact ok nm (List.mem_of_getElem? e) x (List.mem_of_getElem? h3)
end
section
variable {P : Program} {w : World} {K : PySem.W.Frag} {mg : Str → Option Value} {base : Heap} {f : Addr} {fd : FuncData}
def spSpan : Sp := fun vs H Q _ => ∃ (fa ta : Addr) (fm : Fm) (tree : List Nat) (n : Nat), vs = [.ref fa, .ref ta, nI n] ∧ FamAt H fa fm ∧ fm.Wf ∧ H ta = some (.tup (tree.map nI)) ∧ (∀ k ∈ tree, k < fm.vars.length) ∧ tree.length ≤ 40 ∧ ∀ H', Ex H H' → Q (nI (spn fm tree n)) H'
theorem ok_span (F : Fun K "_law_span" "_law_span" s_l_span f fd) (B : Blt mg) : FnOk P w K mg base CX0 1 f fd ["_law_family_here", "_law_tree_here", "_law_number"] spSpan := by
  refine F.ok sc_l_span (fun vs H Q E h => ?_) (fun cdv A outer s H vs Q E hr h => ?_)
  · obtain ⟨fa, ta, fm, tree, n, rfl, _⟩ := h
    rfl
  obtain ⟨fa, ta, fm, tree, n, rfl, hf, wf, hta, htk, htl, q⟩ := h
  refine ⟨_, (pss_cons (ps_set (i := 3) sc_l_span.nd rfl (Or.inl rfl) pe_int)
  (pss_cons (ps_set (i := 4) sc_l_span.nd rfl (Or.inl rfl) pe_int)
  (pss_cons (ps_for PassesOwn.never rfl (pi_seq (pe_slice sl_tupA (pv 1) (po_some (pv 2)) po_none)) (pg_name (i := 5) sc_l_span.nd rfl (Or.inl rfl)) (pss_cons (ps_if (pt_cmpR op_eq (pv 3) pe_int (nomark _)) (pss_one ps_break) pss_nil)
  (pss_cons (ps_set (i := 3) sc_l_span.nd rfl (Or.inl rfl) (pe_op op_add (pe_op op_sub (pv 3) pe_int) (pe_callB call_len_seq (by rfl) B.len (by decide +kernel) (pa_cons (pe_ix ix_seq (pe_ix ix_seq (pe_ix ix_seq (pv 0) pe_int (fun _ _ => rfl)) (pv 5) (fun _ _ => rfl)) pe_int (fun _ _ => rfl)) pa_nil))))
  (pss_one (ps_set (i := 4) sc_l_span.nd rfl (Or.inl rfl) (pe_op op_add (pv 4) pe_int))))))
  (pss_one (ps_ret (pv 4)))))), ?_⟩
  obtain ⟨rr, bb, vs, h1, h2, h3, h4⟩ := hf.ex
  have loop : ∀ (r : Addr) (H1 : Hp) (D : Ends), Ex H H1 → H1 r = some (.tup ((tree.drop n).map nI)) → D.rt = Q → D.nx = (fun σ H => tRet (tVar 4) { nx := fun _ H' => Q V.non H', rt := Q } σ H) →
      ∃ W : Nat → Nat → L2.St → Hp → Prop, (∃ m, W 0 m [some (.ref fa), some (.ref ta), some (nI n), some (.int 1), some (.int 0), none] H1) ∧ ∀ i m σ H, W i m σ H →
        ((Itt K r).stop i H ∧ D.nx σ H) ∨ ((Itt K r).go i H ∧ ∃ N : L2.St → Hp → Prop, (∀ σ' H', N σ' H' → ∃ m', m' < m ∧ W (i + 1) m' σ' H') ∧ ∀ x H', (Itt K r).yld i H x H' → gName 5 x σ H' fun σ2 H2 =>
          tSeq (tIfS (tTest (tOp rEq (tVar 3) (tC (V.int 0)))) tBreak tNext)
            (tSeq (tAsg (tOp (rI0 fun i j => V.int (i + j)) (tOp (rI0 fun i j => V.int (i - j)) (tVar 3) (tC (V.int 1))) (tCB (rLenQ K) (tCons (tOp (rIx K) (tOp (rIx K) (tOp (rIx K) (tVar 0) (tC (V.int 2))) (tVar 5)) (tC (V.int 1))) tNil))) (gName 3))
              (tAsg (tOp (rI0 fun i j => V.int (i + j)) (tVar 4) (tC (V.int 1))) (gName 4))) { D with nx := N, ct := N, bk := D.nx } σ2 H2) := fun r H1 D k1 hr hrt hnx => by
    refine for_tup (xs := (tree.drop n).map nI) (fun i σ H' => H' = H1 ∧ ∃ (nd sp : Nat) (e5 : Option V), σ = [some (.ref fa), some (.ref ta), some (nI n), some (nI nd), some (nI sp), e5] ∧ sp + spanL fm ((tree.drop n).drop i) nd = spn fm tree n)
      ⟨rfl, 1, 0, none, rfl, by rw [Nat.zero_add]; rfl⟩ (fun i σ H' _ h => by rw [h.1]; exact sqt hr) (fun i x σ H' hx h => ?_) (fun σ H' h => ?_)
    · obtain ⟨rfl, nd, sp, e5, rfl, hsp⟩ := h
      obtain ⟨k, hk, rfl⟩ := map_at hx
      have hlt := (List.getElem?_eq_some_iff.mp hk).1
      have hdr : (tree.drop n).drop i = k :: (tree.drop n).drop (i + 1) := by
        rw [List.drop_eq_getElem_cons hlt, (List.getElem?_eq_some_iff.mp hk).2]
      rw [hdr] at hsp
      refine ⟨_, rfl, rfl, _, rfl, ?_⟩
      by_cases nz : nd = 0
      · subst nz
        refine ite_t (decide_eq_true rfl) ?_
        rw [spanL_zero, Nat.add_zero] at hsp
        show D.nx _ H'
        rw [hnx, hsp]
        exact ⟨_, rfl, q H' k1⟩
      · refine ite_f (decide_eq_false fun z => nz (by have := V.int.inj z; omega)) ?_
        have kl := htk k (List.mem_of_mem_drop (List.mem_of_getElem? hk))
        have hv := vAt_get kl
        obtain ⟨x, hx, c, sl, rfl, hc, hsl⟩ := h4.get hv
        refine ⟨_, rfl, _, _, rfl, rfl, _, rfl, q_ixT2 (k1.old _ _ h1) rfl ⟨_, rfl, q_ixT (k1.old _ _ h3) hx (q_ixT1 (k1.old _ _ hc) rfl ⟨sl, _, rfl, .inr (sqt (k1.old _ _ hsl)), _, _, rfl, rfl, ?_⟩)⟩⟩
        refine ⟨_, rfl, _, _, rfl, rfl, rfl, nd - 1 + (vAt fm k).slots.length, sp + 1, some (nI k), ?_, ?_⟩
        · have e1 : (nd : Int) - 1 + ((List.map nI (vAt fm k).slots).length : Int) = ((nd - 1 + (vAt fm k).slots.length : Nat) : Int) := by rw [List.length_map]; omega
          show [_, _, _, some (V.int ((nd : Int) - 1 + _)), some (V.int ((sp : Int) + 1)), _] = _
          rw [e1]
          rfl
        · have : spanL fm (k :: (tree.drop n).drop (i + 1)) nd = spanL fm ((tree.drop n).drop (i + 1)) (nd - 1 + (vAt fm k).slots.length) + 1 := if_neg nz
          rw [this] at hsp; omega
    · obtain ⟨rfl, nd, sp, e5, rfl, hsp⟩ := h
      rw [List.length_map, List.drop_length] at hsp
      have : sp = spn fm tree n := by rw [← hsp]; rfl
      rw [hnx]
      exact ⟨_, rfl, by rw [this]; exact q H' k1⟩
  refine .inr ⟨_, rfl, _, rfl, _, rfl, ?_⟩
  unfold tNoPart
  show rSlA K (.ref ta) (some ((n : Nat) : Int)) none H _
  exact q_slA (zs := (tree.drop n).map nI) hta (by rw [cut_drop, List.map_drop]) fun r H1 k1 hr => ⟨r, rfl, ⟨_, sqt hr⟩, loop r H1 _ k1 hr rfl rfl⟩
def spPath : Sp := fun vs H Q _ => ∃ (fa na ta : Addr) (fm : Fm) (names : List (List Str)) (tree : List Nat) (n : Nat), vs = [.ref fa, .ref na, .ref ta, nI n] ∧ GivenN H fa na fm names ∧ H ta = some (.tup (tree.map nI)) ∧ (∀ k ∈ tree, k < fm.vars.length) ∧ tree.length ≤ 40 ∧ n < tree.length ∧
  ∀ r H' (p : List Str) (a : Nat), Ex H H' → H' r = some (.tup (p.map V.str)) → Wk fm names tree p a → Q (.ref r) H'
theorem ok_path (F : Fun K "_law_path" "_law_path" s_l_path f fd) (B : Blt mg) (c_l_span : Cal P w K mg base 1 "_law_span" ["_law_family_here", "_law_tree_here", "_law_number"] spSpan) : FnOk P w K mg base CX0 2 f fd ["_law_family_here", "_law_names_here", "_law_tree_here", "_law_number"] spPath := by
  refine F.ok sc_l_path (fun vs H Q E h => ?_) (fun cdv A outer s H vs Q E hr h => ?_)
  · obtain ⟨fa, na, ta, fm, names, tree, n, rfl, _⟩ := h
    rfl
  obtain ⟨fa, na, ta, fm, names, tree, n, rfl, g, hta, htk, htl, hn, q⟩ := h
  refine ⟨_, (pss_cons (ps_set (i := 4) sc_l_path.nd rfl (Or.inl rfl) (pe_tup pa_nil))
  (pss_cons (ps_set (i := 5) sc_l_path.nd rfl (Or.inl rfl) pe_int)
  (pss_cons (ps_for PassesOwn.never rfl (pi_range1 (by rfl) B.range (pa_cons (pe_callB call_len_seq (by rfl) B.len (by decide +kernel) (pa_cons (pv 2) pa_nil)) pa_nil)) (pg_name (i := 6) sc_l_path.nd rfl (Or.inl rfl)) (pss_cons (ps_set (i := 7) sc_l_path.nd rfl (Or.inl rfl) (pe_op op_add (pv 5) pe_int))
  (pss_cons (ps_for PassesOwn.never rfl (pi_seq (pe_ix ix_seq (pv 1) (pe_ix ix_seq (pv 2) (pv 5) (fun _ _ => rfl)) (fun _ _ => rfl))) (pg_name (i := 8) sc_l_path.nd rfl (Or.inl rfl)) (pss_cons (ps_set (i := 9) sc_l_path.nd rfl (Or.inl rfl) (pe_cal c_l_span (hr.mono (by omega)) (by rfl) (pa_cons (pv 0) (pa_cons (pv 2) (pa_cons (pv 7) pa_nil)))))
  (pss_cons (ps_if (PW.pt (pw_and (pt_cmpR op_le (pv 7) (pv 3) (nomark _)) (pw_and1 (pt_cmpR op_lt (pv 3) (pe_op op_add (pv 7) (pv 9)) (nomark _))))) (pss_cons (ps_set (i := 4) sc_l_path.nd rfl (Or.inl rfl) (pe_op op_catA (pv 4) (pe_tup (pa_cons (pv 8) pa_nil))))
  (pss_cons (ps_set (i := 5) sc_l_path.nd rfl (Or.inl rfl) (pv 7))
  (pss_one ps_break))) pss_nil)
  (pss_one (ps_set (i := 7) sc_l_path.nd rfl (Or.inl rfl) (pe_op op_add (pv 7) (pv 9)))))))
  (pss_one (ps_if (pt_cmpR op_eq (pv 5) (pv 3) (nomark _)) (pss_one ps_break) pss_nil)))))
  (pss_one (ps_ret (pv 4)))))), ?_⟩
  refine ⟨(by decide), fun p0 hp0 => ?_⟩
  refine ⟨_, rfl, ta, _, rfl, .inr (sqt ((Ex.new hp0 _).old _ _ hta)), _, rfl, by rw [List.length_map]; omega, by rw [List.length_map]; omega, ?_⟩
  have en : (((List.map nI tree).length : Int)).toNat = tree.length := by rw [List.length_map]; omega
  rw [en]
  obtain ⟨ns, hns, aln⟩ := g.nms
  refine for_range (n := tree.length) (fun i σ H' => ∃ (r : Addr) (p : List Str) (a : Nat) (e6 e7 e8 e9 : Option V), σ = [some (.ref fa), some (.ref na), some (.ref ta), some (nI n), some (.ref r), some (nI a), e6, e7, e8, e9] ∧ Ex H H' ∧ H' r = some (.tup (p.map V.str)) ∧ Wk fm names tree p a ∧ p.length ≤ i)
    ⟨p0, [], 0, none, none, none, none, rfl, .new hp0 _, upd_same, .nil, Nat.le_refl _⟩ (fun i σ H' hi h => ?_) (fun σ H' h => ?_)
  · obtain ⟨r, p, a, e6, e7, e8, e9, rfl, k, hr', wk, pl⟩ := h
    have al := wk.lt (by omega)
    have hta' := k.old _ _ hta
    have hk : tree[a]? = some tree[a] := List.getElem?_eq_getElem al
    have kl := htk _ (List.getElem_mem al)
    generalize tree[a] = kk at hk kl
    have hkn : kk < names.length := by rw [g.nl]; exact kl
    have hnm : names[kk]? = some (names.getD kk []) := by rw [List.getD_eq_getElem?_getD, List.getElem?_eq_getElem hkn]; rfl
    obtain ⟨na', hna, an, o, rfl, hfz, hd0⟩ := aln.get hnm
    have nm3 := (g.nok.each _ (List.mem_of_getElem? hnm)).1
    refine ⟨_, rfl, _, _, rfl, rfl, ?_⟩
    -- the scan of the parts below
    refine .inr ⟨_, rfl, _, rfl, _, rfl, q_ixT hta' (by rw [List.getElem?_map, hk]; rfl) (q_ixT (k.old _ _ hns) hna ⟨an, rfl, ⟨_, .inl (.inr ⟨o, k.old _ _ hfz⟩)⟩, ?_⟩)⟩
    have fin : ∀ (D : Ends) (r : Addr) (p : List Str) (a : Nat) (e6 e7 e8 e9 : Option V) (H2 : Hp), D.nx = (fun σ H' => ∃ (r : Addr) (p : List Str) (a : Nat) (e6 e7 e8 e9 : Option V), σ = [some (.ref fa), some (.ref na), some (.ref ta), some (nI n), some (.ref r), some (nI a), e6, e7, e8, e9] ∧ Ex H H' ∧ H' r = some (.tup (p.map V.str)) ∧ Wk fm names tree p a ∧ p.length ≤ i + 1) →
        D.bk = (fun σ H' => tRet (tVar 4) { nx := fun _ H' => Q V.non H', rt := Q } σ H') → Ex H H2 → H2 r = some (.tup (p.map V.str)) → Wk fm names tree p a → p.length ≤ i + 1 →
        tIfS (tTest (tOp rEq (tVar 5) (tVar 3))) tBreak tNext D [some (.ref fa), some (.ref na), some (.ref ta), some (nI n), some (.ref r), some (nI a), e6, e7, e8, e9] H2 := fun D r p a e6 e7 e8 e9 H2 hnx hbk k2 h2 w2 l2 => by
      refine ⟨_, rfl, _, rfl, rfl, _, rfl, ?_⟩
      refine ite2 (fun _ => ?_) (fun _ => ?_)
      · show D.bk _ _
        rw [hbk]; exact ⟨_, rfl, q r H2 p a k2 h2 w2⟩
      · show D.nx _ _
        rw [hnx]; exact ⟨r, p, a, _, _, _, _, rfl, k2, h2, w2, l2⟩
    generalize hgn : names.getD kk [] = nm at hfz nm3
    have F0 := k.old _ _ hfz
    refine for_tup (xs := nm.map V.str) (fun j σ H2 => ∃ (e8 e9 : Option V), σ = [some (.ref fa), some (.ref na), some (.ref ta), some (nI n), some (.ref r), some (nI a), some (.int (0 + (i : Int))), some (nI (plc fm tree a j)), e8, e9] ∧ Ex H' H2)
      ⟨_, _, rfl, .refl _⟩ (fun j σ H2 _ h => by obtain ⟨_, _, _, k2⟩ := h; exact .inl (.inr ⟨o, k2.old _ _ F0⟩)) (fun j x σ H2 hx h => ?_) (fun σ H2 h => ?_)
    · obtain ⟨e8, e9, rfl, k2⟩ := h
      obtain ⟨x, hx', rfl⟩ := map_at hx
      have k02 := k.trans k2
      refine ⟨_, rfl, _, rfl, _, rfl, fa, ta, fm, tree, plc fm tree a j, rfl, g.fam.ts k02.ts, g.wf, k02.old _ _ hta, htk, htl, fun H3 k3 => ?_⟩
      have k23 := k2.trans k3
      have k03 := k.trans k23
      have next : ∀ e9, ∃ (e8 e9' : Option V), [some (V.ref fa), some (.ref na), some (.ref ta), some (nI n), some (.ref r), some (nI a), some (.int (0 + (i : Int))), some (V.int ((plc fm tree a j : Int) + (spn fm tree (plc fm tree a j) : Int))), some (.str x), e9] = [some (.ref fa), some (.ref na), some (.ref ta), some (nI n), some (.ref r), some (nI a), some (.int (0 + (i : Int))), some (nI (plc fm tree a (j + 1))), e8, e9'] ∧ Ex H' H3 := fun e9 => ⟨some (.str x), e9, by rw [nI_add]; rfl, k23⟩
      refine ⟨_, rfl, _, rfl, _, _, rfl, rfl, _, rfl, ?_⟩
      by_cases c1 : ((plc fm tree a j : Nat) : Int) ≤ (n : Int)
      · refine ite_t (decide_eq_true c1) ⟨_, rfl, _, rfl, _, rfl, _, _, rfl, rfl, _, _, rfl, rfl, _, rfl, ?_⟩
        by_cases c2 : (n : Int) < ((plc fm tree a j : Nat) : Int) + ((spn fm tree (plc fm tree a j) : Nat) : Int)
        · refine ite_t (decide_eq_true c2) ⟨_, rfl, _, rfl, (by show 1 ≤ sizeLine; decide), fun t1 ht1 => ?_⟩
          refine q_catA ((Ex.new ht1 _).old _ _ (k23.old _ _ hr')) upd_same (line_le (by rw [List.length_map]; show p.length + 1 ≤ 1000; omega)) fun t2 H4 k4 ht2 => ?_
          have k34 := (Ex.new ht1 _).trans k4
          refine ⟨_, rfl, ?_⟩
          refine fin _ t2 (p ++ [x]) (plc fm tree a j) _ _ _ _ H4 rfl rfl (k03.trans k34) (by rw [ht2, List.map_append]; rfl) (.snoc wk hk (by rw [hgn]; exact hx') (by omega)) (by rw [List.length_append, List.length_singleton]; omega)
        · exact ite_f (decide_eq_false c2) ⟨_, rfl, _, rfl, _, _, rfl, rfl, next _⟩
      · exact ite_f (decide_eq_false c1) (ite_ff ⟨_, rfl, _, rfl, _, _, rfl, rfl, next _⟩)
    · obtain ⟨e8, e9, rfl, k2⟩ := h
      exact fin _ r p a _ _ _ _ H2 rfl rfl (k.trans k2) (k2.old _ _ hr') wk (by omega)
  · obtain ⟨r, p, a, e6, e7, e8, e9, rfl, k, hr', wk, pl⟩ := h
    exact ⟨_, rfl, q r H' p a k hr' wk⟩
def spAt : Sp := fun vs H Q _ => ∃ (fa na ta qa : Addr) (fm : Fm) (names : List (List Str)) (tree : List Nat) (p : List Str) (a : Nat), vs = [.ref fa, .ref na, .ref ta, .ref qa] ∧ GivenN H fa na fm names ∧ H ta = some (.tup (tree.map nI)) ∧ (∀ k ∈ tree, k < fm.vars.length) ∧ tree.length ≤ 40 ∧ 0 < tree.length ∧
  H qa = some (.tup (p.map V.str)) ∧ Wk fm names tree p a ∧ ∀ H', Ex H H' → Q (nI a) H'
theorem ok_at (F : Fun K "_law_at" "_law_at" s_l_at f fd) (B : Blt mg) (c_l_span : Cal P w K mg base 1 "_law_span" ["_law_family_here", "_law_tree_here", "_law_number"] spSpan) : FnOk P w K mg base CX0 2 f fd ["_law_family_here", "_law_names_here", "_law_tree_here", "_law_path_here"] spAt := by
  refine F.ok sc_l_at (fun vs H Q E h => ?_) (fun cdv A outer s H vs Q E hr h => ?_)
  · obtain ⟨fa, na, ta, qa, fm, names, tree, p, a, rfl, _⟩ := h
    rfl
  obtain ⟨fa, na, ta, qa, fm, names, tree, p, a, rfl, g, hta, htk, htl, h0, hq, wk, q⟩ := h
  refine ⟨_, (pss_cons (ps_set (i := 4) sc_l_at.nd rfl (Or.inl rfl) pe_int)
  (pss_cons (ps_for PassesOwn.never rfl (pi_seq (pv 3)) (pg_name (i := 5) sc_l_at.nd rfl (Or.inl rfl)) (pss_cons (ps_if (pt_cmpR op_notIn_seq (pv 5) (pe_ix ix_seq (pv 1) (pe_ix ix_seq (pv 2) (pv 4) (fun _ _ => rfl)) (fun _ _ => rfl)) (by rfl)) (pss_one (ps_ret pe_non)) pss_nil)
  (pss_cons (ps_set (i := 6) sc_l_at.nd rfl (Or.inl rfl) (pe_op op_add (pv 4) pe_int))
  (pss_cons (ps_for PassesOwn.never rfl (pi_range1 (by rfl) B.range (pa_cons (pe_tidx (pe_ix ix_seq (pv 1) (pe_ix ix_seq (pv 2) (pv 4) (fun _ _ => rfl)) (fun _ _ => rfl)) (pa_cons (pv 5) pa_nil)) pa_nil)) (pg_name (i := 7) sc_l_at.nd rfl (Or.inl rfl)) (pss_one (ps_set (i := 6) sc_l_at.nd rfl (Or.inl rfl) (pe_op op_add (pv 6) (pe_cal c_l_span (hr.mono (by omega)) (by rfl) (pa_cons (pv 0) (pa_cons (pv 2) (pa_cons (pv 6) pa_nil))))))))
  (pss_one (ps_set (i := 4) sc_l_at.nd rfl (Or.inl rfl) (pv 6)))))))
  (pss_one (ps_ret (pv 4))))), ?_⟩
  obtain ⟨ns, hns, aln⟩ := g.nms
  have ndn : ∀ nm ∈ names, nm.Nodup := fun nm h => (g.nok.each nm h).2.2
  refine .inr ⟨_, rfl, qa, rfl, ⟨_, sqt hq⟩, for_tup (xs := p.map V.str) (fun i σ H' => ∃ (b : Nat) (e5 e6 e7 : Option V), σ = [some (.ref fa), some (.ref na), some (.ref ta), some (.ref qa), some (nI b), e5, e6, e7] ∧ Ex H H' ∧ Wk fm names tree (p.take i) b)
    ⟨0, none, none, none, rfl, .refl _, .nil⟩ (fun i σ H' _ h => by obtain ⟨_, _, _, _, _, k, _⟩ := h; exact sqt (k.old _ _ hq)) (fun i x σ H' hx h => ?_) (fun σ H' h => ?_)⟩
  · obtain ⟨b, e5, e6, e7, rfl, k, wb⟩ := h
    obtain ⟨x, hx', rfl⟩ := map_at hx
    obtain ⟨c, hc⟩ := wk.take (i + 1)
    rw [take_succ_some hx'] at hc
    obtain ⟨b', j, kk, wb', hk, hj, hlt, ec⟩ := hc.inv
    have eb := wb.det ndn _ wb'
    subst eb
    have kl := htk kk (List.mem_of_getElem? hk)
    have hkn : kk < names.length := by rw [g.nl]; exact kl
    have hnm : names[kk]? = some (names.getD kk []) := by rw [List.getD_eq_getElem?_getD, List.getElem?_eq_getElem hkn]; rfl
    obtain ⟨na', hna, an, o, rfl, hfz, hd0⟩ := aln.get hnm
    have nmi := g.nok.each _ (List.mem_of_getElem? hnm)
    have hkm : (tree.map nI)[b]? = some (nI kk) := by rw [List.getElem?_map, hk]; rfl
    have F1 := k.old _ _ hfz
    have ty : SqT K H' an ((names.getD kk []).map V.str) := .inl (.inr ⟨o, F1⟩)
    refine ⟨_, rfl, _, rfl, _, rfl, _, rfl, q_ixT (k.old _ _ hta) hkm (q_ixT (k.old _ _ hns) hna ⟨an, _, rfl, .inr ty, rfl, flat_strs _, _, rfl, ?_⟩)⟩
    refine ite_f (by show (!inV _ _) = false; rw [(in_str _ _).mpr (List.mem_of_getElem? hj)]; rfl) ⟨_, rfl, _, _, rfl, rfl, ?_⟩
    have first : ∀ m, m < j → (names.getD kk [])[m]? ≠ some x := fun m hm e => by
      obtain ⟨l1, q1⟩ := List.getElem?_eq_some_iff.mp hj
      obtain ⟨l2, q2⟩ := List.getElem?_eq_some_iff.mp e
      exact absurd (q2.trans q1.symm) (List.pairwise_iff_getElem.mp nmi.2.2 m j l2 l1 hm)
    have jl : j ≤ 3 := by have := (List.getElem?_eq_some_iff.mp hj).1; omega
    refine ⟨_, rfl, _, rfl, _, rfl, q_ixT (k.old _ _ hta) hkm (q_ixT (k.old _ _ hns) hna ⟨an, o, _, rfl, F1, hd0, _, rfl, F1, _, x, j, rfl, rfl, hj, first, _, rfl, by omega, by omega, ?_⟩)⟩
    have en : ((j : Int)).toNat = j := by omega
    rw [en]
    refine for_range (n := j) (fun m σ H2 => ∃ (e7 : Option V), σ = [some (.ref fa), some (.ref na), some (.ref ta), some (.ref qa), some (nI b), some (.str x), some (nI (plc fm tree b m)), e7] ∧ Ex H H2)
      ⟨_, rfl, k⟩ (fun m σ H2 hm h => ?_) (fun σ H2 h => ?_)
    · obtain ⟨e7, rfl, k2⟩ := h
      refine ⟨_, rfl, _, rfl, _, rfl, _, rfl, fa, ta, fm, tree, plc fm tree b m, rfl, g.fam.ts k2.ts, g.wf, k2.old _ _ hta, htk, htl, fun H3 k3 => ⟨_, _, rfl, rfl, some (.int (0 + (m : Int))), ?_, k2.trans k3⟩⟩
      have e : V.int ((plc fm tree b m : Int) + (spn fm tree (plc fm tree b m) : Int)) = nI (plc fm tree b (m + 1)) := nI_add _ _
      rw [← e]; rfl
    · obtain ⟨e7, rfl, k2⟩ := h
      refine ⟨_, rfl, plc fm tree b j, _, _, _, rfl, k2, ?_⟩
      rw [take_succ_some hx']
      exact .snoc wb hk hj hlt
  · obtain ⟨b, e5, e6, e7, rfl, k, wb⟩ := h
    rw [List.length_map, List.take_length] at wb
    have := wb.det ndn a wk
    subst this
    exact ⟨_, rfl, q H' k⟩
end
end K81
/-! ## WX -/
namespace K81
open PySem PySem.Spec PyProof.Rows L2

abbrev s_l_demand : Stmt := topS 41
abbrev N_l_demand : List Str := ["_law_tape_here", "_law_family_here", "_law_names_here", "_law_words_here", "_law_tree_here", "_law_path_here", "_law_k", "_law_number", "_law_share"]
theorem sc_l_demand : FnScope N_l_demand ["_law_tape_here", "_law_family_here", "_law_names_here", "_law_words_here", "_law_tree_here"] (defScope s_l_demand) := ⟨rfl, rfl, rfl, by decide +kernel, rfl, by decide +kernel, by decide +kernel⟩
-- slots: _law_tape_here:0 _law_family_here:1 _law_names_here:2 _law_words_here:3 _law_tree_here:4 _law_path_here:5 _law_k:6 _law_number:7 _law_share:8   cells: _law_number _law_share _law_tape_here _law_words_here   calls: _law_draw _law_at _law_path
section
variable {P : Program} {w : World} {K : PySem.W.Frag} {mg : Str → Option Value} {base : Heap} {f : Addr} {fd : FuncData}
/-- what a draw of demands is handed -/
structure DGiven (H : Hp) (t sc fa na wa ta : Addr) (fm : Fm) (names : List (List Str)) (l : List Str) (tree : List Nat) : Prop where
  tp : TapeOk H t sc
  g : GivenN H fa na fm names
  wt : wa ≠ t
  w : H wa = some (.lst (l.map V.str))
  wok : ∀ x ∈ l, SOk 100 x
  w4 : l.length = 4
  tr : H ta = some (.tup (tree.map nI))
  tk : ∀ k ∈ tree, k < fm.vars.length
  tl : tree.length ≤ 40
theorem DGiven.tr_ {H H' : Hp} {t sc fa na wa ta : Addr} {fm : Fm} {names : List (List Str)} {l : List Str} {tree : List Nat} (h : DGiven H t sc fa na wa ta fm names l tree) (k : TR t sc H H') : DGiven H' t sc fa na wa ta fm names l tree :=
  ⟨k.tp h.tp, h.g.ts (k.ts h.tp) (k.fs h.tp), h.wt, k.e.old _ _ h.wt h.w, h.wok, h.w4, k.ts h.tp _ _ h.tr, h.tk, h.tl⟩
def spDemand : Sp := fun vs H Q _ => ∃ (t sc fa na wa ta : Addr) (fm : Fm) (names : List (List Str)) (l : List Str) (tree : List Nat), vs = [.ref t, .ref fa, .ref na, .ref wa, .ref ta] ∧ DGiven H t sc fa na wa ta fm names l tree ∧
  ∀ r H' (d : Dem), TR t sc H H' → DmAt H' (.ref r) d → DmOk d → Q (.ref r) H'
theorem ok_demand (F : Fun K "_law_demand" "_law_demand" s_l_demand f fd) (B : Blt mg) (c_l_draw : Cal P w K mg base 1 "_law_draw" ["_law_tape_here", "_law_menu"] spDraw) (c_l_path : Cal P w K mg base 2 "_law_path" ["_law_family_here", "_law_names_here", "_law_tree_here", "_law_number"] spPath)
    (c_l_at : Cal P w K mg base 2 "_law_at" ["_law_family_here", "_law_names_here", "_law_tree_here", "_law_path_here"] spAt) : FnOk P w K mg base CX0 3 f fd ["_law_tape_here", "_law_family_here", "_law_names_here", "_law_words_here", "_law_tree_here"] spDemand := by
  refine F.ok sc_l_demand (fun vs H Q E h => ?_) (fun cdv A outer s H vs Q E hr h => ?_)
  · obtain ⟨t, sc, fa, na, wa, ta, fm, names, l, tree, rfl, _⟩ := h
    rfl
  obtain ⟨t, sc, fa, na, wa, ta, fm, names, l, tree, rfl, g, q⟩ := h
  refine ⟨_, (pss_cons (ps_set (i := 5) sc_l_demand.nd rfl (Or.inl rfl) (pe_callTy call_tuple_of (by rfl) B.tuple (by decide +kernel) (pa_cons (pe_lc (own := [("_law_k", 6)]) rfl sc_l_demand.nd (pi_range1 (by rfl) B.range (pa_cons (pe_ix ix_seq (pe_lst (pa_cons pe_int (pa_cons pe_int (pa_cons pe_int (pa_cons pe_int (pa_cons pe_int (pa_cons pe_int (pa_cons pe_int (pa_cons pe_int pa_nil))))))))) (pe_cal c_l_draw (hr.mono (by omega)) (by rfl) (pa_cons (pv 0) (pa_cons pe_int pa_nil))) (fun _ _ => rfl)) pa_nil)) (blkOk_by (N := N_l_demand) (sc := defScope s_l_demand) (by decide +kernel)) (fun _ _ _ _ _ => (pg_name (i := 6) sc_l_demand.nd rfl (Or.inl rfl))) (fun _ _ _ _ _ => pts_nil) (fun _ _ _ _ _ => (pe_ix (r := rIx K) ix_seq (pv 3) (pe_cal c_l_draw (hr.mono (by omega)) (by rfl) (pa_cons (pv 0) (pa_cons pe_int pa_nil))) (fun _ _ => rfl)))) pa_nil)))
  (pss_cons (ps_set (i := 7) sc_l_demand.nd rfl (Or.inr rfl) pe_non)
  (pss_cons (ps_if (PW.pt (pw_and (pt_truth (pv 4) (by intro _; rfl)) (pw_and1 (pt_cmpR op_gt (pe_cal c_l_draw (hr.mono (by omega)) (by rfl) (pa_cons (pv 0) (pa_cons pe_int pa_nil))) pe_int (nomark _))))) (pss_cons (ps_set (i := 5) sc_l_demand.nd rfl (Or.inl rfl) (pe_slice sl_tupA (pe_cal c_l_path (hr.mono (by omega)) (by rfl) (pa_cons (pv 1) (pa_cons (pv 2) (pa_cons (pv 4) (pa_cons (pe_cal c_l_draw (hr.mono (by omega)) (by rfl) (pa_cons (pv 0) (pa_cons (pe_callB call_len_seq (by rfl) B.len (by decide +kernel) (pa_cons (pv 4) pa_nil)) pa_nil))) pa_nil))))) po_none (po_some pe_int)))
  (pss_one (ps_if (pt_cmpR op_gt (pe_cal c_l_draw (hr.mono (by omega)) (by rfl) (pa_cons (pv 0) (pa_cons pe_int pa_nil))) pe_int (nomark _)) (pss_one (ps_set (i := 7) sc_l_demand.nd rfl (Or.inr rfl) (pe_ix ix_seq (pv 4) (pe_cal c_l_at (hr.mono (by omega)) (by rfl) (pa_cons (pv 1) (pa_cons (pv 2) (pa_cons (pv 4) (pa_cons (pv 5) pa_nil))))) (fun _ _ => rfl)))) pss_nil))) pss_nil)
  (pss_cons (ps_set (i := 8) sc_l_demand.nd rfl (Or.inr rfl) (pe_ix ix_seq (pe_lst (pa_cons pe_int (pa_cons pe_int (pa_cons pe_int (pa_cons pe_int pa_nil))))) (pe_cal c_l_draw (hr.mono (by omega)) (by rfl) (pa_cons (pv 0) (pa_cons pe_int pa_nil))) (fun _ _ => rfl)))
  (pss_one (ps_ret (pe_tup (pa_cons (pv 5) (pa_cons (pe_callTy call_tuple_of (by rfl) B.tuple (by decide +kernel) (pa_cons (pe_lc (own := [("_law_k", 6)]) rfl sc_l_demand.nd (pi_range1 (by rfl) B.range (pa_cons (pe_callB call_len_seq (by rfl) B.len (by decide +kernel) (pa_cons (pe_ix ix_seq (pv 1) pe_int (fun _ _ => rfl)) pa_nil)) pa_nil)) (blkOk_by (N := N_l_demand) (sc := defScope s_l_demand) (by decide +kernel)) (fun _ _ _ _ _ => (pg_name (i := 6) sc_l_demand.nd rfl (Or.inl rfl))) (fun _ _ _ _ _ => (pts_one (PW.pt (pw_or (pt_cmpR op_eq (pv 6) (pv 7) (nomark _)) (pw_or1 (pt_cmpR op_lt (pe_cal c_l_draw (hr.mono (by omega)) (by rfl) (pa_cons (pv 0) (pa_cons pe_int pa_nil))) (pv 8) (nomark _))))))) (fun _ _ _ _ _ => (pv 6))) pa_nil)) pa_nil))))))))), ?_⟩
  have hT := g.tp
  obtain ⟨rr, bb, vs, h1, h2, h3, h4⟩ := g.g.fam.ex
  have hvl : vs.length = fm.vars.length := h4.len
  have hnv := g.g.wf.nv
  have ws : ∀ p : List Str, (∀ x ∈ p, SOk 100 x) → WsOk p := fun p h x hx => (h x hx).ok
  let rtup : List V → Hp → VK → Prop := fun xs H Q => ∃ p ys, xs = [V.ref p] ∧ ((SqL K H p ys ∧ ∀ (l : Addr), H l = none → Q (V.ref l) (upd H l (HO.tup ys))) ∨ SqT K H p ys ∧ Q (V.ref p) H)
  let D0 : Ends := { nx := fun _ H' => Q V.non H', rt := Q }
  -- the end: which copies are allowed
  have tail : ∀ (pa : Addr) (p : List Str) (num : V) (e6 e8 : Option V) (H' : Hp), TR t sc H H' → H' pa = some (.tup (p.map V.str)) → WsOk p → p.length ≤ 4 → (num = .non ∨ ∃ k : Nat, num = nI k) →
      tSeq (tAsg (tOp (rIx K) (tLst (tCons (tC (V.int 0)) (tCons (tC (V.int 1)) (tCons (tC (V.int 2)) (tCons (tC (V.int 4)) tNil))))) (tCall spDraw [] E0 (tCons (tVar 0) (tCons (tC (V.int 4)) tNil)))) (gName 8))
        (tRet (tTup (tCons (tVar 5) (tCons (tCB rtup (tCons (tLc (iRng1 (tCons (tCB (rLenQ K) (tCons (tOp (rIx K) (tVar 1) (tC (V.int 2))) tNil)) tNil)) (gName 6)
          (tOr (tTest (tOp rEq (tVar 6) (tVar 7))) (tTest (tOp (rI0 fun i j => V.bl (decide (i < j))) (tCall spDraw [] E0 (tCons (tVar 0) (tCons (tC (V.int 4)) tNil))) (tVar 8)))) (tVar 6) [6]) tNil)) tNil)))) D0
        [some (.ref t), some (.ref fa), some (.ref na), some (.ref wa), some (.ref ta), some (.ref pa), e6, some num, e8] H' := fun pa p num e6 e8 H' k hpa hws hpl hnum => by
    have hT' := k.tp hT
    refine ⟨(by show 4 ≤ sizeLine; decide), fun l4 hl4 => ⟨_, rfl, t, sc, 4, rfl, hT'.ext (Ex.new hl4 _).old, by omega, fun dn H2 k2 hT2 hdn => ?_⟩⟩
    have k2' : TR t sc H' H2 := ((TR.refl t sc _).nw hl4 _).trans k2
    have h4' : H2 l4 = some (.lst [.int 0, .int 1, .int 2, .int 4]) := k2.e.old _ _ (hT'.fr hl4).1 upd_same
    obtain ⟨sh, hsh⟩ : ∃ sh : Nat, ([.int 0, .int 1, .int 2, .int 4] : List V)[dn]? = some (nI sh) := by
      have : dn < 4 := by omega
      match dn, this with
      | 0, _ => exact ⟨0, rfl⟩
      | 1, _ => exact ⟨1, rfl⟩
      | 2, _ => exact ⟨2, rfl⟩
      | 3, _ => exact ⟨4, rfl⟩
    have k02 := k.trans k2'
    have T2 := k02.ts hT
    refine q_ixL h4' hsh ⟨_, rfl, ?_⟩
    refine ⟨_, rfl, q_ixT2 (T2 _ _ h1) rfl ⟨bb, vs, rfl, .inr (sqt (T2 _ _ h3)), _, rfl, by omega, by omega, fun D hD => ?_⟩⟩
    have en : ((vs.length : Int)).toNat = fm.vars.length := by omega
    rw [en]
    have hDt := hT2.fr hD
    refine lc_range (n := fm.vars.length) (fun i H3 => TR t sc H2 H3 ∧ TapeOk H3 t sc ∧ ∃ ks : List Nat, H3 D = some (.lst (ks.map nI)) ∧ ks.length ≤ i)
      ⟨(TR.refl t sc _).nw hD _, hT2.ext (Ex.new hD _).old, [], upd_same, Nat.le_refl _⟩ (fun i H3 hi h => ?_) (fun H3 h => ?_)
    · obtain ⟨k3, hT3, ks, hks, hkl⟩ := h
      have put : ∀ (H4 : Hp), TR t sc H3 H4 → ∃ acc, H4 D = some (.lst acc) ∧ acc.length < sizeLine ∧ TR t sc H2 (upd H4 D (.lst (acc ++ [V.int (0 + (i : Int))]))) ∧ TapeOk (upd H4 D (.lst (acc ++ [V.int (0 + (i : Int))]))) t sc ∧ ∃ ks : List Nat, (upd H4 D (.lst (acc ++ [V.int (0 + (i : Int))]))) D = some (.lst (ks.map nI)) ∧ ks.length ≤ i + 1 := fun H4 k4 => by
        have h4 := k4.e.old _ _ hDt.1 hks
        have k5 := (k3.trans k4).mut hD (.lst (ks.map nI ++ [V.int (0 + (i : Int))]))
        refine ⟨_, h4, small1000 (by rw [List.length_map]; omega), k5, k5.tp hT2, ks ++ [i], ?_, by rw [List.length_append, List.length_singleton]; omega⟩
        rw [List.map_append, show (0 : Int) + (i : Int) = (i : Int) from Int.zero_add _]; exact upd_same
      refine ⟨rfl, _, rfl, _, rfl, ?_⟩
      refine ⟨by rcases hnum with rfl | ⟨kk, rfl⟩ <;> rfl, _, rfl, ?_⟩
      refine ite2 (fun _ => ?_) (fun _ => ?_)
      · exact ite_tt ⟨_, rfl, put H3 (.refl _ _ _)⟩
      · refine ⟨_, rfl, t, sc, 4, rfl, hT3, by omega, fun d H4 k4 hT4 hd => ⟨_, rfl, _, _, rfl, rfl, _, rfl, ?_⟩⟩
        refine ite2 (fun _ => ?_) (fun _ => ?_)
        · exact ⟨_, rfl, put H4 k4⟩
        · exact ⟨k3.trans k4, hT4, ks, k4.e.old _ _ hDt.1 hks, by omega⟩
    · obtain ⟨k3, hT3, ks, hks, hkl⟩ := h
      refine ⟨D, _, rfl, .inl ⟨sql hks, fun r1 hr1 => ⟨(by show 2 ≤ sizeLine; decide), fun r2 hr2 => ?_⟩⟩⟩
      have kx1 := Ex.new hr1 (.tup (ks.map nI))
      have kx2 := Ex.new hr2 (.tup [.ref pa, .ref r1])
      have k03 := k02.trans k3
      have kf := (k03.trans (kx1.tr t sc)).trans (kx2.tr t sc)
      exact q r2 _ ⟨p, ks⟩ kf ⟨r2, pa, r1, rfl, upd_same, kx2.old _ _ (kx1.old _ _ ((k2'.trans k3).ts hT' _ _ hpa)), kx2.old _ _ upd_same⟩ ⟨hpl, hws, by show ks.length ≤ 11; omega⟩
  -- a path of drawn names
  refine ⟨(by show 8 ≤ sizeLine; decide), fun l8 hl8 => ⟨_, rfl, t, sc, 8, rfl, hT.ext (Ex.new hl8 _).old, by omega, fun dn H1 k1 hT1 hdn => ?_⟩⟩
  have k01 : TR t sc H H1 := ((TR.refl t sc _).nw hl8 _).trans k1
  have h8 : H1 l8 = some (.lst [.int 0, .int 1, .int 1, .int 2, .int 2, .int 3, .int 4, .int 1]) := k1.e.old _ _ (hT.fr hl8).1 upd_same
  obtain ⟨np, hnp, np4⟩ : ∃ np : Nat, ([.int 0, .int 1, .int 1, .int 2, .int 2, .int 3, .int 4, .int 1] : List V)[dn]? = some (nI np) ∧ np ≤ 4 := by
    have : dn < 8 := by omega
    match dn, this with
    | 0, _ => exact ⟨0, rfl, by omega⟩
    | 1, _ => exact ⟨1, rfl, by omega⟩
    | 2, _ => exact ⟨1, rfl, by omega⟩
    | 3, _ => exact ⟨2, rfl, by omega⟩
    | 4, _ => exact ⟨2, rfl, by omega⟩
    | 5, _ => exact ⟨3, rfl, by omega⟩
    | 6, _ => exact ⟨4, rfl, by omega⟩
    | 7, _ => exact ⟨1, rfl, by omega⟩
  refine q_ixL h8 hnp ⟨_, rfl, by omega, by omega, fun D hD => ?_⟩
  have en : ((np : Int)).toNat = np := by omega
  rw [en]
  have hDt := hT1.fr hD
  refine lc_range (n := np) (fun i H2 => TR t sc H1 H2 ∧ TapeOk H2 t sc ∧ ∃ p : List Str, H2 D = some (.lst (p.map V.str)) ∧ (∀ x ∈ p, SOk 100 x) ∧ p.length ≤ i)
    ⟨(TR.refl t sc _).nw hD _, hT1.ext (Ex.new hD _).old, [], upd_same, fun x h => (nomatch h), Nat.le_refl _⟩ (fun i H2 hi h => ?_) (fun H2 h => ?_)
  · obtain ⟨k2, hT2, p, hp, hpo, hpl⟩ := h
    refine ⟨rfl, _, rfl, _, rfl, t, sc, 4, rfl, hT2, by omega, fun d H3 k3 hT3 hd => ?_⟩
    have k23 := k2.trans k3
    have k03 := k01.trans k23
    have dl : d < l.length := by rw [g.w4]; omega
    have hw3 := (g.tr_ k03).w
    refine q_ixL hw3 (by rw [List.getElem?_map, List.getElem?_eq_getElem dl]; rfl) ?_
    have h3 := k3.e.old _ _ hDt.1 hp
    have k4 := k23.mut hD (.lst (p.map V.str ++ [.str l[d]]))
    refine ⟨_, h3, small1000 (by rw [List.length_map]; omega), k4, k4.tp hT1, p ++ [l[d]], by rw [List.map_append]; exact upd_same, fun x hx => ?_, by rw [List.length_append, List.length_singleton]; omega⟩
    rcases List.mem_append.mp hx with z | z
    · exact hpo x z
    · rw [List.mem_singleton.mp z]; exact g.wok _ (List.getElem_mem dl)
  · obtain ⟨k2, hT2, p, hp, hpo, hpl⟩ := h
    have k02 := k01.trans k2
    refine ⟨D, _, rfl, .inl ⟨sql hp, fun pa hpa => ?_⟩⟩
    have kx := Ex.new hpa (.tup (p.map V.str))
    have k03 := k02.trans (kx.tr t sc)
    have hpa3 : upd H2 pa (.tup (p.map V.str)) pa = some (.tup (p.map V.str)) := upd_same
    generalize upd H2 pa (.tup (p.map V.str)) = H3 at kx k03 hpa3 ⊢
    have g3 := g.tr_ k03
    refine ⟨_, rfl, _, .inr (.inl ⟨_, sqt g3.tr, rfl⟩), ?_⟩
    cases hem : (tree.map nI).isEmpty with
    | true => exact ite_ff (ite_ff (tail pa p .non _ _ H3 k03 hpa3 (ws p hpo) (by omega) (.inl rfl)))
    | false =>
    have ht0 : 0 < tree.length := by cases tree with
      | nil => cases hem
      | cons _ _ => exact Nat.succ_pos _
    refine ite_tt ⟨_, rfl, t, sc, 4, rfl, g3.tp, by omega, fun d H4 k4 hT4 hd => ⟨_, _, rfl, rfl, _, rfl, ?_⟩⟩
    have k04 := k03.trans k4
    by_cases dz : (0 : Int) < (d : Int)
    case neg => exact ite_f (decide_eq_false dz) (tail pa p .non _ _ H4 k04 (k4.ts g3.tp _ _ hpa3) (ws p hpo) (by omega) (.inl rfl))
    have g4 := g.tr_ k04
    refine ite_t (decide_eq_true dz) ⟨_, rfl, _, rfl, _, rfl, _, rfl, _, rfl, ta, _, rfl, .inr (sqt g4.tr), t, sc, (tree.map nI).length, rfl, hT4, by rw [List.length_map]; have := g.tl; omega, fun n H5 k5 hT5 hn => ?_⟩
    have k05 := k04.trans k5
    have g5 := g.tr_ k05
    have hn' : n < tree.length := by rw [List.length_map] at hn; omega
    refine ⟨fa, na, ta, fm, names, tree, n, rfl, g5.g, g5.tr, g.tk, g.tl, hn', fun r H6 p6 a k6 hr6 wk6 => ?_⟩
    have k06 := k05.trans (k6.tr t sc)
    refine ⟨_, rfl, ?_⟩
    show rSlA K (.ref r) none (some ((4 : Nat) : Int)) H6 _
    refine q_slA (zs := (p6.take 4).map V.str) hr6 (by rw [cut_take, List.map_take]) fun pb H7 k7 hpb => ?_
    have k07 := k06.trans (k7.tr t sc)
    have g7 := g.tr_ k07
    obtain ⟨a7, wk7⟩ := wk6.take 4
    have nws : ∀ nm ∈ names, WsOk nm := fun nm h => (g.g.nok.each nm h).2.1
    have ws7 := wk7.ws nws
    have l7 : (p6.take 4).length ≤ 4 := by rw [List.length_take]; omega
    generalize p6.take 4 = p7 at hpb wk7 ws7 l7
    refine ⟨_, rfl, t, sc, 8, rfl, g7.tp, by omega, fun d2 H8 k8 hT8 hd2 => ⟨_, _, rfl, rfl, _, rfl, ?_⟩⟩
    have k08 := k07.trans k8
    have hpb8 := k8.ts g7.tp _ _ hpb
    have g8 := g.tr_ k08
    by_cases dz2 : (0 : Int) < (d2 : Int)
    · refine ite_t (decide_eq_true dz2) ⟨_, rfl, _, rfl, _, rfl, _, rfl, _, rfl, fa, na, ta, pb, fm, names, tree, p7, a7, rfl, g8.g, g8.tr, g.tk, g.tl, ht0, hpb8, wk7, fun H9 k9 => ?_⟩
      have al := wk7.lt ht0
      exact q_ixT (k9.old _ _ g8.tr) (by rw [List.getElem?_map, List.getElem?_eq_getElem al]; rfl) (tail pb p7 (nI tree[a7]) _ _ H9 (k08.trans (k9.tr t sc)) (k9.old _ _ hpb8) ws7 l7 (.inr ⟨_, rfl⟩))
    · exact ite_f (decide_eq_false dz2) (tail pb p7 .non _ _ H8 k08 hpb8 ws7 l7 (.inl rfl))
end
end K81
/-! ## WY -/
namespace K81
open PySem PySem.Spec PyProof.Rows L2

abbrev s_l_demands : Stmt := topS 42
abbrev N_l_demands : List Str := ["_law_tape_here", "_law_family_here", "_law_names_here", "_law_words_here", "_law_tree_here", "_law_top", "_law_demands_here", "_law_k", "_law_demand_here"]
theorem sc_l_demands : FnScope N_l_demands ["_law_tape_here", "_law_family_here", "_law_names_here", "_law_words_here", "_law_tree_here", "_law_top"] (defScope s_l_demands) := ⟨rfl, rfl, rfl, by decide +kernel, rfl, by decide +kernel, by decide +kernel⟩
-- slots: _law_tape_here:0 _law_family_here:1 _law_names_here:2 _law_words_here:3 _law_tree_here:4 _law_top:5 _law_demands_here:6 _law_k:7 _law_demand_here:8   calls: _law_draw _law_demand
abbrev s_l_budget : Stmt := topS 48
abbrev N_l_budget : List Str := ["_law_tape_here", "_law_family_here", "_law_names_here", "_law_demands_here", "_law_weights_here", "_law_choice", "_law_best"]
theorem sc_l_budget : FnScope N_l_budget ["_law_tape_here", "_law_family_here", "_law_names_here", "_law_demands_here", "_law_weights_here"] (defScope s_l_budget) := ⟨rfl, rfl, rfl, by decide +kernel, rfl, by decide +kernel, by decide +kernel⟩
-- slots: _law_tape_here:0 _law_family_here:1 _law_names_here:2 _law_demands_here:3 _law_weights_here:4 _law_choice:5 _law_best:6   calls: _law_draw _law_lightest
section
variable {P : Program} {w : World} {K : PySem.W.Frag} {mg : Str → Option Value} {base : Heap} {f : Addr} {fd : FuncData}
def spDemands : Sp := fun vs H Q _ => ∃ (t sc fa na wa ta : Addr) (fm : Fm) (names : List (List Str)) (l : List Str) (tree : List Nat), vs = [.ref t, .ref fa, .ref na, .ref wa, .ref ta, .int 3] ∧ DGiven H t sc fa na wa ta fm names l tree ∧
  ∀ r H' (D : List Dem), TR t sc H H' → DsAt H' r D → D.length ≤ 3 → (∀ d ∈ D, DmOk d) → Q (.ref r) H'
theorem ok_demands (F : Fun K "_law_demands" "_law_demands" s_l_demands f fd) (B : Blt mg) (c_l_draw : Cal P w K mg base 1 "_law_draw" ["_law_tape_here", "_law_menu"] spDraw) (c_l_demand : Cal P w K mg base 3 "_law_demand" ["_law_tape_here", "_law_family_here", "_law_names_here", "_law_words_here", "_law_tree_here"] spDemand) :
    FnOk P w K mg base CX0 4 f fd ["_law_tape_here", "_law_family_here", "_law_names_here", "_law_words_here", "_law_tree_here", "_law_top"] spDemands := by
  refine F.ok sc_l_demands (fun vs H Q E h => ?_) (fun cdv A outer s H vs Q E hr h => ?_)
  · obtain ⟨t, sc, fa, na, wa, ta, fm, names, l, tree, rfl, _⟩ := h
    rfl
  obtain ⟨t, sc, fa, na, wa, ta, fm, names, l, tree, rfl, g, q⟩ := h
  refine ⟨_, (pss_cons (ps_set (i := 6) sc_l_demands.nd rfl (Or.inl rfl) (pe_lst pa_nil))
  (pss_cons (ps_for PassesOwn.never rfl (pi_range1 (by rfl) B.range (pa_cons (pe_cal c_l_draw (hr.mono (by omega)) (by rfl) (pa_cons (pv 0) (pa_cons (pe_op op_add (pv 5) pe_int) pa_nil))) pa_nil)) (pg_name (i := 7) sc_l_demands.nd rfl (Or.inl rfl)) (pss_cons (ps_set (i := 8) sc_l_demands.nd rfl (Or.inl rfl) (pe_cal c_l_demand (hr.mono (by omega)) (by rfl) (pa_cons (pv 0) (pa_cons (pv 1) (pa_cons (pv 2) (pa_cons (pv 3) (pa_cons (pv 4) pa_nil)))))))
  (pss_cons (ps_if (PW.pt (pw_and (pt_truth (pv 6) (by intro _; rfl)) (pw_and1 (pt_cmpR op_eq (pe_cal c_l_draw (hr.mono (by omega)) (by rfl) (pa_cons (pv 0) (pa_cons pe_int pa_nil))) pe_int (nomark _))))) (pss_one (ps_set (i := 8) sc_l_demands.nd rfl (Or.inl rfl) (pe_ix ix_seq (pv 6) (pe_cal c_l_draw (hr.mono (by omega)) (by rfl) (pa_cons (pv 0) (pa_cons (pe_callB call_len_seq (by rfl) B.len (by decide +kernel) (pa_cons (pv 6) pa_nil)) pa_nil))) (fun _ _ => rfl)))) pss_nil)
  (pss_one (ps_expr (pe_bm PySem.F.plainAttrs_list PySem.F.slot_list_append PySem.F.type_list_append mt_append (pv 6) (pa_cons (pv 8) pa_nil)))))))
  (pss_one (ps_ret (pe_callTy call_tuple_of (by rfl) B.tuple (by decide +kernel) (pa_cons (pv 6) pa_nil)))))), ?_⟩
  have hT := g.tp
  refine ⟨(by show 0 ≤ sizeLine; decide), fun L hL => ?_⟩
  have hL0 : H L = none := hL
  have hLt := hT.fr hL0
  have kL : TR t sc H (upd H L (.lst [])) := (TR.refl t sc _).nw hL _
  refine ⟨_, rfl, _, rfl, _, _, rfl, rfl, t, sc, 4, rfl, kL.tp hT, by omega, fun nd H1 k1 hT1 hnd => ⟨_, rfl, by omega, by omega, ?_⟩⟩
  have en : ((nd : Int)).toNat = nd := by omega
  rw [en]
  have lsT : ∀ {A B : Hp} {ys : List V}, TR t sc A B → A L = some (.lst ys) → B L = some (.lst ys) := fun k e => k.e.old _ _ hLt.1 e
  refine for_range (n := nd) (fun i σ H' => ∃ (xs : List V) (D : List Dem) (e7 e8 : Option V), σ = [some (.ref t), some (.ref fa), some (.ref na), some (.ref wa), some (.ref ta), some (.int 3), some (.ref L), e7, e8] ∧ TR t sc H H' ∧ TapeOk H' t sc ∧ H' L = some (.lst xs) ∧ All2 (DmAt H') xs D ∧ D.length ≤ i ∧ ∀ d ∈ D, DmOk d)
    ⟨[], [], none, none, rfl, kL.trans k1, hT1, lsT k1 upd_same, .nil, Nat.le_refl _, fun d h => (nomatch h)⟩ (fun i σ H' hi h => ?_) (fun σ H' h => ?_)
  · obtain ⟨xs, D, e7, e8, rfl, k, hT', hl, al, dl, ok⟩ := h
    refine ⟨_, rfl, _, rfl, _, rfl, _, rfl, _, rfl, t, sc, fa, na, wa, ta, fm, names, l, tree, rfl, g.tr_ k, fun r H2 d k2 hd dok => ?_⟩
    have hT2 := k2.tp hT'
    have hl2 := lsT k2 hl
    have al2 : All2 (DmAt H2) xs D := al.mono fun _ _ z => z.ts (k2.ts hT')
    have fin : ∀ (H6 : Hp) (c : Addr) (v : Dem), TR t sc H2 H6 → DmAt H6 (.ref c) v → DmOk v → tDrop (tBM K "list" rAppend (tVar 6) (tCons (tVar 8) tNil))
        { nx := fun σ H' => ∃ (xs : List V) (D : List Dem) (e7 e8 : Option V), σ = [some (.ref t), some (.ref fa), some (.ref na), some (.ref wa), some (.ref ta), some (.int 3), some (.ref L), e7, e8] ∧ TR t sc H H' ∧ TapeOk H' t sc ∧ H' L = some (.lst xs) ∧ All2 (DmAt H') xs D ∧ D.length ≤ i + 1 ∧ ∀ d ∈ D, DmOk d, rt := Q }
        [some (.ref t), some (.ref fa), some (.ref na), some (.ref wa), some (.ref ta), some (.int 3), some (.ref L), some (.int (0 + (i : Int))), some (.ref c)] H6 := fun H6 c v k6 hv vok => by
      have hl6 := lsT k6 hl2
      have al6 : All2 (DmAt H6) xs D := al2.mono fun _ _ z => z.ts (k6.ts hT2)
      refine ⟨_, rfl, ty_l hl6, _, rfl, L, _, _, rfl, rfl, hl6, small1000 (by rw [al.len]; omega), ?_⟩
      have ts7 : Tps H6 (upd H6 L (.lst (xs ++ [.ref c]))) := ts_lst hl6
      have k07 := ((k.trans k2).trans k6).mut hL0 (.lst (xs ++ [.ref c]))
      refine ⟨_, D ++ [v], _, _, rfl, k07, k07.tp hT, upd_same, (al6.mono fun _ _ z => z.ts ts7).snoc (hv.ts ts7), by rw [List.length_append, List.length_singleton]; omega, fun u hu => ?_⟩
      rcases List.mem_append.mp hu with z | z
      · exact ok u z
      · rw [List.mem_singleton.mp z]; exact vok
    refine ⟨_, rfl, _, .inl ⟨xs, sql hl2, rfl⟩, ?_⟩
    cases hxs : xs.isEmpty with
    | true => exact ite_ff (ite_ff (fin H2 r d (.refl _ _ _) hd dok))
    | false =>
      refine ite_tt ⟨_, rfl, t, sc, 8, rfl, hT2, by omega, fun d1 H3 k3 hT3 hd1 => ⟨rfl, _, rfl, ?_⟩⟩
      refine ite2 (fun _ => ?_) (fun _ => fin H3 r d k3 (hd.ts (k3.ts hT2)) dok)
      have hl3 := lsT k3 hl2
      have xl : 0 < xs.length := by cases xs with
        | nil => cases hxs
        | cons _ _ => exact Nat.succ_pos _
      refine ⟨_, rfl, _, rfl, _, rfl, L, xs, rfl, .inl (sql hl3), t, sc, xs.length, rfl, hT3, by rw [al.len]; omega, fun d2 H4 k4 hT4 hd2 => ?_⟩
      have hd2' : d2 < xs.length := by omega
      obtain ⟨u, hu, hvu⟩ := al2.getL (List.getElem?_eq_getElem hd2')
      have T4 : Tps H2 H4 := (k3.ts hT2).trans (k4.ts hT3)
      obtain ⟨c, p', k', ec, g1, g2, g3⟩ := hvu
      refine q_ixL (lsT k4 hl3) (List.getElem?_eq_getElem hd2') ?_
      rw [ec]
      exact fin H4 c u (k3.trans k4) ⟨c, p', k', rfl, T4 _ _ g1, T4 _ _ g2, T4 _ _ g3⟩ (ok u (List.mem_of_getElem? hu))
  · obtain ⟨xs, D, e7, e8, rfl, k, hT', hl, al, dl, ok⟩ := h
    exact ⟨_, rfl, L, _, rfl, .inl ⟨sql hl, fun r hr' => q r _ D (k.nw hr' _) ⟨xs, upd_same, al.mono fun _ _ z => z.ts (Ex.new hr' _).ts⟩ (by omega) ok⟩⟩
theorem LGiven.tr_ {H H' : Hp} {t sc fa na da wa : Addr} {fm : Fm} {names : List (List Str)} {D : List Dem} {tb : Tb} (h : LGiven H fa na da wa fm names D tb) (hT : TapeOk H t sc) (n : wa ≠ t) (k : TR t sc H H') : LGiven H' fa na da wa fm names D tb :=
  ⟨h.g.ts (k.ts hT) (k.fs hT), h.d.ts (k.ts hT), h.dok, let ⟨xs, e, al⟩ := h.wl; ⟨xs, k.e.old _ _ n e, al.mono fun _ _ q => q.ts (k.ts hT)⟩, h.tl⟩
def spBudget : Sp := fun vs H Q _ => ∃ (t sc fa na da wa : Addr) (fm : Fm) (names : List (List Str)) (D : List Dem) (tb : Tb), vs = [.ref t, .ref fa, .ref na, .ref da, .ref wa] ∧ TapeOk H t sc ∧ wa ≠ t ∧ LGiven H fa na da wa fm names D tb ∧ ∀ (b : Option Nat) H', TR t sc H H' → Q (oI b) H'
theorem ok_budget (F : Fun K "_law_budget" "_law_budget" s_l_budget f fd) (B : Blt mg) (c_l_draw : Cal P w K mg base 1 "_law_draw" ["_law_tape_here", "_law_menu"] spDraw) (c_l_lightest : Cal P w K mg base 12 "_law_lightest" ["_law_family_here", "_law_names_here", "_law_demands_here", "_law_weights_here"] spLightest) :
    FnOk P w K mg base CX0 13 f fd ["_law_tape_here", "_law_family_here", "_law_names_here", "_law_demands_here", "_law_weights_here"] spBudget := by
  refine F.ok sc_l_budget (fun vs H Q E h => ?_) (fun cdv A outer s H vs Q E hr h => ?_)
  · obtain ⟨t, sc, fa, na, da, wa, fm, names, D, tb, rfl, _⟩ := h
    rfl
  obtain ⟨t, sc, fa, na, da, wa, fm, names, D, tb, rfl, hT, hwt, g, q⟩ := h
  refine ⟨_, (pss_cons (ps_set (i := 5) sc_l_budget.nd rfl (Or.inl rfl) (pe_cal c_l_draw (hr.mono (by omega)) (by rfl) (pa_cons (pv 0) (pa_cons pe_int pa_nil))))
  (pss_cons (ps_set (i := 6) sc_l_budget.nd rfl (Or.inl rfl) (pe_cal c_l_lightest (hr.mono (by omega)) (by rfl) (pa_cons (pv 1) (pa_cons (pv 2) (pa_cons (pv 3) (pa_cons (pv 4) pa_nil))))))
  (pss_cons (ps_if (pt_cmpR op_eq (pv 5) pe_int (nomark _)) (pss_one (ps_ret pe_non)) pss_nil)
  (pss_cons (ps_if (PW.pt (pw_or (pt_cmpR op_eq (pv 5) pe_int (nomark _)) (pw_or1 (pt_cmpR op_isN (pv 6) pe_non (nomark _))))) (pss_one (ps_ret (pe_ix ix_seq (pe_lst (pa_cons pe_int (pa_cons pe_int (pa_cons pe_int (pa_cons (pe_op op_pow pe_int pe_int) pa_nil))))) (pe_cal c_l_draw (hr.mono (by omega)) (by rfl) (pa_cons (pv 0) (pa_cons pe_int pa_nil))) (fun _ _ => rfl)))) pss_nil)
  (pss_one (ps_ret (pe_callB (call_max2 rfl) (by rfl) B.max (by decide +kernel) (pa_cons (pe_op op_add (pe_ix ix_seq (pv 6) pe_int (fun _ _ => rfl)) (pe_ix ix_seq (pe_lst (pa_cons (pe_un un_neg pe_int) (pa_cons pe_int (pa_cons pe_int (pa_cons pe_int pa_nil))))) (pe_op op_sub (pv 5) pe_int) (fun _ _ => rfl))) (pa_cons pe_int pa_nil))))))))), ?_⟩
  refine ⟨_, rfl, t, sc, 6, rfl, hT, by omega, fun ch H1 k1 hT1 hch => ?_⟩
  refine ⟨_, rfl, _, rfl, _, rfl, _, rfl, fa, na, da, wa, fm, names, D, tb, rfl, g.tr_ hT hwt k1, fun r H2 k2 hr2 => ?_⟩
  have k02 : TR t sc H H2 := k1.trans (k2.tr t sc)
  have hT2 := hT1.ext k2.old
  refine ⟨_, rfl, rfl, _, rfl, ?_⟩
  by_cases c0 : ch = 0
  · subst c0; exact ite_t (decide_eq_true rfl) (q none H2 k02)
  refine ite_f (decide_eq_false fun z => c0 (by have := V.int.inj z; omega)) ⟨_, rfl, rfl, _, rfl, ?_⟩
  have some_ : ∀ D : Ends, D.rt = Q → tRet (tOp (rIx K) (tLst (tCons (tC (V.int 0)) (tCons (tC (V.int 5)) (tCons (tC (V.int 30)) (tCons (tOp (rI CPow fun i j => V.int (i ^ j.toNat)) (tC (V.int 10)) (tC (V.int 39))) tNil))))) (tCall spDraw [] E0 (tCons (tVar 0) (tCons (tC (V.int 4)) tNil)))) D
      [some (.ref t), some (.ref fa), some (.ref na), some (.ref da), some (.ref wa), some (nI ch), some r] H2 := fun D hD => by
    refine ⟨_, _, rfl, rfl, ⟨by omega, by omega, by decide⟩, (by show 4 ≤ sizeLine; decide), fun l4 hl4 => ⟨_, rfl, t, sc, 4, rfl, hT2.ext (Ex.new hl4 _).old, by omega, fun dn H3 k3 hT3 hdn => ?_⟩⟩
    have h4' : H3 l4 = some (.lst [.int 0, .int 5, .int 30, .int (10 ^ (39 : Int).toNat)]) := k3.e.old _ _ (hT2.fr hl4).1 upd_same
    have k23 : TR t sc H2 H3 := ((TR.refl t sc _).nw hl4 _).trans k3
    obtain ⟨sh, hsh⟩ : ∃ sh : Nat, ([.int 0, .int 5, .int 30, .int (10 ^ (39 : Int).toNat)] : List V)[dn]? = some (nI sh) := by
      have : dn < 4 := by omega
      match dn, this with
      | 0, _ => exact ⟨0, rfl⟩
      | 1, _ => exact ⟨5, rfl⟩
      | 2, _ => exact ⟨30, rfl⟩
      | 3, _ => exact ⟨10 ^ 39, by decide +kernel⟩
    refine q_ixL h4' hsh ?_
    rw [hD]
    exact q (some sh) H3 (k02.trans k23)
  by_cases c1 : ch = 1
  · subst c1
    exact ite_t (decide_eq_true rfl) (ite_tt (some_ _ rfl))
  refine ite_f (decide_eq_false fun z => c1 (by have := V.int.inj z; omega)) ⟨_, rfl, rfl, _, rfl, ?_⟩
  rw [hr2.isn]
  cases hl : lightest fm names D (tf tb) with
  | none => exact ite_tt (some_ _ rfl)
  | some b =>
    rw [hl] at hr2
    obtain ⟨ob, rfl, hob⟩ := hr2
    refine ite_ff ⟨_, rfl, q_ixT0 hob rfl ⟨1, rfl, (by show 4 ≤ sizeLine; decide), fun l4 hl4 => ⟨_, rfl, _, _, rfl, rfl, ?_⟩⟩⟩
    have kx := Ex.new hl4 (.lst [.int (-1), .int 0, .int 1, .int 3])
    obtain ⟨z, hz⟩ : ∃ z : Int, ([.int (-1), .int 0, .int 1, .int 3] : List V)[((ch : Int) - 2).toNat]? = some (.int z) := by
      have : ch < 6 := by omega
      match ch, this, c0, c1 with
      | 2, _, _, _ => exact ⟨-1, rfl⟩
      | 3, _, _, _ => exact ⟨0, rfl⟩
      | 4, _, _, _ => exact ⟨1, rfl⟩
      | 5, _, _, _ => exact ⟨3, rfl⟩
    refine q_ixLi upd_same (by omega) hz ⟨_, _, rfl, rfl, _, _, rfl, ?_⟩
    obtain ⟨m, hm⟩ : ∃ m : Nat, (if (0 : Int) > (b.1 : Int) + z then (0 : Int) else (b.1 : Int) + z) = ((m : Nat) : Int) := by
      by_cases e : (0 : Int) > (b.1 : Int) + z
      · exact ⟨0, by rw [if_pos e]; rfl⟩
      · exact ⟨((b.1 : Int) + z).toNat, by rw [if_neg e]; omega⟩
    show Q (.int (if (0 : Int) > (b.1 : Int) + z then (0 : Int) else (b.1 : Int) + z)) _
    rw [hm]
    exact q (some m) _ (k02.trans (kx.tr t sc))
end
end K81
/-! ## KG -/
namespace K81
open PySem PySem.Spec PyProof PyProof.Rows L2
/-! ### a def that asks for a repr: known where no repr is under way -/
structure FnG (P : Program) (w : World) (K : PySem.W.Frag) (mg : Str → Option Value) (base : Heap) (CX : CXT) (k : Nat) (f : Addr) (fd : FuncData) (ps : List Str) (sp : Sp) : Prop where
  len : ∀ vs H Q E, sp vs H Q E → vs.length = ps.length
  run : ∀ (A : Around) (outer : List Env) (s : Shared) (H : Hp) (args : Args) (us : List Value) (vs : List V) (Q : VK) (E : XK), A.guards = some [] → Room k A → Env0 P w K mg base A outer s H → BindsTo s fd args (ps.zip us) → Vals vs us → sp vs H Q E →
    codeAny (model P w) A (.call (.ref f) args) (CR CX outer P w H s Q E) s
section
variable {P : Program} {w : World} {K : PySem.W.Frag} {mg : Str → Option Value} {base : Heap}
theorem FnG.of {x qual : Str} {st : Stmt} {f : Addr} {fd : FuncData} {N ps : List Str} {k : Nat} {sp : Sp} (F : Fun K x qual st f fd) (S : FnScope N ps (defScope st)) (len : ∀ vs H Q E, sp vs H Q E → vs.length = ps.length)
    (hb : ∀ (cdv : Value) (A : Around) (outer : List Env) (s : Shared) (H : Hp) (vs : List V) (Q : VK) (E : XK), A.guards = some [] → Room k (A.deeper (envOfC qual (defScope st) s.heap.objs.size f cdv)) → sp vs H Q E →
      ∃ t, PSs (cxOf CX0 P w K mg base N qual (defScope st) f cdv A outer s H E).nox (defBody st) t ∧ t { nx := fun _ H' => Q .non H', rt := Q } (L2.start N vs) H) : FnG P w K mg base CX0 (k + 1) f fd ps sp := by
  obtain ⟨oc, od, kV, doc, pm, an, cdv, ct, osl, rfl, lk, hcd⟩ := F.ex
  refine ⟨len, fun A outer s H args us vs Q E hg hr e0 hbd r h => ?_⟩
  exact LamX.run_ofS lk hcd S hr e0 hbd r (len _ _ _ _ h) fun hr2 => let ⟨t, h1, h2⟩ := hb cdv A outer s H vs Q E hg hr2 h; ⟨t, h1.nox, h2⟩
/-- a call of such a def -/
structure CalG (P : Program) (w : World) (K : PySem.W.Frag) (mg : Str → Option Value) (base : Heap) (k : Nat) (x : Str) (ps : List Str) (sp : Sp) : Prop where
  ex : ∃ f fd, FnG P w K mg base CX0 k f fd ps sp ∧ Binds K fd ps [] ∧ PySem.W.keepIn K (.ref f) = true ∧ mg x = some (.ref f)
end
section
variable {X : Cx}
theorem pe_calG {k : Nat} {x : Str} {ps : List Str} {sp : Sp} {e : Expr} {es : List Expr} {t : TA} {p pos : Pos} (C : CalG X.prog X.w X.K X.mg X.base k x ps sp) (hG : X.A.guards = some []) (hr : Room k X.A) (hg : Gl X x) (ha : PA X (e :: es) t)
    (hdb : (x == ("__debug__" : Str)) = false := by decide) (he : starEach (e :: es) X.env = (false, eval e X.env) :: starEach es X.env := by rfl) (hpl : (backTo pos (starEach es X.env)).any (·.1) = false := by rfl) :
    PE X (.Call (.Name x p) (e :: es) [] pos) (tCall sp [] E0 t) := by
  obtain ⟨f, fd, F, b, kp, m⟩ := C.ex
  refine ⟨fun pins s σ H Q I h => ?_⟩
  refine wpAny_Call_Name_kw (ld_glob I hg m ?_ hdb)
  refine PySem.W.callWith_K (h₀ := X.base) I.ok.mod.kin kp (thn (ha.run pos pins s σ H _ I h) fun us s1 ⟨vs, H1, I1, r, q⟩ => ⟨I1.kIn, ?_⟩) he hpl
  have q : sp (vs ++ []) H1 Q E0 := q
  rw [List.append_nil] at q
  have hl : us.length = ps.length := by rw [← r.length]; exact F.len _ _ _ _ q
  have bt := b s1 us I1.kIn (by rw [List.append_nil]; exact hl)
  rw [List.append_nil] at bt
  refine wpAny_call (codeAny_mono (F.run X.A X.stack s1 H1 ⟨us, []⟩ us vs Q E0 hG hr I1.env0 bt r q) fun r s' hq => ?_)
  cases r with
  | error e => exact pass0 pins σ H1 s1 e s' I1 hq
  | ok fl =>
    cases fl with
    | ret u => exact I1.after hq
    | next => exact False.elim hq
    | brk => exact False.elim hq
    | cont => exact False.elim hq
/-- repr(t), t a tuple of data -/
def rReprD (K : PySem.W.Frag) : List V → Hp → VK → Prop := fun vs H Q => ∃ (a : Addr) (d : PyData), vs = [.ref a] ∧ Dp K H (.ref a) d ∧ d.showable = true ∧ d.hasDict = false ∧ d.depth ≤ 8 ∧ d.shown.length ≤ sizeLine ∧ Q (.str d.shown) H
theorem cr_reprD (hG : X.A.guards = some []) (hu : X.A.units + 10 < cLine) : CallR X (.builtin "repr") (rReprD X.K) := fun pins s σ H vs us Q I r ⟨a, d, ev, hd, hs, hnd, hdep, hsz, q⟩ => by
  subst ev
  obtain rfl := Vals.ref1 r
  obtain ⟨as, hr⟩ := hd.reads I d _ _ rfl
  refine repr_of_reads' hr hs (PyData.noDict_hsm hnd) hG (by omega) (fun _ _ e => e) (fun h' u tk hk => ?_) hsz
  exact ⟨.str d.shown, H, I.kept (t' := tk) hk, ⟨u, rfl⟩, q⟩
end
/-! ### the text of a tuple of sets -/
theorem shown_map {α : Type} (d : α → PyData) : ∀ l : List α, PyData.shownAll (l.map d) = l.map fun x => (d x).shown
  | [] => by simp [PyData.shownAll]
  | x :: l => by simp [PyData.shownAll, shown_map d l]
theorem piled_le {B : Nat} : ∀ l : List Str, (∀ x ∈ l, x.length ≤ B) → piled l ≤ l.length * (B + 2)
  | [], _ => by simp [piled]
  | x :: l, h => by
    rw [piled_cons]
    have h1 := h x (List.mem_cons_self ..)
    have h2 := piled_le l fun y hy => h y (List.mem_cons_of_mem _ hy)
    rw [List.length_cons, Nat.add_mul, Nat.one_mul]; omega
theorem shown_nat {k : Nat} (h : k < 1000) : (dN k).shown.length ≤ 1921 := by
  show (PyData.shown (.int (k : Int))).length ≤ 1921
  have hl : ((k : Int)).natAbs.log2 < 1920 := by
    rw [Int.natAbs_natCast]
    by_cases z : k = 0
    · subst z; decide
    · exact Nat.lt_of_lt_of_le ((Nat.log2_lt z).mpr (by omega : k < 2 ^ 10)) (by omega)
  unfold PyData.shown
  exact int_text_len_1921 hl
theorem shown_set {s : List Nat} (hs : s.length ≤ 8) (h : ∀ k ∈ s, k < 1000) : (dI s).shown.length ≤ 16000 := by
  unfold dI
  rw [PyData.shown, shown_map]
  have h1 := fmt_text (s.map fun x => (dN x).shown)
  have h2 := piled_le (B := 1921) (s.map fun x => (dN x).shown) fun y hy => by
    obtain ⟨k, hk, rfl⟩ := List.mem_map.mp hy
    exact shown_nat (h k hk)
  rw [List.length_map] at h2
  have : s.length * (1921 + 2) ≤ 8 * (1921 + 2) := Nat.mul_le_mul_right _ hs
  omega
theorem shown_sets {l : List (List Nat)} (hl : l.length ≤ 256) (hs : ∀ s ∈ l, s.length ≤ 8 ∧ ∀ k ∈ s, k < 1000) : (PyData.tuple (l.map dI)).shown.length ≤ sizeLine := by
  rw [PyData.shown, shown_map]
  have h1 := fmt_text (l.map fun x => (dI x).shown)
  have h2 := piled_le (B := 16000) (l.map fun x => (dI x).shown) fun y hy => by
    obtain ⟨k, hk, rfl⟩ := List.mem_map.mp hy
    exact shown_set (hs k hk).1 (hs k hk).2
  rw [List.length_map] at h2
  have : l.length * (16000 + 2) ≤ 256 * (16000 + 2) := Nat.mul_le_mul_right _ hl
  have e : sizeLine = 16777216 := sizeLine_eq
  omega
theorem showable_ints : ∀ s : List Nat, (∀ k ∈ s, k < 1000) → PyData.showableAll (s.map dN) = true
  | [], _ => by simp [PyData.showableAll]
  | k :: s, h => by
    have hk := h k (List.mem_cons_self ..)
    have hl : ((k : Int)).natAbs.log2 < 1920 := by
      rw [Int.natAbs_natCast]
      by_cases z : k = 0
      · subst z; decide
      · exact Nat.lt_of_lt_of_le ((Nat.log2_lt z).mpr (by omega : k < 2 ^ 10)) (by omega)
    rw [Int.natAbs_natCast] at hl
    simp [PyData.showableAll, dN, PyData.showable, hl, showable_ints s fun j hj => h j (List.mem_cons_of_mem _ hj)]
theorem showable_sets : ∀ l : List (List Nat), (∀ s ∈ l, ∀ k ∈ s, k < 1000) → PyData.showableAll (l.map dI) = true
  | [], _ => by simp [PyData.showableAll]
  | s :: l, h => by
    simp [PyData.showableAll, dI, PyData.showable, showable_ints s (h s (List.mem_cons_self ..)), showable_sets l fun t ht => h t (List.mem_cons_of_mem _ ht)]
theorem nodict_ints : ∀ s : List Nat, PyData.hasDictAll (s.map dN) = false
  | [] => by simp [PyData.hasDictAll]
  | k :: s => by simp [PyData.hasDictAll, dN, PyData.hasDict, nodict_ints s]
theorem nodict_sets : ∀ l : List (List Nat), PyData.hasDictAll (l.map dI) = false
  | [] => by simp [PyData.hasDictAll]
  | s :: l => by simp [PyData.hasDictAll, dI, PyData.hasDict, nodict_ints s, nodict_sets l]
end K81
/-! ## WZ -/
namespace K81
open PySem PySem.Spec PyProof.Rows L2

abbrev s_l_same : Stmt := topS 35
abbrev N_l_same : List Str := ["_law_actual", "_law_due"]
theorem sc_l_same : FnScope N_l_same ["_law_actual", "_law_due"] (defScope s_l_same) := ⟨rfl, rfl, rfl, by decide +kernel, rfl, by decide +kernel, by decide +kernel⟩
-- slots: _law_actual:0 _law_due:1   calls: 
theorem seq_join {a b : TS} {D : Ends} {σ : L2.St} {H : Hp} (Pc : L2.St → Hp → Prop) (h1 : ∀ NX : L2.St → Hp → Prop, (∀ σ H, Pc σ H → NX σ H) → a { D with nx := NX } σ H) (h2 : ∀ σ H, Pc σ H → b D σ H) : tSeq a b D σ H := h1 _ h2
theorem tabs_tr {T : List (Addr × Str)} {H H' : Hp} {t sc : Addr} (hT : TapeOk H t sc) (k : TR t sc H H') (h : LamX.Tabs T H) : LamX.Tabs T H' := by
  obtain ⟨xs, ht⟩ := hT.lst
  intro x hx
  obtain ⟨ps, h1, h2, h3⟩ := h x hx
  refine ⟨ps, k.e.old _ _ (fun z => by rw [z, ht] at h1; cases h1) h1, h2, fun pos cv hc => ?_⟩
  obtain ⟨c, e1, e2⟩ := h3 pos cv hc
  exact ⟨c, e1, k.e.old _ _ (fun z => by rw [z, ht] at e2; unfold LamX.CodeO at e2; cases e2) e2⟩
section
variable {P : Program} {w : World} {K : PySem.W.Frag} {mg : Str → Option Value} {base : Heap} {f : Addr} {fd : FuncData}
def spSame : Sp := fun vs H Q _ => ∃ (a b : Addr) (l : List (List Nat)), vs = [.ref a, .ref b] ∧ SetsAt H a l ∧ SetsAt H b l ∧ l.length ≤ 256 ∧ (∀ s ∈ l, s.length ≤ 8 ∧ ∀ k ∈ s, k < 1000) ∧ Q (.bl true) H
theorem ok_same (F : Fun K "_law_same" "_law_same" s_l_same f fd) (B : Blt mg) : FnG P w K mg base CX0 1 f fd ["_law_actual", "_law_due"] spSame := by
  refine FnG.of F sc_l_same (fun vs H Q E h => ?_) (fun cdv A outer s H vs Q E hg hr h => ?_)
  · obtain ⟨a, b, l, rfl, _⟩ := h
    rfl
  obtain ⟨a, b, l, rfl, ⟨xa, ha, ala⟩, ⟨xb, hb, alb⟩, hl, hs, q⟩ := h
  refine ⟨_, (pss_one (ps_ret (pe_and (pe_cmpR (op_eqD (hu_le hr (by decide))) (pv 0) (pv 1) (nomark _)) (pe_one (pe_cmpR op_eq (pe_callB (cr_reprD hg (hu_le hr (by decide))) (by rfl) B.repr (by decide +kernel) (pa_cons (pv 0) pa_nil)) (pe_callB (cr_reprD hg (hu_le hr (by decide))) (by rfl) B.repr (by decide +kernel) (pa_cons (pv 1) pa_nil)) (nomark _)))))), ?_⟩
  have da : Dp K H (.ref a) (.tuple (l.map dI)) := .tup (sqt ha) (dp_all (fun _ _ z => TupI.dp z) ala)
  have db : Dp K H (.ref b) (.tuple (l.map dI)) := .tup (sqt hb) (dp_all (fun _ _ z => TupI.dp z) alb)
  have sh : SeqAt.shaped (.tuple (l.map dI)) = true := sh_tup (fun x _ => lay_dI x) fun x => by rw [dep_dI]; omega
  have eqv : PyData.eqv (.tuple (l.map dI)) (.tuple (l.map dI)) = true := by
    have := (eqv_all (d := dI) eqv_dI l l).mpr rfl
    simpa [PyData.eqv] using this
  have hd : (PyData.tuple (l.map dI)).depth ≤ 8 := by
    have := dep_all (k := 1) (d := dI) (fun x => by rw [dep_dI]; omega) l
    simp [PyData.depth]; omega
  have hsh := showable_sets l fun s hs' => (hs s hs').2
  have hnd := nodict_sets l
  have hz := shown_sets hl hs
  refine ⟨_, rfl, _, rfl, _, _, da, db, sh, sh, true, by rw [eqv], ?_⟩
  refine ite_tt ⟨_, rfl, a, _, rfl, da, hsh, hnd, hd, hz, _, rfl, b, _, rfl, db, hsh, hnd, hd, hz, rfl, ?_⟩
  rw [decide_eq_true rfl]
  exact q
end
end K81
/-! ## ZZ -/
namespace K81
open PySem PySem.Spec PyProof.Rows L2

abbrev s_law : Stmt := topS 54
abbrev N_law : List Str := ["_law_script", "_law_tape_here", "_law_family_here", "_law_words_here", "_law_names_here", "_law_sizes_here", "_law_roots", "_law_root", "_law_trees", "_law_k", "_law_demands_here", "_law_demand_here", "_law_weights_here", "_law_budget_here", "_law_whole", "_law_conflicts", "_law_corrections", "_law_fine", "_law_told", "_law_kept"]
theorem sc_law : FnScope N_law ["_law_script"] (defScope s_law) := ⟨rfl, rfl, rfl, by decide +kernel, rfl, by decide +kernel, by decide +kernel⟩
-- slots: _law_script:0 _law_tape_here:1 _law_family_here:2 _law_words_here:3 _law_names_here:4 _law_sizes_here:5 _law_roots:6 _law_root:7 _law_trees:8 _law_k:9 _law_demands_here:10 _law_demand_here:11 _law_weights_here:12 _law_budget_here:13 _law_whole:14 _law_conflicts:15 _law_corrections:16 _law_fine:17 _law_told:18 _law_kept:19   cells: _law_family_here _law_kept _law_roots _law_sizes_here _law_tape_here   calls: _law_feasible kept_of explanation_of _law_meets _law_same _law_crossing corrections_of conflicts_of _law_budget _law_draw _law_weights _law_demand _law_demands _law_tree _law_sizes _law_names _law_slot_words _law_family _law_tape
theorem shI (l : List Nat) : SeqAt.shaped (dI l) = true := shaped_of (lay_dI l) (by rw [dep_dI]; omega)
theorem g_join {a b : TS} {D : Ends} {σ : L2.St} {H : Hp} {i : Nat} {v : V} (Pc : L2.St → Hp → Prop) (h1 : ∀ NX : L2.St → Hp → Prop, (∀ σ H, Pc σ H → NX σ H) → a { D with nx := NX } (σ.set i (some v)) H) (h2 : ∀ σ H, Pc σ H → b D σ H) : gName i v σ H (tSeq a b D) := h1 _ h2
section
variable {P : Program} {w : World} {K : PySem.W.Frag} {mg : Str → Option Value} {base : Heap} {f : Addr} {fd : FuncData}
def spLaw (K : PySem.W.Frag) (P1 P2 : Addr) : Sp := fun vs H Q _ => ∃ (a : Addr) (ns : List Int), vs = [.ref a] ∧ SqL K H a (ns.map V.int) ∧ ns.length ≤ 63 ∧ LamX.Tabs (TL P1 P2) H ∧ ∀ H', Q (.bl true) H'
theorem ok_law {P1 P2 : Addr} (F : Fun K "law" "law" s_law f fd) (B : Blt mg)
    (c_l_tape : Cal P w K mg base 1 "_law_tape" ["_law_script"] (spTape K))
    (c_l_draw : Cal P w K mg base 1 "_law_draw" ["_law_tape_here", "_law_menu"] spDraw)
    (c_l_family : Cal P w K mg base 3 "_law_family" ["_law_tape_here", "_law_states", "_law_variants", "_law_low"] spFam)
    (c_l_slot_words : Cal P w K mg base 4 "_law_slot_words" ["_law_tape_here"] spSWords)
    (c_l_names : Cal P w K mg base 2 "_law_names" ["_law_tape_here", "_law_family_here", "_law_words_here"] spNames)
    (c_l_sizes : Cal P w K mg base 2 "_law_sizes" ["_law_family_here"] spLSzs)
    (c_l_tree : Cal P w K mg base 2 "_law_tree" ["_law_tape_here", "_law_family_here", "_law_sizes_here", "_law_state", "_law_room"] spTree)
    (c_l_demand : Cal P w K mg base 3 "_law_demand" ["_law_tape_here", "_law_family_here", "_law_names_here", "_law_words_here", "_law_tree_here"] spDemand)
    (c_l_demands : Cal P w K mg base 4 "_law_demands" ["_law_tape_here", "_law_family_here", "_law_names_here", "_law_words_here", "_law_tree_here", "_law_top"] spDemands)
    (c_l_weights : Cal P w K mg base 2 "_law_weights" ["_law_family_here"] spLWts)
    (c_l_budget : Cal P w K mg base 13 "_law_budget" ["_law_tape_here", "_law_family_here", "_law_names_here", "_law_demands_here", "_law_weights_here"] spBudget)
    (c_conflicts_of : Cal P w K mg base 8 "conflicts_of" ["family", "names", "demands", "budget"] (spConf P1 P2))
    (c_corrections_of : Cal P w K mg base 8 "corrections_of" ["family", "names", "demands", "budget"] (spCorr P1 P2))
    (c_l_same : CalG P w K mg base 1 "_law_same" ["_law_actual", "_law_due"] spSame)
    (c_l_crossing : Cal P w K mg base 2 "_law_crossing" ["_law_number", "_law_others"] spCrossing)
    (c_l_meets : Cal P w K mg base 14 "_law_meets" ["_law_family_here", "_law_names_here", "_law_demands_here", "_law_weights_here", "_law_budget_here", "_law_conflicts", "_law_corrections"] (spMeets P1 P2))
    (c_l_feasible : Cal P w K mg base 13 "_law_feasible" ["_law_family_here", "_law_names_here", "_law_demands_here", "_law_weights_here", "_law_budget_here"] spLFeas)
    (c_explanation_of : Cal P w K mg base 7 "explanation_of" ["family", "names", "demands", "demand", "budget"] (spExpl P1 P2))
    (c_kept_of : Cal P w K mg base 7 "kept_of" ["family", "names", "demands", "demand", "budget"] (spKept P1 P2)) :
    FnG P w K mg base CX0 15 f fd ["_law_script"] (spLaw K P1 P2) := by
  refine FnG.of F sc_law (fun vs H Q E h => ?_) (fun cdv A outer s H vs Q E hg hr h => ?_)
  · obtain ⟨a, ns, rfl, _⟩ := h
    rfl
  obtain ⟨a, ns, rfl, hs, hn, hTab, q⟩ := h
  refine ⟨_, (pss_cons (ps_set (i := 1) sc_law.nd rfl (Or.inr rfl) (pe_cal c_l_tape (hr.mono (by omega)) (by rfl) (pa_cons (pv 0) pa_nil)))
  (pss_cons (ps_set (i := 2) sc_law.nd rfl (Or.inr rfl) (pe_cal c_l_family (hr.mono (by omega)) (by rfl) (pa_cons (pv 1) (pa_cons pe_int (pa_cons pe_int (pa_cons pe_int pa_nil))))))
  (pss_cons (ps_set (i := 3) sc_law.nd rfl (Or.inl rfl) (pe_cal c_l_slot_words (hr.mono (by omega)) (by rfl) (pa_cons (pv 1) pa_nil)))
  (pss_cons (ps_set (i := 4) sc_law.nd rfl (Or.inl rfl) (pe_cal c_l_names (hr.mono (by omega)) (by rfl) (pa_cons (pv 1) (pa_cons (pv 2) (pa_cons (pv 3) pa_nil)))))
  (pss_cons (ps_set (i := 5) sc_law.nd rfl (Or.inr rfl) (pe_cal c_l_sizes (hr.mono (by omega)) (by rfl) (pa_cons (pv 2) pa_nil)))
  (pss_cons (ps_set (i := 6) sc_law.nd rfl (Or.inr rfl) (pe_lc (own := [("_law_root", 7)]) rfl sc_law.nd (pi_seq (pe_ix ix_seq (pv 2) pe_int (fun _ _ => rfl))) (blkOk_by (N := N_law) (sc := defScope s_law) (by decide +kernel)) (fun _ _ _ _ _ => (pg_name (i := 7) sc_law.nd rfl (Or.inl rfl))) (fun _ _ _ _ _ => (pts_one (PW.pt (pw_and (pt_cmpR op_notN (pe_ix (r := rIx K) ix_seq (pv 5) (pv 7) (fun _ _ => rfl)) pe_non (nomark _)) (pw_and1 (pt_cmpR op_le (pe_ix (r := rIx K) ix_seq (pv 5) (pv 7) (fun _ _ => rfl)) pe_int (nomark _))))))) (fun _ _ _ _ _ => (pv 7))))
  (pss_cons (ps_set (i := 8) sc_law.nd rfl (Or.inl rfl) (pe_lst (pa_cons (pe_tup pa_nil) (pa_cons (pe_tup pa_nil) pa_nil))))
  (pss_cons (ps_if (pt_truth (pv 6) (by intro _; rfl)) (pss_one (ps_setLc (i := 8) (own := [("_law_k", 9)]) rfl sc_law.nd rfl rfl (sw_true rfl rfl rfl (by decide +kernel)) (pi_range1 (by rfl) B.range (pa_cons pe_int pa_nil)) (blkOk_by (N := N_law) (sc := defScope s_law) (by decide +kernel)) (fun _ _ _ _ _ => (pg_name (i := 9) sc_law.nd rfl (Or.inl rfl))) (fun _ _ _ _ _ => pts_nil) (fun _ _ _ _ _ => (pe_cal c_l_tree (hr.mono (by omega)) (by rfl) (pa_cons (pv 1) (pa_cons (pv 2) (pa_cons (pv 5) (pa_cons (pe_ix (r := rIx K) ix_seq (pv 6) (pe_cal c_l_draw (hr.mono (by omega)) (by rfl) (pa_cons (pv 1) (pa_cons (pe_callB (r := rLenQ K) call_lenQ (by rfl) B.len (by decide +kernel) (pa_cons (pv 6) pa_nil)) pa_nil))) (fun _ _ => rfl)) (pa_cons pe_int pa_nil))))))))) pss_nil)
  (pss_cons (ps_set (i := 10) sc_law.nd rfl (Or.inl rfl) (pe_cal c_l_demands (hr.mono (by omega)) (by rfl) (pa_cons (pv 1) (pa_cons (pv 2) (pa_cons (pv 4) (pa_cons (pv 3) (pa_cons (pe_ix ix_seq (pv 8) pe_int (fun _ _ => rfl)) (pa_cons pe_int pa_nil))))))))
  (pss_cons (ps_set (i := 11) sc_law.nd rfl (Or.inl rfl) (pe_cal c_l_demand (hr.mono (by omega)) (by rfl) (pa_cons (pv 1) (pa_cons (pv 2) (pa_cons (pv 4) (pa_cons (pv 3) (pa_cons (pe_ix ix_seq (pv 8) pe_int (fun _ _ => rfl)) pa_nil)))))))
  (pss_cons (ps_set (i := 12) sc_law.nd rfl (Or.inl rfl) (pe_cal c_l_weights (hr.mono (by omega)) (by rfl) (pa_cons (pv 2) pa_nil)))
  (pss_cons (ps_set (i := 13) sc_law.nd rfl (Or.inl rfl) (pe_cal c_l_budget (hr.mono (by omega)) (by rfl) (pa_cons (pv 1) (pa_cons (pv 2) (pa_cons (pv 4) (pa_cons (pe_slice sl_tupA (pv 10) po_none (po_some (pe_cal c_l_draw (hr.mono (by omega)) (by rfl) (pa_cons (pv 1) (pa_cons pe_int pa_nil))))) (pa_cons (pv 12) pa_nil)))))))
  (pss_cons (ps_set (i := 14) sc_law.nd rfl (Or.inl rfl) (pe_op op_catA (pv 10) (pe_tup (pa_cons (pv 11) pa_nil))))
  (pss_cons (ps_set (i := 15) sc_law.nd rfl (Or.inl rfl) (pe_cal c_conflicts_of (hr.mono (by omega)) (by rfl) (pa_cons (pv 2) (pa_cons (pv 4) (pa_cons (pv 14) (pa_cons (pv 13) pa_nil))))))
  (pss_cons (ps_set (i := 16) sc_law.nd rfl (Or.inl rfl) (pe_cal c_corrections_of (hr.mono (by omega)) (by rfl) (pa_cons (pv 2) (pa_cons (pv 4) (pa_cons (pv 14) (pa_cons (pv 13) pa_nil))))))
  (pss_cons (ps_if (PW.pt (pw_or (pt_not (pt_val (pe_calG c_l_same hg (hr.mono (by omega)) (by rfl) (pa_cons (pv 16) (pa_cons (pe_cal c_l_crossing (hr.mono (by omega)) (by rfl) (pa_cons (pe_callB call_len_seq (by rfl) B.len (by decide +kernel) (pa_cons (pv 14) pa_nil)) (pa_cons (pv 15) pa_nil))) pa_nil))))) (pw_or1 (pt_not (pt_val (pe_calG c_l_same hg (hr.mono (by omega)) (by rfl) (pa_cons (pv 15) (pa_cons (pe_cal c_l_crossing (hr.mono (by omega)) (by rfl) (pa_cons (pe_callB call_len_seq (by rfl) B.len (by decide +kernel) (pa_cons (pv 14) pa_nil)) (pa_cons (pv 16) pa_nil))) pa_nil)))))))) (pss_one (ps_ret pe_bl)) pss_nil)
  (pss_cons (ps_if (pt_not (pt_val (pe_cal c_l_meets (hr.mono (by omega)) (by rfl) (pa_cons (pv 2) (pa_cons (pv 4) (pa_cons (pv 14) (pa_cons (pv 12) (pa_cons (pv 13) (pa_cons (pv 15) (pa_cons (pv 16) pa_nil)))))))))) (pss_one (ps_ret pe_bl)) pss_nil)
  (pss_cons (ps_set (i := 17) sc_law.nd rfl (Or.inl rfl) (pe_cal c_l_feasible (hr.mono (by omega)) (by rfl) (pa_cons (pv 2) (pa_cons (pv 4) (pa_cons (pv 10) (pa_cons (pv 12) (pa_cons (pv 13) pa_nil)))))))
  (pss_cons (ps_if (PW.pt (pw_and (pt_val (pv 17)) (pw_and1 (pt_not (pt_val (pe_cal c_l_feasible (hr.mono (by omega)) (by rfl) (pa_cons (pv 2) (pa_cons (pv 4) (pa_cons (pv 14) (pa_cons (pv 12) (pa_cons (pv 13) pa_nil))))))))))) (pss_cons (ps_set (i := 18) sc_law.nd rfl (Or.inl rfl) (pe_cal c_explanation_of (hr.mono (by omega)) (by rfl) (pa_cons (pv 2) (pa_cons (pv 4) (pa_cons (pv 10) (pa_cons (pv 11) (pa_cons (pv 13) pa_nil)))))))
  (pss_one (ps_if (PW.pt (pw_or (pt_not (pt_val (pe_callB call_isi (by rfl) B.isinstance (by decide +kernel) (pa_cons (pv 18) (pa_cons (pe_bltn (v := .ty "tuple") (u := .type "tuple") (by rfl) B.tuple (by decide +kernel) rfl) pa_nil))))) (pw_or1 (pt_cmpR (op_notInT (hu_le hr (by decide))) (pe_op op_catA (pv 18) (pe_tup (pa_cons (pe_callB call_len_seq (by rfl) B.len (by decide +kernel) (pa_cons (pv 10) pa_nil)) pa_nil))) (pv 15) (by rfl))))) (pss_one (ps_ret pe_bl)) pss_nil))) pss_nil)
  (pss_cons (ps_if (pt_val (pe_cal c_l_feasible (hr.mono (by omega)) (by rfl) (pa_cons (pv 2) (pa_cons (pv 4) (pa_cons (pe_tup (pa_cons (pv 11) pa_nil)) (pa_cons (pv 12) (pa_cons (pv 13) pa_nil))))))) (pss_cons (ps_set (i := 19) sc_law.nd rfl (Or.inr rfl) (pe_cal c_kept_of (hr.mono (by omega)) (by rfl) (pa_cons (pv 2) (pa_cons (pv 4) (pa_cons (pv 10) (pa_cons (pv 11) (pa_cons (pv 13) pa_nil)))))))
  (pss_one (ps_if (PW.pt (pw_or (pt_not (pt_val (pe_callB call_isi (by rfl) B.isinstance (by decide +kernel) (pa_cons (pv 19) (pa_cons (pe_bltn (v := .ty "tuple") (u := .type "tuple") (by rfl) B.tuple (by decide +kernel) rfl) pa_nil))))) (pw_or1 (pt_cmpR (op_notInT (hu_le hr (by decide))) (pe_callTy call_tuple_of (by rfl) B.tuple (by decide +kernel) (pa_cons (pe_lc (own := [("_law_k", 9)]) rfl sc_law.nd (pi_range1 (by rfl) B.range (pa_cons (pe_callB call_len_seq (by rfl) B.len (by decide +kernel) (pa_cons (pv 10) pa_nil)) pa_nil)) (blkOk_by (N := N_law) (sc := defScope s_law) (by decide +kernel)) (fun _ _ _ _ _ => (pg_name (i := 9) sc_law.nd rfl (Or.inl rfl))) (fun _ _ _ _ _ => (pts_one (pt_cmpR (r := rIn K true) op_notIn_seq (pv 9) (pv 19) (by rfl)))) (fun _ _ _ _ _ => (pv 9))) pa_nil)) (pv 16) (by rfl))))) (pss_one (ps_ret pe_bl)) pss_nil))) pss_nil)
  (pss_one (ps_ret pe_bl)))))))))))))))))))))), ?_⟩
  refine ⟨_, rfl, a, ns, rfl, hs, hn, fun t sc H1 k1 hT1 ht0 => ?_⟩
  have Tab1 := (k1.kp (TL P1 P2)).tab hTab
  refine ⟨_, rfl, t, sc, rfl, hT1, fun fa fm H2 k2 hT2 hfam wf => ?_⟩
  refine ⟨_, rfl, t, sc, rfl, hT2, fun wa H3 l k3 hT3 hw0 hw wok wnd wl => ?_⟩
  have hwt : wa ≠ t := (hT2.fr hw0).1
  refine ⟨_, rfl, _, rfl, _, rfl, t, sc, fa, wa, fm, l, rfl, hT3, hfam.ts (k3.ts hT2), wf, hwt, hw, wok, wnd, wl, fun na H4 names k4 hT4 g4 => ?_⟩
  have hw4 : H4 wa = some (.lst (l.map V.str)) := k4.e.old _ _ hwt hw
  refine ⟨_, rfl, fa, fm, rfl, g4.fam, wf, fun sa H5 sx k5 hs0 hsx als hZ => ?_⟩
  have hst : sa ≠ t := (hT4.fr hs0).1
  have hT5 := hT4.ext k5.old
  have g5 := g4.ts k5.ts k5.fs
  have hw5 := k5.old _ _ hw4
  have Tab5 : LamX.Tabs (TL P1 P2) H5 := (k5.kp _).tab (tabs_tr hT3 k4 (tabs_tr hT2 k3 (tabs_tr hT1 k2 Tab1)))
  obtain ⟨ra, ba, vx, hfa, hra, hba, alv⟩ := g5.fam.ex
  have szl : (szs fm).length = fm.count := lw_len (fz_wf wf)
  -- the roots that have a size
  refine .inr ⟨_, rfl, q_ixT1 hfa rfl ⟨ra, rfl, ⟨_, sqt hra⟩, fun R hR => ?_⟩⟩
  refine lc_gT (prEx H5) (R := fun _ y (m : Nat) => y = nI m) (fun _ _ _ _ _ z => z) (bs := fm.roots) (φ := fun r => if (match tf (szs fm) r with | some b => decide (b.2 ≤ 40) | none => false) = true then some r else none) (small1000 (by have := wf.nr; omega)) hR hra (by rw [List.length_map]) (fun i x b H6 hx hb k6 N no yes => ?_) (fun H6 acc k6 ha6 al6 => ?_)
  · obtain rfl : x = nI b := by
      rw [List.getElem?_map, hb] at hx
      exact (Option.some.inj hx).symm
    have bl : b < (szs fm).length := by rw [szl]; exact wf.roots b (List.mem_of_getElem? hb)
    obtain ⟨y, hy, ho⟩ := als.get (tb_at bl)
    have hsx6 := k6.old _ _ hsx
    refine ⟨rfl, _, rfl, _, rfl, q_ixL hsx6 hy ⟨rfl, ?_⟩⟩
    rw [ho.isn]
    cases ht : tf (szs fm) b with
    | none => exact ⟨_, rfl, ite_f rfl (ite_ff (no _ (.refl _) (by simp [ht])))⟩
    | some z =>
      refine ⟨_, rfl, ite_t rfl ⟨_, rfl, _, rfl, q_ixL hsx6 hy ⟨((z.2 : Nat) : Int), 40, by rw [show y = _ from ho, ht]; rfl, rfl, _, rfl, ?_⟩⟩⟩
      by_cases hz : z.2 ≤ 40
      · exact ite_t (decide_eq_true (by omega)) ⟨_, rfl, yes _ _ _ (.refl _) (by simp [ht, hz]) rfl⟩
      · exact ite_f (decide_eq_false (by omega)) (no _ (.refl _) (by simp [ht, hz]))
  obtain rfl := l_ints al6
  have hrk : ∀ r ∈ fm.roots.filterMap (fun r => if (match tf (szs fm) r with | some b => decide (b.2 ≤ 40) | none => false) = true then some r else none), r < fm.count ∧ ∃ b, tf (szs fm) r = some b ∧ b.2 ≤ 40 := fun r hr' => by
    obtain ⟨r0, h0, e0⟩ := List.mem_filterMap.mp hr'
    cases ht : tf (szs fm) r0 with
    | none => simp [ht] at e0
    | some z =>
      simp [ht] at e0
      obtain ⟨e1, rfl⟩ := e0
      exact ⟨wf.roots _ h0, z, ht, e1⟩
  have hrl : (fm.roots.filterMap (fun r => if (match tf (szs fm) r with | some b => decide (b.2 ≤ 40) | none => false) = true then some r else none)).length ≤ 4 := Nat.le_trans (List.length_filterMap_le _ _) wf.nr
  generalize fm.roots.filterMap (fun r => if (match tf (szs fm) r with | some b => decide (b.2 ≤ 40) | none => false) = true then some r else none) = rs at ha6 hrk hrl
  have k56 : TR t sc H5 H6 := k6.tr t sc
  have hT6 := hT5.ext k6.old
  have hRt := hT5.fr hR
  -- the trees
  refine ⟨(by show 0 ≤ sizeLine; decide), fun p1 hp1 => ⟨(by show 0 ≤ sizeLine; decide), fun p2 hp2 => ⟨(by show 2 ≤ sizeLine; decide), fun L hL => ?_⟩⟩⟩
  have k67 : TR t sc H6 (upd (upd (upd H6 p1 (.tup [])) p2 (.tup [])) L (.lst [.ref p1, .ref p2])) := (((TR.refl t sc _).nw hp1 _).nw hp2 _).nw hL _
  have e1 : (upd (upd (upd H6 p1 (.tup [])) p2 (.tup [])) L (.lst [.ref p1, .ref p2])) p1 = some (.tup []) := (Ex.new hL _).old _ _ ((Ex.new hp2 _).old _ _ upd_same)
  have e2 : (upd (upd (upd H6 p1 (.tup [])) p2 (.tup [])) L (.lst [.ref p1, .ref p2])) p2 = some (.tup []) := (Ex.new hL _).old _ _ upd_same
  have eL : (upd (upd (upd H6 p1 (.tup [])) p2 (.tup [])) L (.lst [.ref p1, .ref p2])) L = some (.lst [.ref p1, .ref p2]) := upd_same
  have hLt : L ≠ t := ((((hT6.ext (Ex.new hp1 _).old).ext (Ex.new hp2 _).old)).fr hL).1
  generalize upd (upd (upd H6 p1 (.tup [])) p2 (.tup [])) L (.lst [.ref p1, .ref p2]) = H7 at k67 e1 e2 eL ⊢
  have hT7 := k67.tp hT6
  have k57 := k56.trans k67
  have hR7 : H7 R = some (.lst (rs.map nI)) := k67.e.old _ _ hRt.1 ha6
  dsimp only
  refine g_join (fun σ H' => ∃ (la ta tb : Addr) (tr1 tr2 : List Nat) (e9 : Option V), σ = [some (.ref a), some (.ref t), some (.ref fa), some (.ref wa), some (.ref na), some (.ref sa), some (.ref R), none, some (.ref la), e9, none, none, none, none, none, none, none, none, none, none] ∧ TR t sc H5 H' ∧ TapeOk H' t sc ∧ la ≠ t ∧ H' la = some (.lst [.ref ta, .ref tb]) ∧
    (H' ta = some (.tup (tr1.map nI)) ∧ (∀ k ∈ tr1, k < fm.vars.length) ∧ tr1.length ≤ 40) ∧ (H' tb = some (.tup (tr2.map nI)) ∧ (∀ k ∈ tr2, k < fm.vars.length) ∧ tr2.length ≤ 40)) (fun NX hNX => ?_) (fun σ H8 h8 => ?_)
  · refine ⟨_, rfl, _, .inl ⟨_, sql hR7, rfl⟩, ?_⟩
    cases hrs : rs with
    | nil => exact ite_f rfl (hNX _ _ ⟨L, p1, p2, [], [], _, rfl, k57, hT7, hLt, eL, ⟨e1, fun k hk => (nomatch hk), by simp⟩, ⟨e2, fun k hk => (nomatch hk), by simp⟩⟩)
    | cons r0 rt =>
      rw [← hrs]
      refine ite_t (by rw [hrs]; rfl) ⟨_, rfl, by omega, by omega, fun D1 hD1 => ?_⟩
      refine lc_gR (n := 2) (prTR hT7) (R := fun H y (_ : Unit) => ∃ tr : List Nat, TupI H y tr ∧ (∀ k ∈ tr, k < fm.vars.length) ∧ tr.length ≤ 40) (fun A B y z k h => let ⟨tr, h1, h2⟩ := h; ⟨tr, h1.ts k, h2⟩) (φ := fun _ => some ()) (small1000 (by omega)) hD1 (fun i H8 hi k8 N no yes => ?_) (fun H8 acc k8 ha8 al8 => ?_)
      · have hT8 := k8.tp hT7
        refine ⟨rfl, ?_⟩
        refine ite_tt (b := N H8) ?_
        refine ⟨_, rfl, _, rfl, _, rfl, _, rfl, _, rfl, _, rfl, R, _, rfl, .inl (sql (k8.e.old _ _ hRt.1 hR7)), t, sc, rs.length, by rw [List.length_map]; rfl, hT8, by omega, fun d H9 k9 hT9 hd => ?_⟩
        have hdl : d < rs.length := by rw [hrs] at hd ⊢; simp at hd ⊢; omega
        obtain ⟨hr1, b, hr2, hr3⟩ := hrk _ (List.getElem_mem hdl)
        have k79 := k8.trans k9
        refine q_ixL (v := nI rs[d]) (k79.e.old _ _ hRt.1 hR7) (by rw [List.getElem?_map, List.getElem?_eq_getElem hdl]; rfl) ?_
        refine ⟨t, sc, fa, sa, fm, sx, rs[d], b, rfl, hT9, g5.fam.ts ((k57.trans k79).ts hT5), wf, (k57.trans k79).e.old _ _ hst hsx, als, hst, hr1, hr2, hr3, fun r H10 tr k10 hT10 hr hk hl => ?_⟩
        exact yes _ () _ (k9.trans k10) rfl ⟨tr, ⟨r, rfl, hr⟩, hk, hl⟩
      · have al9 : All2 (fun y (_ : Unit) => ∃ tr : List Nat, TupI H8 y tr ∧ (∀ k ∈ tr, k < fm.vars.length) ∧ tr.length ≤ 40) acc [(), ()] := al8
        cases al9 with
        | cons h1 al9 =>
        cases al9 with
        | cons h2 al9 =>
        cases al9
        obtain ⟨tr1, ⟨b1, rfl, q1⟩, q2⟩ := h1
        obtain ⟨tr2, ⟨b2, rfl, q3⟩, q4⟩ := h2
        exact hNX _ _ ⟨D1, b1, b2, tr1, tr2, _, rfl, k57.trans k8, k8.tp hT7, (hT7.fr hD1).1, ha8, ⟨q1, q2⟩, ⟨q3, q4⟩⟩
  · obtain ⟨la, ta, tb, tr1, tr2, e9, rfl, k58, hT8, hlat, hla, ⟨hta, htk1, htl1⟩, ⟨htb, htk2, htl2⟩⟩ := h8
    have g8 := g5.ts (k58.ts hT5) (k58.fs hT5)
    have hw8 := k58.e.old _ _ hwt hw5
    refine ⟨_, rfl, _, rfl, _, rfl, _, rfl, _, rfl, q_ixLi hla (by decide) rfl ⟨t, sc, fa, na, wa, ta, fm, names, l, tr1, rfl, ⟨hT8, g8, hwt, hw8, wok, wl, hta, htk1, htl1⟩, fun da H9 D k9 hD Dl dok => ?_⟩⟩
    have hT9 := k9.tp hT8
    have g9 := g8.ts (k9.ts hT8) (k9.fs hT8)
    refine ⟨_, rfl, _, rfl, _, rfl, _, rfl, _, rfl, q_ixLi (k9.e.old _ _ hlat hla) (by decide) rfl ⟨t, sc, fa, na, wa, tb, fm, names, l, tr2, rfl, ⟨hT9, g9, hwt, k9.e.old _ _ hwt hw8, wok, wl, k9.ts hT8 _ _ htb, htk2, htl2⟩, fun d1 H10 d k10 hd dok1 => ?_⟩⟩
    have hT10 := k10.tp hT9
    have g10 := g9.ts (k10.ts hT9) (k10.fs hT9)
    refine ⟨_, rfl, fa, fm, rfl, g10.fam, wf, fun we H11 ws k11 hwe0 hwe alw => ?_⟩
    have hwet : we ≠ t := (hT10.fr hwe0).1
    have hT11 := hT10.ext k11.old
    have g11 := g10.ts k11.ts k11.fs
    have hD11 : DsAt H11 da D := (hD.ts (k10.ts hT9)).ts k11.ts
    have hd11 : DmAt H11 (.ref d1) d := hd.ts k11.ts
    have Tab11 : LamX.Tabs (TL P1 P2) H11 := (k11.kp _).tab (tabs_tr hT9 k10 (tabs_tr hT8 k9 (tabs_tr hT5 k58 Tab5)))
    have lg11 : LGiven H11 fa na da we fm names D (lw fm) := ⟨g11, hD11, .of (by omega) dok, ⟨ws, hwe, alw⟩, lw_len wf⟩
    obtain ⟨dx, hdx, ald⟩ := id hD11
    refine ⟨_, rfl, _, rfl, _, rfl, _, rfl, _, rfl, t, sc, 3, rfl, hT11, by omega, fun n3 H12 k12 hT12 hn3 => ⟨_, rfl, ?_⟩⟩
    have hT12' := k12.tp hT11
    refine q_slA (k12.ts hT11 _ _ hdx) (cut_take n3) fun pp H13 k13 hpp => ?_
    have k1113 : TR t sc H11 H13 := k12.trans (k13.tr t sc)
    have hT13 := k1113.tp hT11
    have ts13 := k1113.ts hT11
    have hDt : DsAt H13 pp (D.take n3) := ⟨_, hpp, (ald.mono fun _ _ z => z.ts ts13).take n3⟩
    have lg13 := lg11.tr_ hT11 hwet k1113
    refine ⟨_, rfl, t, sc, fa, na, pp, we, fm, names, D.take n3, lw fm, rfl, hT13, hwet, ⟨lg13.g, hDt, .of (by rw [List.length_take]; omega) fun x hx => dok x (List.mem_of_mem_take hx), lg13.wl, lg13.tl⟩, fun bud H14 k14 => ?_⟩
    have lg14 := lg13.tr_ hT13 hwet k14
    have ts14 := k14.ts hT13
    have Tab14 := tabs_tr hT13 k14 (tabs_tr hT11 k1113 Tab11)
    have hd14 := (hd11.ts ts13).ts ts14
    have hdx14 := ts14 _ _ (ts13 _ _ hdx)
    have ald14 : All2 (DmAt H14) dx D := ald.mono fun _ _ z => (z.ts ts13).ts ts14
    -- the whole
    have hsz : dx.length + [V.ref d1].length ≤ sizeLine := by
      have h8 : (8 : Nat) ≤ sizeLine := by decide
      rw [ald.len, List.length_singleton]; omega
    refine ⟨_, rfl, _, rfl, (by show 1 ≤ sizeLine; decide), fun p1 hp1 => q_catA ((Ex.new hp1 _).old _ _ hdx14) upd_same hsz fun wh H15 k15 hwh => ?_⟩
    have k1415 : Ex H14 H15 := (Ex.new hp1 _).trans k15
    have hW : DsAt H15 wh (D ++ [d]) := ⟨_, hwh, (ald14.mono fun _ _ z => z.ts k1415.ts).snoc (hd14.ts k1415.ts)⟩
    have hxl : (dx ++ [V.ref d1]).length = (D ++ [d]).length := by rw [List.length_append, List.length_append, ald.len]; rfl
    have hWl : (D ++ [d]).length ≤ 4 := by rw [List.length_append]; show D.length + 1 ≤ 4; omega
    have hdx15 := k1415.ts _ _ hdx14
    have dokW : ∀ x ∈ D ++ [d], DmOk x := fun x hx => by
      rcases List.mem_append.mp hx with z | z
      · exact dok x z
      · rw [List.mem_singleton.mp z]; exact dok1
    have lg15 := lg14.ex k1415
    have Tab15 := (k1415.kp (TL P1 P2)).tab Tab14
    have lgk : ∀ {H' : Hp}, Kp (TL P1 P2) H15 H' → LGiven H' fa na da we fm names D (lw fm) := fun k => lg15.ts k.ts k.fs fun _ _ e => k.old _ _ e (by intro ps z; cases z)
    have hWk : ∀ {H' : Hp}, Kp (TL P1 P2) H15 H' → DsAt H' wh (D ++ [d]) := fun k => hW.ts k.ts
    have hdk : ∀ {H' : Hp}, Kp (TL P1 P2) H15 H' → DmAt H' (.ref d1) d := fun k => (hd14.ts k1415.ts).ts k.ts
    refine ⟨_, rfl, _, rfl, _, rfl, _, rfl, fa, na, wh, fm, names, D ++ [d], bud, rfl, lg15.g, hW, by omega, dokW, Tab15, fun ca H16 k16 hc => ?_⟩
    refine ⟨_, rfl, _, rfl, _, rfl, _, rfl, fa, na, wh, fm, names, D ++ [d], bud, rfl, (lgk k16).g, hWk k16, by omega, dokW, k16.tab Tab15, fun ra2 H17 k17 hrr => ?_⟩
    have k1517 := k16.trans k17
    have hc17 := hc.ts k17.ts
    have hDn : Dn (fun s => fe fm names bud (pick (D ++ [d]) s)) (D ++ [d]).length := dn_pick (fe_mono wf g5.nlen) _
    have mC : ∀ c, c ∈ (sets (D ++ [d]).length).filter (isConf fun s => fe fm names bud (pick (D ++ [d]) s)) ↔ c.Sublist (List.range (D ++ [d]).length) ∧ isConf (fun s => fe fm names bud (pick (D ++ [d]) s)) c = true := fun c => by rw [List.mem_filter, sets_iff]
    have mR : ∀ c, c ∈ (sets (D ++ [d]).length).filter (isCorr (fun s => fe fm names bud (pick (D ++ [d]) s)) (D ++ [d]).length) ↔ c.Sublist (List.range (D ++ [d]).length) ∧ isCorr (fun s => fe fm names bud (pick (D ++ [d]) s)) (D ++ [d]).length c = true := fun c => by rw [List.mem_filter, sets_iff]
    have eR := List.filter_congr fun s (hs : s ∈ sets (D ++ [d]).length) => corr_is hDn mC (sets_iff.mp hs)
    have eC := List.filter_congr fun s (hs : s ∈ sets (D ++ [d]).length) => conf_is hDn mR (sets_iff.mp hs)
    generalize hCS : (sets (D ++ [d]).length).filter (isConf fun s => fe fm names bud (pick (D ++ [d]) s)) = CS at mC hc17 eC eR
    generalize hRS : (sets (D ++ [d]).length).filter (isCorr (fun s => fe fm names bud (pick (D ++ [d]) s)) (D ++ [d]).length) = RS at mR hrr eC eR
    have lC : CS.length ≤ 256 := by
      rw [← hCS]
      exact Nat.le_trans (List.length_filter_le _ _) (by rw [sets_len]; exact pow_le (by omega))
    have lR : RS.length ≤ 256 := by
      rw [← hRS]
      exact Nat.le_trans (List.length_filter_le _ _) (by rw [sets_len]; exact pow_le (by omega))
    have bS : ∀ s : List Nat, s.Sublist (List.range (D ++ [d]).length) → s.length ≤ 8 ∧ ∀ k ∈ s, k < 1000 := fun s hs => by
      have h1 := hs.length_le
      rw [List.length_range] at h1
      exact ⟨by omega, fun k hk => by have := sub_lt hs hk; omega⟩
    refine ⟨_, rfl, _, rfl, wh, _, rfl, .inr (sqt (k1517.ts _ _ hwh)), _, rfl, (D ++ [d]).length, ca, CS, congrArg (fun k : Nat => [V.int (k : Int), V.ref ca]) hxl, by omega, hc17, lC, fun s hs => (bS s ((mC s).mp hs).1).1, fun x1 H18 k18 hx1 => ?_⟩
    rw [eR] at hx1
    have hr18 := hrr.ts k18.ts
    refine ⟨ra2, x1, RS, rfl, hr18, hx1, lR, fun s hs => bS s ((mR s).mp hs).1, ⟨_, rfl, ite_f rfl ?_⟩⟩
    have k1718 : Kp (TL P1 P2) H17 H18 := k18.kp _
    have k1518 := k1517.trans k1718
    refine ⟨_, rfl, _, rfl, wh, _, rfl, .inr (sqt (k1518.ts _ _ hwh)), _, rfl, (D ++ [d]).length, ra2, RS, congrArg (fun k : Nat => [V.int (k : Int), V.ref ra2]) hxl, by omega, hr18, lR, fun s hs => (bS s ((mR s).mp hs).1).1, fun x2 H19 k19 hx2 => ?_⟩
    rw [eC] at hx2
    have hc18 := hc17.ts k18.ts
    have hc19 := hc18.ts k19.ts
    have hr19 := hr18.ts k19.ts
    refine ⟨ca, x2, CS, rfl, hc19, hx2, lC, fun s hs => bS s ((mC s).mp hs).1, ⟨_, rfl, ite_f rfl ?_⟩⟩
    have k1519 : Kp (TL P1 P2) H15 H19 := k1518.trans (k19.kp _)
    refine ⟨_, rfl, _, rfl, _, rfl, _, rfl, _, rfl, _, rfl, _, rfl, fa, na, wh, we, ca, ra2, fm, names, D ++ [d], bud, CS, RS, rfl, ⟨(lgk k1519).g, hWk k1519, .of (by omega) dokW, (lgk k1519).wl, lg15.tl⟩, dokW, by omega, hc19, hr19, fun c hc0 => ?_, fun c hc0 => ?_, k1519.tab Tab15, fun H20 k20 => ⟨_, rfl, ite_f rfl ?_⟩⟩
    · obtain ⟨h1, h2⟩ := (mC c).mp hc0
      unfold isConf at h2
      exact ⟨h1, by simpa using (Bool.and_eq_true_iff.mp h2).1⟩
    · obtain ⟨h1, h2⟩ := (mR c).mp hc0
      unfold isCorr at h2
      exact (Bool.and_eq_true_iff.mp h2).2
    have k1520 := k1519.trans k20
    refine ⟨_, rfl, _, rfl, _, rfl, _, rfl, _, rfl, fa, na, da, we, fm, names, D, lw fm, bud, rfl, lgk k1520, fun H21 k21 => ?_⟩
    have k1521 : Kp (TL P1 P2) H15 H21 := k1520.trans (k21.kp _)
    have hc21 : SetsAt H21 ca CS := (hc19.ts k20.ts).ts k21.ts
    have hr21 : SetsAt H21 ra2 RS := (hr19.ts k20.ts).ts k21.ts
    have hfe : fe fm names bud D = feas fm names D (tf (lw fm)) bud := rfl
    rw [← hfe]
    dsimp only
    refine g_join (fun σ H' => ∃ e17 e18 : Option V, σ = [some (.ref a), some (.ref t), some (.ref fa), some (.ref wa), some (.ref na), some (.ref sa), some (.ref R), none, some (.ref la), e9, some (.ref da), some (.ref d1), some (.ref we), some (oI bud), some (.ref wh), some (.ref ca), some (.ref ra2), e17, e18, none] ∧ Kp (TL P1 P2) H21 H') (fun NX hNX => ?_) (fun σ H22 h22 => ?_)
    · refine ⟨_, rfl, _, rfl, ?_⟩
      cases hF : fe fm names bud D with
      | false => exact ite_ff (ite_ff (hNX _ _ ⟨_, _, rfl, .refl _ _⟩))
      | true =>
        refine ite_tt ⟨_, rfl, _, rfl, _, rfl, _, rfl, _, rfl, fa, na, wh, we, fm, names, D ++ [d], lw fm, bud, rfl, ⟨(lgk k1521).g, hWk k1521, .of (by omega) dokW, (lgk k1521).wl, lg15.tl⟩, fun H22 k22 => ⟨_, rfl, ?_⟩⟩
        have k2122 : Kp (TL P1 P2) H21 H22 := k22.kp _
        cases hG : feas fm names (D ++ [d]) (tf (lw fm)) bud with
        | true => exact ite_f rfl (hNX _ _ ⟨_, _, rfl, k2122⟩)
        | false =>
          have hG' : fe fm names bud (D ++ [d]) = false := hG
          have k1522 := k1521.trans k2122
          refine ite_t rfl ⟨_, rfl, _, rfl, _, rfl, _, rfl, _, rfl, fa, na, da, .ref d1, fm, names, D, d, bud, rfl, (lgk k1522).g, (lgk k1522).d, hdk k1522, by omega, dok, dok1, k1522.tab Tab15, hG', fun r H23 k23 hr23 => ?_⟩
          have k1523 := k1522.trans k23
          obtain ⟨sub, cf⟩ := ex_conf (fe_mono (bud := bud) wf g5.nlen) hF hG'
          have hlen : (D ++ [d]).length = D.length + 1 := by rw [List.length_append]; rfl
          refine ⟨_, rfl, _, _, .type "tuple", .type "tuple", true, rfl, .ty _, .base (.tup hr23), kit_ty (by decide +kernel), ⟨_, rfl, ite_f rfl ?_⟩⟩
          have hex : (exOf (fe fm names bud) D d).length ≤ 3 := by
            have h1 := sub.length_le
            rw [List.length_append, List.length_singleton, List.length_range] at h1; omega
          have hsz2 : ((exOf (fe fm names bud) D d).map nI).length + [V.int ((dx.length : Nat) : Int)].length ≤ sizeLine := by
            have h8 : (8 : Nat) ≤ sizeLine := by decide
            rw [List.length_map, List.length_singleton]; omega
          have hmem : (exOf (fe fm names bud) D d ++ [D.length]) ∈ CS := (mC _).mpr ⟨by rw [hlen]; exact sub, cf⟩
          refine ⟨_, rfl, _, rfl, da, _, rfl, .inr (sqt (k1523.ts _ _ hdx15)), (by show 1 ≤ sizeLine; decide), fun p3 hp3 => q_catA ((Ex.new hp3 _).old _ _ hr23) upd_same hsz2 fun p4 H24 k24 hp4 => ?_⟩
          have k2324 : Ex H23 H24 := (Ex.new hp3 _).trans k24
          have k2124 : Kp (TL P1 P2) H21 H24 := (k2122.trans k23).trans (k2324.kp _)
          have e4 : ((exOf (fe fm names bud) D d).map nI ++ [V.int ((dx.length : Nat) : Int)]) = (exOf (fe fm names bud) D d ++ [D.length]).map nI := by rw [List.map_append, ald.len]; rfl
          rw [e4] at hp4
          obtain ⟨cx, hcx, alc⟩ := hc21.ts k2124.ts
          refine ⟨_, rfl, dI (exOf (fe fm names bud) D d ++ [D.length]), CS.map dI, TupI.dp ⟨p4, rfl, hp4⟩, .tup (sqt hcx) (dp_all (fun _ _ z => TupI.dp z) alc), shI _, sh_tup (fun x _ => lay_dI x) (fun x => by rw [dep_dI]; omega), ⟨_, rfl, ite_f (by rw [any_t eqv_dI hmem]; rfl) (hNX _ _ ⟨_, _, rfl, k2124⟩)⟩⟩
    · obtain ⟨e17, e18, rfl, k2122⟩ := h22
      have k1522 := k1521.trans k2122
      refine ⟨_, rfl, _, rfl, _, rfl, (by show 1 ≤ sizeLine; decide), fun pd hpd => ?_⟩
      have kpd : Kp (TL P1 P2) H15 (upd H22 pd (.tup [.ref d1])) := k1522.nw hpd _
      refine ⟨_, rfl, _, rfl, fa, na, pd, we, fm, names, [d], lw fm, bud, rfl, ⟨(lgk kpd).g, ⟨_, upd_same, .cons (hdk kpd) .nil⟩, .of (by simp) (fun x hx => by rw [List.mem_singleton.mp hx]; exact dok1), (lgk kpd).wl, lg15.tl⟩, fun H23 k23 => ⟨_, rfl, ?_⟩⟩
      have k1523 : Kp (TL P1 P2) H15 H23 := kpd.trans (k23.kp _)
      cases hG : feas fm names [d] (tf (lw fm)) bud with
      | false => exact ite_f rfl (q _)
      | true =>
        have hG' : fe fm names bud [d] = true := hG
        refine ite_t rfl ⟨_, rfl, _, rfl, _, rfl, _, rfl, _, rfl, fa, na, da, .ref d1, fm, names, D, d, bud, rfl, (lgk k1523).g, (lgk k1523).d, hdk k1523, by omega, dok, dok1, k1523.tab Tab15, hG', fun r H24 ks k24 hr24 hks => ?_⟩
        have k1524 := k1523.trans k24
        obtain ⟨sub, cf⟩ := kept_corr (D := D) (d := d) (fe_mono (bud := bud) wf g5.nlen) hG'
        have hlen : (D ++ [d]).length = D.length + 1 := by rw [List.length_append]; rfl
        have hout : outside ks D.length = outside (keptOf (fe fm names bud) D d) D.length := List.filter_congr fun k _ => by
          have := hks k
          by_cases e : k ∈ ks
          · simp [e, this.mp e]
          · have e2 : k ∉ keptOf (fe fm names bud) D d := fun z => e (this.mpr z)
            simp [e, e2]
        have hmem : outside ks D.length ∈ RS := by
          rw [hout]
          exact (mR _).mpr (by rw [hlen]; exact ⟨sub, cf⟩)
        refine ⟨_, rfl, _, _, .type "tuple", .type "tuple", true, rfl, .ty _, .base (.tup hr24), kit_ty (by decide +kernel), ⟨_, rfl, ite_f rfl ?_⟩⟩
        have hda24 := k1524.ts _ _ hdx15
        have hdl : dx.length = D.length := ald.len
        refine ⟨_, rfl, da, _, rfl, .inr (sqt hda24), _, rfl, by omega, by omega, fun D1 hD1 => ?_⟩
        have en : ((dx.length : Int)).toNat = D.length := by rw [ald.len]; omega
        rw [en]
        refine lc_gR (prEx H24) (R := fun _ y (m : Nat) => y = nI m) (fun _ _ _ _ _ z => z) (n := D.length) (φ := fun k => if ks.contains k then none else some k) (small1000 (by omega)) hD1 (fun i H1 hi k1 N no yes => ?_) (fun H25 acc k25 ha25 al25 => ?_)
        · refine ⟨rfl, _, rfl, _, rfl, r, _, rfl, .inr (sqt (k1.old _ _ hr24)), rfl, flat_ints ks, _, rfl, ?_⟩
          cases e : ks.contains i with
          | true =>
            refine ite_f ?_ (no _ (.refl _) (if_pos e))
            show (!inV (nI i) (ks.map nI)) = false
            rw [(in_int i ks).mpr (by simpa using e)]; rfl
          | false =>
            refine ite_t ?_ ⟨_, rfl, yes _ _ _ (.refl _) (if_neg (by rw [e]; decide)) rfl⟩
            show (!inV (nI i) (ks.map nI)) = true
            have e2 : inV (nI i) (ks.map nI) = false := Bool.eq_false_iff.mpr fun z => by
              have := (in_int i ks).mp z
              simp [this] at e
            rw [e2]; rfl
        · obtain rfl := l_ints al25
          rw [filter_fm] at ha25
          have ho : H25 D1 = some (.lst ((outside ks D.length).map nI)) := ha25
          refine ⟨D1, _, rfl, .inl ⟨sql ho, fun p5 hp5 => ?_⟩⟩
          have k2126 : Kp (TL P1 P2) H21 (upd H25 p5 (.tup ((outside ks D.length).map nI))) := (((k2122.nw hpd _).trans (k23.kp _)).trans (k24.trans (k25.kp _))).nw hp5 _
          obtain ⟨rx, hrx, alr⟩ := hr21.ts k2126.ts
          exact ⟨_, rfl, dI (outside ks D.length), RS.map dI, TupI.dp ⟨p5, rfl, upd_same⟩, .tup (sqt hrx) (dp_all (fun _ _ z => TupI.dp z) alr), shI _, sh_tup (fun x _ => lay_dI x) (fun x => by rw [dep_dI]; omega), ⟨_, rfl, ite_f (by rw [any_t eqv_dI hmem]; rfl) (q _)⟩⟩
end
end K81
/-! ## ZA -/
namespace K81
open PySem PySem.Spec PyProof.Rows L2
/-! ### the defs of the text, by name -/
section
variable (K : PySem.W.Frag) (mg : Str → Option Value)
structure Df (x : Str) (st : Stmt) (ps : List Str) : Prop where
  ex : ∃ f fd, Fun K x x st f fd ∧ Binds K fd ps [] ∧ PySem.W.keepIn K (.ref f) = true ∧ mg x = some (.ref f)
structure DfC (x : Str) (st : Stmt) (ps : List Str) (c : Addr) : Prop where
  ex : ∃ f fd, FunC K x x st f fd c ∧ Binds K fd ps [] ∧ PySem.W.keepIn K (.ref f) = true ∧ mg x = some (.ref f)
structure DfM (C : Addr) (x qual : Str) (st : Stmt) (ps : List Str) : Prop where
  ex : ∃ f fd, Fun K x qual st f fd ∧ Binds K fd ps [] ∧ Meth K C x f
structure DfI (C : Addr) (st : Stmt) (ps : List Str) : Prop where
  ex : ∃ f fd, Fun K "__init__" "Blocks.__init__" st f fd ∧ Binds K fd ps [] ∧ Mk K C f ∧ mg "Blocks" = some (.ref C)
end
section
variable {P : Program} {w : World} {K : PySem.W.Frag} {mg : Str → Option Value} {base : Heap} {k : Nat} {x qual : Str} {st : Stmt} {ps : List Str} {sp : Sp} {c C : Addr}
theorem Df.cal (D : Df K mg x st ps) (h : ∀ f fd, Fun K x x st f fd → FnOk P w K mg base CX0 k f fd ps sp) : Cal P w K mg base k x ps sp :=
  let ⟨f, fd, F, b, kp, m⟩ := D.ex; ⟨f, fd, h f fd F, b, kp, m⟩
theorem Df.calG (D : Df K mg x st ps) (h : ∀ f fd, Fun K x x st f fd → FnG P w K mg base CX0 k f fd ps sp) : CalG P w K mg base k x ps sp :=
  let ⟨f, fd, F, b, kp, m⟩ := D.ex; ⟨f, fd, h f fd F, b, kp, m⟩
theorem DfC.cal (D : DfC K mg x st ps c) (h : ∀ f fd, FunC K x x st f fd c → FnOk P w K mg base CX0 k f fd ps sp) : Cal P w K mg base k x ps sp :=
  let ⟨f, fd, F, b, kp, m⟩ := D.ex; ⟨f, fd, h f fd F, b, kp, m⟩
theorem DfM.cal (D : DfM K C x qual st ps) (bc : BC K C) (h : ∀ f fd, Fun K x qual st f fd → FnOk P w K mg base CX0 k f fd ps sp) : MCal P w K mg base C k x ps sp :=
  let ⟨f, fd, F, b, m⟩ := D.ex; ⟨f, fd, bc.cl, m, h f fd F, b⟩
theorem DfI.made (D : DfI K mg C st ps) (h : ∀ f fd, Fun K "__init__" "Blocks.__init__" st f fd → FnOk P w K mg base CX0 k f fd ps sp) : MkC P w K mg base C k "Blocks" ps sp :=
  let ⟨f, fd, F, b, m, g⟩ := D.ex; ⟨f, fd, m, h f fd F, g, b⟩
theorem no_worth {vs : List V} {H : Hp} {Q : VK} {E : XK} (h : spWorth P w 0 vs H Q E) : False := by
  obtain ⟨fa, na, da, wa, kn, qa, fm, names, D, tb, i, v, p, m, rfl, _, _, _, _, _, h, _⟩ := h
  omega
theorem none_left {f : Addr} {fd : FuncData} : FnOk P w K mg base CX0 k f fd psW (spWorth P w 0) :=
  ⟨fun vs H Q E h => (no_worth h).elim, fun A outer s H args us vs Q E _ _ _ _ h => (no_worth h).elim⟩
theorem least_rec (W : Df K mg "_law_worth" s_l_worth psW) (L : Df K mg "_law_least" s_l_least psL) (B : Blt mg) (c_l_stands : Cal P w K mg base 1 "_law_stands" ["_law_family_here", "_law_names_here", "_law_demands_here", "_law_number", "_law_path_here"] spStands) :
    ∀ n : Nat, Cal P w K mg base (2 * n) "_law_worth" psW (spWorth P w n) ∧ Cal P w K mg base (2 * n + 1) "_law_least" psL (spLeast P w n)
  | 0 => by
    have h : Cal P w K mg base 0 "_law_worth" psW (spWorth P w 0) := W.cal fun f fd F => none_left
    exact ⟨h, L.cal fun f fd F => ok_least F B h⟩
  | n + 1 => by
    have ih := (least_rec W L B c_l_stands n).2
    have h : Cal P w K mg base (2 * (n + 1)) "_law_worth" psW (spWorth P w (n + 1)) := W.cal fun f fd F => ok_worth (k := 2 * n + 1) (by omega) F B c_l_stands ih
    exact ⟨h, L.cal fun f fd F => ok_least F B h⟩
end

structure Defs (K : PySem.W.Frag) (mg : Str → Option Value) (C c1 c2 : Addr) : Prop where
  d_weight_of : Df K mg "weight_of" s_weight_of ["variant", "weights"]
  d_least_round : Df K mg "least_round" s_least_round ["family", "weights"]
  d_least_weights : Df K mg "least_weights" s_least_weights ["family"]
  d_paths_of : DfC K mg "paths_of" s_paths_of ["demands"] c1
  d_copies_at : Df K mg "copies_at" s_copies_at ["names", "demands", "paths", "path"]
  d_below : DfM K C "below" "Blocks.below" s_Blocks_below ["self", "number", "path"]
  d_weight_at : DfM K C "weight_at" "Blocks.weight_at" s_Blocks_weight_at ["self", "number", "path"]
  d_weights_at : DfM K C "weights_at" "Blocks.weights_at" s_Blocks_weights_at ["self", "path"]
  d_least_price : DfM K C "least_price" "Blocks.least_price" s_Blocks_least_price ["self"]
  d_Blocks : DfI K mg C s_Blocks_init ["self", "family", "names", "demands", "base"]
  d_is_within : Df K mg "is_within" s_is_within ["price", "budget"]
  d_fits : Df K mg "fits" s_fits ["family", "names", "demands", "budget", "base"]
  d_is_feasible : Df K mg "is_feasible" s_is_feasible ["family", "names", "demands", "budget"]
  d_all_sets : DfC K mg "all_sets" s_all_sets ["count"] c2
  d_outside_of : Df K mg "outside_of" s_outside_of ["chosen", "count"]
  d_smaller_sets : Df K mg "smaller_sets" s_smaller_sets ["chosen"]
  d_explanation_of : Df K mg "explanation_of" s_explanation_of ["family", "names", "demands", "demand", "budget"]
  d_kept_of : Df K mg "kept_of" s_kept_of ["family", "names", "demands", "demand", "budget"]
  d_feasible_sets : Df K mg "feasible_sets" s_feasible_sets ["family", "names", "demands", "budget"]
  d_conflicts_of : Df K mg "conflicts_of" s_conflicts_of ["family", "names", "demands", "budget"]
  d_corrections_of : Df K mg "corrections_of" s_corrections_of ["family", "names", "demands", "budget"]
  d_l_weight : Df K mg "_law_weight" s_l_weight ["_law_variant", "_law_weights_here"]
  d_l_weights : Df K mg "_law_weights" s_l_weights ["_law_family_here"]
  d_l_size : Df K mg "_law_size" s_l_size ["_law_variant", "_law_sizes_here"]
  d_l_sizes : Df K mg "_law_sizes" s_l_sizes ["_law_family_here"]
  d_l_stands : Df K mg "_law_stands" s_l_stands ["_law_family_here", "_law_names_here", "_law_demands_here", "_law_number", "_law_path_here"]
  d_l_lightest : Df K mg "_law_lightest" s_l_lightest ["_law_family_here", "_law_names_here", "_law_demands_here", "_law_weights_here"]
  d_l_feasible : Df K mg "_law_feasible" s_l_feasible ["_law_family_here", "_law_names_here", "_law_demands_here", "_law_weights_here", "_law_budget_here"]
  d_l_picked : Df K mg "_law_picked" s_l_picked ["_law_demands_here", "_law_indices"]
  d_l_subsets : Df K mg "_law_subsets" s_l_subsets ["_law_number"]
  d_l_crosses : Df K mg "_law_crosses" s_l_crosses ["_law_row", "_law_others"]
  d_l_crossing : Df K mg "_law_crossing" s_l_crossing ["_law_number", "_law_others"]
  d_l_meets : Df K mg "_law_meets" s_l_meets ["_law_family_here", "_law_names_here", "_law_demands_here", "_law_weights_here", "_law_budget_here", "_law_conflicts", "_law_corrections"]
  d_l_tape : Df K mg "_law_tape" s_l_tape ["_law_script"]
  d_l_draw : Df K mg "_law_draw" s_l_draw ["_law_tape_here", "_law_menu"]
  d_l_price : Df K mg "_law_price" s_l_price ["_law_tape_here", "_law_mode", "_law_low"]
  d_l_family : Df K mg "_law_family" s_l_family ["_law_tape_here", "_law_states", "_law_variants", "_law_low"]
  d_l_tree : Df K mg "_law_tree" s_l_tree ["_law_tape_here", "_law_family_here", "_law_sizes_here", "_law_state", "_law_room"]
  d_l_word : Df K mg "_law_word" s_l_word ["_law_tape_here", "_law_stem"]
  d_l_words : Df K mg "_law_words" s_l_words ["_law_tape_here", "_law_top"]
  d_l_slot_words : Df K mg "_law_slot_words" s_l_slot_words ["_law_tape_here"]
  d_l_names : Df K mg "_law_names" s_l_names ["_law_tape_here", "_law_family_here", "_law_words_here"]
  d_l_span : Df K mg "_law_span" s_l_span ["_law_family_here", "_law_tree_here", "_law_number"]
  d_l_path : Df K mg "_law_path" s_l_path ["_law_family_here", "_law_names_here", "_law_tree_here", "_law_number"]
  d_l_at : Df K mg "_law_at" s_l_at ["_law_family_here", "_law_names_here", "_law_tree_here", "_law_path_here"]
  d_l_demand : Df K mg "_law_demand" s_l_demand ["_law_tape_here", "_law_family_here", "_law_names_here", "_law_words_here", "_law_tree_here"]
  d_l_demands : Df K mg "_law_demands" s_l_demands ["_law_tape_here", "_law_family_here", "_law_names_here", "_law_words_here", "_law_tree_here", "_law_top"]
  d_l_budget : Df K mg "_law_budget" s_l_budget ["_law_tape_here", "_law_family_here", "_law_names_here", "_law_demands_here", "_law_weights_here"]
  d_l_worth : Df K mg "_law_worth" s_l_worth psW
  d_l_least : Df K mg "_law_least" s_l_least psL
  d_l_same : Df K mg "_law_same" s_l_same ["_law_actual", "_law_due"]
theorem whole {P : Program} {w : World} {K : PySem.W.Frag} {mg : Str → Option Value} {base : Heap} {P1 P2 c1 c2 C : Addr} {f : Addr} {fd : FuncData} (B : Blt mg) (hP : P1 ≠ P2) (T1 : LamX.TabB base mg c1 P1) (T2 : LamX.TabB base mg c2 P2) (bc : BC K C) (D : Defs K mg C c1 c2)
    (F : Fun K "law" "law" s_law f fd) : FnG P w K mg base CX0 15 f fd ["_law_script"] (spLaw K P1 P2) := by
  have hP : P1 ≠ P2 := hP
  have c_weight_of : Cal P w K mg base 1 "weight_of" ["variant", "weights"] (spWeight) := D.d_weight_of.cal fun f fd F => ok_weight_of F B
  have c_least_round : Cal P w K mg base 2 "least_round" ["family", "weights"] (spRound) := D.d_least_round.cal fun f fd F => ok_least_round F B c_weight_of
  have c_least_weights : Cal P w K mg base 3 "least_weights" ["family"] (spLw) := D.d_least_weights.cal fun f fd F => ok_least_weights F B c_least_round
  have c_paths_of : Cal P w K mg base 2 "paths_of" ["demands"] ((spPaths P1 P2)) := D.d_paths_of.cal fun f fd F => ok_paths_of F B T1 hP
  have c_copies_at : Cal P w K mg base 1 "copies_at" ["names", "demands", "paths", "path"] (spCopies) := D.d_copies_at.cal fun f fd F => ok_copies_at F B
  have c_below : MCal P w K mg base C 1 "below" ["self", "number", "path"] ((spBelow K C)) := D.d_below.cal bc fun f fd F => ok_below F B
  have c_weight_at : MCal P w K mg base C 2 "weight_at" ["self", "number", "path"] ((spWAt K C)) := D.d_weight_at.cal bc fun f fd F => ok_weight_at F B c_below
  have c_weights_at : MCal P w K mg base C 3 "weights_at" ["self", "path"] ((spWsAt K C)) := D.d_weights_at.cal bc fun f fd F => ok_weights_at F B c_weight_at
  have c_least_price : MCal P w K mg base C 1 "least_price" ["self"] ((spLeastP K C)) := D.d_least_price.cal bc fun f fd F => ok_least_price F B
  have c_Blocks : MkC P w K mg base C 4 "Blocks" ["self", "family", "names", "demands", "base"] ((spInit K P1 P2 C)) := D.d_Blocks.made fun f fd F => ok_init F B c_paths_of c_copies_at c_weights_at
  have c_is_within : Cal P w K mg base 1 "is_within" ["price", "budget"] (spWithin) := D.d_is_within.cal fun f fd F => ok_is_within F
  have c_fits : Cal P w K mg base 6 "fits" ["family", "names", "demands", "budget", "base"] ((spFits P1 P2)) := D.d_fits.cal fun f fd F => ok_fits F bc c_is_within c_Blocks c_least_price
  have c_is_feasible : Cal P w K mg base 7 "is_feasible" ["family", "names", "demands", "budget"] ((spFeas P1 P2)) := D.d_is_feasible.cal fun f fd F => ok_is_feasible F c_fits c_least_weights
  have c_all_sets : Cal P w K mg base 2 "all_sets" ["count"] ((spSets P1 P2)) := D.d_all_sets.cal fun f fd F => ok_all_sets F B T2 hP
  have c_outside_of : Cal P w K mg base 1 "outside_of" ["chosen", "count"] (spOutside) := D.d_outside_of.cal fun f fd F => ok_outside_of F B
  have c_smaller_sets : Cal P w K mg base 1 "smaller_sets" ["chosen"] (spSmaller) := D.d_smaller_sets.cal fun f fd F => ok_smaller_sets F B
  have c_explanation_of : Cal P w K mg base 7 "explanation_of" ["family", "names", "demands", "demand", "budget"] ((spExpl P1 P2)) := D.d_explanation_of.cal fun f fd F => ok_explanation_of F B c_fits c_least_weights
  have c_kept_of : Cal P w K mg base 7 "kept_of" ["family", "names", "demands", "demand", "budget"] ((spKept P1 P2)) := D.d_kept_of.cal fun f fd F => ok_kept_of F B c_fits c_least_weights
  have c_feasible_sets : Cal P w K mg base 7 "feasible_sets" ["family", "names", "demands", "budget"] ((spFSets P1 P2)) := D.d_feasible_sets.cal fun f fd F => ok_feasible_sets F B c_fits c_least_weights c_all_sets c_smaller_sets
  have c_conflicts_of : Cal P w K mg base 8 "conflicts_of" ["family", "names", "demands", "budget"] ((spConf P1 P2)) := D.d_conflicts_of.cal fun f fd F => ok_conflicts_of F B c_feasible_sets c_all_sets c_smaller_sets
  have c_corrections_of : Cal P w K mg base 8 "corrections_of" ["family", "names", "demands", "budget"] ((spCorr P1 P2)) := D.d_corrections_of.cal fun f fd F => ok_corrections_of F B c_feasible_sets c_all_sets c_smaller_sets c_outside_of
  have c_l_weight : Cal P w K mg base 1 "_law_weight" ["_law_variant", "_law_weights_here"] (spLWt) := D.d_l_weight.cal fun f fd F => ok_l_weight F
  have c_l_weights : Cal P w K mg base 2 "_law_weights" ["_law_family_here"] (spLWts) := D.d_l_weights.cal fun f fd F => ok_l_weights F B c_l_weight
  have c_l_size : Cal P w K mg base 1 "_law_size" ["_law_variant", "_law_sizes_here"] (spLSz) := D.d_l_size.cal fun f fd F => ok_l_size F
  have c_l_sizes : Cal P w K mg base 2 "_law_sizes" ["_law_family_here"] (spLSzs) := D.d_l_sizes.cal fun f fd F => ok_l_sizes F B c_l_size
  have c_l_stands : Cal P w K mg base 1 "_law_stands" ["_law_family_here", "_law_names_here", "_law_demands_here", "_law_number", "_law_path_here"] (spStands) := D.d_l_stands.cal fun f fd F => ok_stands F B
  have c_l_least := (least_rec D.d_l_worth D.d_l_least B c_l_stands 5).2
  have c_l_lightest : Cal P w K mg base 12 "_law_lightest" ["_law_family_here", "_law_names_here", "_law_demands_here", "_law_weights_here"] (spLightest) := D.d_l_lightest.cal fun f fd F => ok_lightest F B c_l_least
  have c_l_feasible : Cal P w K mg base 13 "_law_feasible" ["_law_family_here", "_law_names_here", "_law_demands_here", "_law_weights_here", "_law_budget_here"] (spLFeas) := D.d_l_feasible.cal fun f fd F => ok_l_feasible F c_l_lightest
  have c_l_picked : Cal P w K mg base 1 "_law_picked" ["_law_demands_here", "_law_indices"] (spPicked) := D.d_l_picked.cal fun f fd F => ok_picked F B
  have c_l_subsets : Cal P w K mg base 1 "_law_subsets" ["_law_number"] (spSubs) := D.d_l_subsets.cal fun f fd F => ok_subsets F B
  have c_l_crosses : Cal P w K mg base 1 "_law_crosses" ["_law_row", "_law_others"] (spCrosses) := D.d_l_crosses.cal fun f fd F => ok_crosses F B
  have c_l_crossing : Cal P w K mg base 2 "_law_crossing" ["_law_number", "_law_others"] (spCrossing) := D.d_l_crossing.cal fun f fd F => ok_crossing F B c_l_subsets c_l_crosses
  have c_l_meets : Cal P w K mg base 14 "_law_meets" ["_law_family_here", "_law_names_here", "_law_demands_here", "_law_weights_here", "_law_budget_here", "_law_conflicts", "_law_corrections"] ((spMeets P1 P2)) := D.d_l_meets.cal fun f fd F => ok_meets F B c_l_feasible c_l_picked c_is_feasible
  have c_l_tape : Cal P w K mg base 1 "_law_tape" ["_law_script"] ((spTape K)) := D.d_l_tape.cal fun f fd F => ok_tape F B
  have c_l_draw : Cal P w K mg base 1 "_law_draw" ["_law_tape_here", "_law_menu"] (spDraw) := D.d_l_draw.cal fun f fd F => ok_draw F B
  have c_l_price : Cal P w K mg base 2 "_law_price" ["_law_tape_here", "_law_mode", "_law_low"] (spPrice) := D.d_l_price.cal fun f fd F => ok_price F c_l_draw
  have c_l_family : Cal P w K mg base 3 "_law_family" ["_law_tape_here", "_law_states", "_law_variants", "_law_low"] (spFam) := D.d_l_family.cal fun f fd F => ok_family F B c_l_draw c_l_price
  have c_l_tree : Cal P w K mg base 2 "_law_tree" ["_law_tape_here", "_law_family_here", "_law_sizes_here", "_law_state", "_law_room"] (spTree) := D.d_l_tree.cal fun f fd F => ok_tree F B c_l_draw c_l_size
  have c_l_word : Cal P w K mg base 2 "_law_word" ["_law_tape_here", "_law_stem"] (spWord) := D.d_l_word.cal fun f fd F => ok_word F B c_l_draw
  have c_l_words : Cal P w K mg base 3 "_law_words" ["_law_tape_here", "_law_top"] (spWords) := D.d_l_words.cal fun f fd F => ok_words F B c_l_draw c_l_word
  have c_l_slot_words : Cal P w K mg base 4 "_law_slot_words" ["_law_tape_here"] (spSWords) := D.d_l_slot_words.cal fun f fd F => ok_slot_words F B c_l_words
  have c_l_names : Cal P w K mg base 2 "_law_names" ["_law_tape_here", "_law_family_here", "_law_words_here"] (spNames) := D.d_l_names.cal fun f fd F => ok_names F B c_l_draw
  have c_l_span : Cal P w K mg base 1 "_law_span" ["_law_family_here", "_law_tree_here", "_law_number"] (spSpan) := D.d_l_span.cal fun f fd F => ok_span F B
  have c_l_path : Cal P w K mg base 2 "_law_path" ["_law_family_here", "_law_names_here", "_law_tree_here", "_law_number"] (spPath) := D.d_l_path.cal fun f fd F => ok_path F B c_l_span
  have c_l_at : Cal P w K mg base 2 "_law_at" ["_law_family_here", "_law_names_here", "_law_tree_here", "_law_path_here"] (spAt) := D.d_l_at.cal fun f fd F => ok_at F B c_l_span
  have c_l_demand : Cal P w K mg base 3 "_law_demand" ["_law_tape_here", "_law_family_here", "_law_names_here", "_law_words_here", "_law_tree_here"] (spDemand) := D.d_l_demand.cal fun f fd F => ok_demand F B c_l_draw c_l_path c_l_at
  have c_l_demands : Cal P w K mg base 4 "_law_demands" ["_law_tape_here", "_law_family_here", "_law_names_here", "_law_words_here", "_law_tree_here", "_law_top"] (spDemands) := D.d_l_demands.cal fun f fd F => ok_demands F B c_l_draw c_l_demand
  have c_l_budget : Cal P w K mg base 13 "_law_budget" ["_law_tape_here", "_law_family_here", "_law_names_here", "_law_demands_here", "_law_weights_here"] (spBudget) := D.d_l_budget.cal fun f fd F => ok_budget F B c_l_draw c_l_lightest
  have c_l_same : CalG P w K mg base 1 "_law_same" ["_law_actual", "_law_due"] spSame := D.d_l_same.calG fun f fd F => ok_same F B
  exact ok_law F B c_l_tape c_l_draw c_l_family c_l_slot_words c_l_names c_l_sizes c_l_tree c_l_demand c_l_demands c_l_weights c_l_budget c_conflicts_of c_corrections_of c_l_same c_l_crossing c_l_meets c_l_feasible c_explanation_of c_kept_of
end K81
/-! ## ZB -/
namespace K81
open PySem PySem.Spec PyProof.Rows L2
/-- how a def's arguments bind -/
abbrev Bd (x qual : Str) (st : Stmt) (ps : List Str) : Prop := ∀ (kV doc pm : Value) (an : Option Addr) (cdv ct : Value) (us : List Value), us.length = ps.length → bindArgs (PySem.W.fnOf x qual (defArgs st) (defBody st) (defScope st) .none kV doc pm an cdv ct) ⟨us, []⟩ = pure (ps.zip us)
section
variable {K : PySem.W.Frag} {h : Heap} {mg : Str → Option Value} {x qual : Str} {st : Stmt} {ps : List Str} {f c C : Addr} {od an : Option Addr} {sl : Array (Option Value)} {oc kV dc pm cd ct : Value}
theorem Df.of (X : K.In h) (G : h.Ns mainGlobals mg) (b : Bd x x st ps) (a : PySem.W.nsIn K mainGlobals x = some (some (.ref f))) (l : K.lookup f = some ⟨oc, od, .func (PySem.W.fnOf x x (defArgs st) (defBody st) (defScope st) .none kV dc pm an cd ct), sl⟩) (ci : PySem.W.codeIn K cd x = true) (k : PySem.W.keepIn K (.ref f) = true) : Df K mg x st ps :=
  ⟨f, _, fun_mk l ci k, (fun_mk l ci k).binds b, k, PySem.W.mg_of X G a⟩
theorem DfC.of (X : K.In h) (G : h.Ns mainGlobals mg) (b : Bd x x st ps) (a : PySem.W.nsIn K mainGlobals x = some (some (.ref f))) (l : K.lookup f = some ⟨oc, od, .func (PySem.W.fnOf x x (defArgs st) (defBody st) (defScope st) .none kV dc pm an (.ref c) ct), sl⟩) (ci : PySem.W.codeIn K (.ref c) x = true) (k : PySem.W.keepIn K (.ref f) = true) : DfC K mg x st ps c :=
  ⟨f, _, ⟨oc, od, kV, dc, pm, an, ct, sl, rfl, l, ci⟩, (fun_mk l ci k).binds b, k, PySem.W.mg_of X G a⟩
theorem DfM.of (b : Bd x qual st ps) (a : PySem.W.findIn K (.ref C) x = some (some (.ref f))) (i : PySem.W.isFn K (.ref f) = true) (l : K.lookup f = some ⟨oc, od, .func (PySem.W.fnOf x qual (defArgs st) (defBody st) (defScope st) .none kV dc pm an cd ct), sl⟩) (ci : PySem.W.codeIn K cd qual = true) (k : PySem.W.keepIn K (.ref f) = true) : DfM K C x qual st ps :=
  ⟨f, _, fun_mk l ci k, (fun_mk l ci k).binds b, ⟨a, i, k⟩⟩
theorem DfI.of (X : K.In h) (G : h.Ns mainGlobals mg) (b : Bd "__init__" "Blocks.__init__" st ps) (aC : PySem.W.nsIn K mainGlobals "Blocks" = some (some (.ref C))) (a : PySem.W.findIn K (.ref C) "__init__" = some (some (.ref f))) (i : PySem.W.isFn K (.ref f) = true)
    (l : K.lookup f = some ⟨oc, od, .func (PySem.W.fnOf "__init__" "Blocks.__init__" (defArgs st) (defBody st) (defScope st) .none kV dc pm an cd ct), sl⟩) (ci : PySem.W.codeIn K cd "Blocks.__init__" = true) (k : PySem.W.keepIn K (.ref f) = true) (mk : PySem.W.makesIn K C = true) (kc : PySem.W.keepIn K (.ref C) = true) : DfI K mg C st ps :=
  ⟨f, _, fun_mk l ci k, (fun_mk l ci k).binds b, ⟨mk, a, i, kc⟩, PySem.W.mg_of X G aC⟩
end
theorem bd_weight_of : Bd "weight_of" "weight_of" s_weight_of ["variant", "weights"] := fun _ _ _ _ _ _ us hl => match us, hl with | [_, _], _ => rfl
theorem bd_least_round : Bd "least_round" "least_round" s_least_round ["family", "weights"] := fun _ _ _ _ _ _ us hl => match us, hl with | [_, _], _ => rfl
theorem bd_least_weights : Bd "least_weights" "least_weights" s_least_weights ["family"] := fun _ _ _ _ _ _ us hl => match us, hl with | [_], _ => rfl
theorem bd_paths_of : Bd "paths_of" "paths_of" s_paths_of ["demands"] := fun _ _ _ _ _ _ us hl => match us, hl with | [_], _ => rfl
theorem bd_copies_at : Bd "copies_at" "copies_at" s_copies_at ["names", "demands", "paths", "path"] := fun _ _ _ _ _ _ us hl => match us, hl with | [_, _, _, _], _ => rfl
theorem bd_below : Bd "below" "Blocks.below" s_Blocks_below ["self", "number", "path"] := fun _ _ _ _ _ _ us hl => match us, hl with | [_, _, _], _ => rfl
theorem bd_weight_at : Bd "weight_at" "Blocks.weight_at" s_Blocks_weight_at ["self", "number", "path"] := fun _ _ _ _ _ _ us hl => match us, hl with | [_, _, _], _ => rfl
theorem bd_weights_at : Bd "weights_at" "Blocks.weights_at" s_Blocks_weights_at ["self", "path"] := fun _ _ _ _ _ _ us hl => match us, hl with | [_, _], _ => rfl
theorem bd_least_price : Bd "least_price" "Blocks.least_price" s_Blocks_least_price ["self"] := fun _ _ _ _ _ _ us hl => match us, hl with | [_], _ => rfl
theorem bd_Blocks : Bd "__init__" "Blocks.__init__" s_Blocks_init ["self", "family", "names", "demands", "base"] := fun _ _ _ _ _ _ us hl => match us, hl with | [_, _, _, _, _], _ => rfl
theorem bd_is_within : Bd "is_within" "is_within" s_is_within ["price", "budget"] := fun _ _ _ _ _ _ us hl => match us, hl with | [_, _], _ => rfl
theorem bd_fits : Bd "fits" "fits" s_fits ["family", "names", "demands", "budget", "base"] := fun _ _ _ _ _ _ us hl => match us, hl with | [_, _, _, _, _], _ => rfl
theorem bd_is_feasible : Bd "is_feasible" "is_feasible" s_is_feasible ["family", "names", "demands", "budget"] := fun _ _ _ _ _ _ us hl => match us, hl with | [_, _, _, _], _ => rfl
theorem bd_all_sets : Bd "all_sets" "all_sets" s_all_sets ["count"] := fun _ _ _ _ _ _ us hl => match us, hl with | [_], _ => rfl
theorem bd_outside_of : Bd "outside_of" "outside_of" s_outside_of ["chosen", "count"] := fun _ _ _ _ _ _ us hl => match us, hl with | [_, _], _ => rfl
theorem bd_smaller_sets : Bd "smaller_sets" "smaller_sets" s_smaller_sets ["chosen"] := fun _ _ _ _ _ _ us hl => match us, hl with | [_], _ => rfl
theorem bd_explanation_of : Bd "explanation_of" "explanation_of" s_explanation_of ["family", "names", "demands", "demand", "budget"] := fun _ _ _ _ _ _ us hl => match us, hl with | [_, _, _, _, _], _ => rfl
theorem bd_kept_of : Bd "kept_of" "kept_of" s_kept_of ["family", "names", "demands", "demand", "budget"] := fun _ _ _ _ _ _ us hl => match us, hl with | [_, _, _, _, _], _ => rfl
theorem bd_feasible_sets : Bd "feasible_sets" "feasible_sets" s_feasible_sets ["family", "names", "demands", "budget"] := fun _ _ _ _ _ _ us hl => match us, hl with | [_, _, _, _], _ => rfl
theorem bd_conflicts_of : Bd "conflicts_of" "conflicts_of" s_conflicts_of ["family", "names", "demands", "budget"] := fun _ _ _ _ _ _ us hl => match us, hl with | [_, _, _, _], _ => rfl
theorem bd_corrections_of : Bd "corrections_of" "corrections_of" s_corrections_of ["family", "names", "demands", "budget"] := fun _ _ _ _ _ _ us hl => match us, hl with | [_, _, _, _], _ => rfl
theorem bd_l_weight : Bd "_law_weight" "_law_weight" s_l_weight ["_law_variant", "_law_weights_here"] := fun _ _ _ _ _ _ us hl => match us, hl with | [_, _], _ => rfl
theorem bd_l_weights : Bd "_law_weights" "_law_weights" s_l_weights ["_law_family_here"] := fun _ _ _ _ _ _ us hl => match us, hl with | [_], _ => rfl
theorem bd_l_size : Bd "_law_size" "_law_size" s_l_size ["_law_variant", "_law_sizes_here"] := fun _ _ _ _ _ _ us hl => match us, hl with | [_, _], _ => rfl
theorem bd_l_sizes : Bd "_law_sizes" "_law_sizes" s_l_sizes ["_law_family_here"] := fun _ _ _ _ _ _ us hl => match us, hl with | [_], _ => rfl
theorem bd_l_stands : Bd "_law_stands" "_law_stands" s_l_stands ["_law_family_here", "_law_names_here", "_law_demands_here", "_law_number", "_law_path_here"] := fun _ _ _ _ _ _ us hl => match us, hl with | [_, _, _, _, _], _ => rfl
theorem bd_l_lightest : Bd "_law_lightest" "_law_lightest" s_l_lightest ["_law_family_here", "_law_names_here", "_law_demands_here", "_law_weights_here"] := fun _ _ _ _ _ _ us hl => match us, hl with | [_, _, _, _], _ => rfl
theorem bd_l_feasible : Bd "_law_feasible" "_law_feasible" s_l_feasible ["_law_family_here", "_law_names_here", "_law_demands_here", "_law_weights_here", "_law_budget_here"] := fun _ _ _ _ _ _ us hl => match us, hl with | [_, _, _, _, _], _ => rfl
theorem bd_l_picked : Bd "_law_picked" "_law_picked" s_l_picked ["_law_demands_here", "_law_indices"] := fun _ _ _ _ _ _ us hl => match us, hl with | [_, _], _ => rfl
theorem bd_l_subsets : Bd "_law_subsets" "_law_subsets" s_l_subsets ["_law_number"] := fun _ _ _ _ _ _ us hl => match us, hl with | [_], _ => rfl
theorem bd_l_crosses : Bd "_law_crosses" "_law_crosses" s_l_crosses ["_law_row", "_law_others"] := fun _ _ _ _ _ _ us hl => match us, hl with | [_, _], _ => rfl
theorem bd_l_crossing : Bd "_law_crossing" "_law_crossing" s_l_crossing ["_law_number", "_law_others"] := fun _ _ _ _ _ _ us hl => match us, hl with | [_, _], _ => rfl
theorem bd_l_meets : Bd "_law_meets" "_law_meets" s_l_meets ["_law_family_here", "_law_names_here", "_law_demands_here", "_law_weights_here", "_law_budget_here", "_law_conflicts", "_law_corrections"] := fun _ _ _ _ _ _ us hl => match us, hl with | [_, _, _, _, _, _, _], _ => rfl
theorem bd_l_tape : Bd "_law_tape" "_law_tape" s_l_tape ["_law_script"] := fun _ _ _ _ _ _ us hl => match us, hl with | [_], _ => rfl
theorem bd_l_draw : Bd "_law_draw" "_law_draw" s_l_draw ["_law_tape_here", "_law_menu"] := fun _ _ _ _ _ _ us hl => match us, hl with | [_, _], _ => rfl
theorem bd_l_price : Bd "_law_price" "_law_price" s_l_price ["_law_tape_here", "_law_mode", "_law_low"] := fun _ _ _ _ _ _ us hl => match us, hl with | [_, _, _], _ => rfl
theorem bd_l_family : Bd "_law_family" "_law_family" s_l_family ["_law_tape_here", "_law_states", "_law_variants", "_law_low"] := fun _ _ _ _ _ _ us hl => match us, hl with | [_, _, _, _], _ => rfl
theorem bd_l_tree : Bd "_law_tree" "_law_tree" s_l_tree ["_law_tape_here", "_law_family_here", "_law_sizes_here", "_law_state", "_law_room"] := fun _ _ _ _ _ _ us hl => match us, hl with | [_, _, _, _, _], _ => rfl
theorem bd_l_word : Bd "_law_word" "_law_word" s_l_word ["_law_tape_here", "_law_stem"] := fun _ _ _ _ _ _ us hl => match us, hl with | [_, _], _ => rfl
theorem bd_l_words : Bd "_law_words" "_law_words" s_l_words ["_law_tape_here", "_law_top"] := fun _ _ _ _ _ _ us hl => match us, hl with | [_, _], _ => rfl
theorem bd_l_slot_words : Bd "_law_slot_words" "_law_slot_words" s_l_slot_words ["_law_tape_here"] := fun _ _ _ _ _ _ us hl => match us, hl with | [_], _ => rfl
theorem bd_l_names : Bd "_law_names" "_law_names" s_l_names ["_law_tape_here", "_law_family_here", "_law_words_here"] := fun _ _ _ _ _ _ us hl => match us, hl with | [_, _, _], _ => rfl
theorem bd_l_span : Bd "_law_span" "_law_span" s_l_span ["_law_family_here", "_law_tree_here", "_law_number"] := fun _ _ _ _ _ _ us hl => match us, hl with | [_, _, _], _ => rfl
theorem bd_l_path : Bd "_law_path" "_law_path" s_l_path ["_law_family_here", "_law_names_here", "_law_tree_here", "_law_number"] := fun _ _ _ _ _ _ us hl => match us, hl with | [_, _, _, _], _ => rfl
theorem bd_l_at : Bd "_law_at" "_law_at" s_l_at ["_law_family_here", "_law_names_here", "_law_tree_here", "_law_path_here"] := fun _ _ _ _ _ _ us hl => match us, hl with | [_, _, _, _], _ => rfl
theorem bd_l_demand : Bd "_law_demand" "_law_demand" s_l_demand ["_law_tape_here", "_law_family_here", "_law_names_here", "_law_words_here", "_law_tree_here"] := fun _ _ _ _ _ _ us hl => match us, hl with | [_, _, _, _, _], _ => rfl
theorem bd_l_demands : Bd "_law_demands" "_law_demands" s_l_demands ["_law_tape_here", "_law_family_here", "_law_names_here", "_law_words_here", "_law_tree_here", "_law_top"] := fun _ _ _ _ _ _ us hl => match us, hl with | [_, _, _, _, _, _], _ => rfl
theorem bd_l_budget : Bd "_law_budget" "_law_budget" s_l_budget ["_law_tape_here", "_law_family_here", "_law_names_here", "_law_demands_here", "_law_weights_here"] := fun _ _ _ _ _ _ us hl => match us, hl with | [_, _, _, _, _], _ => rfl
theorem bd_l_worth : Bd "_law_worth" "_law_worth" s_l_worth psW := fun _ _ _ _ _ _ us hl => match us, hl with | [_, _, _, _, _, _, _], _ => rfl
theorem bd_l_least : Bd "_law_least" "_law_least" s_l_least psL := fun _ _ _ _ _ _ us hl => match us, hl with | [_, _, _, _, _, _, _], _ => rfl
theorem bd_l_same : Bd "_law_same" "_law_same" s_l_same ["_law_actual", "_law_due"] := fun _ _ _ _ _ _ us hl => match us, hl with | [_, _], _ => rfl
end K81
/-! ## ZC -/
namespace K81
open PySem PySem.Spec PyProof.Rows L2
/-! ### the end: the law's call where no repr is under way, two tables of code objects -/
abbrev tabO : Obj := { cls := .none, data := .fields #[] }
abbrev scrO (vs : List Value) : Obj := { cls := .type "list", data := .seq vs.toArray }
/-- what a heap must have for the law's call -/
structure Top (K : PySem.W.Frag) (mg : Str → Option Value) (s : Shared) (P1 P2 c1 c2 a : Addr) (vs : List Value) : Prop where
  kx : K.In s.heap
  ns : s.heap.Ns mainGlobals mg
  bl : ∃ mb, s.heap.Ns builtinsNs mb ∧ ∀ x : Str, x ≠ "__name__" → mb x = bootBuiltins x
  lim : s.heap.NoLimit
  gens : s.gens = #[]
  t1 : s.heap.get? P1 = some tabO
  t2 : s.heap.get? P2 = some tabO
  k1 : K.lookup P1 = none
  k2 : K.lookup P2 = none
  h1 : PySem.W.CodeHd s.heap c1 P1
  h2 : PySem.W.CodeHd s.heap c2 P2
  bm : ∃ (bm : Addr) (ob : Obj), mg "__builtins__" = some (.ref bm) ∧ bm ≠ builtinsNs ∧ s.heap.get? bm = some ob ∧ ob.cls = .type "module" ∧ ob.dict = some builtinsNs ∧ ob.data = .plain
  sc : s.heap.get? a = some (scrO vs)
/-- a first abstract heap: the tables, and the script where the written part does not hold it -/
structure Fst (K : PySem.W.Frag) (H : Hp) (P1 P2 a : Addr) (vs : List Value) (ns : List Int) : Prop where
  a1 : H P1 = some (.tbl #[])
  a2 : H P2 = some (.tbl #[])
  only : ∀ b u, H b = some u → ((b = P1 ∨ b = P2) ∧ u = .tbl #[]) ∨ (b = a ∧ K.lookup a = none ∧ u = .frz (scrO vs) (.lst (ns.map V.int)))
section
variable {P : Program} {w : World} {K : PySem.W.Frag} {mg : Str → Option Value} {s : Shared} {P1 P2 c1 c2 a : Addr} {vs : List Value} {ns : List Int} {H : Hp}
/-- a tracked object is a table or the script -/
theorem Top.seen (T : Top K mg s P1 P2 c1 c2 a vs) (F : Fst K H P1 P2 a vs ns) {b : Addr} {u : HO} {o : Obj} (h : H b = some u) (e : s.heap.get? b = some o) : o = tabO ∨ o = scrO vs := by
  rcases F.only b u h with ⟨z | z, _⟩ | ⟨z, _, _⟩
  · rw [z, T.t1] at e; exact .inl (Option.some.inj e).symm
  · rw [z, T.t2] at e; exact .inl (Option.some.inj e).symm
  · rw [z, T.sc] at e; exact .inr (Option.some.inj e).symm
theorem Top.hid (T : Top K mg s P1 P2 c1 c2 a vs) (F : Fst K H P1 P2 a vs ns) {b : Addr} {o : Obj} (e : s.heap.get? b = some o) (n1 : o ≠ tabO) (n2 : o ≠ scrO vs) : (hidT s.heap H).get? b = some o := by
  refine hidT_get e ?_
  cases q : H b with
  | none => rfl
  | some u =>
    rcases T.seen F q e with z | z
    · exact (n1 z).elim
    · exact (n2 z).elim
theorem Top.nsb (T : Top K mg s P1 P2 c1 c2 a vs) (F : Fst K H P1 P2 a vs ns) {b : Addr} {m : Str → Option Value} (h : s.heap.Ns b m) : (hidT s.heap H).Ns b m := by
  obtain ⟨o, es, ep, e, d, r⟩ := h
  refine ⟨o, es, ep, T.hid F e (fun z => ?_) (fun z => ?_), d, r⟩
  · rw [z] at d; cases d
  · rw [z] at d; cases d
theorem Top.inb (T : Top K mg s P1 P2 c1 c2 a vs) (F : Fst K H P1 P2 a vs ns) : K.In (hidT s.heap H) := fun b o e => by
  refine hidT_get (T.kx b o e) ?_
  cases q : H b with
  | none => rfl
  | some u =>
    rcases F.only b u q with ⟨z | z, _⟩ | ⟨z, n, _⟩
    · rw [z, T.k1] at e; cases e
    · rw [z, T.k2] at e; cases e
    · rw [z, n] at e; cases e
theorem Top.tab (T : Top K mg s P1 P2 c1 c2 a vs) (F : Fst K H P1 P2 a vs ns) {p c : Addr} (tp : s.heap.get? p = some tabO) (hd : PySem.W.CodeHd s.heap c p) : LamX.TabB (hidT s.heap H) mg c p := by
  refine ⟨?_, ?_, fun z => ?_⟩
  · obtain ⟨o, us, file, tf, flags, tg, inF, text, tt, e1, r1, r2, r3, rest⟩ := hd
    refine ⟨o, us, file, tf, flags, tg, inF, text, tt, T.hid F e1 (fun z => ?_) (fun z => ?_), r1, r2, r3, rest⟩
    · rw [z] at r2; cases r2; simp at r3
    · rw [z] at r2; cases r2
  · obtain ⟨bm, ob, b1, b2, b3, b4, b5, b6⟩ := T.bm
    refine ⟨bm, ob, b1, b2, fun q => ?_, fun q => ?_, T.hid F b3 (fun z => ?_) (fun z => ?_), b4, b5, b6⟩
    · obtain ⟨o, es, ep, e, d, _⟩ := T.ns
      rw [q, e] at b3; cases b3
      rw [d] at b6; cases b6
    · rw [q, tp] at b3; cases b3; cases b6
    · rw [z] at b6; cases b6
    · rw [z] at b6; cases b6
  · obtain ⟨o, es, ep, e, d, _⟩ := T.ns
    rw [z, tp] at e; cases e; cases d
theorem Top.hok (T : Top K mg s P1 P2 c1 c2 a vs) (F : Fst K H P1 P2 a vs ns) (hi : IntsAre vs ns) (hl : ns.length ≤ sizeLine) : HOk P w H s.heap := fun b u h => by
  rcases F.only b u h with ⟨z | z, rfl⟩ | ⟨rfl, _, rfl⟩
  · rw [z]; exact T.t1
  · rw [z]; exact T.t2
  · exact ⟨T.sc, by rw [List.length_map]; exact hl, vs, _, vals_ints hi, T.sc⟩
theorem Top.env (T : Top K mg s P1 P2 c1 c2 a vs) (F : Fst K H P1 P2 a vs ns) (hi : IntsAre vs ns) (hl : ns.length ≤ sizeLine) : Env0 P w K mg (hidT s.heap H) callerA [] s H where
  frames := rfl
  mod := ⟨T.inb F, T.nsb F T.ns, let ⟨mb, h1, h2⟩ := T.bl; ⟨mb, T.nsb F h1, h2⟩, let ⟨mc, h1, h2⟩ := T.lim; ⟨mc, T.nsb F h1, h2⟩⟩
  bs := fun b o e => of_hidT e
  bsz := Nat.le_of_eq (hidT_size _ _)
  funs := trivial
  frf := fun b hb => absurd (show b ∈ ([] : List Addr) from hb) (by simp)
  hok := T.hok F hi hl
  bare := .of_eq T.gens
theorem law_end {k : Nat} {fa : Addr} {fd : FuncData} {x : Str} {sp : Sp} (T : Top K mg s P1 P2 c1 c2 a vs) (hi : IntsAre vs ns) (hl : ns.length ≤ sizeLine) (hr : Room k callerA)
    (G : ∀ base : Heap, K.In base → base.Ns mainGlobals mg → LamX.TabB base mg c1 P1 → LamX.TabB base mg c2 P2 → FnG P w K mg base CX0 k fa fd [x] sp) (hbind : ∀ (s : Shared) (u : Value), BindsTo s fd ⟨[u], []⟩ [(x, u)])
    (hsp : ∀ H : Hp, H P1 = some (.tbl #[]) → H P2 = some (.tbl #[]) → SqL K H a (ns.map V.int) → sp [.ref a] H (fun v _ => v = .bl true) fun _ _ _ => False) :
    codeAny (model P w) callerA (.call (.ref fa) ⟨[.ref a], []⟩) (fun r s' => r = .ok (.ret (.bool true)) ∧ OldK s.heap s'.heap ∧ s'.os = s.os ∧ AllBare s'.gens) s := by
  have na1 : a ≠ P1 := fun z => by
    have e := T.sc
    rw [z, T.t1] at e; cases e
  have na2 : a ≠ P2 := fun z => by
    have e := T.sc
    rw [z, T.t2] at e; cases e
  -- the first abstract heap
  obtain ⟨H, F, hS⟩ : ∃ H, Fst K H P1 P2 a vs ns ∧ SqL K H a (ns.map V.int) := by
    cases hk : K.lookup a with
    | some o =>
      have e := T.kx a o hk
      rw [T.sc] at e
      cases e
      refine ⟨fun b => if b = P1 ∨ b = P2 then some (.tbl #[]) else none, ⟨if_pos (.inl rfl), if_pos (.inr rfl), fun b u h => ?_⟩, .inr ⟨_, vs.toArray, _, hk, rfl, rfl, rfl, by rw [List.size_toArray, hi.length]; exact hl, by simpa using vals_ints hi⟩⟩
      by_cases z : b = P1 ∨ b = P2
      · exact .inl ⟨z, (Option.some.inj ((if_pos z).symm.trans h)).symm⟩
      · cases (if_neg z).symm.trans h
    | none =>
      refine ⟨fun b => if b = P1 ∨ b = P2 then some (.tbl #[]) else if b = a then some (.frz (scrO vs) (.lst (ns.map V.int))) else none, ⟨if_pos (.inl rfl), if_pos (.inr rfl), fun b u h => ?_⟩, .inl (.inr ⟨scrO vs, (if_neg (by rintro (z | z); exact na1 z; exact na2 z)).trans (if_pos rfl)⟩)⟩
      by_cases z : b = P1 ∨ b = P2
      · exact .inl ⟨z, (Option.some.inj ((if_pos z).symm.trans h)).symm⟩
      · have h2 := (if_neg z).symm.trans h
        by_cases y : b = a
        · exact .inr ⟨y, hk, (Option.some.inj ((if_pos y).symm.trans h2)).symm⟩
        · cases (if_neg y).symm.trans h2
  refine codeAny_mono ((G _ (T.inb F) (T.nsb F T.ns) (T.tab F T.t1 T.h1) (T.tab F T.t2 T.h2)).run callerA [] s H ⟨[.ref a], []⟩ [.ref a] [.ref a] _ _ rfl hr (T.env F hi hl) (hbind s (.ref a)) (.cons rfl .nil) (hsp H F.a1 F.a2 hS)) fun r s' h => ?_
  cases r with
  | error e => exact False.elim h
  | ok fl =>
    cases fl with
    | next => exact False.elim h
    | brk => exact False.elim h
    | cont => exact False.elim h
    | ret u =>
      obtain ⟨v, H', os, bare, un, hok', r', q⟩ := h
      have q' : v = .bl true := q
      subst q'
      obtain rfl : u = Value.bool true := r'
      have grown : ∀ p, H p = some (.tbl #[]) → ∃ more : Array Value, s'.heap.get? p = some { cls := .none, data := .fields more } := fun p hp => by
        obtain ⟨more, z⟩ := un.tbls p #[] hp
        exact ⟨_, hok' p _ z⟩
      have stays : ∀ b o, s.heap.get? b = some o → (o = tabO ∧ ∃ c, PySem.W.CodeHd s.heap c b ∧ ∃ more : Array Value, s'.heap.get? b = some { cls := .none, data := .fields more }) ∨ s'.heap.get? b = some o := fun b o e => by
        cases qb : H b with
        | none => exact .inr (un.keep b o e qb (by intro z; exact absurd (show b ∈ ([] : List Addr) from z) (by simp)) (by simp))
        | some u =>
          rcases F.only b u qb with ⟨z | z, rfl⟩ | ⟨z, _, rfl⟩
          · refine .inl ⟨?_, c1, by rw [z]; exact T.h1, grown b qb⟩
            rw [z, T.t1] at e; exact (Option.some.inj e).symm
          · refine .inl ⟨?_, c2, by rw [z]; exact T.h2, grown b qb⟩
            rw [z, T.t2] at e; exact (Option.some.inj e).symm
          · have z2 := un.frzs b _ _ qb
            obtain ⟨e2, _⟩ := hok' b _ z2
            rw [z, T.sc] at e
            rw [← Option.some.inj e]
            exact .inr e2
      refine ⟨rfl, ⟨fun b o e => ?_, fun b o e => ?_⟩, os, bare⟩
      · rcases stays b o e with ⟨z, c, hc, more, hm⟩ | z
        · subst z
          exact .inr (.inl ⟨(hc.tab e).isCodeTable, rfl, #[], more, rfl, by rw [Array.empty_append]; exact hm⟩)
        · exact .inl z
      · rcases stays b o e with ⟨_, _, _, more, hm⟩ | z
        · exact ⟨_, hm⟩
        · exact ⟨_, z⟩
end
/-- what the head's heap tells of the law -/
def LawG (l : PySem.W.OpenLaw) (w : World) (K : PySem.W.Frag) (k : Nat) (x : Str) (mg : Str → Option Value) (fa : Addr) (h : Heap) : Prop :=
  ∃ (fd : FuncData) (P1 P2 c1 c2 : Addr), P1 ≠ P2 ∧ h.get? P1 = some tabO ∧ h.get? P2 = some tabO ∧ K.lookup P1 = none ∧ K.lookup P2 = none ∧ PySem.W.CodeHd h c1 P1 ∧ PySem.W.CodeHd h c2 P2 ∧ (∀ (s : Shared) (u : Value), BindsTo s fd ⟨[u], []⟩ [(x, u)]) ∧
    ∀ base : Heap, K.In base → base.Ns mainGlobals mg → LamX.TabB base mg c1 P1 → LamX.TabB base mg c2 P2 → FnG l.prog w K mg base CX0 k fa fd [x] (spLaw K P1 P2)
theorem tabs0 {H : Hp} {P1 P2 : Addr} (h1 : H P1 = some (.tbl #[])) (h2 : H P2 = some (.tbl #[])) : LamX.Tabs (TL P1 P2) H := by
  intro x hx
  rcases List.mem_cons.mp hx with z | z
  · rw [z]; exact LamX.TabS.nil h1
  · rw [List.mem_singleton.mp z]; exact LamX.TabS.nil h2
theorem walk {l : PySem.W.OpenLaw} {q : Program} {loose : List Str} {XP : (Str → Option Value) → Heap → Prop} {YP : World → Heap → Prop} {d : DefRec} {K : Params → PySem.W.Frag}
    (hn : l.most = some 63) (hdf : d.params.defaults = []) (hY : ∀ (w : World) (h : Heap), YP w h → (K w.params).In h)
    (F : ∀ (w : World) (mg : Str → Option Value) (fa : Addr) (h : Heap), YP w h → (K w.params).In h → h.Ns mainGlobals mg → mg d.name = some (.ref fa) → LawG l w (K w.params) 15 "_law_script" mg fa h) :
    PySem.W.WalkO q loose XP YP l.row.toRowW d [] (fun f vs => PySem.call f vs) := by
  refine Att.attach_callB hn hdf fun w s₀ s₁ mg mb fa o pm cd doc a vs ns G Y ho hd hcd hmg hobj hints hlen hbits hg => ?_
  have KX := hY w _ Y
  obtain ⟨fd, P1, P2, c1, c2, hP, t1, t2, k1, k2, h1, h2, hb, hF⟩ := F w mg fa _ Y KX G.T.g hmg
  exact law_end ⟨KX, G.T.g, ⟨mb, G.T.b, G.T.builtins⟩, G.T.nolimit, hg, t1, t2, k1, k2, h1, h2, G.T.bmain, hobj⟩ hints (Nat.le_trans hlen (by decide)) ⟨rfl, by decide, by decide⟩ hF hb fun H z1 z2 hS => ⟨a, ns, rfl, hS, hlen, tabs0 z1 z2, fun _ => rfl⟩
end K81
/-! ## ZD -/
namespace K81
open PySem PySem.Spec PyProof.Rows L2
theorem law_mk {l : PySem.W.OpenLaw} {w : World} {K : PySem.W.Frag} {h : Heap} {mg : Str → Option Value} {fa f P1 P2 c1 c2 C : Addr} {od an : Option Addr} {sl : Array (Option Value)} {oc kV dc pm cd ct : Value} (X : K.In h) (G : h.Ns mainGlobals mg) (hfa : mg "law" = some (.ref fa)) (hP : P1 ≠ P2)
    (t1 : h.get? P1 = some tabO) (t2 : h.get? P2 = some tabO) (D : Defs K mg C c1 c2) (bc : BC K C) (B : Blt mg) (n1 : K.lookup P1 = none) (n2 : K.lookup P2 = none) (h1 : PySem.W.codeHdIn K c1 P1 = true) (h2 : PySem.W.codeHdIn K c2 P2 = true)
    (a : PySem.W.nsIn K mainGlobals "law" = some (some (.ref f))) (lk : K.lookup f = some ⟨oc, od, .func (PySem.W.fnOf "law" "law" (defArgs s_law) (defBody s_law) (defScope s_law) .none kV dc pm an cd ct), sl⟩) (ci : PySem.W.codeIn K cd "law" = true) (k : PySem.W.keepIn K (.ref f) = true) :
    LawG l w K 15 "_law_script" mg fa h := by
  have e := hfa.symm.trans (PySem.W.mg_of X G a)
  cases e
  exact ⟨_, P1, P2, c1, c2, hP, t1, t2, n1, n2, PySem.W.codeHd_of_K X h1, PySem.W.codeHd_of_K X h2, fun s v => .of_eq rfl, fun base _ _ T1 T2 => whole B hP T1 T2 bc D (fun_mk lk ci k)⟩
end K81
open PySem PySem.W PyProof.Rows
set_option maxRecDepth 100000 in
set_option maxHeartbeats 0 in
theorem PySem.Challenge.cw_slotwise_k81_whole_conflicts_cross_corre_holds : PySem.Challenge.rw_slotwise_k81_whole_conflicts_cross_corre.Holds := by
  w_on; o_law; k_head; (case hw => w_witness2)
  k_fill
  refine K81.walk (l := PySem.Challenge.rw_slotwise_k81_whole_conflicts_cross_corre) rfl rfl (fun w h Y => PySem.W.km_in_of Y) ?F
  case F =>
    intro w mg fa h Y X G hmg
    refine' K81.law_mk X G hmg (P1 := 44) (P2 := 141) (by decide) (PySem.W.km_tabs_of Y 44 (by decide)) (PySem.W.km_tabs_of Y 141 (by decide))
      (K81.Defs.mk (K81.Df.of X G K81.bd_weight_of ?a0 ?l0 ?c0 ?k0) (K81.Df.of X G K81.bd_least_round ?a1 ?l1 ?c1 ?k1) (K81.Df.of X G K81.bd_least_weights ?a2 ?l2 ?c2 ?k2) (K81.DfC.of X G K81.bd_paths_of ?a3 ?l3 ?c3 ?k3) (K81.Df.of X G K81.bd_copies_at ?a4 ?l4 ?c4 ?k4) (K81.DfM.of K81.bd_below ?a5 ?i5 ?l5 ?c5 ?k5) (K81.DfM.of K81.bd_weight_at ?a6 ?i6 ?l6 ?c6 ?k6) (K81.DfM.of K81.bd_weights_at ?a7 ?i7 ?l7 ?c7 ?k7) (K81.DfM.of K81.bd_least_price ?a8 ?i8 ?l8 ?c8 ?k8) (K81.DfI.of X G K81.bd_Blocks ?aC ?a9 ?i9 ?l9 ?c9 ?k9 ?mk ?kc) (K81.Df.of X G K81.bd_is_within ?a10 ?l10 ?c10 ?k10) (K81.Df.of X G K81.bd_fits ?a11 ?l11 ?c11 ?k11) (K81.Df.of X G K81.bd_is_feasible ?a12 ?l12 ?c12 ?k12) (K81.DfC.of X G K81.bd_all_sets ?a13 ?l13 ?c13 ?k13) (K81.Df.of X G K81.bd_outside_of ?a14 ?l14 ?c14 ?k14) (K81.Df.of X G K81.bd_smaller_sets ?a15 ?l15 ?c15 ?k15) (K81.Df.of X G K81.bd_explanation_of ?a16 ?l16 ?c16 ?k16) (K81.Df.of X G K81.bd_kept_of ?a17 ?l17 ?c17 ?k17) (K81.Df.of X G K81.bd_feasible_sets ?a18 ?l18 ?c18 ?k18) (K81.Df.of X G K81.bd_conflicts_of ?a19 ?l19 ?c19 ?k19) (K81.Df.of X G K81.bd_corrections_of ?a20 ?l20 ?c20 ?k20) (K81.Df.of X G K81.bd_l_weight ?a21 ?l21 ?c21 ?k21) (K81.Df.of X G K81.bd_l_weights ?a22 ?l22 ?c22 ?k22) (K81.Df.of X G K81.bd_l_size ?a23 ?l23 ?c23 ?k23) (K81.Df.of X G K81.bd_l_sizes ?a24 ?l24 ?c24 ?k24) (K81.Df.of X G K81.bd_l_stands ?a25 ?l25 ?c25 ?k25) (K81.Df.of X G K81.bd_l_lightest ?a26 ?l26 ?c26 ?k26) (K81.Df.of X G K81.bd_l_feasible ?a27 ?l27 ?c27 ?k27) (K81.Df.of X G K81.bd_l_picked ?a28 ?l28 ?c28 ?k28) (K81.Df.of X G K81.bd_l_subsets ?a29 ?l29 ?c29 ?k29) (K81.Df.of X G K81.bd_l_crosses ?a30 ?l30 ?c30 ?k30) (K81.Df.of X G K81.bd_l_crossing ?a31 ?l31 ?c31 ?k31) (K81.Df.of X G K81.bd_l_meets ?a32 ?l32 ?c32 ?k32) (K81.Df.of X G K81.bd_l_tape ?a33 ?l33 ?c33 ?k33) (K81.Df.of X G K81.bd_l_draw ?a34 ?l34 ?c34 ?k34) (K81.Df.of X G K81.bd_l_price ?a35 ?l35 ?c35 ?k35) (K81.Df.of X G K81.bd_l_family ?a36 ?l36 ?c36 ?k36) (K81.Df.of X G K81.bd_l_tree ?a37 ?l37 ?c37 ?k37) (K81.Df.of X G K81.bd_l_word ?a38 ?l38 ?c38 ?k38) (K81.Df.of X G K81.bd_l_words ?a39 ?l39 ?c39 ?k39) (K81.Df.of X G K81.bd_l_slot_words ?a40 ?l40 ?c40 ?k40) (K81.Df.of X G K81.bd_l_names ?a41 ?l41 ?c41 ?k41) (K81.Df.of X G K81.bd_l_span ?a42 ?l42 ?c42 ?k42) (K81.Df.of X G K81.bd_l_path ?a43 ?l43 ?c43 ?k43) (K81.Df.of X G K81.bd_l_at ?a44 ?l44 ?c44 ?k44) (K81.Df.of X G K81.bd_l_demand ?a45 ?l45 ?c45 ?k45) (K81.Df.of X G K81.bd_l_demands ?a46 ?l46 ?c46 ?k46) (K81.Df.of X G K81.bd_l_budget ?a47 ?l47 ?c47 ?k47) (K81.Df.of X G K81.bd_l_worth ?a48 ?l48 ?c48 ?k48) (K81.Df.of X G K81.bd_l_least ?a49 ?l49 ?c49 ?k49) (K81.Df.of X G K81.bd_l_same ?a50 ?l50 ?c50 ?k50))
      (K81.BC.mk (L2.Cls.mk ?pg ?hd ?po ?sa) ?n0 ?n1 ?n2 ?n3 ?n4)
      (K81.Blt.mk (PySem.W.mg_none_of X G ?z0) (PySem.W.mg_none_of X G ?z1) (PySem.W.mg_none_of X G ?z2) (PySem.W.mg_none_of X G ?z3) (PySem.W.mg_none_of X G ?z4) (PySem.W.mg_none_of X G ?z5) (PySem.W.mg_none_of X G ?z6) (PySem.W.mg_none_of X G ?z7) (PySem.W.mg_none_of X G ?z8) (PySem.W.mg_none_of X G ?z9) (PySem.W.mg_none_of X G ?z10) (PySem.W.mg_none_of X G ?z11) (PySem.W.mg_none_of X G ?z12) (PySem.W.mg_none_of X G ?z13) (PySem.W.mg_none_of X G ?z14) (PySem.W.mg_none_of X G ?z15))
      ?q1 ?q2 ?h1 ?h2 ?aL ?lL ?cL ?kL
    (case aC => k_is)
    (case a0 => k_is); (case l0 => k_is); (case c0 => k_is); (case k0 => k_is)
    (case a1 => k_is); (case l1 => k_is); (case c1 => k_is); (case k1 => k_is)
    (case a2 => k_is); (case l2 => k_is); (case c2 => k_is); (case k2 => k_is)
    (case a3 => k_is); (case l3 => k_is); (case c3 => k_is); (case k3 => k_is)
    (case a4 => k_is); (case l4 => k_is); (case c4 => k_is); (case k4 => k_is)
    (case a5 => k_is); (case i5 => k_is); (case l5 => k_is); (case c5 => k_is); (case k5 => k_is)
    (case a6 => k_is); (case i6 => k_is); (case l6 => k_is); (case c6 => k_is); (case k6 => k_is)
    (case a7 => k_is); (case i7 => k_is); (case l7 => k_is); (case c7 => k_is); (case k7 => k_is)
    (case a8 => k_is); (case i8 => k_is); (case l8 => k_is); (case c8 => k_is); (case k8 => k_is)
    (case a9 => k_is); (case i9 => k_is); (case l9 => k_is); (case c9 => k_is); (case k9 => k_is); (case mk => k_is); (case kc => k_is)
    (case a10 => k_is); (case l10 => k_is); (case c10 => k_is); (case k10 => k_is)
    (case a11 => k_is); (case l11 => k_is); (case c11 => k_is); (case k11 => k_is)
    (case a12 => k_is); (case l12 => k_is); (case c12 => k_is); (case k12 => k_is)
    (case a13 => k_is); (case l13 => k_is); (case c13 => k_is); (case k13 => k_is)
    (case a14 => k_is); (case l14 => k_is); (case c14 => k_is); (case k14 => k_is)
    (case a15 => k_is); (case l15 => k_is); (case c15 => k_is); (case k15 => k_is)
    (case a16 => k_is); (case l16 => k_is); (case c16 => k_is); (case k16 => k_is)
    (case a17 => k_is); (case l17 => k_is); (case c17 => k_is); (case k17 => k_is)
    (case a18 => k_is); (case l18 => k_is); (case c18 => k_is); (case k18 => k_is)
    (case a19 => k_is); (case l19 => k_is); (case c19 => k_is); (case k19 => k_is)
    (case a20 => k_is); (case l20 => k_is); (case c20 => k_is); (case k20 => k_is)
    (case a21 => k_is); (case l21 => k_is); (case c21 => k_is); (case k21 => k_is)
    (case a22 => k_is); (case l22 => k_is); (case c22 => k_is); (case k22 => k_is)
    (case a23 => k_is); (case l23 => k_is); (case c23 => k_is); (case k23 => k_is)
    (case a24 => k_is); (case l24 => k_is); (case c24 => k_is); (case k24 => k_is)
    (case a25 => k_is); (case l25 => k_is); (case c25 => k_is); (case k25 => k_is)
    (case a26 => k_is); (case l26 => k_is); (case c26 => k_is); (case k26 => k_is)
    (case a27 => k_is); (case l27 => k_is); (case c27 => k_is); (case k27 => k_is)
    (case a28 => k_is); (case l28 => k_is); (case c28 => k_is); (case k28 => k_is)
    (case a29 => k_is); (case l29 => k_is); (case c29 => k_is); (case k29 => k_is)
    (case a30 => k_is); (case l30 => k_is); (case c30 => k_is); (case k30 => k_is)
    (case a31 => k_is); (case l31 => k_is); (case c31 => k_is); (case k31 => k_is)
    (case a32 => k_is); (case l32 => k_is); (case c32 => k_is); (case k32 => k_is)
    (case a33 => k_is); (case l33 => k_is); (case c33 => k_is); (case k33 => k_is)
    (case a34 => k_is); (case l34 => k_is); (case c34 => k_is); (case k34 => k_is)
    (case a35 => k_is); (case l35 => k_is); (case c35 => k_is); (case k35 => k_is)
    (case a36 => k_is); (case l36 => k_is); (case c36 => k_is); (case k36 => k_is)
    (case a37 => k_is); (case l37 => k_is); (case c37 => k_is); (case k37 => k_is)
    (case a38 => k_is); (case l38 => k_is); (case c38 => k_is); (case k38 => k_is)
    (case a39 => k_is); (case l39 => k_is); (case c39 => k_is); (case k39 => k_is)
    (case a40 => k_is); (case l40 => k_is); (case c40 => k_is); (case k40 => k_is)
    (case a41 => k_is); (case l41 => k_is); (case c41 => k_is); (case k41 => k_is)
    (case a42 => k_is); (case l42 => k_is); (case c42 => k_is); (case k42 => k_is)
    (case a43 => k_is); (case l43 => k_is); (case c43 => k_is); (case k43 => k_is)
    (case a44 => k_is); (case l44 => k_is); (case c44 => k_is); (case k44 => k_is)
    (case a45 => k_is); (case l45 => k_is); (case c45 => k_is); (case k45 => k_is)
    (case a46 => k_is); (case l46 => k_is); (case c46 => k_is); (case k46 => k_is)
    (case a47 => k_is); (case l47 => k_is); (case c47 => k_is); (case k47 => k_is)
    (case a48 => k_is); (case l48 => k_is); (case c48 => k_is); (case k48 => k_is)
    (case a49 => k_is); (case l49 => k_is); (case c49 => k_is); (case k49 => k_is)
    (case a50 => k_is); (case l50 => k_is); (case c50 => k_is); (case k50 => k_is)
    (case pg => k_is); (case hd => k_is); (case po => k_is); (case sa => k_is)
    (case n0 => show PySem.W.findIn _ _ _ = some none; k_is); (case n1 => show PySem.W.findIn _ _ _ = some none; k_is); (case n2 => show PySem.W.findIn _ _ _ = some none; k_is); (case n3 => show PySem.W.findIn _ _ _ = some none; k_is); (case n4 => show PySem.W.findIn _ _ _ = some none; k_is)
    (case z0 => k_is); (case z1 => k_is); (case z2 => k_is); (case z3 => k_is); (case z4 => k_is); (case z5 => k_is); (case z6 => k_is); (case z7 => k_is); (case z8 => k_is); (case z9 => k_is); (case z10 => k_is); (case z11 => k_is); (case z12 => k_is); (case z13 => k_is); (case z14 => k_is); (case z15 => k_is)
    (case aL => k_is); (case lL => k_is); (case cL => k_is); (case kL => k_is)
    (case q1 => first | k_is | kernel_rfl); (case q2 => first | k_is | kernel_rfl)
    (case h1 => first | kernel_rfl | k_is); (case h2 => first | kernel_rfl | k_is)
