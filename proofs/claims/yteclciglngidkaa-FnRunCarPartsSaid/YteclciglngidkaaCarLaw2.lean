/-
  The orders to a floor, in plain Lean: a car comes where it is sent; nobody is sent around; parts of runs.
-/
import Derived.Test.YteclciglngidkaaCarLaw
namespace Go.Proofs.Yteclciglngidkaa
open Go.RowKit

theorem runC_app {q qa qb : CarQ} {a b : List Int} {m : Nat} (h : runC q a = (qa, a.length)) (hb : runC qa b = (qb, m)) : runC q (a ++ b) = (qb, m + a.length) := by
  rw [runC_append a b q (by rw [h]), h]
  simp only
  rw [hb]
theorem runC_one {q q' : CarQ} {z : Int} (h : cSt q z = some q') : runC q [z] = (q', [z].length) := by
  rw [runC_yes h]; rfl
theorem cSt_val {f h l : Int} {o : Bool} {z : Int} {q : CarQ} (hv : vC f h l o = true) (hs : stepC f h l o z = some q) : cSt (f, h, l, o) z = some q := by
  unfold cSt
  rw [cStep_v hv]
  exact hs
theorem runC_up : ∀ (k : Nat) (f h l : Int), 0 ≤ f → f + k ≤ 15 → 0 ≤ l → l < 5 → (h = 0 ∨ h = 1) →
    ∃ h', (k = 0 → h' = h) ∧ (0 < k → h' = 1) ∧ runC (f, h, l, false) (List.replicate k 1) = ((f + k, h', l, false), k)
  | 0, f, h, l, _, _, _, _, _ => ⟨h, fun _ => rfl, fun h0 => absurd h0 (by omega), by simp [runC]⟩
  | k + 1, f, h, l, f0, f1, l0, l1, hh => by
    have hs : cSt (f, h, l, false) 1 = some (f + 1, 1, l, false) := by
      apply cSt_val
      · rw [vC_iff]; exact ⟨by omega, by omega, by omega, .inr rfl⟩
      · simp [stepC]; omega
    obtain ⟨h', _, h2, e⟩ := runC_up k (f + 1) 1 l (by omega) (by omega) l0 l1 (.inr rfl)
    refine ⟨1, fun h0 => absurd h0 (by omega), fun _ => rfl, ?_⟩
    have h1 : h' = 1 := by
      cases k with
      | zero => rename_i hk; exact hk rfl
      | succ k => exact h2 (by omega)
    rw [List.replicate_succ, runC_yes hs, e, h1]
    simp only [Prod.mk.injEq, and_true]
    omega
theorem runC_down : ∀ (k : Nat) (f h l : Int), (k : Int) ≤ f → f ≤ 15 → 0 ≤ l → l < 5 → (h = 0 ∨ h = -1) →
    ∃ h', (k = 0 → h' = h) ∧ (0 < k → h' = -1) ∧ runC (f, h, l, false) (List.replicate k 2) = ((f - k, h', l, false), k)
  | 0, f, h, l, _, _, _, _, _ => ⟨h, fun _ => rfl, fun h0 => absurd h0 (by omega), by simp [runC]⟩
  | k + 1, f, h, l, f0, f1, l0, l1, hh => by
    have hs : cSt (f, h, l, false) 2 = some (f - 1, -1, l, false) := by
      apply cSt_val
      · rw [vC_iff]; exact ⟨by omega, by omega, by omega, .inr rfl⟩
      · simp [stepC]; omega
    obtain ⟨h', _, h2, e⟩ := runC_down k (f - 1) (-1) l (by omega) (by omega) l0 l1 (.inr rfl)
    refine ⟨-1, fun h0 => absurd h0 (by omega), fun _ => rfl, ?_⟩
    have h1 : h' = -1 := by
      cases k with
      | zero => rename_i hk; exact hk rfl
      | succ k => exact h2 (by omega)
    rw [List.replicate_succ, runC_yes hs, e, h1]
    simp only [Prod.mk.injEq, and_true]
    omega
/-- Stop if it is told, then open. -/
theorem runC_so {f h l : Int} (f0 : 0 ≤ f) (f1 : f ≤ 15) (l0 : 0 ≤ l) (l1 : l < 5) (h0 : -1 ≤ h) (h1 : h ≤ 1) : runC (f, h, l, false) [3, 4] = ((f, 0, l, true), 2) ∧ (h = 0 → runC (f, h, l, false) [4] = ((f, 0, l, true), 1)) := by
  have hs : ∀ h, -1 ≤ h → h ≤ 1 → cSt (f, h, l, false) 3 = some (f, 0, l, false) := fun h h0 h1 => by
    apply cSt_val
    · rw [vC_iff]; exact ⟨by omega, by omega, by omega, .inr rfl⟩
    · simp [stepC]
  have ho : cSt (f, 0, l, false) 4 = some (f, 0, l, true) := by
    apply cSt_val
    · rw [vC_iff]; exact ⟨by omega, by omega, by omega, .inr rfl⟩
    · simp [stepC]
  refine ⟨?_, ?_⟩
  · rw [runC_yes (hs h h0 h1), runC_yes ho]; rfl
  · rintro rfl
    rw [runC_yes ho]; rfl
theorem runC_close {f l : Int} (f0 : 0 ≤ f) (f1 : f ≤ 15) (l0 : 0 ≤ l) (l1 : l < 5) : runC (f, 0, l, true) [5] = ((f, 0, l, false), [(5 : Int)].length) := by
  apply runC_one
  apply cSt_val
  · rw [vC_iff]; exact ⟨by omega, by omega, by omega, .inl rfl⟩
  · simp [stepC]
theorem runC_stop {f h l : Int} (f0 : 0 ≤ f) (f1 : f ≤ 15) (l0 : 0 ≤ l) (l1 : l < 5) (h0 : -1 ≤ h) (h1 : h ≤ 1) : runC (f, h, l, false) [3] = ((f, 0, l, false), [(3 : Int)].length) := by
  apply runC_one
  apply cSt_val
  · rw [vC_iff]; exact ⟨by omega, by omega, by omega, .inr rfl⟩
  · simp [stepC]
/-- From a closed door with a heading that is none or the right one: go, stop, open. -/
theorem runC_go {f h l y : Int} (f0 : 0 ≤ f) (f1 : f ≤ 15) (l0 : 0 ≤ l) (l1 : l < 5) (y0 : 0 ≤ y) (y1 : y ≤ 15) (hne : y ≠ f) (hh : h = 0 ∨ (h = 1 ∧ f < y) ∨ (h = -1 ∧ y < f)) :
    runC (f, h, l, false) (List.replicate (y - f).natAbs (if f < y then 1 else 2) ++ [3, 4]) = ((y, 0, l, true), 2 + (y - f).natAbs) := by
  rcases Int.lt_or_lt_of_ne hne with hlt | hlt
  · rw [if_neg (by omega)]
    obtain ⟨h', _, h2, e⟩ := runC_down (y - f).natAbs f h l (by omega) f1 l0 l1 (by omega)
    obtain rfl := h2 (by omega)
    rw [show f - ((y - f).natAbs : Int) = y by omega] at e
    have := runC_app (a := List.replicate (y - f).natAbs 2) (by rw [e]; simp) (runC_so (f := y) (h := -1) y0 y1 l0 l1 (by omega) (by omega)).1
    rw [this]; simp
  · rw [if_pos hlt]
    obtain ⟨h', _, h2, e⟩ := runC_up (y - f).natAbs f h l f0 (by omega) l0 l1 (by omega)
    obtain rfl := h2 (by omega)
    rw [show f + ((y - f).natAbs : Int) = y by omega] at e
    have := runC_app (a := List.replicate (y - f).natAbs 1) (by rw [e]; simp) (runC_so (f := y) (h := 1) y0 y1 l0 l1 (by omega) (by omega)).1
    rw [this]; simp
/-- A car comes where it is sent. -/
theorem orders_arrive {f h l y : Int} {o : Bool} (hv : vC f h l o = true) (h5 : l < 5) (y0 : 0 ≤ y) (y1 : y ≤ 15) : runC (f, h, l, o) (ordersC f h o y) = ((y, 0, l, true), (ordersC f h o y).length) := by
  obtain ⟨⟨f0, f1⟩, ⟨l0, l1⟩, ⟨h0, h1⟩, hh⟩ := vC_iff.1 hv
  unfold ordersC
  by_cases ho : o = true ∧ f = y
  · obtain ⟨rfl, rfl⟩ := ho
    obtain rfl : h = 0 := by simpa using hh
    rw [if_pos ⟨rfl, rfl⟩]; rfl
  rw [if_neg ho]
  by_cases hne : y = f
  · subst hne
    have ho' : o = false := by simpa using ho
    subst ho'
    by_cases hz : h = 0
    · subst hz
      simp
      exact (runC_so f0 f1 l0 h5 (by omega) (by omega)).2 rfl
    · simp [hz]
      have := runC_app (b := [4]) (runC_stop (h := h) f0 f1 l0 h5 h0 h1) ((runC_so (h := 0) f0 f1 l0 h5 (by omega) (by omega)).2 rfl)
      exact this
  · have hne' : ¬ f = y := fun e => hne e.symm
    have h2 : (h ≠ 0 ∧ 0 < h * (y - f)) ∨ y ≠ f := .inr hne
    cases o
    · by_cases hd : h = 0 ∨ (h = 1 ∧ f < y) ∨ (h = -1 ∧ y < f)
      · have h1 : ¬ (h ≠ 0 ∧ h * (y - f) ≤ 0) := by
          rintro ⟨a, b⟩
          rcases hd with rfl | ⟨rfl, c⟩ | ⟨rfl, c⟩ <;> simp at a b <;> omega
        rw [if_neg (by simp), if_neg h1, if_pos h2]
        have := runC_go f0 f1 l0 h5 y0 y1 hne hd
        simp only [List.nil_append, List.append_assoc, List.cons_append]
        rw [this]; simp; omega
      · have h1 : h ≠ 0 ∧ h * (y - f) ≤ 0 := by
          refine ⟨by omega, ?_⟩
          obtain rfl | rfl : h = 1 ∨ h = -1 := by omega
          · omega
          · simp; omega
        rw [if_neg (by simp), if_pos h1, if_pos h2]
        have := runC_app (runC_stop (h := h) f0 f1 l0 h5 (by omega) (by omega)) (runC_go (h := 0) f0 f1 l0 h5 y0 y1 hne (.inl rfl))
        simp only [List.nil_append, List.append_assoc, List.cons_append] at this ⊢
        rw [this]; simp; omega
    · obtain rfl : h = 0 := by simpa using hh
      rw [if_pos rfl, if_neg (by simp), if_pos h2]
      have := runC_app (runC_close f0 f1 l0 h5) (runC_go (h := 0) f0 f1 l0 h5 y0 y1 hne (.inl rfl))
      simp only [List.nil_append, List.append_assoc, List.cons_append, List.append_nil] at this ⊢
      rw [this]; simp; omega

/-! How many movements. -/
def mv (z : Int) : Nat := if z = 1 ∨ z = 2 then 1 else 0
def moves (zs : List Int) : Nat := (zs.map mv).sum
theorem moves_append (a b : List Int) : moves (a ++ b) = moves a + moves b := by simp [moves]
theorem moves_rep (k : Nat) (z : Int) (hz : z = 1 ∨ z = 2) : moves (List.replicate k z) = k := by
  unfold moves
  rw [List.map_replicate, List.sum_replicate_nat]
  simp [mv, hz]
theorem moves_succ {zs : List Int} {k : Nat} {z : Int} (h : zs[k]? = some z) : moves (zs.take (k + 1)) = moves (zs.take k) + mv z := by
  rw [take_snoc _ _ _ h, moves_append]; simp [moves]
theorem moves_le : ∀ zs : List Int, moves zs ≤ zs.length
  | [] => Nat.le_refl _
  | z :: zs => by
    have := moves_le zs
    have h1 : mv z ≤ 1 := by unfold mv; split <;> omega
    simp only [moves, List.map_cons, List.sum_cons, List.length_cons] at *
    omega
theorem orders_moves (f h : Int) (o : Bool) (y : Int) (hne : ¬ (o = true ∧ f = y)) : moves (ordersC f h o y) = (y - f).natAbs ∧ (ordersC f h o y).length ≤ (y - f).natAbs + 4 := by
  unfold ordersC
  rw [if_neg hne]
  have hr : moves (List.replicate (y - f).natAbs (if f < y then 1 else 2)) = (y - f).natAbs := moves_rep _ _ (by split <;> simp)
  refine ⟨?_, ?_⟩
  · simp only [moves_append, hr]
    have e5 : moves (if o = true then [5] else []) = 0 := by split <;> rfl
    have e3 : ∀ (c : Prop) [Decidable c], moves (if c then [3] else []) = 0 := fun c _ => by split <;> rfl
    rw [e5, e3, e3]
    have : moves [4] = 0 := rfl
    omega
  · have e5 : (if o = true then [(5 : Int)] else []).length ≤ 1 := by split <;> simp
    have e3 : ∀ (c : Prop) [Decidable c], (if c then [(3 : Int)] else []).length ≤ 1 := fun c _ => by split <;> simp
    have a := e3 (h ≠ 0 ∧ h * (y - f) ≤ 0)
    have b := e3 ((h ≠ 0 ∧ 0 < h * (y - f)) ∨ y ≠ f)
    simp only [List.length_append, List.length_replicate, List.length_cons, List.length_nil]
    omega

/-! Parts of a run. -/
theorem runC_split : ∀ (a b : List Int) (q d : CarQ), runC q (a ++ b) = (d, (a ++ b).length) → (runC q a).2 = a.length ∧ runC (runC q a).1 b = (d, b.length)
  | [], b, q, d, h => ⟨rfl, h⟩
  | z :: a, b, q, d, h => by
    cases hz : cSt q z with
    | none => rw [List.cons_append, runC_no hz] at h; simp at h
    | some q' =>
      rw [List.cons_append, runC_yes hz] at h
      have h' : runC q' (a ++ b) = (d, (a ++ b).length) := by
        injection h with h1 h2
        rw [← h1]
        have : (runC q' (a ++ b)).2 = (a ++ b).length := by simpa using h2
        rw [← this]
      obtain ⟨h1, h2⟩ := runC_split a b q' d h'
      rw [runC_yes hz]
      exact ⟨by simp [h1], h2⟩
theorem runC_valid : ∀ (zs : List Int) (q : CarQ), vC q.1 q.2.1 q.2.2.1 q.2.2.2 = true → vC (runC q zs).1.1 (runC q zs).1.2.1 (runC q zs).1.2.2.1 (runC q zs).1.2.2.2 = true
  | [], q, h => h
  | z :: zs, q, h => by
    cases hz : cSt q z with
    | none => rw [runC_no hz]; exact h
    | some q' => rw [runC_yes hz]; exact runC_valid zs q' (cStep_valid hz)
end Go.Proofs.Yteclciglngidkaa
