/-
  Plain laws of the step of a door; the contracts once more, in the names that the laws' walks use.
-/
import Derived.Test.YtlcdcelelpapnaaDoorB
import Derived.Test.YtlcdcelelpapnaaDrawDoorB
import Derived.OpenShut
namespace Go.Proofs.Ytlcdcelelpapnaa
open Go.RowKit

theorem dStep_valid {s l : Int} {a b : Bool} {q : Int × Int} (hv : vD s l = true) (h : dStep s l a b = q) : vD q.1 q.2 = true := by
  subst h
  have hh := vD_iff.1 hv
  rw [show dStep s l a b = stepD s l a b from if_pos hv, vD_iff]
  unfold stepD
  repeat' split
  all_goals (simp <;> omega)
/-- From closed to closed or opening, and so on round; from closing back to opening if somebody wants it. -/
theorem dStep_next {s l : Int} {a b : Bool} {q : Int × Int} (hv : vD s l = true) (h : dStep s l a b = q) : q.1 = s ∨ q.1 = (s + 1) % 4 ∨ (s = 3 ∧ q.1 = 1 ∧ (a = true ∨ b = true)) := by
  subst h
  have hh := vD_iff.1 hv
  rw [show dStep s l a b = stepD s l a b from if_pos hv]
  unfold stepD
  repeat' split
  all_goals (simp; try omega)
  all_goals simp_all
/-- A door that is blocked, and not closed, is opening or open after a step. -/
theorem dStep_blocked {s l : Int} {a : Bool} {q : Int × Int} (hv : vD s l = true) (hs : ¬ s = 0) (h : dStep s l a true = q) : q.1 = 1 ∨ q.1 = 2 := by
  subst h
  have hh := vD_iff.1 hv
  rw [show dStep s l a true = stepD s l a true from if_pos hv]
  unfold stepD
  repeat' split
  all_goals (simp_all; try omega)
/-- A door whose button is pressed at every step. -/
def pressed (q : Int × Int) : Nat → Int × Int
  | 0 => q
  | k + 1 => dStep (pressed q k).1 (pressed q k).2 true false
theorem pressed_open {s l : Int} (hv : vD s l = true) : (pressed (s, l) 5).1 = 2 ∧ (pressed (s, l) 6).1 = 2 := by
  obtain ⟨⟨h0, h1⟩, h2, h3⟩ := vD_iff.1 hv
  obtain rfl | rfl | rfl | rfl : s = 0 ∨ s = 1 ∨ s = 2 ∨ s = 3 := by omega
  all_goals
    obtain rfl | rfl | rfl | rfl : l = 0 ∨ l = 1 ∨ l = 2 ∨ l = 3 := by omega
    all_goals decide

theorem StepDoor_iq (s l : Int) (a b : Bool) (q1 q2 : Int) (w : World) (h : dStep s l a b = (q1, q2)) :
    Calls Try.prog 17 #[.agg #[.int .i64 s, .int .i64 l], .bool a, .bool b] w fun e w' => e = .returned (.agg #[.int .i64 q1, .int .i64 q2]) ∧ Below w.heap.size w w' := by
  have := StepDoor_i s l a b w
  rw [h] at this
  exact this
theorem StepDoor_sq (s l : Int) (a b : Bool) (q1 q2 : Int) (w : World) (h : dStep s l a b = (q1, q2)) :
    Calls Try.prog 16 #[.agg #[.int .i64 s, .int .i64 l], .bool a, .bool b] w fun e w' => e = .returned (.agg #[.int .i64 q1, .int .i64 q2]) ∧ Below w.heap.size w w' := by
  have := StepDoor_s s l a b w
  rw [h] at this
  exact this
theorem ValidDoor_iq (s l : Int) (v : Bool) (w : World) (h : vD s l = v) :
    Calls Try.prog 15 #[.agg #[.int .i64 s, .int .i64 l]] w fun e w' => e = .returned (.bool v) ∧ w.alloc (.cells #[.int .i64 s, .int .i64 l] 26) = w' := by
  have := ValidDoor_i s l w
  rw [h] at this
  exact this
theorem ValidDoor_sq (s l : Int) (v : Bool) (w : World) (h : vD s l = v) :
    Calls Try.prog 13 #[.agg #[.int .i64 s, .int .i64 l]] w fun e w' => e = .returned (.bool v) ∧ (w.alloc (.cells #[.int .i64 s, .int .i64 l] 26)).alloc (.cells #[.int .i64 s, .int .i64 l] 26) = w' := by
  have := ValidDoor_s s l w
  rw [h] at this
  exact this

theorem code8_of {w : World} {A : Option Addr} {n c : Nat} {zs : List Int} (hl : n ≤ c) (hr : RdI w .u8 A n zs) (hz : ∀ z ∈ zs, (Lit.int .u8 z).wf = true) : Code8 w w.heap.size A n c :=
  ⟨zs, hl, hr, fun b hb => bounds_u8 (hz b hb), RdI.old hr⟩

end Go.Proofs.Ytlcdcelelpapnaa
