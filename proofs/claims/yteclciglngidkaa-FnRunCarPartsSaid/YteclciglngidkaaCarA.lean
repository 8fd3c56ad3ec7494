/-
  Cars: what a valid car and a step of a car are, in plain Lean, and the contracts of the functions over one car.
-/
import Derived.Test.YteclciglngidkaaInts
namespace Go.Proofs.Yteclciglngidkaa
open Go.RowKit

def vC (f h l : Int) (o : Bool) : Bool := inB f 0 15 && inB l 0 5 && inB h (-1) 1 && (h == 0 || !o)
theorem vC_iff {f h l : Int} {o : Bool} : vC f h l o = true ↔ (0 ≤ f ∧ f ≤ 15) ∧ (0 ≤ l ∧ l ≤ 5) ∧ (-1 ≤ h ∧ h ≤ 1) ∧ (h = 0 ∨ o = false) := by
  simp [vC, inB_iff, and_assoc]

set_option maxHeartbeats 400000 in
theorem validFloor_any (x : Int) (w : World) :
    Calls Try.prog 15 #[.int .i64 x] w fun e w' => e = .returned (.bool (inB x 0 15)) ∧ w = w' := by
  go_enter Try.func15, Try.ntmps15
  go_wp2_with fail
  refine (within_any _ _ _ _).mono ?_
  rintro e w' ⟨rfl, rfl⟩
  go_wp2_with fail
  go_ret
  exact ⟨rfl, rfl⟩

set_option maxHeartbeats 1000000 in
theorem ValidCar_i (f h l : Int) (o : Bool) (w : World) :
    Calls Try.prog 24 #[.agg #[.int .i64 f, .int .i64 h, .int .i64 l, .bool o]] w fun e w' => e = .returned (.bool (vC f h l o)) ∧ w.alloc (.cells #[.int .i64 f, .int .i64 h, .int .i64 l, .bool o] 29) = w' := by
  cases hf : inB f 0 15 <;> cases hl : inB l 0 5
  all_goals
    go_enter Try.func24, Try.ntmps24
    go_wp2_with (first
      | (go_at_call 15; refine (validFloor_any _ _).mono ?_; rintro e w' ⟨rfl, rfl⟩)
      | (go_at_call 30; refine (within_any _ _ _ _).mono ?_; rintro e w' ⟨rfl, rfl⟩))
    all_goals
      go_ret
      refine ⟨ret_bool ?_, ?_⟩
      · go_light
        simp_all [vC, inB]
        try omega
      · first | rfl | simp_all

set_option maxHeartbeats 1000000 in
theorem validCar_s (f h l : Int) (o : Bool) (w : World) :
    Calls Try.prog 26 #[.agg #[.int .i64 f, .int .i64 h, .int .i64 l, .bool o]] w fun e w' => e = .returned (.bool (vC f h l o)) ∧ w.alloc (.cells #[.int .i64 f, .int .i64 h, .int .i64 l, .bool o] 29) = w' := by
  cases hf : inB f 0 15 <;> cases hh : inB h (-1) 1 <;> cases hl : inB l 0 5 <;> cases o
  all_goals
    go_enter Try.func26, Try.ntmps26
    go_wp2_with (go_at_call 18; refine (inRange_any _ _ _ _).mono ?_; rintro e w' ⟨rfl, rfl⟩)
    all_goals
      go_ret
      refine ⟨ret_bool ?_, rfl⟩
      go_light
      simp_all [vC, bne]




end Go.Proofs.Yteclciglngidkaa
