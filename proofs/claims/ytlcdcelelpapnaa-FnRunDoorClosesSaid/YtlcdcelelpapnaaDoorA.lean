/-
  Doors: what a step of a door is, in plain Lean, and the contracts of the functions over one door.
-/
import Derived.Test.YtlcdcelelpapnaaInts
namespace Go.Proofs.Ytlcdcelelpapnaa
open Go.RowKit

def vD (s l : Int) : Bool := inB s 0 3 && inB l 0 3
theorem vD_iff {s l : Int} : vD s l = true ↔ (0 ≤ s ∧ s ≤ 3) ∧ (0 ≤ l ∧ l ≤ 3) := by simp [vD, inB_iff]
def stepD (s l : Int) (a b : Bool) : Int × Int :=
  if s = 0 ∧ a = true then (1, 3)
  else if s = 3 ∧ (a = true ∨ b = true) then (1, 3 - l)
  else if s = 2 ∧ (a = true ∨ b = true) then (2, 3)
  else if 0 < l then (s, l - 1)
  else if s = 1 then (2, 3)
  else if s = 2 then (3, 3)
  else (0, 0)
/-- What StepDoor hands back. -/
def dStep (s l : Int) (a b : Bool) : Int × Int := if vD s l = true then stepD s l a b else (0, 0)
def RetD (q : Int × Int) (w : World) (e : Ending) (w' : World) : Prop := e = .returned (.agg #[.int .i64 q.1, .int .i64 q.2]) ∧ Below w.heap.size w w'
theorem agg_eq {q : Int × Int} {x y : Int} (h : q = (x, y)) : Ending.returned (.agg #[.int .i64 x, .int .i64 y]) = .returned (.agg #[.int .i64 q.1, .int .i64 q.2]) := by subst h; rfl


set_option maxHeartbeats 400000 in
theorem validDoor_s (s l : Int) (w : World) :
    Calls Try.prog 31 #[.agg #[.int .i64 s, .int .i64 l]] w fun e w' => e = .returned (.bool (vD s l)) ∧ w.alloc (.cells #[.int .i64 s, .int .i64 l] 26) = w' := by
  by_cases hs : inB s 0 3 = true
  · go_enter Try.func31, Try.ntmps31
    go_wp2_with (go_at_call 39; refine (inRange_any _ _ _ _).mono ?_; rintro e w' ⟨rfl, rfl⟩)
    go_ret
    exact ⟨ret_bool (by simp [vD, hs]), rfl⟩
  · have hs' : inB s 0 3 = false := by simpa using hs
    clear hs
    go_enter Try.func31, Try.ntmps31
    go_wp2_with (go_at_call 39; refine (inRange_any _ _ _ _).mono ?_; rintro e w' ⟨rfl, rfl⟩)
    go_ret
    exact ⟨ret_bool (by simp [vD, hs']), rfl⟩
set_option maxHeartbeats 400000 in
theorem ValidDoor_i (s l : Int) (w : World) :
    Calls Try.prog 15 #[.agg #[.int .i64 s, .int .i64 l]] w fun e w' => e = .returned (.bool (vD s l)) ∧ w.alloc (.cells #[.int .i64 s, .int .i64 l] 26) = w' := by
  by_cases hs : inB s 0 3 = true
  · go_enter Try.func15, Try.ntmps15
    go_wp2_with (go_at_call 32; refine (within_any _ _ _ _).mono ?_; rintro e w' ⟨rfl, rfl⟩)
    go_ret
    exact ⟨ret_bool (by simp [vD, hs]), rfl⟩
  · have hs' : inB s 0 3 = false := by simpa using hs
    clear hs
    go_enter Try.func15, Try.ntmps15
    go_wp2_with (go_at_call 32; refine (within_any _ _ _ _).mono ?_; rintro e w' ⟨rfl, rfl⟩)
    go_ret
    exact ⟨ret_bool (by simp [vD, hs']), rfl⟩
set_option maxHeartbeats 400000 in
theorem ValidDoor_s (s l : Int) (w : World) :
    Calls Try.prog 13 #[.agg #[.int .i64 s, .int .i64 l]] w fun e w' => e = .returned (.bool (vD s l)) ∧ (w.alloc (.cells #[.int .i64 s, .int .i64 l] 26)).alloc (.cells #[.int .i64 s, .int .i64 l] 26) = w' := by
  go_enter Try.func13, Try.ntmps13
  go_wp2_with fail
  refine (validDoor_s _ _ _).mono ?_
  rintro e w' ⟨rfl, rfl⟩
  go_wp2_with fail
  go_ret
  exact ⟨rfl, rfl⟩

set_option maxHeartbeats 1000000 in
theorem stepDoor_v (s l : Int) (a b : Bool) (w : World) (h0 : 0 ≤ l) (h1 : l ≤ 3) :
    Calls Try.prog 33 #[.agg #[.int .i64 s, .int .i64 l], .bool a, .bool b] w (RetD (stepD s l a b) w) := by
  go_enter Try.func33, Try.ntmps33
  go_wp2_with fail
  all_goals
    refine bodyPost_ret (v := .agg #[.int .i64 (stepD s l a b).1, .int .i64 (stepD s l a b).2]) ?_ rfl ⟨rfl, (by repeat (first | exact Below.refl _ _ | refine Below.drew ?_ | refine below_drewN ?_ _ | refine Below.alloc ?_ (by first | (simp; done) | (simp; omega)) _ | refine Below.setCell ?_ (by first | (simp; done) | (simp; omega)) _ | refine Below.trans ?_ (Hb.out.mono (by first | (simp; done) | (simp; omega))) | refine Below.trans ?_ (Hb1.out.mono (by first | (simp; done) | (simp; omega))) | refine Below.trans ?_ (Hb2.out.mono (by first | (simp; done) | (simp; omega))) | refine Below.trans ?_ (Hb3.out.mono (by first | (simp; done) | (simp; omega)))))⟩
    go_light
    simp_all [results, Try.results33, go_sem, stepD]
  all_goals
    rw [if_neg (by omega)]
    exact ⟨rfl, rfl⟩

end Go.Proofs.Ytlcdcelelpapnaa
