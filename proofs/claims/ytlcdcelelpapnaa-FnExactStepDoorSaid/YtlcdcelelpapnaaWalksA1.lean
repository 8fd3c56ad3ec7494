/-
  The walks of the laws on constants and single doors: each returns true and leaves old memory as it was.
-/
import Derived.Test.YtlcdcelelpapnaaDoorB
namespace Go.Proofs.Ytlcdcelelpapnaa
open Go.RowKit

set_option maxHeartbeats 400000 in
theorem fnExactConstants_walk (w : World) : Calls Try.prog 3 #[] w fun e w' => e = .returned (.bool true) ∧ Below w.heap.size w w' := by
  go_enter Try.func3, Try.ntmps3
  go_wp2
  go_ret
  exact ⟨rfl, Below.refl _ _⟩


set_option maxHeartbeats 400000 in
theorem fnExactValidDoor_walk (s l : Int) (w : World) (_ : (Lit.int .i64 s).wf = true) (_ : (Lit.int .i64 l).wf = true) :
    Calls Try.prog 4 #[.agg #[.int .i64 s, .int .i64 l]] w fun e w' => e = .returned (.bool true) ∧ Below w.heap.size w w' := by
  go_enter Try.func4, Try.ntmps4
  go_wp2_with fail
  refine (toDoor_any _ _ _).mono ?_
  rintro e w1 ⟨rfl, hb⟩
  obtain ⟨hc1, hf1⟩ := bcell hb
  have hz1 := hb.size
  have Hb1 := hide hb
  clear hb
  try simp at hz1
  obtain ⟨_, _, _, _, _, _, _, _⟩ := sz (show w.heap.size < w1.heap.size from by omega)
  go_wp2_with fail
  refine (ValidDoor_s _ _ _).mono ?_
  rintro e w2 ⟨rfl, rfl⟩
  go_wp2_with fail
  refine (toDoor_any _ _ _).mono ?_
  rintro e w2 ⟨rfl, hb⟩
  obtain ⟨hc2, hf2⟩ := bcell hb
  have hz2 := hb.size
  have Hb2 := hide hb
  clear hb
  try simp at hz2
  go_wp2_with fail
  refine (ValidDoor_i _ _ _).mono ?_
  rintro e w3 ⟨rfl, rfl⟩
  go_wp2_with fail
  go_ret
  exact ⟨rfl, (by repeat (first | exact Below.refl _ _ | refine Below.drew ?_ | refine below_drewN ?_ _ | refine Below.alloc ?_ (by first | (simp; done) | (simp; omega) | omega) _ | refine Below.setCell ?_ (by first | (simp; done) | (simp; omega) | omega) _ | refine Below.trans ?_ (Hb.out.mono (by first | (simp; done) | (simp; omega) | omega)) | refine Below.trans ?_ (Hb9.out.mono (by first | (simp; done) | (simp; omega) | omega)) | refine Below.trans ?_ (Hb8.out.mono (by first | (simp; done) | (simp; omega) | omega)) | refine Below.trans ?_ (Hb7.out.mono (by first | (simp; done) | (simp; omega) | omega)) | refine Below.trans ?_ (Hb6.out.mono (by first | (simp; done) | (simp; omega) | omega)) | refine Below.trans ?_ (Hb5.out.mono (by first | (simp; done) | (simp; omega) | omega)) | refine Below.trans ?_ (Hb4.out.mono (by first | (simp; done) | (simp; omega) | omega)) | refine Below.trans ?_ (Hb3.out.mono (by first | (simp; done) | (simp; omega) | omega)) | refine Below.trans ?_ (Hb2.out.mono (by first | (simp; done) | (simp; omega) | omega)) | refine Below.trans ?_ (Hb1.out.mono (by first | (simp; done) | (simp; omega) | omega))))⟩

set_option maxHeartbeats 400000 in
theorem fnExactStepDoor_walk (s l : Int) (a b : Bool) (w : World) (_ : (Lit.int .i64 s).wf = true) (_ : (Lit.int .i64 l).wf = true) :
    Calls Try.prog 5 #[.agg #[.int .i64 s, .int .i64 l], .bool a, .bool b] w fun e w' => e = .returned (.bool true) ∧ Below w.heap.size w w' := by
  go_enter Try.func5, Try.ntmps5
  go_wp2_with fail
  refine (toDoor_any _ _ _).mono ?_
  rintro e w1 ⟨rfl, hb⟩
  obtain ⟨hc1, hf1⟩ := bcell hb
  have hz1 := hb.size
  have Hb1 := hide hb
  clear hb
  try simp at hz1
  obtain ⟨_, _, _, _, _, _, _, _⟩ := sz (show w.heap.size < w1.heap.size from by omega)
  go_wp2_with fail
  refine (StepDoor_s _ _ _ _ _).mono ?_
  rintro e w2 ⟨rfl, hb⟩
  obtain ⟨hc2, hf2⟩ := bcell hb
  have hz2 := hb.size
  have Hb2 := hide hb
  clear hb
  try simp at hz2
  obtain ⟨_, _, _, _, _, _, _, _⟩ := sz (show w.heap.size < w2.heap.size from by omega)
  go_wp2_with fail
  refine (toDoor_any _ _ _).mono ?_
  rintro e w3 ⟨rfl, hb⟩
  obtain ⟨hc3, hf3⟩ := bcell hb
  have hz3 := hb.size
  have Hb3 := hide hb
  clear hb
  try simp at hz3
  obtain ⟨_, _, _, _, _, _, _, _⟩ := sz (show w2.heap.size < w3.heap.size from by omega)
  go_wp2_with fail
  refine (StepDoor_i _ _ _ _ _).mono ?_
  rintro e w4 ⟨rfl, hb⟩
  obtain ⟨hc4, hf4⟩ := bcell hb
  have hz4 := hb.size
  have Hb4 := hide hb
  clear hb
  try simp at hz4
  obtain ⟨_, _, _, _, _, _, _, _⟩ := sz (show w2.heap.size < w4.heap.size from by omega)
  go_wp2_with fail
  refine (eqDoor_same _ _ _).mono ?_
  rintro e w5 ⟨rfl, hb⟩
  obtain ⟨hc5, hf5⟩ := bcell hb
  have hz5 := hb.size
  have Hb5 := hide hb
  clear hb
  try simp at hz5
  go_wp2_with fail
  go_ret
  exact ⟨rfl, (by repeat (first | exact Below.refl _ _ | refine Below.drew ?_ | refine below_drewN ?_ _ | refine Below.alloc ?_ (by first | (simp; done) | (simp; omega) | omega) _ | refine Below.setCell ?_ (by first | (simp; done) | (simp; omega) | omega) _ | refine Below.trans ?_ (Hb.out.mono (by first | (simp; done) | (simp; omega) | omega)) | refine Below.trans ?_ (Hb9.out.mono (by first | (simp; done) | (simp; omega) | omega)) | refine Below.trans ?_ (Hb8.out.mono (by first | (simp; done) | (simp; omega) | omega)) | refine Below.trans ?_ (Hb7.out.mono (by first | (simp; done) | (simp; omega) | omega)) | refine Below.trans ?_ (Hb6.out.mono (by first | (simp; done) | (simp; omega) | omega)) | refine Below.trans ?_ (Hb5.out.mono (by first | (simp; done) | (simp; omega) | omega)) | refine Below.trans ?_ (Hb4.out.mono (by first | (simp; done) | (simp; omega) | omega)) | refine Below.trans ?_ (Hb3.out.mono (by first | (simp; done) | (simp; omega) | omega)) | refine Below.trans ?_ (Hb2.out.mono (by first | (simp; done) | (simp; omega) | omega)) | refine Below.trans ?_ (Hb1.out.mono (by first | (simp; done) | (simp; omega) | omega))))⟩

end Go.Proofs.Ytlcdcelelpapnaa
