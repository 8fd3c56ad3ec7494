/-
  The walks of the exact laws on rides.
-/
import Derived.Test.YthgbbfcpnmpjgaaRideV
import Derived.Test.YthgbbfcpnmpjgaaDrawRide
import Derived.Test.YthgbbfcpnmpjgaaLiftC
import Derived.Test.YthgbbfcpnmpjgaaLaw8
import Derived.Test.YthgbbfcpnmpjgaaCopy
namespace Go.Proofs.Ythgbbfcpnmpjgaa
open Go.RowKit
set_option linter.unusedSimpArgs false
set_option linter.unusedVariables false

set_option maxHeartbeats 4000000 in
theorem fnExactTotalWait_walk (A1 : Option Addr) (n1 c1 : Nat) (z1 : List CallQ) (start : Int) (w : World) (hc : n1 ≤ c1 ∧ c1 ≤ maxLen) (r1 : RdC w A1 n1 z1) (_ : (Lit.int .i64 start).wf = true) :
    Calls Try.prog 3 #[.slice A1 n1 c1, .int .i64 start] w fun e w' => e = .returned (.bool true) ∧ Below w.heap.size w w' := by
  have R_a := hide r1
  have D_a := hide (Rd.old r1)
  have hl1 := RdC.len r1
  have Hl1 := hide hl1
  have Hc := hide hc
  clear r1 hl1 hc
  by_cases h1 : 1048576 < n1
  · go_enter Try.func3, Try.ntmps3
    go_wp2_with fail
    refine (szCallS_big2 A1 n1 c1 _ h1 (by have := Hc.out; omega)).mono ?_
    rintro e w' ⟨rfl, rfl⟩
    go_wp2_with fail
    go_ret
    exact ⟨rfl, Below.refl _ _⟩
  have h1' : (n1 : Int) ≤ 1048576 := by omega
  have h2' : ¬ (1048576 - (n1 : Int) < 0) := by omega
  go_enter Try.func3, Try.ntmps3
  go_wp2_with fail
  refine (szCallS_any A1 n1 c1 _ (by omega)).mono ?_
  rintro e w' ⟨rfl, rfl⟩
  obtain ⟨M, hM⟩ : ∃ M, totK z1 start = M := ⟨_, rfl⟩
  have HM := hide hM
  clear hM
  go_wp2_with fail
  refine (toCallS_any A1 n1 c1 z1 _ (by omega) (by repeat (first | exact R_a.out | exact Rd.of_own O_a.out | (with_reducible refine RdC.al ?_ _) | (with_reducible refine RdC.dr ?_) | (with_reducible refine RdC.drN ?_ _) | (with_reducible refine RdI.al ?_ _) | (with_reducible refine RdI.dr ?_) | (with_reducible refine RdI.drN ?_ _) | (with_reducible refine Rd.alloc ?_ _) | (with_reducible refine Rd.drew ?_) | (with_reducible refine Rd.drewN ?_ _)))).mono ?_
  rintro e w1 ⟨A_p, n_p, c_p, rfl, ho, hb⟩
  have hz1 := hb.size
  try simp at hz1
  replace R_a := hide (show Rd w1 3 A1 n1 (cellsC z1) from Rd.below (by repeat (first | exact R_a.out | (with_reducible refine Rd.alloc ?_ _) | (with_reducible refine Rd.drew ?_) | (with_reducible refine Rd.drewN ?_ _))) hb (Nat.le_refl _))
  have Hb1 := hide hb
  clear hb
  have LU_p := hide (fun k h => (⟨(own_lt_old ho k h).1, by have := (own_lt_old ho k h).2; (first | omega | (simp at this; omega))⟩ : k < w1.heap.size ∧ w.heap.size ≤ k))
  have O_p := hide (show World.ownsRow w1 w.heap.size 40 3 (.slice A_p n_p c_p) n_p (cellsC z1) from own_base ho (by first | omega | (simp; omega)))
  clear ho
  have N_p : n_p ≤ n1 := by have h := RdLEN_call (Rd.of_own O_p.out); have := Hl1.out; omega
  go_wp2_with fail
  refine (TotalWait_s A_p n_p c_p z1 start _ (by omega) (Sl.of_own O_p.out) (by repeat (first | exact Rd.of_own O_p.out | (with_reducible refine RdC.al ?_ _) | (with_reducible refine RdC.dr ?_) | (with_reducible refine RdC.drN ?_ _) | (with_reducible refine RdI.al ?_ _) | (with_reducible refine RdI.dr ?_) | (with_reducible refine RdI.drN ?_ _) | (with_reducible refine Rd.alloc ?_ _) | (with_reducible refine Rd.drew ?_) | (with_reducible refine Rd.drewN ?_ _)))).mono ?_
  rintro e w2 ⟨rfl, hb⟩
  have hz2 := hb.size
  try simp at hz2
  replace R_a := hide (show Rd w2 3 A1 n1 (cellsC z1) from Rd.below (by repeat (first | exact R_a.out | (with_reducible refine Rd.alloc ?_ _) | (with_reducible refine Rd.drew ?_) | (with_reducible refine Rd.drewN ?_ _))) hb (Nat.le_refl _))
  replace O_p := hide (show World.ownsRow w2 w.heap.size 40 3 (.slice A_p n_p c_p) n_p (cellsC z1) from own_below (by repeat (first | exact O_p.out | (with_reducible refine World.ownsRow.alloc ?_ _) | (with_reducible refine World.ownsRow.drew ?_) | (with_reducible refine own_drewN ?_ _))) hb (Nat.le_refl _))
  have Hb2 := hide hb
  clear hb
  rw [HM.out]
  clear O_p LU_p
  go_wp2_with fail
  refine (toCallS_any A1 n1 c1 z1 _ (by omega) (by repeat (first | exact R_a.out | exact Rd.of_own O_a.out | (with_reducible refine RdC.al ?_ _) | (with_reducible refine RdC.dr ?_) | (with_reducible refine RdC.drN ?_ _) | (with_reducible refine RdI.al ?_ _) | (with_reducible refine RdI.dr ?_) | (with_reducible refine RdI.drN ?_ _) | (with_reducible refine Rd.alloc ?_ _) | (with_reducible refine Rd.drew ?_) | (with_reducible refine Rd.drewN ?_ _)))).mono ?_
  rintro e w3 ⟨A_x, n_x, c_x, rfl, ho, hb⟩
  have hz3 := hb.size
  try simp at hz3
  replace R_a := hide (show Rd w3 3 A1 n1 (cellsC z1) from Rd.below (by repeat (first | exact R_a.out | (with_reducible refine Rd.alloc ?_ _) | (with_reducible refine Rd.drew ?_) | (with_reducible refine Rd.drewN ?_ _))) hb (Nat.le_refl _))
  have Hb3 := hide hb
  clear hb
  have LU_x := hide (fun k h => (⟨(own_lt_old ho k h).1, by have := (own_lt_old ho k h).2; (first | omega | (simp at this; omega))⟩ : k < w3.heap.size ∧ w2.heap.size ≤ k))
  have O_x := hide (show World.ownsRow w3 w.heap.size 40 3 (.slice A_x n_x c_x) n_x (cellsC z1) from own_base ho (by first | omega | (simp; omega)))
  clear ho
  have N_x : n_x ≤ n1 := by have h := RdLEN_call (Rd.of_own O_x.out); have := Hl1.out; omega
  go_wp2_with fail
  refine (TotalWait_i A_x n_x c_x z1 start _ (by omega) (Sl.of_own O_x.out) (by repeat (first | exact Rd.of_own O_x.out | (with_reducible refine RdC.al ?_ _) | (with_reducible refine RdC.dr ?_) | (with_reducible refine RdC.drN ?_ _) | (with_reducible refine RdI.al ?_ _) | (with_reducible refine RdI.dr ?_) | (with_reducible refine RdI.drN ?_ _) | (with_reducible refine Rd.alloc ?_ _) | (with_reducible refine Rd.drew ?_) | (with_reducible refine Rd.drewN ?_ _)))).mono ?_
  rintro e w4 ⟨rfl, hb⟩
  have hz4 := hb.size
  try simp at hz4
  replace R_a := hide (show Rd w4 3 A1 n1 (cellsC z1) from Rd.below (by repeat (first | exact R_a.out | (with_reducible refine Rd.alloc ?_ _) | (with_reducible refine Rd.drew ?_) | (with_reducible refine Rd.drewN ?_ _))) hb (Nat.le_refl _))
  replace O_x := hide (show World.ownsRow w4 w.heap.size 40 3 (.slice A_x n_x c_x) n_x (cellsC z1) from own_below (by repeat (first | exact O_x.out | (with_reducible refine World.ownsRow.alloc ?_ _) | (with_reducible refine World.ownsRow.drew ?_) | (with_reducible refine own_drewN ?_ _))) hb (Nat.le_refl _))
  have Hb4 := hide hb
  clear hb
  rw [HM.out]
  go_wp2_with fail
  refine (toCallS_any A1 n1 c1 z1 _ (by omega) (by repeat (first | exact R_a.out | exact Rd.of_own O_a.out | (with_reducible refine RdC.al ?_ _) | (with_reducible refine RdC.dr ?_) | (with_reducible refine RdC.drN ?_ _) | (with_reducible refine RdI.al ?_ _) | (with_reducible refine RdI.dr ?_) | (with_reducible refine RdI.drN ?_ _) | (with_reducible refine Rd.alloc ?_ _) | (with_reducible refine Rd.drew ?_) | (with_reducible refine Rd.drewN ?_ _)))).mono ?_
  rintro e w5 ⟨A_y, n_y, c_y, rfl, ho, hb⟩
  have hz5 := hb.size
  try simp at hz5
  replace R_a := hide (show Rd w5 3 A1 n1 (cellsC z1) from Rd.below (by repeat (first | exact R_a.out | (with_reducible refine Rd.alloc ?_ _) | (with_reducible refine Rd.drew ?_) | (with_reducible refine Rd.drewN ?_ _))) hb (Nat.le_refl _))
  replace O_x := hide (show World.ownsRow w5 w.heap.size 40 3 (.slice A_x n_x c_x) n_x (cellsC z1) from own_below (by repeat (first | exact O_x.out | (with_reducible refine World.ownsRow.alloc ?_ _) | (with_reducible refine World.ownsRow.drew ?_) | (with_reducible refine own_drewN ?_ _))) hb (Nat.le_refl _))
  have Hb5 := hide hb
  clear hb
  have LU_y := hide (fun k h => (⟨(own_lt_old ho k h).1, by have := (own_lt_old ho k h).2; (first | omega | (simp at this; omega))⟩ : k < w5.heap.size ∧ w4.heap.size ≤ k))
  have O_y := hide (show World.ownsRow w5 w.heap.size 40 3 (.slice A_y n_y c_y) n_y (cellsC z1) from own_base ho (by first | omega | (simp; omega)))
  clear ho
  have N_y : n_y ≤ n1 := by have h := RdLEN_call (Rd.of_own O_y.out); have := Hl1.out; omega
  go_wp2_with fail
  refine (eqCallS_same A_x A_y n_x c_x n_y c_y (z1) _ (by omega) (by repeat (first | exact Rd.of_own O_x.out | (with_reducible refine RdC.al ?_ _) | (with_reducible refine RdC.dr ?_) | (with_reducible refine RdC.drN ?_ _) | (with_reducible refine RdI.al ?_ _) | (with_reducible refine RdI.dr ?_) | (with_reducible refine RdI.drN ?_ _) | (with_reducible refine Rd.alloc ?_ _) | (with_reducible refine Rd.drew ?_) | (with_reducible refine Rd.drewN ?_ _))) (by repeat (first | exact Rd.of_own O_y.out | (with_reducible refine RdC.al ?_ _) | (with_reducible refine RdC.dr ?_) | (with_reducible refine RdC.drN ?_ _) | (with_reducible refine RdI.al ?_ _) | (with_reducible refine RdI.dr ?_) | (with_reducible refine RdI.drN ?_ _) | (with_reducible refine Rd.alloc ?_ _) | (with_reducible refine Rd.drew ?_) | (with_reducible refine Rd.drewN ?_ _)))).mono ?_
  rintro e w6 ⟨rfl, hb⟩
  have hz6 := hb.size
  try simp at hz6
  replace R_a := hide (show Rd w6 3 A1 n1 (cellsC z1) from Rd.below (by repeat (first | exact R_a.out | (with_reducible refine Rd.alloc ?_ _) | (with_reducible refine Rd.drew ?_) | (with_reducible refine Rd.drewN ?_ _))) hb (Nat.le_refl _))
  replace O_x := hide (show World.ownsRow w6 w.heap.size 40 3 (.slice A_x n_x c_x) n_x (cellsC z1) from own_below (by repeat (first | exact O_x.out | (with_reducible refine World.ownsRow.alloc ?_ _) | (with_reducible refine World.ownsRow.drew ?_) | (with_reducible refine own_drewN ?_ _))) hb (Nat.le_refl _))
  replace O_y := hide (show World.ownsRow w6 w.heap.size 40 3 (.slice A_y n_y c_y) n_y (cellsC z1) from own_below (by repeat (first | exact O_y.out | (with_reducible refine World.ownsRow.alloc ?_ _) | (with_reducible refine World.ownsRow.drew ?_) | (with_reducible refine own_drewN ?_ _))) hb (Nat.le_refl _))
  have Hb6 := hide hb
  clear hb
  go_wp2_with fail
  go_ret
  exact ⟨rfl, (by repeat (first | (with_reducible exact Below.refl _ _) | (with_reducible refine Below.drew ?_) | (with_reducible refine below_drewN ?_ _) | ((with_reducible refine Below.alloc ?_ ?_ _); rotate_left; (focus (first | (simp; done) | (simp; omega) | omega))) | ((with_reducible refine Below.setCell ?_ ?_ _); rotate_left; (focus (first | (simp; done) | (simp; omega) | omega))) | ((with_reducible refine Below.trans ?_ (Below.mono Hb.out ?_)); rotate_left; (focus (first | (simp; done) | (simp; omega) | omega))) | ((with_reducible refine Below.trans ?_ (Below.mono Hb16.out ?_)); rotate_left; (focus (first | (simp; done) | (simp; omega) | omega))) | ((with_reducible refine Below.trans ?_ (Below.mono Hb15.out ?_)); rotate_left; (focus (first | (simp; done) | (simp; omega) | omega))) | ((with_reducible refine Below.trans ?_ (Below.mono Hb14.out ?_)); rotate_left; (focus (first | (simp; done) | (simp; omega) | omega))) | ((with_reducible refine Below.trans ?_ (Below.mono Hb13.out ?_)); rotate_left; (focus (first | (simp; done) | (simp; omega) | omega))) | ((with_reducible refine Below.trans ?_ (Below.mono Hb12.out ?_)); rotate_left; (focus (first | (simp; done) | (simp; omega) | omega))) | ((with_reducible refine Below.trans ?_ (Below.mono Hb11.out ?_)); rotate_left; (focus (first | (simp; done) | (simp; omega) | omega))) | ((with_reducible refine Below.trans ?_ (Below.mono Hb10.out ?_)); rotate_left; (focus (first | (simp; done) | (simp; omega) | omega))) | ((with_reducible refine Below.trans ?_ (Below.mono Hb9.out ?_)); rotate_left; (focus (first | (simp; done) | (simp; omega) | omega))) | ((with_reducible refine Below.trans ?_ (Below.mono Hb8.out ?_)); rotate_left; (focus (first | (simp; done) | (simp; omega) | omega))) | ((with_reducible refine Below.trans ?_ (Below.mono Hb7.out ?_)); rotate_left; (focus (first | (simp; done) | (simp; omega) | omega))) | ((with_reducible refine Below.trans ?_ (Below.mono Hb6.out ?_)); rotate_left; (focus (first | (simp; done) | (simp; omega) | omega))) | ((with_reducible refine Below.trans ?_ (Below.mono Hb5.out ?_)); rotate_left; (focus (first | (simp; done) | (simp; omega) | omega))) | ((with_reducible refine Below.trans ?_ (Below.mono Hb4.out ?_)); rotate_left; (focus (first | (simp; done) | (simp; omega) | omega))) | ((with_reducible refine Below.trans ?_ (Below.mono Hb3.out ?_)); rotate_left; (focus (first | (simp; done) | (simp; omega) | omega))) | ((with_reducible refine Below.trans ?_ (Below.mono Hb2.out ?_)); rotate_left; (focus (first | (simp; done) | (simp; omega) | omega))) | ((with_reducible refine Below.trans ?_ (Below.mono Hb1.out ?_)); rotate_left; (focus (first | (simp; done) | (simp; omega) | omega))) | ((with_reducible refine Below.trans ?_ (below_of_only Hg16.out ?_ ?_)); rotate_left; (focus (first | (simp; done) | (simp; omega) | omega)); (intro k hk; cases hk; omega)) | ((with_reducible refine Below.trans ?_ (below_of_only Hg15.out ?_ ?_)); rotate_left; (focus (first | (simp; done) | (simp; omega) | omega)); (intro k hk; cases hk; omega)) | ((with_reducible refine Below.trans ?_ (below_of_only Hg14.out ?_ ?_)); rotate_left; (focus (first | (simp; done) | (simp; omega) | omega)); (intro k hk; cases hk; omega)) | ((with_reducible refine Below.trans ?_ (below_of_only Hg13.out ?_ ?_)); rotate_left; (focus (first | (simp; done) | (simp; omega) | omega)); (intro k hk; cases hk; omega)) | ((with_reducible refine Below.trans ?_ (below_of_only Hg12.out ?_ ?_)); rotate_left; (focus (first | (simp; done) | (simp; omega) | omega)); (intro k hk; cases hk; omega)) | ((with_reducible refine Below.trans ?_ (below_of_only Hg11.out ?_ ?_)); rotate_left; (focus (first | (simp; done) | (simp; omega) | omega)); (intro k hk; cases hk; omega)) | ((with_reducible refine Below.trans ?_ (below_of_only Hg10.out ?_ ?_)); rotate_left; (focus (first | (simp; done) | (simp; omega) | omega)); (intro k hk; cases hk; omega)) | ((with_reducible refine Below.trans ?_ (below_of_only Hg9.out ?_ ?_)); rotate_left; (focus (first | (simp; done) | (simp; omega) | omega)); (intro k hk; cases hk; omega)) | ((with_reducible refine Below.trans ?_ (below_of_only Hg8.out ?_ ?_)); rotate_left; (focus (first | (simp; done) | (simp; omega) | omega)); (intro k hk; cases hk; omega)) | ((with_reducible refine Below.trans ?_ (below_of_only Hg7.out ?_ ?_)); rotate_left; (focus (first | (simp; done) | (simp; omega) | omega)); (intro k hk; cases hk; omega)) | ((with_reducible refine Below.trans ?_ (below_of_only Hg6.out ?_ ?_)); rotate_left; (focus (first | (simp; done) | (simp; omega) | omega)); (intro k hk; cases hk; omega)) | ((with_reducible refine Below.trans ?_ (below_of_only Hg5.out ?_ ?_)); rotate_left; (focus (first | (simp; done) | (simp; omega) | omega)); (intro k hk; cases hk; omega)) | ((with_reducible refine Below.trans ?_ (below_of_only Hg4.out ?_ ?_)); rotate_left; (focus (first | (simp; done) | (simp; omega) | omega)); (intro k hk; cases hk; omega)) | ((with_reducible refine Below.trans ?_ (below_of_only Hg3.out ?_ ?_)); rotate_left; (focus (first | (simp; done) | (simp; omega) | omega)); (intro k hk; cases hk; omega)) | ((with_reducible refine Below.trans ?_ (below_of_only Hg2.out ?_ ?_)); rotate_left; (focus (first | (simp; done) | (simp; omega) | omega)); (intro k hk; cases hk; omega)) | ((with_reducible refine Below.trans ?_ (below_of_only Hg1.out ?_ ?_)); rotate_left; (focus (first | (simp; done) | (simp; omega) | omega)); (intro k hk; cases hk; omega))))⟩
set_option maxHeartbeats 4000000 in
theorem fnExactRideTimes_walk (A1 : Option Addr) (n1 c1 : Nat) (z1 : List CallQ) (start : Int) (w : World) (hc : n1 ≤ c1 ∧ c1 ≤ maxLen) (r1 : RdC w A1 n1 z1) (_ : (Lit.int .i64 start).wf = true) :
    Calls Try.prog 4 #[.slice A1 n1 c1, .int .i64 start] w fun e w' => e = .returned (.bool true) ∧ Below w.heap.size w w' := by
  have hle := rideK_len z1 start
  have R_a := hide r1
  have D_a := hide (Rd.old r1)
  have hl1 := RdC.len r1
  have Hl1 := hide hl1
  have Hc := hide hc
  clear r1 hl1 hc
  by_cases h1 : 1048576 < n1
  · go_enter Try.func4, Try.ntmps4
    go_wp2_with fail
    refine (szCallS_big2 A1 n1 c1 _ h1 (by have := Hc.out; omega)).mono ?_
    rintro e w' ⟨rfl, rfl⟩
    go_wp2_with fail
    go_ret
    exact ⟨rfl, Below.refl _ _⟩
  have h1' : (n1 : Int) ≤ 1048576 := by omega
  have h2' : ¬ (1048576 - (n1 : Int) < 0) := by omega
  go_enter Try.func4, Try.ntmps4
  go_wp2_with fail
  refine (szCallS_any A1 n1 c1 _ (by omega)).mono ?_
  rintro e w' ⟨rfl, rfl⟩
  go_wp2_with fail
  refine (toCallS_any A1 n1 c1 z1 _ (by omega) (by repeat (first | exact R_a.out | exact Rd.of_own O_a.out | (with_reducible refine RdC.al ?_ _) | (with_reducible refine RdC.dr ?_) | (with_reducible refine RdC.drN ?_ _) | (with_reducible refine RdI.al ?_ _) | (with_reducible refine RdI.dr ?_) | (with_reducible refine RdI.drN ?_ _) | (with_reducible refine Rd.alloc ?_ _) | (with_reducible refine Rd.drew ?_) | (with_reducible refine Rd.drewN ?_ _)))).mono ?_
  rintro e w1 ⟨A_p, n_p, c_p, rfl, ho, hb⟩
  have hz1 := hb.size
  try simp at hz1
  replace R_a := hide (show Rd w1 3 A1 n1 (cellsC z1) from Rd.below (by repeat (first | exact R_a.out | (with_reducible refine Rd.alloc ?_ _) | (with_reducible refine Rd.drew ?_) | (with_reducible refine Rd.drewN ?_ _))) hb (Nat.le_refl _))
  have Hb1 := hide hb
  clear hb
  have LU_p := hide (fun k h => (⟨(own_lt_old ho k h).1, by have := (own_lt_old ho k h).2; (first | omega | (simp at this; omega))⟩ : k < w1.heap.size ∧ w.heap.size ≤ k))
  have O_p := hide (show World.ownsRow w1 w.heap.size 40 3 (.slice A_p n_p c_p) n_p (cellsC z1) from own_base ho (by first | omega | (simp; omega)))
  clear ho
  have N_p : n_p ≤ n1 := by have h := RdLEN_call (Rd.of_own O_p.out); have := Hl1.out; omega
  go_wp2_with fail
  refine (RideTimes_s A_p n_p c_p z1 start _ (by omega) (Sl.of_own O_p.out) (by repeat (first | exact Rd.of_own O_p.out | (with_reducible refine RdC.al ?_ _) | (with_reducible refine RdC.dr ?_) | (with_reducible refine RdC.drN ?_ _) | (with_reducible refine RdI.al ?_ _) | (with_reducible refine RdI.dr ?_) | (with_reducible refine RdI.drN ?_ _) | (with_reducible refine Rd.alloc ?_ _) | (with_reducible refine Rd.drew ?_) | (with_reducible refine Rd.drewN ?_ _)))).mono ?_
  rintro e w2 ⟨A_U, n_U, c_U, A_V, n_V, c_V, rfl, ho, ho2, hd, hb⟩
  have hz2 := hb.size
  try simp at hz2
  replace R_a := hide (show Rd w2 3 A1 n1 (cellsC z1) from Rd.below (by repeat (first | exact R_a.out | (with_reducible refine Rd.alloc ?_ _) | (with_reducible refine Rd.drew ?_) | (with_reducible refine Rd.drewN ?_ _))) hb (Nat.le_refl _))
  replace O_p := hide (show World.ownsRow w2 w.heap.size 40 3 (.slice A_p n_p c_p) n_p (cellsC z1) from own_below (by repeat (first | exact O_p.out | (with_reducible refine World.ownsRow.alloc ?_ _) | (with_reducible refine World.ownsRow.drew ?_) | (with_reducible refine own_drewN ?_ _))) hb (Nat.le_refl _))
  have Hb2 := hide hb
  clear hb
  have LU_U := hide (fun k h => (⟨(own_lt_old ho k h).1, by have := (own_lt_old ho k h).2; (first | omega | (simp at this; omega))⟩ : k < w2.heap.size ∧ w1.heap.size ≤ k))
  have O_U := hide (show World.ownsRow w2 w.heap.size 3 1 (.slice A_U n_U c_U) n_U (((rideK z1 start).map Pn.on).map (Value.int .i64)) from own_base ho (by first | omega | (simp; omega)))
  clear ho
  have ho := ho2
  clear ho2
  have LU_V := hide (fun k h => (⟨(own_lt_old ho k h).1, by have := (own_lt_old ho k h).2; (first | omega | (simp at this; omega))⟩ : k < w2.heap.size ∧ w1.heap.size ≤ k))
  have O_V := hide (show World.ownsRow w2 w.heap.size 3 1 (.slice A_V n_V c_V) n_V (((rideK z1 start).map Pn.off).map (Value.int .i64)) from own_base ho (by first | omega | (simp; omega)))
  clear ho
  have HD_U := hide hd
  clear hd
  have N_U : n_U ≤ 12 := by have h := RdLEN_int (Rd.of_own O_U.out); simp at h; omega
  have N_V : n_V ≤ 12 := by have h := RdLEN_int (Rd.of_own O_V.out); simp at h; omega
  clear O_p LU_p
  go_wp2_with fail
  refine (toCallS_any A1 n1 c1 z1 _ (by omega) (by repeat (first | exact R_a.out | exact Rd.of_own O_a.out | (with_reducible refine RdC.al ?_ _) | (with_reducible refine RdC.dr ?_) | (with_reducible refine RdC.drN ?_ _) | (with_reducible refine RdI.al ?_ _) | (with_reducible refine RdI.dr ?_) | (with_reducible refine RdI.drN ?_ _) | (with_reducible refine Rd.alloc ?_ _) | (with_reducible refine Rd.drew ?_) | (with_reducible refine Rd.drewN ?_ _)))).mono ?_
  rintro e w3 ⟨A_x, n_x, c_x, rfl, ho, hb⟩
  have hz3 := hb.size
  try simp at hz3
  replace R_a := hide (show Rd w3 3 A1 n1 (cellsC z1) from Rd.below (by repeat (first | exact R_a.out | (with_reducible refine Rd.alloc ?_ _) | (with_reducible refine Rd.drew ?_) | (with_reducible refine Rd.drewN ?_ _))) hb (Nat.le_refl _))
  replace O_U := hide (show World.ownsRow w3 w.heap.size 3 1 (.slice A_U n_U c_U) n_U (((rideK z1 start).map Pn.on).map (Value.int .i64)) from own_below (by repeat (first | exact O_U.out | (with_reducible refine World.ownsRow.alloc ?_ _) | (with_reducible refine World.ownsRow.drew ?_) | (with_reducible refine own_drewN ?_ _))) hb (Nat.le_refl _))
  replace O_V := hide (show World.ownsRow w3 w.heap.size 3 1 (.slice A_V n_V c_V) n_V (((rideK z1 start).map Pn.off).map (Value.int .i64)) from own_below (by repeat (first | exact O_V.out | (with_reducible refine World.ownsRow.alloc ?_ _) | (with_reducible refine World.ownsRow.drew ?_) | (with_reducible refine own_drewN ?_ _))) hb (Nat.le_refl _))
  have Hb3 := hide hb
  clear hb
  have LU_x := hide (fun k h => (⟨(own_lt_old ho k h).1, by have := (own_lt_old ho k h).2; (first | omega | (simp at this; omega))⟩ : k < w3.heap.size ∧ w2.heap.size ≤ k))
  have O_x := hide (show World.ownsRow w3 w.heap.size 40 3 (.slice A_x n_x c_x) n_x (cellsC z1) from own_base ho (by first | omega | (simp; omega)))
  clear ho
  have N_x : n_x ≤ n1 := by have h := RdLEN_call (Rd.of_own O_x.out); have := Hl1.out; omega
  go_wp2_with fail
  refine (RideTimes_i A_x n_x c_x z1 start _ (by omega) (Sl.of_own O_x.out) (by repeat (first | exact Rd.of_own O_x.out | (with_reducible refine RdC.al ?_ _) | (with_reducible refine RdC.dr ?_) | (with_reducible refine RdC.drN ?_ _) | (with_reducible refine RdI.al ?_ _) | (with_reducible refine RdI.dr ?_) | (with_reducible refine RdI.drN ?_ _) | (with_reducible refine Rd.alloc ?_ _) | (with_reducible refine Rd.drew ?_) | (with_reducible refine Rd.drewN ?_ _)))).mono ?_
  rintro e w4 ⟨A_g, n_g, c_g, A_k, n_k, c_k, rfl, ho, ho2, hd, hb⟩
  have hz4 := hb.size
  try simp at hz4
  replace R_a := hide (show Rd w4 3 A1 n1 (cellsC z1) from Rd.below (by repeat (first | exact R_a.out | (with_reducible refine Rd.alloc ?_ _) | (with_reducible refine Rd.drew ?_) | (with_reducible refine Rd.drewN ?_ _))) hb (Nat.le_refl _))
  replace O_U := hide (show World.ownsRow w4 w.heap.size 3 1 (.slice A_U n_U c_U) n_U (((rideK z1 start).map Pn.on).map (Value.int .i64)) from own_below (by repeat (first | exact O_U.out | (with_reducible refine World.ownsRow.alloc ?_ _) | (with_reducible refine World.ownsRow.drew ?_) | (with_reducible refine own_drewN ?_ _))) hb (Nat.le_refl _))
  replace O_V := hide (show World.ownsRow w4 w.heap.size 3 1 (.slice A_V n_V c_V) n_V (((rideK z1 start).map Pn.off).map (Value.int .i64)) from own_below (by repeat (first | exact O_V.out | (with_reducible refine World.ownsRow.alloc ?_ _) | (with_reducible refine World.ownsRow.drew ?_) | (with_reducible refine own_drewN ?_ _))) hb (Nat.le_refl _))
  replace O_x := hide (show World.ownsRow w4 w.heap.size 40 3 (.slice A_x n_x c_x) n_x (cellsC z1) from own_below (by repeat (first | exact O_x.out | (with_reducible refine World.ownsRow.alloc ?_ _) | (with_reducible refine World.ownsRow.drew ?_) | (with_reducible refine own_drewN ?_ _))) hb (Nat.le_refl _))
  have Hb4 := hide hb
  clear hb
  have LU_g := hide (fun k h => (⟨(own_lt_old ho k h).1, by have := (own_lt_old ho k h).2; (first | omega | (simp at this; omega))⟩ : k < w4.heap.size ∧ w3.heap.size ≤ k))
  have O_g := hide (show World.ownsRow w4 w.heap.size 3 1 (.slice A_g n_g c_g) n_g (((rideK z1 start).map Pn.on).map (Value.int .i64)) from own_base ho (by first | omega | (simp; omega)))
  clear ho
  have ho := ho2
  clear ho2
  have LU_k := hide (fun k h => (⟨(own_lt_old ho k h).1, by have := (own_lt_old ho k h).2; (first | omega | (simp at this; omega))⟩ : k < w4.heap.size ∧ w3.heap.size ≤ k))
  have O_k := hide (show World.ownsRow w4 w.heap.size 3 1 (.slice A_k n_k c_k) n_k (((rideK z1 start).map Pn.off).map (Value.int .i64)) from own_base ho (by first | omega | (simp; omega)))
  clear ho
  have HD_g := hide hd
  clear hd
  have N_g : n_g ≤ 12 := by have h := RdLEN_int (Rd.of_own O_g.out); simp at h; omega
  have N_k : n_k ≤ 12 := by have h := RdLEN_int (Rd.of_own O_k.out); simp at h; omega
  go_wp2_with fail
  refine (eqIntS_same A_g A_U n_g c_g n_U c_U ((rideK z1 start).map Pn.on) _ (by omega) (by repeat (first | exact Rd.of_own O_g.out | (with_reducible refine RdC.al ?_ _) | (with_reducible refine RdC.dr ?_) | (with_reducible refine RdC.drN ?_ _) | (with_reducible refine RdI.al ?_ _) | (with_reducible refine RdI.dr ?_) | (with_reducible refine RdI.drN ?_ _) | (with_reducible refine Rd.alloc ?_ _) | (with_reducible refine Rd.drew ?_) | (with_reducible refine Rd.drewN ?_ _))) (by repeat (first | exact Rd.of_own O_U.out | (with_reducible refine RdC.al ?_ _) | (with_reducible refine RdC.dr ?_) | (with_reducible refine RdC.drN ?_ _) | (with_reducible refine RdI.al ?_ _) | (with_reducible refine RdI.dr ?_) | (with_reducible refine RdI.drN ?_ _) | (with_reducible refine Rd.alloc ?_ _) | (with_reducible refine Rd.drew ?_) | (with_reducible refine Rd.drewN ?_ _)))).mono ?_
  rintro e wq1 ⟨rfl, q1, rfl⟩
  go_wp2_with fail
  refine (eqIntS_same A_k A_V n_k c_k n_V c_V ((rideK z1 start).map Pn.off) _ (by omega) (by repeat (first | exact Rd.of_own O_k.out | (with_reducible refine RdC.al ?_ _) | (with_reducible refine RdC.dr ?_) | (with_reducible refine RdC.drN ?_ _) | (with_reducible refine RdI.al ?_ _) | (with_reducible refine RdI.dr ?_) | (with_reducible refine RdI.drN ?_ _) | (with_reducible refine Rd.alloc ?_ _) | (with_reducible refine Rd.drew ?_) | (with_reducible refine Rd.drewN ?_ _))) (by repeat (first | exact Rd.of_own O_V.out | (with_reducible refine RdC.al ?_ _) | (with_reducible refine RdC.dr ?_) | (with_reducible refine RdC.drN ?_ _) | (with_reducible refine RdI.al ?_ _) | (with_reducible refine RdI.dr ?_) | (with_reducible refine RdI.drN ?_ _) | (with_reducible refine Rd.alloc ?_ _) | (with_reducible refine Rd.drew ?_) | (with_reducible refine Rd.drewN ?_ _)))).mono ?_
  rintro e wq2 ⟨rfl, q2, rfl⟩
  go_wp2_with fail
  refine (toCallS_any A1 n1 c1 z1 _ (by omega) (by repeat (first | exact R_a.out | exact Rd.of_own O_a.out | (with_reducible refine RdC.al ?_ _) | (with_reducible refine RdC.dr ?_) | (with_reducible refine RdC.drN ?_ _) | (with_reducible refine RdI.al ?_ _) | (with_reducible refine RdI.dr ?_) | (with_reducible refine RdI.drN ?_ _) | (with_reducible refine Rd.alloc ?_ _) | (with_reducible refine Rd.drew ?_) | (with_reducible refine Rd.drewN ?_ _)))).mono ?_
  rintro e w5 ⟨A_y, n_y, c_y, rfl, ho, hb⟩
  have hz5 := hb.size
  try simp at hz5
  replace R_a := hide (show Rd w5 3 A1 n1 (cellsC z1) from Rd.below (by repeat (first | exact R_a.out | (with_reducible refine Rd.alloc ?_ _) | (with_reducible refine Rd.drew ?_) | (with_reducible refine Rd.drewN ?_ _))) hb (Nat.le_refl _))
  replace O_U := hide (show World.ownsRow w5 w.heap.size 3 1 (.slice A_U n_U c_U) n_U (((rideK z1 start).map Pn.on).map (Value.int .i64)) from own_below (by repeat (first | exact O_U.out | (with_reducible refine World.ownsRow.alloc ?_ _) | (with_reducible refine World.ownsRow.drew ?_) | (with_reducible refine own_drewN ?_ _))) hb (Nat.le_refl _))
  replace O_V := hide (show World.ownsRow w5 w.heap.size 3 1 (.slice A_V n_V c_V) n_V (((rideK z1 start).map Pn.off).map (Value.int .i64)) from own_below (by repeat (first | exact O_V.out | (with_reducible refine World.ownsRow.alloc ?_ _) | (with_reducible refine World.ownsRow.drew ?_) | (with_reducible refine own_drewN ?_ _))) hb (Nat.le_refl _))
  replace O_x := hide (show World.ownsRow w5 w.heap.size 40 3 (.slice A_x n_x c_x) n_x (cellsC z1) from own_below (by repeat (first | exact O_x.out | (with_reducible refine World.ownsRow.alloc ?_ _) | (with_reducible refine World.ownsRow.drew ?_) | (with_reducible refine own_drewN ?_ _))) hb (Nat.le_refl _))
  replace O_g := hide (show World.ownsRow w5 w.heap.size 3 1 (.slice A_g n_g c_g) n_g (((rideK z1 start).map Pn.on).map (Value.int .i64)) from own_below (by repeat (first | exact O_g.out | (with_reducible refine World.ownsRow.alloc ?_ _) | (with_reducible refine World.ownsRow.drew ?_) | (with_reducible refine own_drewN ?_ _))) hb (Nat.le_refl _))
  replace O_k := hide (show World.ownsRow w5 w.heap.size 3 1 (.slice A_k n_k c_k) n_k (((rideK z1 start).map Pn.off).map (Value.int .i64)) from own_below (by repeat (first | exact O_k.out | (with_reducible refine World.ownsRow.alloc ?_ _) | (with_reducible refine World.ownsRow.drew ?_) | (with_reducible refine own_drewN ?_ _))) hb (Nat.le_refl _))
  have Hb5 := hide hb
  clear hb
  have LU_y := hide (fun k h => (⟨(own_lt_old ho k h).1, by have := (own_lt_old ho k h).2; (first | omega | (simp at this; omega))⟩ : k < w5.heap.size ∧ w4.heap.size ≤ k))
  have O_y := hide (show World.ownsRow w5 w.heap.size 40 3 (.slice A_y n_y c_y) n_y (cellsC z1) from own_base ho (by first | omega | (simp; omega)))
  clear ho
  have N_y : n_y ≤ n1 := by have h := RdLEN_call (Rd.of_own O_y.out); have := Hl1.out; omega
  go_wp2_with fail
  refine (eqCallS_same A_x A_y n_x c_x n_y c_y (z1) _ (by omega) (by repeat (first | exact Rd.of_own O_x.out | (with_reducible refine RdC.al ?_ _) | (with_reducible refine RdC.dr ?_) | (with_reducible refine RdC.drN ?_ _) | (with_reducible refine RdI.al ?_ _) | (with_reducible refine RdI.dr ?_) | (with_reducible refine RdI.drN ?_ _) | (with_reducible refine Rd.alloc ?_ _) | (with_reducible refine Rd.drew ?_) | (with_reducible refine Rd.drewN ?_ _))) (by repeat (first | exact Rd.of_own O_y.out | (with_reducible refine RdC.al ?_ _) | (with_reducible refine RdC.dr ?_) | (with_reducible refine RdC.drN ?_ _) | (with_reducible refine RdI.al ?_ _) | (with_reducible refine RdI.dr ?_) | (with_reducible refine RdI.drN ?_ _) | (with_reducible refine Rd.alloc ?_ _) | (with_reducible refine Rd.drew ?_) | (with_reducible refine Rd.drewN ?_ _)))).mono ?_
  rintro e w6 ⟨rfl, hb⟩
  have hz6 := hb.size
  try simp at hz6
  replace R_a := hide (show Rd w6 3 A1 n1 (cellsC z1) from Rd.below (by repeat (first | exact R_a.out | (with_reducible refine Rd.alloc ?_ _) | (with_reducible refine Rd.drew ?_) | (with_reducible refine Rd.drewN ?_ _))) hb (Nat.le_refl _))
  replace O_U := hide (show World.ownsRow w6 w.heap.size 3 1 (.slice A_U n_U c_U) n_U (((rideK z1 start).map Pn.on).map (Value.int .i64)) from own_below (by repeat (first | exact O_U.out | (with_reducible refine World.ownsRow.alloc ?_ _) | (with_reducible refine World.ownsRow.drew ?_) | (with_reducible refine own_drewN ?_ _))) hb (Nat.le_refl _))
  replace O_V := hide (show World.ownsRow w6 w.heap.size 3 1 (.slice A_V n_V c_V) n_V (((rideK z1 start).map Pn.off).map (Value.int .i64)) from own_below (by repeat (first | exact O_V.out | (with_reducible refine World.ownsRow.alloc ?_ _) | (with_reducible refine World.ownsRow.drew ?_) | (with_reducible refine own_drewN ?_ _))) hb (Nat.le_refl _))
  replace O_x := hide (show World.ownsRow w6 w.heap.size 40 3 (.slice A_x n_x c_x) n_x (cellsC z1) from own_below (by repeat (first | exact O_x.out | (with_reducible refine World.ownsRow.alloc ?_ _) | (with_reducible refine World.ownsRow.drew ?_) | (with_reducible refine own_drewN ?_ _))) hb (Nat.le_refl _))
  replace O_g := hide (show World.ownsRow w6 w.heap.size 3 1 (.slice A_g n_g c_g) n_g (((rideK z1 start).map Pn.on).map (Value.int .i64)) from own_below (by repeat (first | exact O_g.out | (with_reducible refine World.ownsRow.alloc ?_ _) | (with_reducible refine World.ownsRow.drew ?_) | (with_reducible refine own_drewN ?_ _))) hb (Nat.le_refl _))
  replace O_k := hide (show World.ownsRow w6 w.heap.size 3 1 (.slice A_k n_k c_k) n_k (((rideK z1 start).map Pn.off).map (Value.int .i64)) from own_below (by repeat (first | exact O_k.out | (with_reducible refine World.ownsRow.alloc ?_ _) | (with_reducible refine World.ownsRow.drew ?_) | (with_reducible refine own_drewN ?_ _))) hb (Nat.le_refl _))
  replace O_y := hide (show World.ownsRow w6 w.heap.size 40 3 (.slice A_y n_y c_y) n_y (cellsC z1) from own_below (by repeat (first | exact O_y.out | (with_reducible refine World.ownsRow.alloc ?_ _) | (with_reducible refine World.ownsRow.drew ?_) | (with_reducible refine own_drewN ?_ _))) hb (Nat.le_refl _))
  have Hb6 := hide hb
  clear hb
  clear O_y LU_y
  go_wp2_with fail
  refine (markCallS_any _ A_x n_x c_x 1 _ _ (by omega) (by omega) (by omega) (by repeat (first | exact O_x.out | (with_reducible refine World.ownsRow.alloc ?_ _) | (with_reducible refine World.ownsRow.drew ?_) | (with_reducible refine own_drewN ?_ _)))).mono ?_
  rintro e w7 ⟨rfl, ho, hg⟩
  have hz7 := hg.size
  try simp at hz7
  have Hb7 := hide (below_of_only (B := w.heap.size) hg (by (first | omega | (simp; omega))) (fun k hk => by have := LU_x.out k hk; omega))
  replace O_U := hide (show World.ownsRow w7 w.heap.size 3 1 (.slice A_U n_U c_U) n_U (((rideK z1 start).map Pn.on).map (Value.int .i64)) from own_kept2 (by repeat (first | exact O_U.out | (with_reducible refine World.ownsRow.alloc ?_ _) | (with_reducible refine World.ownsRow.drew ?_) | (with_reducible refine own_drewN ?_ _))) hg (fun k h1 h2 => by have := LU_U.out k h1; have := LU_x.out k h2; omega))
  replace O_V := hide (show World.ownsRow w7 w.heap.size 3 1 (.slice A_V n_V c_V) n_V (((rideK z1 start).map Pn.off).map (Value.int .i64)) from own_kept2 (by repeat (first | exact O_V.out | (with_reducible refine World.ownsRow.alloc ?_ _) | (with_reducible refine World.ownsRow.drew ?_) | (with_reducible refine own_drewN ?_ _))) hg (fun k h1 h2 => by have := LU_V.out k h1; have := LU_x.out k h2; omega))
  replace O_g := hide (show World.ownsRow w7 w.heap.size 3 1 (.slice A_g n_g c_g) n_g (((rideK z1 start).map Pn.on).map (Value.int .i64)) from own_kept2 (by repeat (first | exact O_g.out | (with_reducible refine World.ownsRow.alloc ?_ _) | (with_reducible refine World.ownsRow.drew ?_) | (with_reducible refine own_drewN ?_ _))) hg (fun k h1 h2 => by have := LU_g.out k h1; have := LU_x.out k h2; omega))
  replace O_k := hide (show World.ownsRow w7 w.heap.size 3 1 (.slice A_k n_k c_k) n_k (((rideK z1 start).map Pn.off).map (Value.int .i64)) from own_kept2 (by repeat (first | exact O_k.out | (with_reducible refine World.ownsRow.alloc ?_ _) | (with_reducible refine World.ownsRow.drew ?_) | (with_reducible refine own_drewN ?_ _))) hg (fun k h1 h2 => by have := LU_k.out k h1; have := LU_x.out k h2; omega))
  replace R_a := hide (show Rd w7 3 A1 n1 (cellsC z1) from Rd.grown (by repeat (first | exact R_a.out | exact Rd.of_own O_a.out | (with_reducible refine RdI.al ?_ _) | (with_reducible refine RdI.dr ?_) | (with_reducible refine RdI.drN ?_ _) | (with_reducible refine Rd.alloc ?_ _) | (with_reducible refine Rd.drew ?_) | (with_reducible refine Rd.drewN ?_ _))) hg (fun hn b off e h2 => by have := D_a.out hn b off e; have := LU_x.out b h2.symm; omega))
  replace O_x := hide (show World.ownsRow w7 w.heap.size 40 3 (.slice A_x n_x c_x) n_x ((marksI 1 (n_x * 3)).map (Value.int .i64)) from ho)
  clear ho hg
  clear O_x LU_x
  go_wp2_with fail
  refine (eqIntS_same A_g A_U n_g c_g n_U c_U ((rideK z1 start).map Pn.on) _ (by omega) (by repeat (first | exact Rd.of_own O_g.out | (with_reducible refine RdC.al ?_ _) | (with_reducible refine RdC.dr ?_) | (with_reducible refine RdC.drN ?_ _) | (with_reducible refine RdI.al ?_ _) | (with_reducible refine RdI.dr ?_) | (with_reducible refine RdI.drN ?_ _) | (with_reducible refine Rd.alloc ?_ _) | (with_reducible refine Rd.drew ?_) | (with_reducible refine Rd.drewN ?_ _))) (by repeat (first | exact Rd.of_own O_U.out | (with_reducible refine RdC.al ?_ _) | (with_reducible refine RdC.dr ?_) | (with_reducible refine RdC.drN ?_ _) | (with_reducible refine RdI.al ?_ _) | (with_reducible refine RdI.dr ?_) | (with_reducible refine RdI.drN ?_ _) | (with_reducible refine Rd.alloc ?_ _) | (with_reducible refine Rd.drew ?_) | (with_reducible refine Rd.drewN ?_ _)))).mono ?_
  rintro e wq3 ⟨rfl, q3, rfl⟩
  go_wp2_with fail
  refine (eqIntS_same A_k A_V n_k c_k n_V c_V ((rideK z1 start).map Pn.off) _ (by omega) (by repeat (first | exact Rd.of_own O_k.out | (with_reducible refine RdC.al ?_ _) | (with_reducible refine RdC.dr ?_) | (with_reducible refine RdC.drN ?_ _) | (with_reducible refine RdI.al ?_ _) | (with_reducible refine RdI.dr ?_) | (with_reducible refine RdI.drN ?_ _) | (with_reducible refine Rd.alloc ?_ _) | (with_reducible refine Rd.drew ?_) | (with_reducible refine Rd.drewN ?_ _))) (by repeat (first | exact Rd.of_own O_V.out | (with_reducible refine RdC.al ?_ _) | (with_reducible refine RdC.dr ?_) | (with_reducible refine RdC.drN ?_ _) | (with_reducible refine RdI.al ?_ _) | (with_reducible refine RdI.dr ?_) | (with_reducible refine RdI.drN ?_ _) | (with_reducible refine Rd.alloc ?_ _) | (with_reducible refine Rd.drew ?_) | (with_reducible refine Rd.drewN ?_ _)))).mono ?_
  rintro e wq4 ⟨rfl, q4, rfl⟩
  go_wp2_with fail
  refine (markIntS_any _ A_g n_g c_g 1 _ _ (by omega) (by omega) (by omega) (by repeat (first | exact O_g.out | (with_reducible refine World.ownsRow.alloc ?_ _) | (with_reducible refine World.ownsRow.drew ?_) | (with_reducible refine own_drewN ?_ _)))).mono ?_
  rintro e w8 ⟨rfl, ho, hg⟩
  have hz8 := hg.size
  try simp at hz8
  have Hb8 := hide (below_of_only (B := w.heap.size) hg (by (first | omega | (simp; omega))) (fun k hk => by have := LU_g.out k hk; omega))
  replace O_U := hide (show World.ownsRow w8 w.heap.size 3 1 (.slice A_U n_U c_U) n_U (((rideK z1 start).map Pn.on).map (Value.int .i64)) from own_kept2 (by repeat (first | exact O_U.out | (with_reducible refine World.ownsRow.alloc ?_ _) | (with_reducible refine World.ownsRow.drew ?_) | (with_reducible refine own_drewN ?_ _))) hg (fun k h1 h2 => by have := LU_U.out k h1; have := LU_g.out k h2; omega))
  replace O_V := hide (show World.ownsRow w8 w.heap.size 3 1 (.slice A_V n_V c_V) n_V (((rideK z1 start).map Pn.off).map (Value.int .i64)) from own_kept2 (by repeat (first | exact O_V.out | (with_reducible refine World.ownsRow.alloc ?_ _) | (with_reducible refine World.ownsRow.drew ?_) | (with_reducible refine own_drewN ?_ _))) hg (fun k h1 h2 => by have := LU_V.out k h1; have := LU_g.out k h2; omega))
  replace O_k := hide (show World.ownsRow w8 w.heap.size 3 1 (.slice A_k n_k c_k) n_k (((rideK z1 start).map Pn.off).map (Value.int .i64)) from own_kept2 (by repeat (first | exact O_k.out | (with_reducible refine World.ownsRow.alloc ?_ _) | (with_reducible refine World.ownsRow.drew ?_) | (with_reducible refine own_drewN ?_ _))) hg (fun k h1 h2 => HD_g.out k h2 h1))
  replace R_a := hide (show Rd w8 3 A1 n1 (cellsC z1) from Rd.grown (by repeat (first | exact R_a.out | exact Rd.of_own O_a.out | (with_reducible refine RdI.al ?_ _) | (with_reducible refine RdI.dr ?_) | (with_reducible refine RdI.drN ?_ _) | (with_reducible refine Rd.alloc ?_ _) | (with_reducible refine Rd.drew ?_) | (with_reducible refine Rd.drewN ?_ _))) hg (fun hn b off e h2 => by have := D_a.out hn b off e; have := LU_g.out b h2.symm; omega))
  replace O_g := hide (show World.ownsRow w8 w.heap.size 3 1 (.slice A_g n_g c_g) n_g ((marksI 1 n_g).map (Value.int .i64)) from ho)
  clear ho hg
  go_wp2_with fail
  refine (markIntS_any _ A_k n_k c_k (1 + (n_g : Int)) _ _ (by omega) (by omega) (by omega) (by repeat (first | exact O_k.out | (with_reducible refine World.ownsRow.alloc ?_ _) | (with_reducible refine World.ownsRow.drew ?_) | (with_reducible refine own_drewN ?_ _)))).mono ?_
  rintro e w9 ⟨rfl, ho, hg⟩
  have hz9 := hg.size
  try simp at hz9
  have Hb9 := hide (below_of_only (B := w.heap.size) hg (by (first | omega | (simp; omega))) (fun k hk => by have := LU_k.out k hk; omega))
  replace O_U := hide (show World.ownsRow w9 w.heap.size 3 1 (.slice A_U n_U c_U) n_U (((rideK z1 start).map Pn.on).map (Value.int .i64)) from own_kept2 (by repeat (first | exact O_U.out | (with_reducible refine World.ownsRow.alloc ?_ _) | (with_reducible refine World.ownsRow.drew ?_) | (with_reducible refine own_drewN ?_ _))) hg (fun k h1 h2 => by have := LU_U.out k h1; have := LU_k.out k h2; omega))
  replace O_V := hide (show World.ownsRow w9 w.heap.size 3 1 (.slice A_V n_V c_V) n_V (((rideK z1 start).map Pn.off).map (Value.int .i64)) from own_kept2 (by repeat (first | exact O_V.out | (with_reducible refine World.ownsRow.alloc ?_ _) | (with_reducible refine World.ownsRow.drew ?_) | (with_reducible refine own_drewN ?_ _))) hg (fun k h1 h2 => by have := LU_V.out k h1; have := LU_k.out k h2; omega))
  replace O_g := hide (show World.ownsRow w9 w.heap.size 3 1 (.slice A_g n_g c_g) n_g ((marksI 1 n_g).map (Value.int .i64)) from own_kept2 (by repeat (first | exact O_g.out | (with_reducible refine World.ownsRow.alloc ?_ _) | (with_reducible refine World.ownsRow.drew ?_) | (with_reducible refine own_drewN ?_ _))) hg (fun k h1 h2 => HD_g.out k h1 h2))
  replace R_a := hide (show Rd w9 3 A1 n1 (cellsC z1) from Rd.grown (by repeat (first | exact R_a.out | exact Rd.of_own O_a.out | (with_reducible refine RdI.al ?_ _) | (with_reducible refine RdI.dr ?_) | (with_reducible refine RdI.drN ?_ _) | (with_reducible refine Rd.alloc ?_ _) | (with_reducible refine Rd.drew ?_) | (with_reducible refine Rd.drewN ?_ _))) hg (fun hn b off e h2 => by have := D_a.out hn b off e; have := LU_k.out b h2.symm; omega))
  replace O_k := hide (show World.ownsRow w9 w.heap.size 3 1 (.slice A_k n_k c_k) n_k ((marksI (1 + (n_g : Int)) n_k).map (Value.int .i64)) from ho)
  clear ho hg
  go_wp2_with fail
  refine (heldIntS_ok A_g n_g c_g 1 _ (by omega) (by omega) (by omega) (by repeat (first | exact Rd.of_own O_g.out | (with_reducible refine RdC.al ?_ _) | (with_reducible refine RdC.dr ?_) | (with_reducible refine RdC.drN ?_ _) | (with_reducible refine RdI.al ?_ _) | (with_reducible refine RdI.dr ?_) | (with_reducible refine RdI.drN ?_ _) | (with_reducible refine Rd.alloc ?_ _) | (with_reducible refine Rd.drew ?_) | (with_reducible refine Rd.drewN ?_ _)))).mono ?_
  rintro e wq5 ⟨rfl, q5, rfl⟩
  go_wp2_with fail
  refine (heldIntS_ok A_k n_k c_k (1 + (n_g : Int)) _ (by omega) (by omega) (by omega) (by repeat (first | exact Rd.of_own O_k.out | (with_reducible refine RdC.al ?_ _) | (with_reducible refine RdC.dr ?_) | (with_reducible refine RdC.drN ?_ _) | (with_reducible refine RdI.al ?_ _) | (with_reducible refine RdI.dr ?_) | (with_reducible refine RdI.drN ?_ _) | (with_reducible refine Rd.alloc ?_ _) | (with_reducible refine Rd.drew ?_) | (with_reducible refine Rd.drewN ?_ _)))).mono ?_
  rintro e wq6 ⟨rfl, q6, rfl⟩
  go_wp2_with fail
  refine (toCallS_any A1 n1 c1 z1 _ (by omega) (by repeat (first | exact R_a.out | exact Rd.of_own O_a.out | (with_reducible refine RdC.al ?_ _) | (with_reducible refine RdC.dr ?_) | (with_reducible refine RdC.drN ?_ _) | (with_reducible refine RdI.al ?_ _) | (with_reducible refine RdI.dr ?_) | (with_reducible refine RdI.drN ?_ _) | (with_reducible refine Rd.alloc ?_ _) | (with_reducible refine Rd.drew ?_) | (with_reducible refine Rd.drewN ?_ _)))).mono ?_
  rintro e w10 ⟨A_q, n_q, c_q, rfl, ho, hb⟩
  have hz10 := hb.size
  try simp at hz10
  replace R_a := hide (show Rd w10 3 A1 n1 (cellsC z1) from Rd.below (by repeat (first | exact R_a.out | (with_reducible refine Rd.alloc ?_ _) | (with_reducible refine Rd.drew ?_) | (with_reducible refine Rd.drewN ?_ _))) hb (Nat.le_refl _))
  replace O_U := hide (show World.ownsRow w10 w.heap.size 3 1 (.slice A_U n_U c_U) n_U (((rideK z1 start).map Pn.on).map (Value.int .i64)) from own_below (by repeat (first | exact O_U.out | (with_reducible refine World.ownsRow.alloc ?_ _) | (with_reducible refine World.ownsRow.drew ?_) | (with_reducible refine own_drewN ?_ _))) hb (Nat.le_refl _))
  replace O_V := hide (show World.ownsRow w10 w.heap.size 3 1 (.slice A_V n_V c_V) n_V (((rideK z1 start).map Pn.off).map (Value.int .i64)) from own_below (by repeat (first | exact O_V.out | (with_reducible refine World.ownsRow.alloc ?_ _) | (with_reducible refine World.ownsRow.drew ?_) | (with_reducible refine own_drewN ?_ _))) hb (Nat.le_refl _))
  replace O_g := hide (show World.ownsRow w10 w.heap.size 3 1 (.slice A_g n_g c_g) n_g ((marksI 1 n_g).map (Value.int .i64)) from own_below (by repeat (first | exact O_g.out | (with_reducible refine World.ownsRow.alloc ?_ _) | (with_reducible refine World.ownsRow.drew ?_) | (with_reducible refine own_drewN ?_ _))) hb (Nat.le_refl _))
  replace O_k := hide (show World.ownsRow w10 w.heap.size 3 1 (.slice A_k n_k c_k) n_k ((marksI (1 + (n_g : Int)) n_k).map (Value.int .i64)) from own_below (by repeat (first | exact O_k.out | (with_reducible refine World.ownsRow.alloc ?_ _) | (with_reducible refine World.ownsRow.drew ?_) | (with_reducible refine own_drewN ?_ _))) hb (Nat.le_refl _))
  have Hb10 := hide hb
  clear hb
  have LU_q := hide (fun k h => (⟨(own_lt_old ho k h).1, by have := (own_lt_old ho k h).2; (first | omega | (simp at this; omega))⟩ : k < w10.heap.size ∧ w9.heap.size ≤ k))
  have O_q := hide (show World.ownsRow w10 w.heap.size 40 3 (.slice A_q n_q c_q) n_q (cellsC z1) from own_base ho (by first | omega | (simp; omega)))
  clear ho
  have N_q : n_q ≤ n1 := by have h := RdLEN_call (Rd.of_own O_q.out); have := Hl1.out; omega
  go_wp2_with fail
  refine (RideTimes_i A_q n_q c_q z1 start _ (by omega) (Sl.of_own O_q.out) (by repeat (first | exact Rd.of_own O_q.out | (with_reducible refine RdC.al ?_ _) | (with_reducible refine RdC.dr ?_) | (with_reducible refine RdC.drN ?_ _) | (with_reducible refine RdI.al ?_ _) | (with_reducible refine RdI.dr ?_) | (with_reducible refine RdI.drN ?_ _) | (with_reducible refine Rd.alloc ?_ _) | (with_reducible refine Rd.drew ?_) | (with_reducible refine Rd.drewN ?_ _)))).mono ?_
  rintro e w11 ⟨A_h, n_h, c_h, A_j, n_j, c_j, rfl, ho, ho2, hd, hb⟩
  have hz11 := hb.size
  try simp at hz11
  replace R_a := hide (show Rd w11 3 A1 n1 (cellsC z1) from Rd.below (by repeat (first | exact R_a.out | (with_reducible refine Rd.alloc ?_ _) | (with_reducible refine Rd.drew ?_) | (with_reducible refine Rd.drewN ?_ _))) hb (Nat.le_refl _))
  replace O_U := hide (show World.ownsRow w11 w.heap.size 3 1 (.slice A_U n_U c_U) n_U (((rideK z1 start).map Pn.on).map (Value.int .i64)) from own_below (by repeat (first | exact O_U.out | (with_reducible refine World.ownsRow.alloc ?_ _) | (with_reducible refine World.ownsRow.drew ?_) | (with_reducible refine own_drewN ?_ _))) hb (Nat.le_refl _))
  replace O_V := hide (show World.ownsRow w11 w.heap.size 3 1 (.slice A_V n_V c_V) n_V (((rideK z1 start).map Pn.off).map (Value.int .i64)) from own_below (by repeat (first | exact O_V.out | (with_reducible refine World.ownsRow.alloc ?_ _) | (with_reducible refine World.ownsRow.drew ?_) | (with_reducible refine own_drewN ?_ _))) hb (Nat.le_refl _))
  replace O_g := hide (show World.ownsRow w11 w.heap.size 3 1 (.slice A_g n_g c_g) n_g ((marksI 1 n_g).map (Value.int .i64)) from own_below (by repeat (first | exact O_g.out | (with_reducible refine World.ownsRow.alloc ?_ _) | (with_reducible refine World.ownsRow.drew ?_) | (with_reducible refine own_drewN ?_ _))) hb (Nat.le_refl _))
  replace O_k := hide (show World.ownsRow w11 w.heap.size 3 1 (.slice A_k n_k c_k) n_k ((marksI (1 + (n_g : Int)) n_k).map (Value.int .i64)) from own_below (by repeat (first | exact O_k.out | (with_reducible refine World.ownsRow.alloc ?_ _) | (with_reducible refine World.ownsRow.drew ?_) | (with_reducible refine own_drewN ?_ _))) hb (Nat.le_refl _))
  replace O_q := hide (show World.ownsRow w11 w.heap.size 40 3 (.slice A_q n_q c_q) n_q (cellsC z1) from own_below (by repeat (first | exact O_q.out | (with_reducible refine World.ownsRow.alloc ?_ _) | (with_reducible refine World.ownsRow.drew ?_) | (with_reducible refine own_drewN ?_ _))) hb (Nat.le_refl _))
  have Hb11 := hide hb
  clear hb
  have LU_h := hide (fun k h => (⟨(own_lt_old ho k h).1, by have := (own_lt_old ho k h).2; (first | omega | (simp at this; omega))⟩ : k < w11.heap.size ∧ w10.heap.size ≤ k))
  have O_h := hide (show World.ownsRow w11 w.heap.size 3 1 (.slice A_h n_h c_h) n_h (((rideK z1 start).map Pn.on).map (Value.int .i64)) from own_base ho (by first | omega | (simp; omega)))
  clear ho
  have ho := ho2
  clear ho2
  have LU_j := hide (fun k h => (⟨(own_lt_old ho k h).1, by have := (own_lt_old ho k h).2; (first | omega | (simp at this; omega))⟩ : k < w11.heap.size ∧ w10.heap.size ≤ k))
  have O_j := hide (show World.ownsRow w11 w.heap.size 3 1 (.slice A_j n_j c_j) n_j (((rideK z1 start).map Pn.off).map (Value.int .i64)) from own_base ho (by first | omega | (simp; omega)))
  clear ho
  have HD_h := hide hd
  clear hd
  have N_h : n_h ≤ 12 := by have h := RdLEN_int (Rd.of_own O_h.out); simp at h; omega
  have N_j : n_j ≤ 12 := by have h := RdLEN_int (Rd.of_own O_j.out); simp at h; omega
  go_wp2_with fail
  refine (eqIntS_same A_h A_U n_h c_h n_U c_U ((rideK z1 start).map Pn.on) _ (by omega) (by repeat (first | exact Rd.of_own O_h.out | (with_reducible refine RdC.al ?_ _) | (with_reducible refine RdC.dr ?_) | (with_reducible refine RdC.drN ?_ _) | (with_reducible refine RdI.al ?_ _) | (with_reducible refine RdI.dr ?_) | (with_reducible refine RdI.drN ?_ _) | (with_reducible refine Rd.alloc ?_ _) | (with_reducible refine Rd.drew ?_) | (with_reducible refine Rd.drewN ?_ _))) (by repeat (first | exact Rd.of_own O_U.out | (with_reducible refine RdC.al ?_ _) | (with_reducible refine RdC.dr ?_) | (with_reducible refine RdC.drN ?_ _) | (with_reducible refine RdI.al ?_ _) | (with_reducible refine RdI.dr ?_) | (with_reducible refine RdI.drN ?_ _) | (with_reducible refine Rd.alloc ?_ _) | (with_reducible refine Rd.drew ?_) | (with_reducible refine Rd.drewN ?_ _)))).mono ?_
  rintro e wq7 ⟨rfl, q7, rfl⟩
  go_wp2_with fail
  refine (eqIntS_same A_j A_V n_j c_j n_V c_V ((rideK z1 start).map Pn.off) _ (by omega) (by repeat (first | exact Rd.of_own O_j.out | (with_reducible refine RdC.al ?_ _) | (with_reducible refine RdC.dr ?_) | (with_reducible refine RdC.drN ?_ _) | (with_reducible refine RdI.al ?_ _) | (with_reducible refine RdI.dr ?_) | (with_reducible refine RdI.drN ?_ _) | (with_reducible refine Rd.alloc ?_ _) | (with_reducible refine Rd.drew ?_) | (with_reducible refine Rd.drewN ?_ _))) (by repeat (first | exact Rd.of_own O_V.out | (with_reducible refine RdC.al ?_ _) | (with_reducible refine RdC.dr ?_) | (with_reducible refine RdC.drN ?_ _) | (with_reducible refine RdI.al ?_ _) | (with_reducible refine RdI.dr ?_) | (with_reducible refine RdI.drN ?_ _) | (with_reducible refine Rd.alloc ?_ _) | (with_reducible refine Rd.drew ?_) | (with_reducible refine Rd.drewN ?_ _)))).mono ?_
  rintro e wq8 ⟨rfl, q8, rfl⟩
  go_wp2_with fail
  refine (heldIntS_ok A_g n_g c_g 1 _ (by omega) (by omega) (by omega) (by repeat (first | exact Rd.of_own O_g.out | (with_reducible refine RdC.al ?_ _) | (with_reducible refine RdC.dr ?_) | (with_reducible refine RdC.drN ?_ _) | (with_reducible refine RdI.al ?_ _) | (with_reducible refine RdI.dr ?_) | (with_reducible refine RdI.drN ?_ _) | (with_reducible refine Rd.alloc ?_ _) | (with_reducible refine Rd.drew ?_) | (with_reducible refine Rd.drewN ?_ _)))).mono ?_
  rintro e wq9 ⟨rfl, q9, rfl⟩
  go_wp2_with fail
  refine (heldIntS_ok A_k n_k c_k (1 + (n_g : Int)) _ (by omega) (by omega) (by omega) (by repeat (first | exact Rd.of_own O_k.out | (with_reducible refine RdC.al ?_ _) | (with_reducible refine RdC.dr ?_) | (with_reducible refine RdC.drN ?_ _) | (with_reducible refine RdI.al ?_ _) | (with_reducible refine RdI.dr ?_) | (with_reducible refine RdI.drN ?_ _) | (with_reducible refine Rd.alloc ?_ _) | (with_reducible refine Rd.drew ?_) | (with_reducible refine Rd.drewN ?_ _)))).mono ?_
  rintro e wq10 ⟨rfl, q10, rfl⟩
  go_wp2_with fail
  go_ret
  exact ⟨rfl, (by repeat (first | (with_reducible exact Below.refl _ _) | (with_reducible refine Below.drew ?_) | (with_reducible refine below_drewN ?_ _) | ((with_reducible refine Below.alloc ?_ ?_ _); rotate_left; (focus (first | (simp; done) | (simp; omega) | omega))) | ((with_reducible refine Below.setCell ?_ ?_ _); rotate_left; (focus (first | (simp; done) | (simp; omega) | omega))) | ((with_reducible refine Below.trans ?_ (Below.mono Hb.out ?_)); rotate_left; (focus (first | (simp; done) | (simp; omega) | omega))) | ((with_reducible refine Below.trans ?_ (Below.mono Hb16.out ?_)); rotate_left; (focus (first | (simp; done) | (simp; omega) | omega))) | ((with_reducible refine Below.trans ?_ (Below.mono Hb15.out ?_)); rotate_left; (focus (first | (simp; done) | (simp; omega) | omega))) | ((with_reducible refine Below.trans ?_ (Below.mono Hb14.out ?_)); rotate_left; (focus (first | (simp; done) | (simp; omega) | omega))) | ((with_reducible refine Below.trans ?_ (Below.mono Hb13.out ?_)); rotate_left; (focus (first | (simp; done) | (simp; omega) | omega))) | ((with_reducible refine Below.trans ?_ (Below.mono Hb12.out ?_)); rotate_left; (focus (first | (simp; done) | (simp; omega) | omega))) | ((with_reducible refine Below.trans ?_ (Below.mono Hb11.out ?_)); rotate_left; (focus (first | (simp; done) | (simp; omega) | omega))) | ((with_reducible refine Below.trans ?_ (Below.mono Hb10.out ?_)); rotate_left; (focus (first | (simp; done) | (simp; omega) | omega))) | ((with_reducible refine Below.trans ?_ (Below.mono Hb9.out ?_)); rotate_left; (focus (first | (simp; done) | (simp; omega) | omega))) | ((with_reducible refine Below.trans ?_ (Below.mono Hb8.out ?_)); rotate_left; (focus (first | (simp; done) | (simp; omega) | omega))) | ((with_reducible refine Below.trans ?_ (Below.mono Hb7.out ?_)); rotate_left; (focus (first | (simp; done) | (simp; omega) | omega))) | ((with_reducible refine Below.trans ?_ (Below.mono Hb6.out ?_)); rotate_left; (focus (first | (simp; done) | (simp; omega) | omega))) | ((with_reducible refine Below.trans ?_ (Below.mono Hb5.out ?_)); rotate_left; (focus (first | (simp; done) | (simp; omega) | omega))) | ((with_reducible refine Below.trans ?_ (Below.mono Hb4.out ?_)); rotate_left; (focus (first | (simp; done) | (simp; omega) | omega))) | ((with_reducible refine Below.trans ?_ (Below.mono Hb3.out ?_)); rotate_left; (focus (first | (simp; done) | (simp; omega) | omega))) | ((with_reducible refine Below.trans ?_ (Below.mono Hb2.out ?_)); rotate_left; (focus (first | (simp; done) | (simp; omega) | omega))) | ((with_reducible refine Below.trans ?_ (Below.mono Hb1.out ?_)); rotate_left; (focus (first | (simp; done) | (simp; omega) | omega))) | ((with_reducible refine Below.trans ?_ (below_of_only Hg16.out ?_ ?_)); rotate_left; (focus (first | (simp; done) | (simp; omega) | omega)); (intro k hk; cases hk; omega)) | ((with_reducible refine Below.trans ?_ (below_of_only Hg15.out ?_ ?_)); rotate_left; (focus (first | (simp; done) | (simp; omega) | omega)); (intro k hk; cases hk; omega)) | ((with_reducible refine Below.trans ?_ (below_of_only Hg14.out ?_ ?_)); rotate_left; (focus (first | (simp; done) | (simp; omega) | omega)); (intro k hk; cases hk; omega)) | ((with_reducible refine Below.trans ?_ (below_of_only Hg13.out ?_ ?_)); rotate_left; (focus (first | (simp; done) | (simp; omega) | omega)); (intro k hk; cases hk; omega)) | ((with_reducible refine Below.trans ?_ (below_of_only Hg12.out ?_ ?_)); rotate_left; (focus (first | (simp; done) | (simp; omega) | omega)); (intro k hk; cases hk; omega)) | ((with_reducible refine Below.trans ?_ (below_of_only Hg11.out ?_ ?_)); rotate_left; (focus (first | (simp; done) | (simp; omega) | omega)); (intro k hk; cases hk; omega)) | ((with_reducible refine Below.trans ?_ (below_of_only Hg10.out ?_ ?_)); rotate_left; (focus (first | (simp; done) | (simp; omega) | omega)); (intro k hk; cases hk; omega)) | ((with_reducible refine Below.trans ?_ (below_of_only Hg9.out ?_ ?_)); rotate_left; (focus (first | (simp; done) | (simp; omega) | omega)); (intro k hk; cases hk; omega)) | ((with_reducible refine Below.trans ?_ (below_of_only Hg8.out ?_ ?_)); rotate_left; (focus (first | (simp; done) | (simp; omega) | omega)); (intro k hk; cases hk; omega)) | ((with_reducible refine Below.trans ?_ (below_of_only Hg7.out ?_ ?_)); rotate_left; (focus (first | (simp; done) | (simp; omega) | omega)); (intro k hk; cases hk; omega)) | ((with_reducible refine Below.trans ?_ (below_of_only Hg6.out ?_ ?_)); rotate_left; (focus (first | (simp; done) | (simp; omega) | omega)); (intro k hk; cases hk; omega)) | ((with_reducible refine Below.trans ?_ (below_of_only Hg5.out ?_ ?_)); rotate_left; (focus (first | (simp; done) | (simp; omega) | omega)); (intro k hk; cases hk; omega)) | ((with_reducible refine Below.trans ?_ (below_of_only Hg4.out ?_ ?_)); rotate_left; (focus (first | (simp; done) | (simp; omega) | omega)); (intro k hk; cases hk; omega)) | ((with_reducible refine Below.trans ?_ (below_of_only Hg3.out ?_ ?_)); rotate_left; (focus (first | (simp; done) | (simp; omega) | omega)); (intro k hk; cases hk; omega)) | ((with_reducible refine Below.trans ?_ (below_of_only Hg2.out ?_ ?_)); rotate_left; (focus (first | (simp; done) | (simp; omega) | omega)); (intro k hk; cases hk; omega)) | ((with_reducible refine Below.trans ?_ (below_of_only Hg1.out ?_ ?_)); rotate_left; (focus (first | (simp; done) | (simp; omega) | omega)); (intro k hk; cases hk; omega))))⟩
end Go.Proofs.Ythgbbfcpnmpjgaa
