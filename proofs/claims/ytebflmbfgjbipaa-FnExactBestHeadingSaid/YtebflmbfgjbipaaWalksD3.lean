/-
  The walks of the exact laws on sweeps.
-/
import Derived.Test.YtebflmbfgjbipaaSweepN
import Derived.Test.YtebflmbfgjbipaaCopy
import Derived.Test.YtebflmbfgjbipaaLaw8
namespace Go.Proofs.Ytebflmbfgjbipaa
open Go.RowKit
set_option linter.unusedSimpArgs false
set_option linter.unusedVariables false

set_option maxHeartbeats 4000000 in
theorem fnExactSweepOrder_walk (A1 : Option Addr) (n1 c1 : Nat) (z1 : List Int) (a h : Int) (w : World) (_ : n1 ≤ c1) (r1 : RdI w .i64 A1 n1 z1) (_ : ∀ z ∈ z1, (Lit.int .i64 z).wf = true) (_ : (Lit.int .i64 a).wf = true) (_ : (Lit.int .i64 h).wf = true) :
    Calls Try.prog 5 #[.slice A1 n1 c1, .int .i64 a, .int .i64 h] w fun e w' => e = .returned (.bool true) ∧ Below w.heap.size w w' := by
  have hle := sweepK_len z1 a h
  have R_a := hide r1
  have D_a := hide (RdI.old r1)
  have Hl1 := hide (RdI.len r1)
  clear r1
  by_cases h1 : 1048576 < n1
  · have h1' : (1048576 : Int) < (n1 : Int) := by omega
    go_enter Try.func5, Try.ntmps5
    go_wp2_with fail
    go_ret
    exact ⟨rfl, Below.refl _ _⟩
  have h1' : (n1 : Int) ≤ 1048576 := by omega
  go_enter Try.func5, Try.ntmps5
  go_wp2_with fail
  refine (toIntS_any A1 n1 c1 z1 _ (by omega) (by repeat (first | exact R_a.out | exact Rd.of_own O_a.out | (with_reducible refine RdI.al ?_ _) | (with_reducible refine RdI.dr ?_) | (with_reducible refine RdI.drN ?_ _) | (with_reducible refine Rd.alloc ?_ _) | (with_reducible refine Rd.drew ?_) | (with_reducible refine Rd.drewN ?_ _)))).mono ?_
  rintro e w1 ⟨A_p, n_p, c_p, rfl, ho, hb⟩
  have hz1 := hb.size
  try simp at hz1
  replace R_a := hide (show Rd w1 1 A1 n1 (z1.map (Value.int .i64)) from Rd.below (by repeat (first | exact R_a.out | (with_reducible refine Rd.alloc ?_ _) | (with_reducible refine Rd.drew ?_) | (with_reducible refine Rd.drewN ?_ _))) hb (Nat.le_refl _))
  have Hb1 := hide hb
  clear hb
  have LU_p := hide (fun k h => (⟨(own_lt_old ho k h).1, by have := (own_lt_old ho k h).2; (first | omega | (simp at this; omega))⟩ : k < w1.heap.size ∧ w.heap.size ≤ k))
  have O_p := hide (show World.ownsRow w1 w.heap.size 3 1 (.slice A_p n_p c_p) n_p (z1.map (Value.int .i64)) from own_base ho (by first | omega | (simp; omega)))
  clear ho
  have N_p : n_p ≤ n1 := by have h := RdLEN_int (Rd.of_own O_p.out); have := Hl1.out; omega
  go_wp2_with fail
  refine (SweepOrder_s A_p n_p c_p z1 a h _ (by omega) (by repeat (first | exact Rd.of_own O_p.out | (with_reducible refine RdI.al ?_ _) | (with_reducible refine RdI.dr ?_) | (with_reducible refine RdI.drN ?_ _) | (with_reducible refine Rd.alloc ?_ _) | (with_reducible refine Rd.drew ?_) | (with_reducible refine Rd.drewN ?_ _)))).mono ?_
  rintro e w2 ⟨A_W, n_W, c_W, rfl, ho, hb⟩
  have hz2 := hb.size
  try simp at hz2
  replace R_a := hide (show Rd w2 1 A1 n1 (z1.map (Value.int .i64)) from Rd.below (by repeat (first | exact R_a.out | (with_reducible refine Rd.alloc ?_ _) | (with_reducible refine Rd.drew ?_) | (with_reducible refine Rd.drewN ?_ _))) hb (Nat.le_refl _))
  replace O_p := hide (show World.ownsRow w2 w.heap.size 3 1 (.slice A_p n_p c_p) n_p (z1.map (Value.int .i64)) from own_below (by repeat (first | exact O_p.out | (with_reducible refine World.ownsRow.alloc ?_ _) | (with_reducible refine World.ownsRow.drew ?_) | (with_reducible refine own_drewN ?_ _))) hb (Nat.le_refl _))
  have Hb2 := hide hb
  clear hb
  have LU_W := hide (fun k h => (⟨(own_lt_old ho k h).1, by have := (own_lt_old ho k h).2; (first | omega | (simp at this; omega))⟩ : k < w2.heap.size ∧ w1.heap.size ≤ k))
  have O_W := hide (show World.ownsRow w2 w.heap.size 3 1 (.slice A_W n_W c_W) n_W ((sweepK z1 a h).map (Value.int .i64)) from own_base ho (by first | omega | (simp; omega)))
  clear ho
  have N_W : n_W ≤ 12 := by have h := RdLEN_int (Rd.of_own O_W.out); omega
  clear O_p LU_p
  go_wp2_with fail
  refine (toIntS_any A1 n1 c1 z1 _ (by omega) (by repeat (first | exact R_a.out | exact Rd.of_own O_a.out | (with_reducible refine RdI.al ?_ _) | (with_reducible refine RdI.dr ?_) | (with_reducible refine RdI.drN ?_ _) | (with_reducible refine Rd.alloc ?_ _) | (with_reducible refine Rd.drew ?_) | (with_reducible refine Rd.drewN ?_ _)))).mono ?_
  rintro e w3 ⟨A_x, n_x, c_x, rfl, ho, hb⟩
  have hz3 := hb.size
  try simp at hz3
  replace R_a := hide (show Rd w3 1 A1 n1 (z1.map (Value.int .i64)) from Rd.below (by repeat (first | exact R_a.out | (with_reducible refine Rd.alloc ?_ _) | (with_reducible refine Rd.drew ?_) | (with_reducible refine Rd.drewN ?_ _))) hb (Nat.le_refl _))
  replace O_W := hide (show World.ownsRow w3 w.heap.size 3 1 (.slice A_W n_W c_W) n_W ((sweepK z1 a h).map (Value.int .i64)) from own_below (by repeat (first | exact O_W.out | (with_reducible refine World.ownsRow.alloc ?_ _) | (with_reducible refine World.ownsRow.drew ?_) | (with_reducible refine own_drewN ?_ _))) hb (Nat.le_refl _))
  have Hb3 := hide hb
  clear hb
  have LU_x := hide (fun k h => (⟨(own_lt_old ho k h).1, by have := (own_lt_old ho k h).2; (first | omega | (simp at this; omega))⟩ : k < w3.heap.size ∧ w2.heap.size ≤ k))
  have O_x := hide (show World.ownsRow w3 w.heap.size 3 1 (.slice A_x n_x c_x) n_x (z1.map (Value.int .i64)) from own_base ho (by first | omega | (simp; omega)))
  clear ho
  have N_x : n_x ≤ n1 := by have h := RdLEN_int (Rd.of_own O_x.out); have := Hl1.out; omega
  go_wp2_with fail
  refine (SweepOrder_i A_x n_x c_x z1 a h _ (by omega) (Sl.of_own O_x.out) (by repeat (first | exact Rd.of_own O_x.out | (with_reducible refine RdI.al ?_ _) | (with_reducible refine RdI.dr ?_) | (with_reducible refine RdI.drN ?_ _) | (with_reducible refine Rd.alloc ?_ _) | (with_reducible refine Rd.drew ?_) | (with_reducible refine Rd.drewN ?_ _)))).mono ?_
  rintro e w4 ⟨A_g, n_g, c_g, rfl, ho, hb⟩
  have hz4 := hb.size
  try simp at hz4
  replace R_a := hide (show Rd w4 1 A1 n1 (z1.map (Value.int .i64)) from Rd.below (by repeat (first | exact R_a.out | (with_reducible refine Rd.alloc ?_ _) | (with_reducible refine Rd.drew ?_) | (with_reducible refine Rd.drewN ?_ _))) hb (Nat.le_refl _))
  replace O_W := hide (show World.ownsRow w4 w.heap.size 3 1 (.slice A_W n_W c_W) n_W ((sweepK z1 a h).map (Value.int .i64)) from own_below (by repeat (first | exact O_W.out | (with_reducible refine World.ownsRow.alloc ?_ _) | (with_reducible refine World.ownsRow.drew ?_) | (with_reducible refine own_drewN ?_ _))) hb (Nat.le_refl _))
  replace O_x := hide (show World.ownsRow w4 w.heap.size 3 1 (.slice A_x n_x c_x) n_x (z1.map (Value.int .i64)) from own_below (by repeat (first | exact O_x.out | (with_reducible refine World.ownsRow.alloc ?_ _) | (with_reducible refine World.ownsRow.drew ?_) | (with_reducible refine own_drewN ?_ _))) hb (Nat.le_refl _))
  have Hb4 := hide hb
  clear hb
  have LU_g := hide (fun k h => (⟨(own_lt_old ho k h).1, by have := (own_lt_old ho k h).2; (first | omega | (simp at this; omega))⟩ : k < w4.heap.size ∧ w3.heap.size ≤ k))
  have O_g := hide (show World.ownsRow w4 w.heap.size 3 1 (.slice A_g n_g c_g) n_g ((sweepK z1 a h).map (Value.int .i64)) from own_base ho (by first | omega | (simp; omega)))
  clear ho
  have N_g : n_g ≤ 12 := by have h := RdLEN_int (Rd.of_own O_g.out); omega
  go_wp2_with fail
  refine (eqIntS_same A_g A_W n_g c_g n_W c_W (sweepK z1 a h) _ (by omega) (by repeat (first | exact Rd.of_own O_g.out | (with_reducible refine RdI.al ?_ _) | (with_reducible refine RdI.dr ?_) | (with_reducible refine RdI.drN ?_ _) | (with_reducible refine Rd.alloc ?_ _) | (with_reducible refine Rd.drew ?_) | (with_reducible refine Rd.drewN ?_ _))) (by repeat (first | exact Rd.of_own O_W.out | (with_reducible refine RdI.al ?_ _) | (with_reducible refine RdI.dr ?_) | (with_reducible refine RdI.drN ?_ _) | (with_reducible refine Rd.alloc ?_ _) | (with_reducible refine Rd.drew ?_) | (with_reducible refine Rd.drewN ?_ _)))).mono ?_
  rintro e wq1 ⟨rfl, q1, rfl⟩
  go_wp2_with fail
  refine (toIntS_any A1 n1 c1 z1 _ (by omega) (by repeat (first | exact R_a.out | exact Rd.of_own O_a.out | (with_reducible refine RdI.al ?_ _) | (with_reducible refine RdI.dr ?_) | (with_reducible refine RdI.drN ?_ _) | (with_reducible refine Rd.alloc ?_ _) | (with_reducible refine Rd.drew ?_) | (with_reducible refine Rd.drewN ?_ _)))).mono ?_
  rintro e w5 ⟨A_y, n_y, c_y, rfl, ho, hb⟩
  have hz5 := hb.size
  try simp at hz5
  replace R_a := hide (show Rd w5 1 A1 n1 (z1.map (Value.int .i64)) from Rd.below (by repeat (first | exact R_a.out | (with_reducible refine Rd.alloc ?_ _) | (with_reducible refine Rd.drew ?_) | (with_reducible refine Rd.drewN ?_ _))) hb (Nat.le_refl _))
  replace O_W := hide (show World.ownsRow w5 w.heap.size 3 1 (.slice A_W n_W c_W) n_W ((sweepK z1 a h).map (Value.int .i64)) from own_below (by repeat (first | exact O_W.out | (with_reducible refine World.ownsRow.alloc ?_ _) | (with_reducible refine World.ownsRow.drew ?_) | (with_reducible refine own_drewN ?_ _))) hb (Nat.le_refl _))
  replace O_x := hide (show World.ownsRow w5 w.heap.size 3 1 (.slice A_x n_x c_x) n_x (z1.map (Value.int .i64)) from own_below (by repeat (first | exact O_x.out | (with_reducible refine World.ownsRow.alloc ?_ _) | (with_reducible refine World.ownsRow.drew ?_) | (with_reducible refine own_drewN ?_ _))) hb (Nat.le_refl _))
  replace O_g := hide (show World.ownsRow w5 w.heap.size 3 1 (.slice A_g n_g c_g) n_g ((sweepK z1 a h).map (Value.int .i64)) from own_below (by repeat (first | exact O_g.out | (with_reducible refine World.ownsRow.alloc ?_ _) | (with_reducible refine World.ownsRow.drew ?_) | (with_reducible refine own_drewN ?_ _))) hb (Nat.le_refl _))
  have Hb5 := hide hb
  clear hb
  have LU_y := hide (fun k h => (⟨(own_lt_old ho k h).1, by have := (own_lt_old ho k h).2; (first | omega | (simp at this; omega))⟩ : k < w5.heap.size ∧ w4.heap.size ≤ k))
  have O_y := hide (show World.ownsRow w5 w.heap.size 3 1 (.slice A_y n_y c_y) n_y (z1.map (Value.int .i64)) from own_base ho (by first | omega | (simp; omega)))
  clear ho
  have N_y : n_y ≤ n1 := by have h := RdLEN_int (Rd.of_own O_y.out); have := Hl1.out; omega
  go_wp2_with fail
  refine (eqIntS_same A_x A_y n_x c_x n_y c_y (z1) _ (by omega) (by repeat (first | exact Rd.of_own O_x.out | (with_reducible refine RdI.al ?_ _) | (with_reducible refine RdI.dr ?_) | (with_reducible refine RdI.drN ?_ _) | (with_reducible refine Rd.alloc ?_ _) | (with_reducible refine Rd.drew ?_) | (with_reducible refine Rd.drewN ?_ _))) (by repeat (first | exact Rd.of_own O_y.out | (with_reducible refine RdI.al ?_ _) | (with_reducible refine RdI.dr ?_) | (with_reducible refine RdI.drN ?_ _) | (with_reducible refine Rd.alloc ?_ _) | (with_reducible refine Rd.drew ?_) | (with_reducible refine Rd.drewN ?_ _)))).mono ?_
  rintro e wq2 ⟨rfl, q2, rfl⟩
  clear O_y LU_y
  go_wp2_with fail
  refine (markIntS_any _ A_x n_x c_x 1 _ _ (by omega) (by omega) (by omega) (by repeat (first | exact O_x.out | (with_reducible refine World.ownsRow.alloc ?_ _) | (with_reducible refine World.ownsRow.drew ?_) | (with_reducible refine own_drewN ?_ _)))).mono ?_
  rintro e w6 ⟨rfl, ho, hg⟩
  have hz6 := hg.size
  try simp at hz6
  have Hb6 := hide (below_of_only (B := w.heap.size) hg (by (first | omega | (simp; omega))) (fun k hk => by have := LU_x.out k hk; omega))
  replace O_W := hide (show World.ownsRow w6 w.heap.size 3 1 (.slice A_W n_W c_W) n_W ((sweepK z1 a h).map (Value.int .i64)) from own_kept2 (by repeat (first | exact O_W.out | (with_reducible refine World.ownsRow.alloc ?_ _) | (with_reducible refine World.ownsRow.drew ?_) | (with_reducible refine own_drewN ?_ _))) hg (fun k h1 h2 => by have := LU_W.out k h1; have := LU_x.out k h2; omega))
  replace O_g := hide (show World.ownsRow w6 w.heap.size 3 1 (.slice A_g n_g c_g) n_g ((sweepK z1 a h).map (Value.int .i64)) from own_kept2 (by repeat (first | exact O_g.out | (with_reducible refine World.ownsRow.alloc ?_ _) | (with_reducible refine World.ownsRow.drew ?_) | (with_reducible refine own_drewN ?_ _))) hg (fun k h1 h2 => by have := LU_g.out k h1; have := LU_x.out k h2; omega))
  replace R_a := hide (show Rd w6 1 A1 n1 (z1.map (Value.int .i64)) from Rd.grown (by repeat (first | exact R_a.out | exact Rd.of_own O_a.out | (with_reducible refine RdI.al ?_ _) | (with_reducible refine RdI.dr ?_) | (with_reducible refine RdI.drN ?_ _) | (with_reducible refine Rd.alloc ?_ _) | (with_reducible refine Rd.drew ?_) | (with_reducible refine Rd.drewN ?_ _))) hg (fun hn b off e h2 => by have := D_a.out hn b off e; have := LU_x.out b h2.symm; omega))
  replace O_x := hide (show World.ownsRow w6 w.heap.size 3 1 (.slice A_x n_x c_x) n_x ((marksI 1 n_x).map (Value.int .i64)) from ho)
  clear ho hg
  clear O_x LU_x
  go_wp2_with fail
  refine (eqIntS_same A_g A_W n_g c_g n_W c_W (sweepK z1 a h) _ (by omega) (by repeat (first | exact Rd.of_own O_g.out | (with_reducible refine RdI.al ?_ _) | (with_reducible refine RdI.dr ?_) | (with_reducible refine RdI.drN ?_ _) | (with_reducible refine Rd.alloc ?_ _) | (with_reducible refine Rd.drew ?_) | (with_reducible refine Rd.drewN ?_ _))) (by repeat (first | exact Rd.of_own O_W.out | (with_reducible refine RdI.al ?_ _) | (with_reducible refine RdI.dr ?_) | (with_reducible refine RdI.drN ?_ _) | (with_reducible refine Rd.alloc ?_ _) | (with_reducible refine Rd.drew ?_) | (with_reducible refine Rd.drewN ?_ _)))).mono ?_
  rintro e wq3 ⟨rfl, q3, rfl⟩
  go_wp2_with fail
  refine (markIntS_any _ A_g n_g c_g 1 _ _ (by omega) (by omega) (by omega) (by repeat (first | exact O_g.out | (with_reducible refine World.ownsRow.alloc ?_ _) | (with_reducible refine World.ownsRow.drew ?_) | (with_reducible refine own_drewN ?_ _)))).mono ?_
  rintro e w7 ⟨rfl, ho, hg⟩
  have hz7 := hg.size
  try simp at hz7
  have Hb7 := hide (below_of_only (B := w.heap.size) hg (by (first | omega | (simp; omega))) (fun k hk => by have := LU_g.out k hk; omega))
  replace O_W := hide (show World.ownsRow w7 w.heap.size 3 1 (.slice A_W n_W c_W) n_W ((sweepK z1 a h).map (Value.int .i64)) from own_kept2 (by repeat (first | exact O_W.out | (with_reducible refine World.ownsRow.alloc ?_ _) | (with_reducible refine World.ownsRow.drew ?_) | (with_reducible refine own_drewN ?_ _))) hg (fun k h1 h2 => by have := LU_W.out k h1; have := LU_g.out k h2; omega))
  replace R_a := hide (show Rd w7 1 A1 n1 (z1.map (Value.int .i64)) from Rd.grown (by repeat (first | exact R_a.out | exact Rd.of_own O_a.out | (with_reducible refine RdI.al ?_ _) | (with_reducible refine RdI.dr ?_) | (with_reducible refine RdI.drN ?_ _) | (with_reducible refine Rd.alloc ?_ _) | (with_reducible refine Rd.drew ?_) | (with_reducible refine Rd.drewN ?_ _))) hg (fun hn b off e h2 => by have := D_a.out hn b off e; have := LU_g.out b h2.symm; omega))
  replace O_g := hide (show World.ownsRow w7 w.heap.size 3 1 (.slice A_g n_g c_g) n_g ((marksI 1 n_g).map (Value.int .i64)) from ho)
  clear ho hg
  go_wp2_with fail
  refine (heldIntS_ok A_g n_g c_g 1 _ (by omega) (by omega) (by omega) (by repeat (first | exact Rd.of_own O_g.out | (with_reducible refine RdI.al ?_ _) | (with_reducible refine RdI.dr ?_) | (with_reducible refine RdI.drN ?_ _) | (with_reducible refine Rd.alloc ?_ _) | (with_reducible refine Rd.drew ?_) | (with_reducible refine Rd.drewN ?_ _)))).mono ?_
  rintro e wq4 ⟨rfl, q4, rfl⟩
  go_wp2_with fail
  refine (toIntS_any A1 n1 c1 z1 _ (by omega) (by repeat (first | exact R_a.out | exact Rd.of_own O_a.out | (with_reducible refine RdI.al ?_ _) | (with_reducible refine RdI.dr ?_) | (with_reducible refine RdI.drN ?_ _) | (with_reducible refine Rd.alloc ?_ _) | (with_reducible refine Rd.drew ?_) | (with_reducible refine Rd.drewN ?_ _)))).mono ?_
  rintro e w8 ⟨A_q, n_q, c_q, rfl, ho, hb⟩
  have hz8 := hb.size
  try simp at hz8
  replace R_a := hide (show Rd w8 1 A1 n1 (z1.map (Value.int .i64)) from Rd.below (by repeat (first | exact R_a.out | (with_reducible refine Rd.alloc ?_ _) | (with_reducible refine Rd.drew ?_) | (with_reducible refine Rd.drewN ?_ _))) hb (Nat.le_refl _))
  replace O_W := hide (show World.ownsRow w8 w.heap.size 3 1 (.slice A_W n_W c_W) n_W ((sweepK z1 a h).map (Value.int .i64)) from own_below (by repeat (first | exact O_W.out | (with_reducible refine World.ownsRow.alloc ?_ _) | (with_reducible refine World.ownsRow.drew ?_) | (with_reducible refine own_drewN ?_ _))) hb (Nat.le_refl _))
  replace O_g := hide (show World.ownsRow w8 w.heap.size 3 1 (.slice A_g n_g c_g) n_g ((marksI 1 n_g).map (Value.int .i64)) from own_below (by repeat (first | exact O_g.out | (with_reducible refine World.ownsRow.alloc ?_ _) | (with_reducible refine World.ownsRow.drew ?_) | (with_reducible refine own_drewN ?_ _))) hb (Nat.le_refl _))
  have Hb8 := hide hb
  clear hb
  have LU_q := hide (fun k h => (⟨(own_lt_old ho k h).1, by have := (own_lt_old ho k h).2; (first | omega | (simp at this; omega))⟩ : k < w8.heap.size ∧ w7.heap.size ≤ k))
  have O_q := hide (show World.ownsRow w8 w.heap.size 3 1 (.slice A_q n_q c_q) n_q (z1.map (Value.int .i64)) from own_base ho (by first | omega | (simp; omega)))
  clear ho
  have N_q : n_q ≤ n1 := by have h := RdLEN_int (Rd.of_own O_q.out); have := Hl1.out; omega
  go_wp2_with fail
  refine (SweepOrder_i A_q n_q c_q z1 a h _ (by omega) (Sl.of_own O_q.out) (by repeat (first | exact Rd.of_own O_q.out | (with_reducible refine RdI.al ?_ _) | (with_reducible refine RdI.dr ?_) | (with_reducible refine RdI.drN ?_ _) | (with_reducible refine Rd.alloc ?_ _) | (with_reducible refine Rd.drew ?_) | (with_reducible refine Rd.drewN ?_ _)))).mono ?_
  rintro e w9 ⟨A_h, n_h, c_h, rfl, ho, hb⟩
  have hz9 := hb.size
  try simp at hz9
  replace R_a := hide (show Rd w9 1 A1 n1 (z1.map (Value.int .i64)) from Rd.below (by repeat (first | exact R_a.out | (with_reducible refine Rd.alloc ?_ _) | (with_reducible refine Rd.drew ?_) | (with_reducible refine Rd.drewN ?_ _))) hb (Nat.le_refl _))
  replace O_W := hide (show World.ownsRow w9 w.heap.size 3 1 (.slice A_W n_W c_W) n_W ((sweepK z1 a h).map (Value.int .i64)) from own_below (by repeat (first | exact O_W.out | (with_reducible refine World.ownsRow.alloc ?_ _) | (with_reducible refine World.ownsRow.drew ?_) | (with_reducible refine own_drewN ?_ _))) hb (Nat.le_refl _))
  replace O_g := hide (show World.ownsRow w9 w.heap.size 3 1 (.slice A_g n_g c_g) n_g ((marksI 1 n_g).map (Value.int .i64)) from own_below (by repeat (first | exact O_g.out | (with_reducible refine World.ownsRow.alloc ?_ _) | (with_reducible refine World.ownsRow.drew ?_) | (with_reducible refine own_drewN ?_ _))) hb (Nat.le_refl _))
  replace O_q := hide (show World.ownsRow w9 w.heap.size 3 1 (.slice A_q n_q c_q) n_q (z1.map (Value.int .i64)) from own_below (by repeat (first | exact O_q.out | (with_reducible refine World.ownsRow.alloc ?_ _) | (with_reducible refine World.ownsRow.drew ?_) | (with_reducible refine own_drewN ?_ _))) hb (Nat.le_refl _))
  have Hb9 := hide hb
  clear hb
  have LU_h := hide (fun k h => (⟨(own_lt_old ho k h).1, by have := (own_lt_old ho k h).2; (first | omega | (simp at this; omega))⟩ : k < w9.heap.size ∧ w8.heap.size ≤ k))
  have O_h := hide (show World.ownsRow w9 w.heap.size 3 1 (.slice A_h n_h c_h) n_h ((sweepK z1 a h).map (Value.int .i64)) from own_base ho (by first | omega | (simp; omega)))
  clear ho
  have N_h : n_h ≤ 12 := by have h := RdLEN_int (Rd.of_own O_h.out); omega
  go_wp2_with fail
  refine (eqIntS_same A_h A_W n_h c_h n_W c_W (sweepK z1 a h) _ (by omega) (by repeat (first | exact Rd.of_own O_h.out | (with_reducible refine RdI.al ?_ _) | (with_reducible refine RdI.dr ?_) | (with_reducible refine RdI.drN ?_ _) | (with_reducible refine Rd.alloc ?_ _) | (with_reducible refine Rd.drew ?_) | (with_reducible refine Rd.drewN ?_ _))) (by repeat (first | exact Rd.of_own O_W.out | (with_reducible refine RdI.al ?_ _) | (with_reducible refine RdI.dr ?_) | (with_reducible refine RdI.drN ?_ _) | (with_reducible refine Rd.alloc ?_ _) | (with_reducible refine Rd.drew ?_) | (with_reducible refine Rd.drewN ?_ _)))).mono ?_
  rintro e wq5 ⟨rfl, q5, rfl⟩
  go_wp2_with fail
  refine (heldIntS_ok A_g n_g c_g 1 _ (by omega) (by omega) (by omega) (by repeat (first | exact Rd.of_own O_g.out | (with_reducible refine RdI.al ?_ _) | (with_reducible refine RdI.dr ?_) | (with_reducible refine RdI.drN ?_ _) | (with_reducible refine Rd.alloc ?_ _) | (with_reducible refine Rd.drew ?_) | (with_reducible refine Rd.drewN ?_ _)))).mono ?_
  rintro e wq6 ⟨rfl, q6, rfl⟩
  go_wp2_with fail
  go_ret
  exact ⟨rfl, (by repeat (first | (with_reducible exact Below.refl _ _) | (with_reducible refine Below.drew ?_) | (with_reducible refine below_drewN ?_ _) | ((with_reducible refine Below.alloc ?_ ?_ _); rotate_left; (focus (first | (simp; done) | (simp; omega) | omega))) | ((with_reducible refine Below.setCell ?_ ?_ _); rotate_left; (focus (first | (simp; done) | (simp; omega) | omega))) | ((with_reducible refine Below.trans ?_ (Below.mono Hb.out ?_)); rotate_left; (focus (first | (simp; done) | (simp; omega) | omega))) | ((with_reducible refine Below.trans ?_ (Below.mono Hb16.out ?_)); rotate_left; (focus (first | (simp; done) | (simp; omega) | omega))) | ((with_reducible refine Below.trans ?_ (Below.mono Hb15.out ?_)); rotate_left; (focus (first | (simp; done) | (simp; omega) | omega))) | ((with_reducible refine Below.trans ?_ (Below.mono Hb14.out ?_)); rotate_left; (focus (first | (simp; done) | (simp; omega) | omega))) | ((with_reducible refine Below.trans ?_ (Below.mono Hb13.out ?_)); rotate_left; (focus (first | (simp; done) | (simp; omega) | omega))) | ((with_reducible refine Below.trans ?_ (Below.mono Hb12.out ?_)); rotate_left; (focus (first | (simp; done) | (simp; omega) | omega))) | ((with_reducible refine Below.trans ?_ (Below.mono Hb11.out ?_)); rotate_left; (focus (first | (simp; done) | (simp; omega) | omega))) | ((with_reducible refine Below.trans ?_ (Below.mono Hb10.out ?_)); rotate_left; (focus (first | (simp; done) | (simp; omega) | omega))) | ((with_reducible refine Below.trans ?_ (Below.mono Hb9.out ?_)); rotate_left; (focus (first | (simp; done) | (simp; omega) | omega))) | ((with_reducible refine Below.trans ?_ (Below.mono Hb8.out ?_)); rotate_left; (focus (first | (simp; done) | (simp; omega) | omega))) | ((with_reducible refine Below.trans ?_ (Below.mono Hb7.out ?_)); rotate_left; (focus (first | (simp; done) | (simp; omega) | omega))) | ((with_reducible refine Below.trans ?_ (Below.mono Hb6.out ?_)); rotate_left; (focus (first | (simp; done) | (simp; omega) | omega))) | ((with_reducible refine Below.trans ?_ (Below.mono Hb5.out ?_)); rotate_left; (focus (first | (simp; done) | (simp; omega) | omega))) | ((with_reducible refine Below.trans ?_ (Below.mono Hb4.out ?_)); rotate_left; (focus (first | (simp; done) | (simp; omega) | omega))) | ((with_reducible refine Below.trans ?_ (Below.mono Hb3.out ?_)); rotate_left; (focus (first | (simp; done) | (simp; omega) | omega))) | ((with_reducible refine Below.trans ?_ (Below.mono Hb2.out ?_)); rotate_left; (focus (first | (simp; done) | (simp; omega) | omega))) | ((with_reducible refine Below.trans ?_ (Below.mono Hb1.out ?_)); rotate_left; (focus (first | (simp; done) | (simp; omega) | omega))) | ((with_reducible refine Below.trans ?_ (below_of_only Hg16.out ?_ ?_)); rotate_left; (focus (first | (simp; done) | (simp; omega) | omega)); (intro k hk; cases hk; omega)) | ((with_reducible refine Below.trans ?_ (below_of_only Hg15.out ?_ ?_)); rotate_left; (focus (first | (simp; done) | (simp; omega) | omega)); (intro k hk; cases hk; omega)) | ((with_reducible refine Below.trans ?_ (below_of_only Hg14.out ?_ ?_)); rotate_left; (focus (first | (simp; done) | (simp; omega) | omega)); (intro k hk; cases hk; omega)) | ((with_reducible refine Below.trans ?_ (below_of_only Hg13.out ?_ ?_)); rotate_left; (focus (first | (simp; done) | (simp; omega) | omega)); (intro k hk; cases hk; omega)) | ((with_reducible refine Below.trans ?_ (below_of_only Hg12.out ?_ ?_)); rotate_left; (focus (first | (simp; done) | (simp; omega) | omega)); (intro k hk; cases hk; omega)) | ((with_reducible refine Below.trans ?_ (below_of_only Hg11.out ?_ ?_)); rotate_left; (focus (first | (simp; done) | (simp; omega) | omega)); (intro k hk; cases hk; omega)) | ((with_reducible refine Below.trans ?_ (below_of_only Hg10.out ?_ ?_)); rotate_left; (focus (first | (simp; done) | (simp; omega) | omega)); (intro k hk; cases hk; omega)) | ((with_reducible refine Below.trans ?_ (below_of_only Hg9.out ?_ ?_)); rotate_left; (focus (first | (simp; done) | (simp; omega) | omega)); (intro k hk; cases hk; omega)) | ((with_reducible refine Below.trans ?_ (below_of_only Hg8.out ?_ ?_)); rotate_left; (focus (first | (simp; done) | (simp; omega) | omega)); (intro k hk; cases hk; omega)) | ((with_reducible refine Below.trans ?_ (below_of_only Hg7.out ?_ ?_)); rotate_left; (focus (first | (simp; done) | (simp; omega) | omega)); (intro k hk; cases hk; omega)) | ((with_reducible refine Below.trans ?_ (below_of_only Hg6.out ?_ ?_)); rotate_left; (focus (first | (simp; done) | (simp; omega) | omega)); (intro k hk; cases hk; omega)) | ((with_reducible refine Below.trans ?_ (below_of_only Hg5.out ?_ ?_)); rotate_left; (focus (first | (simp; done) | (simp; omega) | omega)); (intro k hk; cases hk; omega)) | ((with_reducible refine Below.trans ?_ (below_of_only Hg4.out ?_ ?_)); rotate_left; (focus (first | (simp; done) | (simp; omega) | omega)); (intro k hk; cases hk; omega)) | ((with_reducible refine Below.trans ?_ (below_of_only Hg3.out ?_ ?_)); rotate_left; (focus (first | (simp; done) | (simp; omega) | omega)); (intro k hk; cases hk; omega)) | ((with_reducible refine Below.trans ?_ (below_of_only Hg2.out ?_ ?_)); rotate_left; (focus (first | (simp; done) | (simp; omega) | omega)); (intro k hk; cases hk; omega)) | ((with_reducible refine Below.trans ?_ (below_of_only Hg1.out ?_ ?_)); rotate_left; (focus (first | (simp; done) | (simp; omega) | omega)); (intro k hk; cases hk; omega))))⟩
set_option maxHeartbeats 4000000 in
theorem fnExactNextStop_walk (A1 : Option Addr) (n1 c1 : Nat) (z1 : List Int) (a h : Int) (w : World) (_ : n1 ≤ c1) (r1 : RdI w .i64 A1 n1 z1) (_ : ∀ z ∈ z1, (Lit.int .i64 z).wf = true) (_ : (Lit.int .i64 a).wf = true) (_ : (Lit.int .i64 h).wf = true) :
    Calls Try.prog 4 #[.slice A1 n1 c1, .int .i64 a, .int .i64 h] w fun e w' => e = .returned (.bool true) ∧ Below w.heap.size w w' := by
  obtain ⟨f, hf⟩ : ∃ f, nextF z1 a h = f := ⟨_, rfl⟩
  obtain ⟨b, hb⟩ : ∃ b, nextB z1 a h = b := ⟨_, rfl⟩
  have Hf := hide hf
  have HB := hide hb
  clear hf hb
  have R_a := hide r1
  have D_a := hide (RdI.old r1)
  have Hl1 := hide (RdI.len r1)
  clear r1
  by_cases h1 : 1048576 < n1
  · have h1' : (1048576 : Int) < (n1 : Int) := by omega
    go_enter Try.func4, Try.ntmps4
    go_wp2_with fail
    go_ret
    exact ⟨rfl, Below.refl _ _⟩
  have h1' : (n1 : Int) ≤ 1048576 := by omega
  go_enter Try.func4, Try.ntmps4
  go_wp2_with fail
  refine (toIntS_any A1 n1 c1 z1 _ (by omega) (by repeat (first | exact R_a.out | exact Rd.of_own O_a.out | (with_reducible refine RdI.al ?_ _) | (with_reducible refine RdI.dr ?_) | (with_reducible refine RdI.drN ?_ _) | (with_reducible refine Rd.alloc ?_ _) | (with_reducible refine Rd.drew ?_) | (with_reducible refine Rd.drewN ?_ _)))).mono ?_
  rintro e w1 ⟨A_p, n_p, c_p, rfl, ho, hb⟩
  have hz1 := hb.size
  try simp at hz1
  replace R_a := hide (show Rd w1 1 A1 n1 (z1.map (Value.int .i64)) from Rd.below (by repeat (first | exact R_a.out | (with_reducible refine Rd.alloc ?_ _) | (with_reducible refine Rd.drew ?_) | (with_reducible refine Rd.drewN ?_ _))) hb (Nat.le_refl _))
  have Hb1 := hide hb
  clear hb
  have LU_p := hide (fun k h => (⟨(own_lt_old ho k h).1, by have := (own_lt_old ho k h).2; (first | omega | (simp at this; omega))⟩ : k < w1.heap.size ∧ w.heap.size ≤ k))
  have O_p := hide (show World.ownsRow w1 w.heap.size 3 1 (.slice A_p n_p c_p) n_p (z1.map (Value.int .i64)) from own_base ho (by first | omega | (simp; omega)))
  clear ho
  have N_p : n_p ≤ n1 := by have h := RdLEN_int (Rd.of_own O_p.out); have := Hl1.out; omega
  go_wp2_with fail
  refine (NextStop_s A_p n_p c_p z1 a h f b _ (by omega) (by repeat (first | exact Rd.of_own O_p.out | (with_reducible refine RdI.al ?_ _) | (with_reducible refine RdI.dr ?_) | (with_reducible refine RdI.drN ?_ _) | (with_reducible refine Rd.alloc ?_ _) | (with_reducible refine Rd.drew ?_) | (with_reducible refine Rd.drewN ?_ _))) Hf.out HB.out).mono ?_
  rintro e w2 ⟨rfl, hb⟩
  have hz2 := hb.size
  try simp at hz2
  replace R_a := hide (show Rd w2 1 A1 n1 (z1.map (Value.int .i64)) from Rd.below (by repeat (first | exact R_a.out | (with_reducible refine Rd.alloc ?_ _) | (with_reducible refine Rd.drew ?_) | (with_reducible refine Rd.drewN ?_ _))) hb (Nat.le_refl _))
  replace O_p := hide (show World.ownsRow w2 w.heap.size 3 1 (.slice A_p n_p c_p) n_p (z1.map (Value.int .i64)) from own_below (by repeat (first | exact O_p.out | (with_reducible refine World.ownsRow.alloc ?_ _) | (with_reducible refine World.ownsRow.drew ?_) | (with_reducible refine own_drewN ?_ _))) hb (Nat.le_refl _))
  have Hb2 := hide hb
  clear hb
  clear O_p LU_p
  go_wp2_with fail
  refine (toIntS_any A1 n1 c1 z1 _ (by omega) (by repeat (first | exact R_a.out | exact Rd.of_own O_a.out | (with_reducible refine RdI.al ?_ _) | (with_reducible refine RdI.dr ?_) | (with_reducible refine RdI.drN ?_ _) | (with_reducible refine Rd.alloc ?_ _) | (with_reducible refine Rd.drew ?_) | (with_reducible refine Rd.drewN ?_ _)))).mono ?_
  rintro e w3 ⟨A_x, n_x, c_x, rfl, ho, hb⟩
  have hz3 := hb.size
  try simp at hz3
  replace R_a := hide (show Rd w3 1 A1 n1 (z1.map (Value.int .i64)) from Rd.below (by repeat (first | exact R_a.out | (with_reducible refine Rd.alloc ?_ _) | (with_reducible refine Rd.drew ?_) | (with_reducible refine Rd.drewN ?_ _))) hb (Nat.le_refl _))
  have Hb3 := hide hb
  clear hb
  have LU_x := hide (fun k h => (⟨(own_lt_old ho k h).1, by have := (own_lt_old ho k h).2; (first | omega | (simp at this; omega))⟩ : k < w3.heap.size ∧ w2.heap.size ≤ k))
  have O_x := hide (show World.ownsRow w3 w.heap.size 3 1 (.slice A_x n_x c_x) n_x (z1.map (Value.int .i64)) from own_base ho (by first | omega | (simp; omega)))
  clear ho
  have N_x : n_x ≤ n1 := by have h := RdLEN_int (Rd.of_own O_x.out); have := Hl1.out; omega
  go_wp2_with fail
  refine (NextStop_i A_x n_x c_x z1 a h f b _ (by omega) (Sl.of_own O_x.out) (by repeat (first | exact Rd.of_own O_x.out | (with_reducible refine RdI.al ?_ _) | (with_reducible refine RdI.dr ?_) | (with_reducible refine RdI.drN ?_ _) | (with_reducible refine Rd.alloc ?_ _) | (with_reducible refine Rd.drew ?_) | (with_reducible refine Rd.drewN ?_ _))) Hf.out HB.out).mono ?_
  rintro e w4 ⟨rfl, hb⟩
  have hz4 := hb.size
  try simp at hz4
  replace R_a := hide (show Rd w4 1 A1 n1 (z1.map (Value.int .i64)) from Rd.below (by repeat (first | exact R_a.out | (with_reducible refine Rd.alloc ?_ _) | (with_reducible refine Rd.drew ?_) | (with_reducible refine Rd.drewN ?_ _))) hb (Nat.le_refl _))
  replace O_x := hide (show World.ownsRow w4 w.heap.size 3 1 (.slice A_x n_x c_x) n_x (z1.map (Value.int .i64)) from own_below (by repeat (first | exact O_x.out | (with_reducible refine World.ownsRow.alloc ?_ _) | (with_reducible refine World.ownsRow.drew ?_) | (with_reducible refine own_drewN ?_ _))) hb (Nat.le_refl _))
  have Hb4 := hide hb
  clear hb
  go_wp2_with fail
  refine (toIntS_any A1 n1 c1 z1 _ (by omega) (by repeat (first | exact R_a.out | exact Rd.of_own O_a.out | (with_reducible refine RdI.al ?_ _) | (with_reducible refine RdI.dr ?_) | (with_reducible refine RdI.drN ?_ _) | (with_reducible refine Rd.alloc ?_ _) | (with_reducible refine Rd.drew ?_) | (with_reducible refine Rd.drewN ?_ _)))).mono ?_
  rintro e w5 ⟨A_y, n_y, c_y, rfl, ho, hb⟩
  have hz5 := hb.size
  try simp at hz5
  replace R_a := hide (show Rd w5 1 A1 n1 (z1.map (Value.int .i64)) from Rd.below (by repeat (first | exact R_a.out | (with_reducible refine Rd.alloc ?_ _) | (with_reducible refine Rd.drew ?_) | (with_reducible refine Rd.drewN ?_ _))) hb (Nat.le_refl _))
  replace O_x := hide (show World.ownsRow w5 w.heap.size 3 1 (.slice A_x n_x c_x) n_x (z1.map (Value.int .i64)) from own_below (by repeat (first | exact O_x.out | (with_reducible refine World.ownsRow.alloc ?_ _) | (with_reducible refine World.ownsRow.drew ?_) | (with_reducible refine own_drewN ?_ _))) hb (Nat.le_refl _))
  have Hb5 := hide hb
  clear hb
  have LU_y := hide (fun k h => (⟨(own_lt_old ho k h).1, by have := (own_lt_old ho k h).2; (first | omega | (simp at this; omega))⟩ : k < w5.heap.size ∧ w4.heap.size ≤ k))
  have O_y := hide (show World.ownsRow w5 w.heap.size 3 1 (.slice A_y n_y c_y) n_y (z1.map (Value.int .i64)) from own_base ho (by first | omega | (simp; omega)))
  clear ho
  have N_y : n_y ≤ n1 := by have h := RdLEN_int (Rd.of_own O_y.out); have := Hl1.out; omega
  go_wp2_with fail
  refine (eqIntS_same A_x A_y n_x c_x n_y c_y (z1) _ (by omega) (by repeat (first | exact Rd.of_own O_x.out | (with_reducible refine RdI.al ?_ _) | (with_reducible refine RdI.dr ?_) | (with_reducible refine RdI.drN ?_ _) | (with_reducible refine Rd.alloc ?_ _) | (with_reducible refine Rd.drew ?_) | (with_reducible refine Rd.drewN ?_ _))) (by repeat (first | exact Rd.of_own O_y.out | (with_reducible refine RdI.al ?_ _) | (with_reducible refine RdI.dr ?_) | (with_reducible refine RdI.drN ?_ _) | (with_reducible refine Rd.alloc ?_ _) | (with_reducible refine Rd.drew ?_) | (with_reducible refine Rd.drewN ?_ _)))).mono ?_
  rintro e wq1 ⟨rfl, q1, rfl⟩
  go_wp2_with fail
  go_ret
  exact ⟨rfl, (by repeat (first | (with_reducible exact Below.refl _ _) | (with_reducible refine Below.drew ?_) | (with_reducible refine below_drewN ?_ _) | ((with_reducible refine Below.alloc ?_ ?_ _); rotate_left; (focus (first | (simp; done) | (simp; omega) | omega))) | ((with_reducible refine Below.setCell ?_ ?_ _); rotate_left; (focus (first | (simp; done) | (simp; omega) | omega))) | ((with_reducible refine Below.trans ?_ (Below.mono Hb.out ?_)); rotate_left; (focus (first | (simp; done) | (simp; omega) | omega))) | ((with_reducible refine Below.trans ?_ (Below.mono Hb16.out ?_)); rotate_left; (focus (first | (simp; done) | (simp; omega) | omega))) | ((with_reducible refine Below.trans ?_ (Below.mono Hb15.out ?_)); rotate_left; (focus (first | (simp; done) | (simp; omega) | omega))) | ((with_reducible refine Below.trans ?_ (Below.mono Hb14.out ?_)); rotate_left; (focus (first | (simp; done) | (simp; omega) | omega))) | ((with_reducible refine Below.trans ?_ (Below.mono Hb13.out ?_)); rotate_left; (focus (first | (simp; done) | (simp; omega) | omega))) | ((with_reducible refine Below.trans ?_ (Below.mono Hb12.out ?_)); rotate_left; (focus (first | (simp; done) | (simp; omega) | omega))) | ((with_reducible refine Below.trans ?_ (Below.mono Hb11.out ?_)); rotate_left; (focus (first | (simp; done) | (simp; omega) | omega))) | ((with_reducible refine Below.trans ?_ (Below.mono Hb10.out ?_)); rotate_left; (focus (first | (simp; done) | (simp; omega) | omega))) | ((with_reducible refine Below.trans ?_ (Below.mono Hb9.out ?_)); rotate_left; (focus (first | (simp; done) | (simp; omega) | omega))) | ((with_reducible refine Below.trans ?_ (Below.mono Hb8.out ?_)); rotate_left; (focus (first | (simp; done) | (simp; omega) | omega))) | ((with_reducible refine Below.trans ?_ (Below.mono Hb7.out ?_)); rotate_left; (focus (first | (simp; done) | (simp; omega) | omega))) | ((with_reducible refine Below.trans ?_ (Below.mono Hb6.out ?_)); rotate_left; (focus (first | (simp; done) | (simp; omega) | omega))) | ((with_reducible refine Below.trans ?_ (Below.mono Hb5.out ?_)); rotate_left; (focus (first | (simp; done) | (simp; omega) | omega))) | ((with_reducible refine Below.trans ?_ (Below.mono Hb4.out ?_)); rotate_left; (focus (first | (simp; done) | (simp; omega) | omega))) | ((with_reducible refine Below.trans ?_ (Below.mono Hb3.out ?_)); rotate_left; (focus (first | (simp; done) | (simp; omega) | omega))) | ((with_reducible refine Below.trans ?_ (Below.mono Hb2.out ?_)); rotate_left; (focus (first | (simp; done) | (simp; omega) | omega))) | ((with_reducible refine Below.trans ?_ (Below.mono Hb1.out ?_)); rotate_left; (focus (first | (simp; done) | (simp; omega) | omega))) | ((with_reducible refine Below.trans ?_ (below_of_only Hg16.out ?_ ?_)); rotate_left; (focus (first | (simp; done) | (simp; omega) | omega)); (intro k hk; cases hk; omega)) | ((with_reducible refine Below.trans ?_ (below_of_only Hg15.out ?_ ?_)); rotate_left; (focus (first | (simp; done) | (simp; omega) | omega)); (intro k hk; cases hk; omega)) | ((with_reducible refine Below.trans ?_ (below_of_only Hg14.out ?_ ?_)); rotate_left; (focus (first | (simp; done) | (simp; omega) | omega)); (intro k hk; cases hk; omega)) | ((with_reducible refine Below.trans ?_ (below_of_only Hg13.out ?_ ?_)); rotate_left; (focus (first | (simp; done) | (simp; omega) | omega)); (intro k hk; cases hk; omega)) | ((with_reducible refine Below.trans ?_ (below_of_only Hg12.out ?_ ?_)); rotate_left; (focus (first | (simp; done) | (simp; omega) | omega)); (intro k hk; cases hk; omega)) | ((with_reducible refine Below.trans ?_ (below_of_only Hg11.out ?_ ?_)); rotate_left; (focus (first | (simp; done) | (simp; omega) | omega)); (intro k hk; cases hk; omega)) | ((with_reducible refine Below.trans ?_ (below_of_only Hg10.out ?_ ?_)); rotate_left; (focus (first | (simp; done) | (simp; omega) | omega)); (intro k hk; cases hk; omega)) | ((with_reducible refine Below.trans ?_ (below_of_only Hg9.out ?_ ?_)); rotate_left; (focus (first | (simp; done) | (simp; omega) | omega)); (intro k hk; cases hk; omega)) | ((with_reducible refine Below.trans ?_ (below_of_only Hg8.out ?_ ?_)); rotate_left; (focus (first | (simp; done) | (simp; omega) | omega)); (intro k hk; cases hk; omega)) | ((with_reducible refine Below.trans ?_ (below_of_only Hg7.out ?_ ?_)); rotate_left; (focus (first | (simp; done) | (simp; omega) | omega)); (intro k hk; cases hk; omega)) | ((with_reducible refine Below.trans ?_ (below_of_only Hg6.out ?_ ?_)); rotate_left; (focus (first | (simp; done) | (simp; omega) | omega)); (intro k hk; cases hk; omega)) | ((with_reducible refine Below.trans ?_ (below_of_only Hg5.out ?_ ?_)); rotate_left; (focus (first | (simp; done) | (simp; omega) | omega)); (intro k hk; cases hk; omega)) | ((with_reducible refine Below.trans ?_ (below_of_only Hg4.out ?_ ?_)); rotate_left; (focus (first | (simp; done) | (simp; omega) | omega)); (intro k hk; cases hk; omega)) | ((with_reducible refine Below.trans ?_ (below_of_only Hg3.out ?_ ?_)); rotate_left; (focus (first | (simp; done) | (simp; omega) | omega)); (intro k hk; cases hk; omega)) | ((with_reducible refine Below.trans ?_ (below_of_only Hg2.out ?_ ?_)); rotate_left; (focus (first | (simp; done) | (simp; omega) | omega)); (intro k hk; cases hk; omega)) | ((with_reducible refine Below.trans ?_ (below_of_only Hg1.out ?_ ?_)); rotate_left; (focus (first | (simp; done) | (simp; omega) | omega)); (intro k hk; cases hk; omega))))⟩
set_option maxHeartbeats 4000000 in
theorem fnExactBestHeading_walk (A1 : Option Addr) (n1 c1 : Nat) (z1 : List Int) (a : Int) (w : World) (_ : n1 ≤ c1) (r1 : RdI w .i64 A1 n1 z1) (_ : ∀ z ∈ z1, (Lit.int .i64 z).wf = true) (_ : (Lit.int .i64 a).wf = true) :
    Calls Try.prog 6 #[.slice A1 n1 c1, .int .i64 a] w fun e w' => e = .returned (.bool true) ∧ Below w.heap.size w w' := by
  obtain ⟨m, hm⟩ : ∃ m, bestK z1 a = m := ⟨_, rfl⟩
  have Hm := hide hm
  clear hm
  have R_a := hide r1
  have D_a := hide (RdI.old r1)
  have Hl1 := hide (RdI.len r1)
  clear r1
  by_cases h1 : 1048576 < n1
  · have h1' : (1048576 : Int) < (n1 : Int) := by omega
    go_enter Try.func6, Try.ntmps6
    go_wp2_with fail
    go_ret
    exact ⟨rfl, Below.refl _ _⟩
  have h1' : (n1 : Int) ≤ 1048576 := by omega
  go_enter Try.func6, Try.ntmps6
  go_wp2_with fail
  refine (toIntS_any A1 n1 c1 z1 _ (by omega) (by repeat (first | exact R_a.out | exact Rd.of_own O_a.out | (with_reducible refine RdI.al ?_ _) | (with_reducible refine RdI.dr ?_) | (with_reducible refine RdI.drN ?_ _) | (with_reducible refine Rd.alloc ?_ _) | (with_reducible refine Rd.drew ?_) | (with_reducible refine Rd.drewN ?_ _)))).mono ?_
  rintro e w1 ⟨A_p, n_p, c_p, rfl, ho, hb⟩
  have hz1 := hb.size
  try simp at hz1
  replace R_a := hide (show Rd w1 1 A1 n1 (z1.map (Value.int .i64)) from Rd.below (by repeat (first | exact R_a.out | (with_reducible refine Rd.alloc ?_ _) | (with_reducible refine Rd.drew ?_) | (with_reducible refine Rd.drewN ?_ _))) hb (Nat.le_refl _))
  have Hb1 := hide hb
  clear hb
  have LU_p := hide (fun k h => (⟨(own_lt_old ho k h).1, by have := (own_lt_old ho k h).2; (first | omega | (simp at this; omega))⟩ : k < w1.heap.size ∧ w.heap.size ≤ k))
  have O_p := hide (show World.ownsRow w1 w.heap.size 3 1 (.slice A_p n_p c_p) n_p (z1.map (Value.int .i64)) from own_base ho (by first | omega | (simp; omega)))
  clear ho
  have N_p : n_p ≤ n1 := by have h := RdLEN_int (Rd.of_own O_p.out); have := Hl1.out; omega
  go_wp2_with fail
  refine (BestHeading_s A_p n_p c_p z1 a m _ (by omega) (by repeat (first | exact Rd.of_own O_p.out | (with_reducible refine RdI.al ?_ _) | (with_reducible refine RdI.dr ?_) | (with_reducible refine RdI.drN ?_ _) | (with_reducible refine Rd.alloc ?_ _) | (with_reducible refine Rd.drew ?_) | (with_reducible refine Rd.drewN ?_ _))) Hm.out).mono ?_
  rintro e w2 ⟨rfl, hb⟩
  have hz2 := hb.size
  try simp at hz2
  replace R_a := hide (show Rd w2 1 A1 n1 (z1.map (Value.int .i64)) from Rd.below (by repeat (first | exact R_a.out | (with_reducible refine Rd.alloc ?_ _) | (with_reducible refine Rd.drew ?_) | (with_reducible refine Rd.drewN ?_ _))) hb (Nat.le_refl _))
  replace O_p := hide (show World.ownsRow w2 w.heap.size 3 1 (.slice A_p n_p c_p) n_p (z1.map (Value.int .i64)) from own_below (by repeat (first | exact O_p.out | (with_reducible refine World.ownsRow.alloc ?_ _) | (with_reducible refine World.ownsRow.drew ?_) | (with_reducible refine own_drewN ?_ _))) hb (Nat.le_refl _))
  have Hb2 := hide hb
  clear hb
  clear O_p LU_p
  go_wp2_with fail
  refine (toIntS_any A1 n1 c1 z1 _ (by omega) (by repeat (first | exact R_a.out | exact Rd.of_own O_a.out | (with_reducible refine RdI.al ?_ _) | (with_reducible refine RdI.dr ?_) | (with_reducible refine RdI.drN ?_ _) | (with_reducible refine Rd.alloc ?_ _) | (with_reducible refine Rd.drew ?_) | (with_reducible refine Rd.drewN ?_ _)))).mono ?_
  rintro e w3 ⟨A_x, n_x, c_x, rfl, ho, hb⟩
  have hz3 := hb.size
  try simp at hz3
  replace R_a := hide (show Rd w3 1 A1 n1 (z1.map (Value.int .i64)) from Rd.below (by repeat (first | exact R_a.out | (with_reducible refine Rd.alloc ?_ _) | (with_reducible refine Rd.drew ?_) | (with_reducible refine Rd.drewN ?_ _))) hb (Nat.le_refl _))
  have Hb3 := hide hb
  clear hb
  have LU_x := hide (fun k h => (⟨(own_lt_old ho k h).1, by have := (own_lt_old ho k h).2; (first | omega | (simp at this; omega))⟩ : k < w3.heap.size ∧ w2.heap.size ≤ k))
  have O_x := hide (show World.ownsRow w3 w.heap.size 3 1 (.slice A_x n_x c_x) n_x (z1.map (Value.int .i64)) from own_base ho (by first | omega | (simp; omega)))
  clear ho
  have N_x : n_x ≤ n1 := by have h := RdLEN_int (Rd.of_own O_x.out); have := Hl1.out; omega
  go_wp2_with fail
  refine (BestHeading_i A_x n_x c_x z1 a m _ (by omega) (Sl.of_own O_x.out) (by repeat (first | exact Rd.of_own O_x.out | (with_reducible refine RdI.al ?_ _) | (with_reducible refine RdI.dr ?_) | (with_reducible refine RdI.drN ?_ _) | (with_reducible refine Rd.alloc ?_ _) | (with_reducible refine Rd.drew ?_) | (with_reducible refine Rd.drewN ?_ _))) Hm.out).mono ?_
  rintro e w4 ⟨rfl, hb⟩
  have hz4 := hb.size
  try simp at hz4
  replace R_a := hide (show Rd w4 1 A1 n1 (z1.map (Value.int .i64)) from Rd.below (by repeat (first | exact R_a.out | (with_reducible refine Rd.alloc ?_ _) | (with_reducible refine Rd.drew ?_) | (with_reducible refine Rd.drewN ?_ _))) hb (Nat.le_refl _))
  replace O_x := hide (show World.ownsRow w4 w.heap.size 3 1 (.slice A_x n_x c_x) n_x (z1.map (Value.int .i64)) from own_below (by repeat (first | exact O_x.out | (with_reducible refine World.ownsRow.alloc ?_ _) | (with_reducible refine World.ownsRow.drew ?_) | (with_reducible refine own_drewN ?_ _))) hb (Nat.le_refl _))
  have Hb4 := hide hb
  clear hb
  go_wp2_with fail
  refine (toIntS_any A1 n1 c1 z1 _ (by omega) (by repeat (first | exact R_a.out | exact Rd.of_own O_a.out | (with_reducible refine RdI.al ?_ _) | (with_reducible refine RdI.dr ?_) | (with_reducible refine RdI.drN ?_ _) | (with_reducible refine Rd.alloc ?_ _) | (with_reducible refine Rd.drew ?_) | (with_reducible refine Rd.drewN ?_ _)))).mono ?_
  rintro e w5 ⟨A_y, n_y, c_y, rfl, ho, hb⟩
  have hz5 := hb.size
  try simp at hz5
  replace R_a := hide (show Rd w5 1 A1 n1 (z1.map (Value.int .i64)) from Rd.below (by repeat (first | exact R_a.out | (with_reducible refine Rd.alloc ?_ _) | (with_reducible refine Rd.drew ?_) | (with_reducible refine Rd.drewN ?_ _))) hb (Nat.le_refl _))
  replace O_x := hide (show World.ownsRow w5 w.heap.size 3 1 (.slice A_x n_x c_x) n_x (z1.map (Value.int .i64)) from own_below (by repeat (first | exact O_x.out | (with_reducible refine World.ownsRow.alloc ?_ _) | (with_reducible refine World.ownsRow.drew ?_) | (with_reducible refine own_drewN ?_ _))) hb (Nat.le_refl _))
  have Hb5 := hide hb
  clear hb
  have LU_y := hide (fun k h => (⟨(own_lt_old ho k h).1, by have := (own_lt_old ho k h).2; (first | omega | (simp at this; omega))⟩ : k < w5.heap.size ∧ w4.heap.size ≤ k))
  have O_y := hide (show World.ownsRow w5 w.heap.size 3 1 (.slice A_y n_y c_y) n_y (z1.map (Value.int .i64)) from own_base ho (by first | omega | (simp; omega)))
  clear ho
  have N_y : n_y ≤ n1 := by have h := RdLEN_int (Rd.of_own O_y.out); have := Hl1.out; omega
  go_wp2_with fail
  refine (eqIntS_same A_x A_y n_x c_x n_y c_y (z1) _ (by omega) (by repeat (first | exact Rd.of_own O_x.out | (with_reducible refine RdI.al ?_ _) | (with_reducible refine RdI.dr ?_) | (with_reducible refine RdI.drN ?_ _) | (with_reducible refine Rd.alloc ?_ _) | (with_reducible refine Rd.drew ?_) | (with_reducible refine Rd.drewN ?_ _))) (by repeat (first | exact Rd.of_own O_y.out | (with_reducible refine RdI.al ?_ _) | (with_reducible refine RdI.dr ?_) | (with_reducible refine RdI.drN ?_ _) | (with_reducible refine Rd.alloc ?_ _) | (with_reducible refine Rd.drew ?_) | (with_reducible refine Rd.drewN ?_ _)))).mono ?_
  rintro e wq1 ⟨rfl, q1, rfl⟩
  go_wp2_with fail
  go_ret
  exact ⟨rfl, (by repeat (first | (with_reducible exact Below.refl _ _) | (with_reducible refine Below.drew ?_) | (with_reducible refine below_drewN ?_ _) | ((with_reducible refine Below.alloc ?_ ?_ _); rotate_left; (focus (first | (simp; done) | (simp; omega) | omega))) | ((with_reducible refine Below.setCell ?_ ?_ _); rotate_left; (focus (first | (simp; done) | (simp; omega) | omega))) | ((with_reducible refine Below.trans ?_ (Below.mono Hb.out ?_)); rotate_left; (focus (first | (simp; done) | (simp; omega) | omega))) | ((with_reducible refine Below.trans ?_ (Below.mono Hb16.out ?_)); rotate_left; (focus (first | (simp; done) | (simp; omega) | omega))) | ((with_reducible refine Below.trans ?_ (Below.mono Hb15.out ?_)); rotate_left; (focus (first | (simp; done) | (simp; omega) | omega))) | ((with_reducible refine Below.trans ?_ (Below.mono Hb14.out ?_)); rotate_left; (focus (first | (simp; done) | (simp; omega) | omega))) | ((with_reducible refine Below.trans ?_ (Below.mono Hb13.out ?_)); rotate_left; (focus (first | (simp; done) | (simp; omega) | omega))) | ((with_reducible refine Below.trans ?_ (Below.mono Hb12.out ?_)); rotate_left; (focus (first | (simp; done) | (simp; omega) | omega))) | ((with_reducible refine Below.trans ?_ (Below.mono Hb11.out ?_)); rotate_left; (focus (first | (simp; done) | (simp; omega) | omega))) | ((with_reducible refine Below.trans ?_ (Below.mono Hb10.out ?_)); rotate_left; (focus (first | (simp; done) | (simp; omega) | omega))) | ((with_reducible refine Below.trans ?_ (Below.mono Hb9.out ?_)); rotate_left; (focus (first | (simp; done) | (simp; omega) | omega))) | ((with_reducible refine Below.trans ?_ (Below.mono Hb8.out ?_)); rotate_left; (focus (first | (simp; done) | (simp; omega) | omega))) | ((with_reducible refine Below.trans ?_ (Below.mono Hb7.out ?_)); rotate_left; (focus (first | (simp; done) | (simp; omega) | omega))) | ((with_reducible refine Below.trans ?_ (Below.mono Hb6.out ?_)); rotate_left; (focus (first | (simp; done) | (simp; omega) | omega))) | ((with_reducible refine Below.trans ?_ (Below.mono Hb5.out ?_)); rotate_left; (focus (first | (simp; done) | (simp; omega) | omega))) | ((with_reducible refine Below.trans ?_ (Below.mono Hb4.out ?_)); rotate_left; (focus (first | (simp; done) | (simp; omega) | omega))) | ((with_reducible refine Below.trans ?_ (Below.mono Hb3.out ?_)); rotate_left; (focus (first | (simp; done) | (simp; omega) | omega))) | ((with_reducible refine Below.trans ?_ (Below.mono Hb2.out ?_)); rotate_left; (focus (first | (simp; done) | (simp; omega) | omega))) | ((with_reducible refine Below.trans ?_ (Below.mono Hb1.out ?_)); rotate_left; (focus (first | (simp; done) | (simp; omega) | omega))) | ((with_reducible refine Below.trans ?_ (below_of_only Hg16.out ?_ ?_)); rotate_left; (focus (first | (simp; done) | (simp; omega) | omega)); (intro k hk; cases hk; omega)) | ((with_reducible refine Below.trans ?_ (below_of_only Hg15.out ?_ ?_)); rotate_left; (focus (first | (simp; done) | (simp; omega) | omega)); (intro k hk; cases hk; omega)) | ((with_reducible refine Below.trans ?_ (below_of_only Hg14.out ?_ ?_)); rotate_left; (focus (first | (simp; done) | (simp; omega) | omega)); (intro k hk; cases hk; omega)) | ((with_reducible refine Below.trans ?_ (below_of_only Hg13.out ?_ ?_)); rotate_left; (focus (first | (simp; done) | (simp; omega) | omega)); (intro k hk; cases hk; omega)) | ((with_reducible refine Below.trans ?_ (below_of_only Hg12.out ?_ ?_)); rotate_left; (focus (first | (simp; done) | (simp; omega) | omega)); (intro k hk; cases hk; omega)) | ((with_reducible refine Below.trans ?_ (below_of_only Hg11.out ?_ ?_)); rotate_left; (focus (first | (simp; done) | (simp; omega) | omega)); (intro k hk; cases hk; omega)) | ((with_reducible refine Below.trans ?_ (below_of_only Hg10.out ?_ ?_)); rotate_left; (focus (first | (simp; done) | (simp; omega) | omega)); (intro k hk; cases hk; omega)) | ((with_reducible refine Below.trans ?_ (below_of_only Hg9.out ?_ ?_)); rotate_left; (focus (first | (simp; done) | (simp; omega) | omega)); (intro k hk; cases hk; omega)) | ((with_reducible refine Below.trans ?_ (below_of_only Hg8.out ?_ ?_)); rotate_left; (focus (first | (simp; done) | (simp; omega) | omega)); (intro k hk; cases hk; omega)) | ((with_reducible refine Below.trans ?_ (below_of_only Hg7.out ?_ ?_)); rotate_left; (focus (first | (simp; done) | (simp; omega) | omega)); (intro k hk; cases hk; omega)) | ((with_reducible refine Below.trans ?_ (below_of_only Hg6.out ?_ ?_)); rotate_left; (focus (first | (simp; done) | (simp; omega) | omega)); (intro k hk; cases hk; omega)) | ((with_reducible refine Below.trans ?_ (below_of_only Hg5.out ?_ ?_)); rotate_left; (focus (first | (simp; done) | (simp; omega) | omega)); (intro k hk; cases hk; omega)) | ((with_reducible refine Below.trans ?_ (below_of_only Hg4.out ?_ ?_)); rotate_left; (focus (first | (simp; done) | (simp; omega) | omega)); (intro k hk; cases hk; omega)) | ((with_reducible refine Below.trans ?_ (below_of_only Hg3.out ?_ ?_)); rotate_left; (focus (first | (simp; done) | (simp; omega) | omega)); (intro k hk; cases hk; omega)) | ((with_reducible refine Below.trans ?_ (below_of_only Hg2.out ?_ ?_)); rotate_left; (focus (first | (simp; done) | (simp; omega) | omega)); (intro k hk; cases hk; omega)) | ((with_reducible refine Below.trans ?_ (below_of_only Hg1.out ?_ ?_)); rotate_left; (focus (first | (simp; done) | (simp; omega) | omega)); (intro k hk; cases hk; omega))))⟩

end Go.Proofs.Ytebflmbfgjbipaa
