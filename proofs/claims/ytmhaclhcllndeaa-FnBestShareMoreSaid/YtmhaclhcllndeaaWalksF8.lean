/-
  The walk of the exact law on the best share.
-/
import Derived.Test.YtmhaclhcllndeaaDrawShare
import Derived.Test.YtmhaclhcllndeaaBestS
import Derived.Test.YtmhaclhcllndeaaBestJ
import Derived.Deep.RegionHeld3
import Derived.Test.YtmhaclhcllndeaaCallsB
import Derived.Test.YtmhaclhcllndeaaCallsC
import Derived.Test.YtmhaclhcllndeaaCopy
import Derived.Test.YtmhaclhcllndeaaLaw8
import Derived.Test.YtmhaclhcllndeaaTrack
namespace Go.Proofs.Ytmhaclhcllndeaa
open Go.RowKit
set_option linter.unusedSimpArgs false
set_option linter.unusedVariables false

theorem bestK_len (zs : List Int) (cs : List CallQ) : (bestK zs cs).length ≤ 6 := by
  unfold bestK
  split
  · rename_i h
    obtain ⟨i, hi⟩ := bmin_ex (fun s => gre zs cs s) zs.length cs.length (zs.length ^ cs.length)
    rw [hi, dg_len]
    exact (vSh_iff.1 h).2.1
  · simp
set_option maxHeartbeats 4000000 in
theorem fnExactBestShare_walk (A1 : Option Addr) (n1 c1 : Nat) (z1 : List Int) (A2 : Option Addr) (n2 c2 : Nat) (z2 : List CallQ) (w : World) (_ : n1 ≤ c1) (r1 : RdI w .i64 A1 n1 z1) (_ : ∀ z ∈ z1, (Lit.int .i64 z).wf = true) (hc : n2 ≤ c2 ∧ c2 ≤ maxLen) (r2 : RdC w A2 n2 z2) :
    Calls Try.prog 6 #[.slice A1 n1 c1, .slice A2 n2 c2] w fun e w' => e = .returned (.bool true) ∧ Below w.heap.size w w' := by
  have R_a := hide r1
  have D_a := hide (RdI.old r1)
  have Hl1 := hide (RdI.len r1)
  have R_b := hide r2
  have D_b := hide (Rd.old r2)
  have Hl2 := hide (RdC.len r2)
  have Hc := hide hc
  clear r1 r2 hc
  by_cases h1 : 1048576 < n1
  · have h1' : (1048576 : Int) < (n1 : Int) := by omega
    go_enter Try.func6, Try.ntmps6
    go_wp2_with fail
    go_ret
    exact ⟨rfl, Below.refl _ _⟩
  have h1' : (n1 : Int) ≤ 1048576 := by omega
  by_cases h2 : 1048576 < n2
  · go_enter Try.func6, Try.ntmps6
    go_wp2_with fail
    refine (szCallS_big2 A2 n2 c2 _ h2 (by have := Hc.out; omega)).mono ?_
    rintro e w' ⟨rfl, rfl⟩
    go_wp2_with fail
    go_ret
    exact ⟨rfl, Below.refl _ _⟩
  have h2' : (n2 : Int) ≤ 1048576 := by omega
  have h2'' : ¬ (1048576 - (n2 : Int) < 0) := by omega
  go_enter Try.func6, Try.ntmps6
  go_wp2_with fail
  refine (szCallS_any A2 n2 c2 _ (by omega)).mono ?_
  rintro e w' ⟨rfl, rfl⟩
  have hle : (bestK z1 z2).length ≤ 6 := by have h := bestK_len z1 z2; exact h
  go_wp2_with fail
  refine (toIntS_any A1 n1 c1 z1 _ (by omega) (by repeat (first | exact R_a.out | exact Rd.of_own O_a.out | (with_reducible refine RdC.al ?_ _) | (with_reducible refine RdC.dr ?_) | (with_reducible refine RdC.drN ?_ _) | (with_reducible refine RdI.al ?_ _) | (with_reducible refine RdI.dr ?_) | (with_reducible refine RdI.drN ?_ _) | (with_reducible refine Rd.alloc ?_ _) | (with_reducible refine Rd.drew ?_) | (with_reducible refine Rd.drewN ?_ _)))).mono ?_
  rintro e w1 ⟨A_p, n_p, c_p, rfl, ho, hb⟩
  have hz1 := hb.size
  try simp at hz1
  replace R_a := hide (show Rd w1 1 A1 n1 (z1.map (Value.int .i64)) from Rd.below (by repeat (first | exact R_a.out | (with_reducible refine Rd.alloc ?_ _) | (with_reducible refine Rd.drew ?_) | (with_reducible refine Rd.drewN ?_ _))) hb (Nat.le_refl _))
  replace R_b := hide (show Rd w1 3 A2 n2 (cellsC z2) from Rd.below (by repeat (first | exact R_b.out | (with_reducible refine Rd.alloc ?_ _) | (with_reducible refine Rd.drew ?_) | (with_reducible refine Rd.drewN ?_ _))) hb (Nat.le_refl _))
  have Hb1 := hide hb
  clear hb
  have LU_p := hide (fun k h => (⟨(own_lt_old ho k h).1, by have := (own_lt_old ho k h).2; (first | omega | (simp at this; omega))⟩ : k < w1.heap.size ∧ w.heap.size ≤ k))
  have O_p := hide (show World.ownsRow w1 w.heap.size 3 1 (.slice A_p n_p c_p) n_p (z1.map (Value.int .i64)) from own_base ho (by first | omega | (simp; omega)))
  clear ho
  have N_p : n_p ≤ n1 := by have h := RdLEN_int (Rd.of_own O_p.out); have := Hl1.out; omega
  go_wp2_with fail
  refine (toCallS_any A2 n2 c2 z2 _ (by omega) (by repeat (first | exact R_b.out | exact Rd.of_own O_b.out | (with_reducible refine RdC.al ?_ _) | (with_reducible refine RdC.dr ?_) | (with_reducible refine RdC.drN ?_ _) | (with_reducible refine RdI.al ?_ _) | (with_reducible refine RdI.dr ?_) | (with_reducible refine RdI.drN ?_ _) | (with_reducible refine Rd.alloc ?_ _) | (with_reducible refine Rd.drew ?_) | (with_reducible refine Rd.drewN ?_ _)))).mono ?_
  rintro e w2 ⟨A_q, n_q, c_q, rfl, ho, hb⟩
  have hz2 := hb.size
  try simp at hz2
  replace R_a := hide (show Rd w2 1 A1 n1 (z1.map (Value.int .i64)) from Rd.below (by repeat (first | exact R_a.out | (with_reducible refine Rd.alloc ?_ _) | (with_reducible refine Rd.drew ?_) | (with_reducible refine Rd.drewN ?_ _))) hb (Nat.le_refl _))
  replace R_b := hide (show Rd w2 3 A2 n2 (cellsC z2) from Rd.below (by repeat (first | exact R_b.out | (with_reducible refine Rd.alloc ?_ _) | (with_reducible refine Rd.drew ?_) | (with_reducible refine Rd.drewN ?_ _))) hb (Nat.le_refl _))
  replace O_p := hide (show World.ownsRow w2 w.heap.size 3 1 (.slice A_p n_p c_p) n_p (z1.map (Value.int .i64)) from own_below (by repeat (first | exact O_p.out | (with_reducible refine World.ownsRow.alloc ?_ _) | (with_reducible refine World.ownsRow.drew ?_) | (with_reducible refine own_drewN ?_ _))) hb (Nat.le_refl _))
  have Hb2 := hide hb
  clear hb
  have LU_q := hide (fun k h => (⟨(own_lt_old ho k h).1, by have := (own_lt_old ho k h).2; (first | omega | (simp at this; omega))⟩ : k < w2.heap.size ∧ w1.heap.size ≤ k))
  have O_q := hide (show World.ownsRow w2 w.heap.size 45 3 (.slice A_q n_q c_q) n_q (cellsC z2) from own_base ho (by first | omega | (simp; omega)))
  clear ho
  have N_q : n_q ≤ n2 := by have h := RdLEN_call (Rd.of_own O_q.out); have := Hl2.out; omega
  go_wp2_with fail
  refine (BestShare_s A_p A_q n_p c_p n_q c_q z1 z2 _ (by omega) (by omega) (by repeat (first | exact Rd.of_own O_p.out | (with_reducible refine RdC.al ?_ _) | (with_reducible refine RdC.dr ?_) | (with_reducible refine RdC.drN ?_ _) | (with_reducible refine RdI.al ?_ _) | (with_reducible refine RdI.dr ?_) | (with_reducible refine RdI.drN ?_ _) | (with_reducible refine Rd.alloc ?_ _) | (with_reducible refine Rd.drew ?_) | (with_reducible refine Rd.drewN ?_ _))) (by repeat (first | exact Rd.of_own O_q.out | (with_reducible refine RdC.al ?_ _) | (with_reducible refine RdC.dr ?_) | (with_reducible refine RdC.drN ?_ _) | (with_reducible refine RdI.al ?_ _) | (with_reducible refine RdI.dr ?_) | (with_reducible refine RdI.drN ?_ _) | (with_reducible refine Rd.alloc ?_ _) | (with_reducible refine Rd.drew ?_) | (with_reducible refine Rd.drewN ?_ _)))).mono ?_
  rintro e w3 ⟨A_U, n_U, c_U, rfl, ho, hb⟩
  have hz3 := hb.size
  try simp at hz3
  replace R_a := hide (show Rd w3 1 A1 n1 (z1.map (Value.int .i64)) from Rd.below (by repeat (first | exact R_a.out | (with_reducible refine Rd.alloc ?_ _) | (with_reducible refine Rd.drew ?_) | (with_reducible refine Rd.drewN ?_ _))) hb (Nat.le_refl _))
  replace R_b := hide (show Rd w3 3 A2 n2 (cellsC z2) from Rd.below (by repeat (first | exact R_b.out | (with_reducible refine Rd.alloc ?_ _) | (with_reducible refine Rd.drew ?_) | (with_reducible refine Rd.drewN ?_ _))) hb (Nat.le_refl _))
  replace O_p := hide (show World.ownsRow w3 w.heap.size 3 1 (.slice A_p n_p c_p) n_p (z1.map (Value.int .i64)) from own_below (by repeat (first | exact O_p.out | (with_reducible refine World.ownsRow.alloc ?_ _) | (with_reducible refine World.ownsRow.drew ?_) | (with_reducible refine own_drewN ?_ _))) hb (Nat.le_refl _))
  replace O_q := hide (show World.ownsRow w3 w.heap.size 45 3 (.slice A_q n_q c_q) n_q (cellsC z2) from own_below (by repeat (first | exact O_q.out | (with_reducible refine World.ownsRow.alloc ?_ _) | (with_reducible refine World.ownsRow.drew ?_) | (with_reducible refine own_drewN ?_ _))) hb (Nat.le_refl _))
  have Hb3 := hide hb
  clear hb
  have LU_U := hide (fun k h => (⟨(own_lt_old ho k h).1, by have := (own_lt_old ho k h).2; (first | omega | (simp at this; omega))⟩ : k < w3.heap.size ∧ w2.heap.size ≤ k))
  have O_U := hide (show World.ownsRow w3 w.heap.size 3 1 (.slice A_U n_U c_U) n_U ((bestK z1 z2).map (Value.int .i64)) from own_base ho (by first | omega | (simp; omega)))
  clear ho
  have N_U : n_U ≤ 6 := by have h := RdLEN_int (Rd.of_own O_U.out); omega
  clear O_p LU_p
  clear O_q LU_q
  go_wp2_with fail
  refine (toIntS_any A1 n1 c1 z1 _ (by omega) (by repeat (first | exact R_a.out | exact Rd.of_own O_a.out | (with_reducible refine RdC.al ?_ _) | (with_reducible refine RdC.dr ?_) | (with_reducible refine RdC.drN ?_ _) | (with_reducible refine RdI.al ?_ _) | (with_reducible refine RdI.dr ?_) | (with_reducible refine RdI.drN ?_ _) | (with_reducible refine Rd.alloc ?_ _) | (with_reducible refine Rd.drew ?_) | (with_reducible refine Rd.drewN ?_ _)))).mono ?_
  rintro e w4 ⟨A_x, n_x, c_x, rfl, ho, hb⟩
  have hz4 := hb.size
  try simp at hz4
  replace R_a := hide (show Rd w4 1 A1 n1 (z1.map (Value.int .i64)) from Rd.below (by repeat (first | exact R_a.out | (with_reducible refine Rd.alloc ?_ _) | (with_reducible refine Rd.drew ?_) | (with_reducible refine Rd.drewN ?_ _))) hb (Nat.le_refl _))
  replace R_b := hide (show Rd w4 3 A2 n2 (cellsC z2) from Rd.below (by repeat (first | exact R_b.out | (with_reducible refine Rd.alloc ?_ _) | (with_reducible refine Rd.drew ?_) | (with_reducible refine Rd.drewN ?_ _))) hb (Nat.le_refl _))
  replace O_U := hide (show World.ownsRow w4 w.heap.size 3 1 (.slice A_U n_U c_U) n_U ((bestK z1 z2).map (Value.int .i64)) from own_below (by repeat (first | exact O_U.out | (with_reducible refine World.ownsRow.alloc ?_ _) | (with_reducible refine World.ownsRow.drew ?_) | (with_reducible refine own_drewN ?_ _))) hb (Nat.le_refl _))
  have Hb4 := hide hb
  clear hb
  have LU_x := hide (fun k h => (⟨(own_lt_old ho k h).1, by have := (own_lt_old ho k h).2; (first | omega | (simp at this; omega))⟩ : k < w4.heap.size ∧ w3.heap.size ≤ k))
  have O_x := hide (show World.ownsRow w4 w.heap.size 3 1 (.slice A_x n_x c_x) n_x (z1.map (Value.int .i64)) from own_base ho (by first | omega | (simp; omega)))
  clear ho
  have N_x : n_x ≤ n1 := by have h := RdLEN_int (Rd.of_own O_x.out); have := Hl1.out; omega
  go_wp2_with fail
  refine (toCallS_any A2 n2 c2 z2 _ (by omega) (by repeat (first | exact R_b.out | exact Rd.of_own O_b.out | (with_reducible refine RdC.al ?_ _) | (with_reducible refine RdC.dr ?_) | (with_reducible refine RdC.drN ?_ _) | (with_reducible refine RdI.al ?_ _) | (with_reducible refine RdI.dr ?_) | (with_reducible refine RdI.drN ?_ _) | (with_reducible refine Rd.alloc ?_ _) | (with_reducible refine Rd.drew ?_) | (with_reducible refine Rd.drewN ?_ _)))).mono ?_
  rintro e w5 ⟨A_y, n_y, c_y, rfl, ho, hb⟩
  have hz5 := hb.size
  try simp at hz5
  replace R_a := hide (show Rd w5 1 A1 n1 (z1.map (Value.int .i64)) from Rd.below (by repeat (first | exact R_a.out | (with_reducible refine Rd.alloc ?_ _) | (with_reducible refine Rd.drew ?_) | (with_reducible refine Rd.drewN ?_ _))) hb (Nat.le_refl _))
  replace R_b := hide (show Rd w5 3 A2 n2 (cellsC z2) from Rd.below (by repeat (first | exact R_b.out | (with_reducible refine Rd.alloc ?_ _) | (with_reducible refine Rd.drew ?_) | (with_reducible refine Rd.drewN ?_ _))) hb (Nat.le_refl _))
  replace O_U := hide (show World.ownsRow w5 w.heap.size 3 1 (.slice A_U n_U c_U) n_U ((bestK z1 z2).map (Value.int .i64)) from own_below (by repeat (first | exact O_U.out | (with_reducible refine World.ownsRow.alloc ?_ _) | (with_reducible refine World.ownsRow.drew ?_) | (with_reducible refine own_drewN ?_ _))) hb (Nat.le_refl _))
  replace O_x := hide (show World.ownsRow w5 w.heap.size 3 1 (.slice A_x n_x c_x) n_x (z1.map (Value.int .i64)) from own_below (by repeat (first | exact O_x.out | (with_reducible refine World.ownsRow.alloc ?_ _) | (with_reducible refine World.ownsRow.drew ?_) | (with_reducible refine own_drewN ?_ _))) hb (Nat.le_refl _))
  have Hb5 := hide hb
  clear hb
  have LU_y := hide (fun k h => (⟨(own_lt_old ho k h).1, by have := (own_lt_old ho k h).2; (first | omega | (simp at this; omega))⟩ : k < w5.heap.size ∧ w4.heap.size ≤ k))
  have O_y := hide (show World.ownsRow w5 w.heap.size 45 3 (.slice A_y n_y c_y) n_y (cellsC z2) from own_base ho (by first | omega | (simp; omega)))
  clear ho
  have N_y : n_y ≤ n2 := by have h := RdLEN_call (Rd.of_own O_y.out); have := Hl2.out; omega
  go_wp2_with fail
  refine (BestShare_i A_x A_y n_x c_x n_y c_y z1 z2 _ (by omega) (by omega) (by repeat (first | exact Rd.of_own O_x.out | (with_reducible refine RdC.al ?_ _) | (with_reducible refine RdC.dr ?_) | (with_reducible refine RdC.drN ?_ _) | (with_reducible refine RdI.al ?_ _) | (with_reducible refine RdI.dr ?_) | (with_reducible refine RdI.drN ?_ _) | (with_reducible refine Rd.alloc ?_ _) | (with_reducible refine Rd.drew ?_) | (with_reducible refine Rd.drewN ?_ _))) (by repeat (first | exact Rd.of_own O_y.out | (with_reducible refine RdC.al ?_ _) | (with_reducible refine RdC.dr ?_) | (with_reducible refine RdC.drN ?_ _) | (with_reducible refine RdI.al ?_ _) | (with_reducible refine RdI.dr ?_) | (with_reducible refine RdI.drN ?_ _) | (with_reducible refine Rd.alloc ?_ _) | (with_reducible refine Rd.drew ?_) | (with_reducible refine Rd.drewN ?_ _)))).mono ?_
  rintro e w6 ⟨A_g, n_g, c_g, rfl, ho, hb⟩
  have hz6 := hb.size
  try simp at hz6
  replace R_a := hide (show Rd w6 1 A1 n1 (z1.map (Value.int .i64)) from Rd.below (by repeat (first | exact R_a.out | (with_reducible refine Rd.alloc ?_ _) | (with_reducible refine Rd.drew ?_) | (with_reducible refine Rd.drewN ?_ _))) hb (Nat.le_refl _))
  replace R_b := hide (show Rd w6 3 A2 n2 (cellsC z2) from Rd.below (by repeat (first | exact R_b.out | (with_reducible refine Rd.alloc ?_ _) | (with_reducible refine Rd.drew ?_) | (with_reducible refine Rd.drewN ?_ _))) hb (Nat.le_refl _))
  replace O_U := hide (show World.ownsRow w6 w.heap.size 3 1 (.slice A_U n_U c_U) n_U ((bestK z1 z2).map (Value.int .i64)) from own_below (by repeat (first | exact O_U.out | (with_reducible refine World.ownsRow.alloc ?_ _) | (with_reducible refine World.ownsRow.drew ?_) | (with_reducible refine own_drewN ?_ _))) hb (Nat.le_refl _))
  replace O_x := hide (show World.ownsRow w6 w.heap.size 3 1 (.slice A_x n_x c_x) n_x (z1.map (Value.int .i64)) from own_below (by repeat (first | exact O_x.out | (with_reducible refine World.ownsRow.alloc ?_ _) | (with_reducible refine World.ownsRow.drew ?_) | (with_reducible refine own_drewN ?_ _))) hb (Nat.le_refl _))
  replace O_y := hide (show World.ownsRow w6 w.heap.size 45 3 (.slice A_y n_y c_y) n_y (cellsC z2) from own_below (by repeat (first | exact O_y.out | (with_reducible refine World.ownsRow.alloc ?_ _) | (with_reducible refine World.ownsRow.drew ?_) | (with_reducible refine own_drewN ?_ _))) hb (Nat.le_refl _))
  have Hb6 := hide hb
  clear hb
  have LU_g := hide (fun k h => (⟨(own_lt_old ho k h).1, by have := (own_lt_old ho k h).2; (first | omega | (simp at this; omega))⟩ : k < w6.heap.size ∧ w5.heap.size ≤ k))
  have O_g := hide (show World.ownsRow w6 w.heap.size 3 1 (.slice A_g n_g c_g) n_g ((bestK z1 z2).map (Value.int .i64)) from own_base ho (by first | omega | (simp; omega)))
  clear ho
  have N_g : n_g ≤ 6 := by have h := RdLEN_int (Rd.of_own O_g.out); omega
  go_wp2_with fail
  refine (eqIntS_same A_g A_U n_g c_g n_U c_U (bestK z1 z2) _ (by omega) (by repeat (first | exact Rd.of_own O_g.out | (with_reducible refine RdC.al ?_ _) | (with_reducible refine RdC.dr ?_) | (with_reducible refine RdC.drN ?_ _) | (with_reducible refine RdI.al ?_ _) | (with_reducible refine RdI.dr ?_) | (with_reducible refine RdI.drN ?_ _) | (with_reducible refine Rd.alloc ?_ _) | (with_reducible refine Rd.drew ?_) | (with_reducible refine Rd.drewN ?_ _))) (by repeat (first | exact Rd.of_own O_U.out | (with_reducible refine RdC.al ?_ _) | (with_reducible refine RdC.dr ?_) | (with_reducible refine RdC.drN ?_ _) | (with_reducible refine RdI.al ?_ _) | (with_reducible refine RdI.dr ?_) | (with_reducible refine RdI.drN ?_ _) | (with_reducible refine Rd.alloc ?_ _) | (with_reducible refine Rd.drew ?_) | (with_reducible refine Rd.drewN ?_ _)))).mono ?_
  rintro e wq1 ⟨rfl, q1, rfl⟩
  go_wp2_with fail
  refine (toIntS_any A1 n1 c1 z1 _ (by omega) (by repeat (first | exact R_a.out | exact Rd.of_own O_a.out | (with_reducible refine RdC.al ?_ _) | (with_reducible refine RdC.dr ?_) | (with_reducible refine RdC.drN ?_ _) | (with_reducible refine RdI.al ?_ _) | (with_reducible refine RdI.dr ?_) | (with_reducible refine RdI.drN ?_ _) | (with_reducible refine Rd.alloc ?_ _) | (with_reducible refine Rd.drew ?_) | (with_reducible refine Rd.drewN ?_ _)))).mono ?_
  rintro e w7 ⟨A_u, n_u, c_u, rfl, ho, hb⟩
  have hz7 := hb.size
  try simp at hz7
  replace R_a := hide (show Rd w7 1 A1 n1 (z1.map (Value.int .i64)) from Rd.below (by repeat (first | exact R_a.out | (with_reducible refine Rd.alloc ?_ _) | (with_reducible refine Rd.drew ?_) | (with_reducible refine Rd.drewN ?_ _))) hb (Nat.le_refl _))
  replace R_b := hide (show Rd w7 3 A2 n2 (cellsC z2) from Rd.below (by repeat (first | exact R_b.out | (with_reducible refine Rd.alloc ?_ _) | (with_reducible refine Rd.drew ?_) | (with_reducible refine Rd.drewN ?_ _))) hb (Nat.le_refl _))
  replace O_U := hide (show World.ownsRow w7 w.heap.size 3 1 (.slice A_U n_U c_U) n_U ((bestK z1 z2).map (Value.int .i64)) from own_below (by repeat (first | exact O_U.out | (with_reducible refine World.ownsRow.alloc ?_ _) | (with_reducible refine World.ownsRow.drew ?_) | (with_reducible refine own_drewN ?_ _))) hb (Nat.le_refl _))
  replace O_x := hide (show World.ownsRow w7 w.heap.size 3 1 (.slice A_x n_x c_x) n_x (z1.map (Value.int .i64)) from own_below (by repeat (first | exact O_x.out | (with_reducible refine World.ownsRow.alloc ?_ _) | (with_reducible refine World.ownsRow.drew ?_) | (with_reducible refine own_drewN ?_ _))) hb (Nat.le_refl _))
  replace O_y := hide (show World.ownsRow w7 w.heap.size 45 3 (.slice A_y n_y c_y) n_y (cellsC z2) from own_below (by repeat (first | exact O_y.out | (with_reducible refine World.ownsRow.alloc ?_ _) | (with_reducible refine World.ownsRow.drew ?_) | (with_reducible refine own_drewN ?_ _))) hb (Nat.le_refl _))
  replace O_g := hide (show World.ownsRow w7 w.heap.size 3 1 (.slice A_g n_g c_g) n_g ((bestK z1 z2).map (Value.int .i64)) from own_below (by repeat (first | exact O_g.out | (with_reducible refine World.ownsRow.alloc ?_ _) | (with_reducible refine World.ownsRow.drew ?_) | (with_reducible refine own_drewN ?_ _))) hb (Nat.le_refl _))
  have Hb7 := hide hb
  clear hb
  have LU_u := hide (fun k h => (⟨(own_lt_old ho k h).1, by have := (own_lt_old ho k h).2; (first | omega | (simp at this; omega))⟩ : k < w7.heap.size ∧ w6.heap.size ≤ k))
  have O_u := hide (show World.ownsRow w7 w.heap.size 3 1 (.slice A_u n_u c_u) n_u (z1.map (Value.int .i64)) from own_base ho (by first | omega | (simp; omega)))
  clear ho
  have N_u : n_u ≤ n1 := by have h := RdLEN_int (Rd.of_own O_u.out); have := Hl1.out; omega
  go_wp2_with fail
  refine (eqIntS_same A_x A_u n_x c_x n_u c_u (z1) _ (by omega) (by repeat (first | exact Rd.of_own O_x.out | (with_reducible refine RdC.al ?_ _) | (with_reducible refine RdC.dr ?_) | (with_reducible refine RdC.drN ?_ _) | (with_reducible refine RdI.al ?_ _) | (with_reducible refine RdI.dr ?_) | (with_reducible refine RdI.drN ?_ _) | (with_reducible refine Rd.alloc ?_ _) | (with_reducible refine Rd.drew ?_) | (with_reducible refine Rd.drewN ?_ _))) (by repeat (first | exact Rd.of_own O_u.out | (with_reducible refine RdC.al ?_ _) | (with_reducible refine RdC.dr ?_) | (with_reducible refine RdC.drN ?_ _) | (with_reducible refine RdI.al ?_ _) | (with_reducible refine RdI.dr ?_) | (with_reducible refine RdI.drN ?_ _) | (with_reducible refine Rd.alloc ?_ _) | (with_reducible refine Rd.drew ?_) | (with_reducible refine Rd.drewN ?_ _)))).mono ?_
  rintro e wq2 ⟨rfl, q2, rfl⟩
  clear O_u LU_u
  go_wp2_with fail
  refine (toCallS_any A2 n2 c2 z2 _ (by omega) (by repeat (first | exact R_b.out | exact Rd.of_own O_b.out | (with_reducible refine RdC.al ?_ _) | (with_reducible refine RdC.dr ?_) | (with_reducible refine RdC.drN ?_ _) | (with_reducible refine RdI.al ?_ _) | (with_reducible refine RdI.dr ?_) | (with_reducible refine RdI.drN ?_ _) | (with_reducible refine Rd.alloc ?_ _) | (with_reducible refine Rd.drew ?_) | (with_reducible refine Rd.drewN ?_ _)))).mono ?_
  rintro e w8 ⟨A_v, n_v, c_v, rfl, ho, hb⟩
  have hz8 := hb.size
  try simp at hz8
  replace R_a := hide (show Rd w8 1 A1 n1 (z1.map (Value.int .i64)) from Rd.below (by repeat (first | exact R_a.out | (with_reducible refine Rd.alloc ?_ _) | (with_reducible refine Rd.drew ?_) | (with_reducible refine Rd.drewN ?_ _))) hb (Nat.le_refl _))
  replace R_b := hide (show Rd w8 3 A2 n2 (cellsC z2) from Rd.below (by repeat (first | exact R_b.out | (with_reducible refine Rd.alloc ?_ _) | (with_reducible refine Rd.drew ?_) | (with_reducible refine Rd.drewN ?_ _))) hb (Nat.le_refl _))
  replace O_U := hide (show World.ownsRow w8 w.heap.size 3 1 (.slice A_U n_U c_U) n_U ((bestK z1 z2).map (Value.int .i64)) from own_below (by repeat (first | exact O_U.out | (with_reducible refine World.ownsRow.alloc ?_ _) | (with_reducible refine World.ownsRow.drew ?_) | (with_reducible refine own_drewN ?_ _))) hb (Nat.le_refl _))
  replace O_x := hide (show World.ownsRow w8 w.heap.size 3 1 (.slice A_x n_x c_x) n_x (z1.map (Value.int .i64)) from own_below (by repeat (first | exact O_x.out | (with_reducible refine World.ownsRow.alloc ?_ _) | (with_reducible refine World.ownsRow.drew ?_) | (with_reducible refine own_drewN ?_ _))) hb (Nat.le_refl _))
  replace O_y := hide (show World.ownsRow w8 w.heap.size 45 3 (.slice A_y n_y c_y) n_y (cellsC z2) from own_below (by repeat (first | exact O_y.out | (with_reducible refine World.ownsRow.alloc ?_ _) | (with_reducible refine World.ownsRow.drew ?_) | (with_reducible refine own_drewN ?_ _))) hb (Nat.le_refl _))
  replace O_g := hide (show World.ownsRow w8 w.heap.size 3 1 (.slice A_g n_g c_g) n_g ((bestK z1 z2).map (Value.int .i64)) from own_below (by repeat (first | exact O_g.out | (with_reducible refine World.ownsRow.alloc ?_ _) | (with_reducible refine World.ownsRow.drew ?_) | (with_reducible refine own_drewN ?_ _))) hb (Nat.le_refl _))
  have Hb8 := hide hb
  clear hb
  have LU_v := hide (fun k h => (⟨(own_lt_old ho k h).1, by have := (own_lt_old ho k h).2; (first | omega | (simp at this; omega))⟩ : k < w8.heap.size ∧ w7.heap.size ≤ k))
  have O_v := hide (show World.ownsRow w8 w.heap.size 45 3 (.slice A_v n_v c_v) n_v (cellsC z2) from own_base ho (by first | omega | (simp; omega)))
  clear ho
  have N_v : n_v ≤ n2 := by have h := RdLEN_call (Rd.of_own O_v.out); have := Hl2.out; omega
  go_wp2_with fail
  refine (eqCallS_same A_y A_v n_y c_y n_v c_v (z2) _ (by omega) (by repeat (first | exact Rd.of_own O_y.out | (with_reducible refine RdC.al ?_ _) | (with_reducible refine RdC.dr ?_) | (with_reducible refine RdC.drN ?_ _) | (with_reducible refine RdI.al ?_ _) | (with_reducible refine RdI.dr ?_) | (with_reducible refine RdI.drN ?_ _) | (with_reducible refine Rd.alloc ?_ _) | (with_reducible refine Rd.drew ?_) | (with_reducible refine Rd.drewN ?_ _))) (by repeat (first | exact Rd.of_own O_v.out | (with_reducible refine RdC.al ?_ _) | (with_reducible refine RdC.dr ?_) | (with_reducible refine RdC.drN ?_ _) | (with_reducible refine RdI.al ?_ _) | (with_reducible refine RdI.dr ?_) | (with_reducible refine RdI.drN ?_ _) | (with_reducible refine Rd.alloc ?_ _) | (with_reducible refine Rd.drew ?_) | (with_reducible refine Rd.drewN ?_ _)))).mono ?_
  rintro e w9 ⟨rfl, hb⟩
  have hz9 := hb.size
  try simp at hz9
  replace R_a := hide (show Rd w9 1 A1 n1 (z1.map (Value.int .i64)) from Rd.below (by repeat (first | exact R_a.out | (with_reducible refine Rd.alloc ?_ _) | (with_reducible refine Rd.drew ?_) | (with_reducible refine Rd.drewN ?_ _))) hb (Nat.le_refl _))
  replace R_b := hide (show Rd w9 3 A2 n2 (cellsC z2) from Rd.below (by repeat (first | exact R_b.out | (with_reducible refine Rd.alloc ?_ _) | (with_reducible refine Rd.drew ?_) | (with_reducible refine Rd.drewN ?_ _))) hb (Nat.le_refl _))
  replace O_U := hide (show World.ownsRow w9 w.heap.size 3 1 (.slice A_U n_U c_U) n_U ((bestK z1 z2).map (Value.int .i64)) from own_below (by repeat (first | exact O_U.out | (with_reducible refine World.ownsRow.alloc ?_ _) | (with_reducible refine World.ownsRow.drew ?_) | (with_reducible refine own_drewN ?_ _))) hb (Nat.le_refl _))
  replace O_x := hide (show World.ownsRow w9 w.heap.size 3 1 (.slice A_x n_x c_x) n_x (z1.map (Value.int .i64)) from own_below (by repeat (first | exact O_x.out | (with_reducible refine World.ownsRow.alloc ?_ _) | (with_reducible refine World.ownsRow.drew ?_) | (with_reducible refine own_drewN ?_ _))) hb (Nat.le_refl _))
  replace O_y := hide (show World.ownsRow w9 w.heap.size 45 3 (.slice A_y n_y c_y) n_y (cellsC z2) from own_below (by repeat (first | exact O_y.out | (with_reducible refine World.ownsRow.alloc ?_ _) | (with_reducible refine World.ownsRow.drew ?_) | (with_reducible refine own_drewN ?_ _))) hb (Nat.le_refl _))
  replace O_g := hide (show World.ownsRow w9 w.heap.size 3 1 (.slice A_g n_g c_g) n_g ((bestK z1 z2).map (Value.int .i64)) from own_below (by repeat (first | exact O_g.out | (with_reducible refine World.ownsRow.alloc ?_ _) | (with_reducible refine World.ownsRow.drew ?_) | (with_reducible refine own_drewN ?_ _))) hb (Nat.le_refl _))
  replace O_v := hide (show World.ownsRow w9 w.heap.size 45 3 (.slice A_v n_v c_v) n_v (cellsC z2) from own_below (by repeat (first | exact O_v.out | (with_reducible refine World.ownsRow.alloc ?_ _) | (with_reducible refine World.ownsRow.drew ?_) | (with_reducible refine own_drewN ?_ _))) hb (Nat.le_refl _))
  have Hb9 := hide hb
  clear hb
  clear O_v LU_v
  go_wp2_with fail
  refine (markIntS_any _ A_x n_x c_x 1 _ _ (by omega) (by omega) (by omega) (by repeat (first | exact O_x.out | (with_reducible refine World.ownsRow.alloc ?_ _) | (with_reducible refine World.ownsRow.drew ?_) | (with_reducible refine own_drewN ?_ _)))).mono ?_
  rintro e w10 ⟨rfl, ho, hg⟩
  have hz10 := hg.size
  try simp at hz10
  have Hb10 := hide (below_of_only (B := w.heap.size) hg (by (first | omega | (simp; omega))) (fun k hk => by have := LU_x.out k hk; omega))
  replace O_U := hide (show World.ownsRow w10 w.heap.size 3 1 (.slice A_U n_U c_U) n_U ((bestK z1 z2).map (Value.int .i64)) from own_kept2 (by repeat (first | exact O_U.out | (with_reducible refine World.ownsRow.alloc ?_ _) | (with_reducible refine World.ownsRow.drew ?_) | (with_reducible refine own_drewN ?_ _))) hg (fun k h1 h2 => by have := LU_U.out k h1; have := LU_x.out k h2; omega))
  replace O_y := hide (show World.ownsRow w10 w.heap.size 45 3 (.slice A_y n_y c_y) n_y (cellsC z2) from own_kept2 (by repeat (first | exact O_y.out | (with_reducible refine World.ownsRow.alloc ?_ _) | (with_reducible refine World.ownsRow.drew ?_) | (with_reducible refine own_drewN ?_ _))) hg (fun k h1 h2 => by have := LU_y.out k h1; have := LU_x.out k h2; omega))
  replace O_g := hide (show World.ownsRow w10 w.heap.size 3 1 (.slice A_g n_g c_g) n_g ((bestK z1 z2).map (Value.int .i64)) from own_kept2 (by repeat (first | exact O_g.out | (with_reducible refine World.ownsRow.alloc ?_ _) | (with_reducible refine World.ownsRow.drew ?_) | (with_reducible refine own_drewN ?_ _))) hg (fun k h1 h2 => by have := LU_g.out k h1; have := LU_x.out k h2; omega))
  replace R_a := hide (show Rd w10 1 A1 n1 (z1.map (Value.int .i64)) from Rd.grown (by repeat (first | exact R_a.out | exact Rd.of_own O_a.out | (with_reducible refine RdI.al ?_ _) | (with_reducible refine RdI.dr ?_) | (with_reducible refine RdI.drN ?_ _) | (with_reducible refine Rd.alloc ?_ _) | (with_reducible refine Rd.drew ?_) | (with_reducible refine Rd.drewN ?_ _))) hg (fun hn b off e h2 => by have := D_a.out hn b off e; have := LU_x.out b h2.symm; omega))
  replace R_b := hide (show Rd w10 3 A2 n2 (cellsC z2) from Rd.grown (by repeat (first | exact R_b.out | exact Rd.of_own O_b.out | (with_reducible refine RdI.al ?_ _) | (with_reducible refine RdI.dr ?_) | (with_reducible refine RdI.drN ?_ _) | (with_reducible refine Rd.alloc ?_ _) | (with_reducible refine Rd.drew ?_) | (with_reducible refine Rd.drewN ?_ _))) hg (fun hn b off e h2 => by have := D_b.out hn b off e; have := LU_x.out b h2.symm; omega))
  replace O_x := hide (show World.ownsRow w10 w.heap.size 3 1 (.slice A_x n_x c_x) n_x ((marksI (1) n_x).map (Value.int .i64)) from ho)
  clear ho hg
  clear O_x LU_x
  go_wp2_with fail
  refine (markCallS_any _ A_y n_y c_y (1 + (n_x : Int)) _ _ (by omega) (by omega) (by omega) (by repeat (first | exact O_y.out | (with_reducible refine World.ownsRow.alloc ?_ _) | (with_reducible refine World.ownsRow.drew ?_) | (with_reducible refine own_drewN ?_ _)))).mono ?_
  rintro e w11 ⟨rfl, ho, hg⟩
  have hz11 := hg.size
  try simp at hz11
  have Hb11 := hide (below_of_only (B := w.heap.size) hg (by (first | omega | (simp; omega))) (fun k hk => by have := LU_y.out k hk; omega))
  replace O_U := hide (show World.ownsRow w11 w.heap.size 3 1 (.slice A_U n_U c_U) n_U ((bestK z1 z2).map (Value.int .i64)) from own_kept2 (by repeat (first | exact O_U.out | (with_reducible refine World.ownsRow.alloc ?_ _) | (with_reducible refine World.ownsRow.drew ?_) | (with_reducible refine own_drewN ?_ _))) hg (fun k h1 h2 => by have := LU_U.out k h1; have := LU_y.out k h2; omega))
  replace O_g := hide (show World.ownsRow w11 w.heap.size 3 1 (.slice A_g n_g c_g) n_g ((bestK z1 z2).map (Value.int .i64)) from own_kept2 (by repeat (first | exact O_g.out | (with_reducible refine World.ownsRow.alloc ?_ _) | (with_reducible refine World.ownsRow.drew ?_) | (with_reducible refine own_drewN ?_ _))) hg (fun k h1 h2 => by have := LU_g.out k h1; have := LU_y.out k h2; omega))
  replace R_a := hide (show Rd w11 1 A1 n1 (z1.map (Value.int .i64)) from Rd.grown (by repeat (first | exact R_a.out | exact Rd.of_own O_a.out | (with_reducible refine RdI.al ?_ _) | (with_reducible refine RdI.dr ?_) | (with_reducible refine RdI.drN ?_ _) | (with_reducible refine Rd.alloc ?_ _) | (with_reducible refine Rd.drew ?_) | (with_reducible refine Rd.drewN ?_ _))) hg (fun hn b off e h2 => by have := D_a.out hn b off e; have := LU_y.out b h2.symm; omega))
  replace R_b := hide (show Rd w11 3 A2 n2 (cellsC z2) from Rd.grown (by repeat (first | exact R_b.out | exact Rd.of_own O_b.out | (with_reducible refine RdI.al ?_ _) | (with_reducible refine RdI.dr ?_) | (with_reducible refine RdI.drN ?_ _) | (with_reducible refine Rd.alloc ?_ _) | (with_reducible refine Rd.drew ?_) | (with_reducible refine Rd.drewN ?_ _))) hg (fun hn b off e h2 => by have := D_b.out hn b off e; have := LU_y.out b h2.symm; omega))
  replace O_y := hide (show World.ownsRow w11 w.heap.size 45 3 (.slice A_y n_y c_y) n_y ((marksI (1 + (n_x : Int)) (n_y * 3)).map (Value.int .i64)) from ho)
  clear ho hg
  clear O_y LU_y
  go_wp2_with fail
  refine (eqIntS_same A_g A_U n_g c_g n_U c_U (bestK z1 z2) _ (by omega) (by repeat (first | exact Rd.of_own O_g.out | (with_reducible refine RdC.al ?_ _) | (with_reducible refine RdC.dr ?_) | (with_reducible refine RdC.drN ?_ _) | (with_reducible refine RdI.al ?_ _) | (with_reducible refine RdI.dr ?_) | (with_reducible refine RdI.drN ?_ _) | (with_reducible refine Rd.alloc ?_ _) | (with_reducible refine Rd.drew ?_) | (with_reducible refine Rd.drewN ?_ _))) (by repeat (first | exact Rd.of_own O_U.out | (with_reducible refine RdC.al ?_ _) | (with_reducible refine RdC.dr ?_) | (with_reducible refine RdC.drN ?_ _) | (with_reducible refine RdI.al ?_ _) | (with_reducible refine RdI.dr ?_) | (with_reducible refine RdI.drN ?_ _) | (with_reducible refine Rd.alloc ?_ _) | (with_reducible refine Rd.drew ?_) | (with_reducible refine Rd.drewN ?_ _)))).mono ?_
  rintro e wq3 ⟨rfl, q3, rfl⟩
  go_wp2_with fail
  refine (markIntS_any _ A_g n_g c_g 1 _ _ (by omega) (by omega) (by omega) (by repeat (first | exact O_g.out | (with_reducible refine World.ownsRow.alloc ?_ _) | (with_reducible refine World.ownsRow.drew ?_) | (with_reducible refine own_drewN ?_ _)))).mono ?_
  rintro e w12 ⟨rfl, ho, hg⟩
  have hz12 := hg.size
  try simp at hz12
  have Hb12 := hide (below_of_only (B := w.heap.size) hg (by (first | omega | (simp; omega))) (fun k hk => by have := LU_g.out k hk; omega))
  replace O_U := hide (show World.ownsRow w12 w.heap.size 3 1 (.slice A_U n_U c_U) n_U ((bestK z1 z2).map (Value.int .i64)) from own_kept2 (by repeat (first | exact O_U.out | (with_reducible refine World.ownsRow.alloc ?_ _) | (with_reducible refine World.ownsRow.drew ?_) | (with_reducible refine own_drewN ?_ _))) hg (fun k h1 h2 => by have := LU_U.out k h1; have := LU_g.out k h2; omega))
  replace R_a := hide (show Rd w12 1 A1 n1 (z1.map (Value.int .i64)) from Rd.grown (by repeat (first | exact R_a.out | exact Rd.of_own O_a.out | (with_reducible refine RdI.al ?_ _) | (with_reducible refine RdI.dr ?_) | (with_reducible refine RdI.drN ?_ _) | (with_reducible refine Rd.alloc ?_ _) | (with_reducible refine Rd.drew ?_) | (with_reducible refine Rd.drewN ?_ _))) hg (fun hn b off e h2 => by have := D_a.out hn b off e; have := LU_g.out b h2.symm; omega))
  replace R_b := hide (show Rd w12 3 A2 n2 (cellsC z2) from Rd.grown (by repeat (first | exact R_b.out | exact Rd.of_own O_b.out | (with_reducible refine RdI.al ?_ _) | (with_reducible refine RdI.dr ?_) | (with_reducible refine RdI.drN ?_ _) | (with_reducible refine Rd.alloc ?_ _) | (with_reducible refine Rd.drew ?_) | (with_reducible refine Rd.drewN ?_ _))) hg (fun hn b off e h2 => by have := D_b.out hn b off e; have := LU_g.out b h2.symm; omega))
  replace O_g := hide (show World.ownsRow w12 w.heap.size 3 1 (.slice A_g n_g c_g) n_g ((marksI (1) n_g).map (Value.int .i64)) from ho)
  clear ho hg
  go_wp2_with fail
  refine (heldIntS_ok A_g n_g c_g 1 _ (by omega) (by omega) (by omega) (by repeat (first | exact Rd.of_own O_g.out | (with_reducible refine RdC.al ?_ _) | (with_reducible refine RdC.dr ?_) | (with_reducible refine RdC.drN ?_ _) | (with_reducible refine RdI.al ?_ _) | (with_reducible refine RdI.dr ?_) | (with_reducible refine RdI.drN ?_ _) | (with_reducible refine Rd.alloc ?_ _) | (with_reducible refine Rd.drew ?_) | (with_reducible refine Rd.drewN ?_ _)))).mono ?_
  rintro e wq4 ⟨rfl, q4, rfl⟩
  go_wp2_with fail
  refine (toIntS_any A1 n1 c1 z1 _ (by omega) (by repeat (first | exact R_a.out | exact Rd.of_own O_a.out | (with_reducible refine RdC.al ?_ _) | (with_reducible refine RdC.dr ?_) | (with_reducible refine RdC.drN ?_ _) | (with_reducible refine RdI.al ?_ _) | (with_reducible refine RdI.dr ?_) | (with_reducible refine RdI.drN ?_ _) | (with_reducible refine Rd.alloc ?_ _) | (with_reducible refine Rd.drew ?_) | (with_reducible refine Rd.drewN ?_ _)))).mono ?_
  rintro e w13 ⟨A_s, n_s, c_s, rfl, ho, hb⟩
  have hz13 := hb.size
  try simp at hz13
  replace R_a := hide (show Rd w13 1 A1 n1 (z1.map (Value.int .i64)) from Rd.below (by repeat (first | exact R_a.out | (with_reducible refine Rd.alloc ?_ _) | (with_reducible refine Rd.drew ?_) | (with_reducible refine Rd.drewN ?_ _))) hb (Nat.le_refl _))
  replace R_b := hide (show Rd w13 3 A2 n2 (cellsC z2) from Rd.below (by repeat (first | exact R_b.out | (with_reducible refine Rd.alloc ?_ _) | (with_reducible refine Rd.drew ?_) | (with_reducible refine Rd.drewN ?_ _))) hb (Nat.le_refl _))
  replace O_U := hide (show World.ownsRow w13 w.heap.size 3 1 (.slice A_U n_U c_U) n_U ((bestK z1 z2).map (Value.int .i64)) from own_below (by repeat (first | exact O_U.out | (with_reducible refine World.ownsRow.alloc ?_ _) | (with_reducible refine World.ownsRow.drew ?_) | (with_reducible refine own_drewN ?_ _))) hb (Nat.le_refl _))
  replace O_g := hide (show World.ownsRow w13 w.heap.size 3 1 (.slice A_g n_g c_g) n_g ((marksI (1) n_g).map (Value.int .i64)) from own_below (by repeat (first | exact O_g.out | (with_reducible refine World.ownsRow.alloc ?_ _) | (with_reducible refine World.ownsRow.drew ?_) | (with_reducible refine own_drewN ?_ _))) hb (Nat.le_refl _))
  have Hb13 := hide hb
  clear hb
  have LU_s := hide (fun k h => (⟨(own_lt_old ho k h).1, by have := (own_lt_old ho k h).2; (first | omega | (simp at this; omega))⟩ : k < w13.heap.size ∧ w12.heap.size ≤ k))
  have O_s := hide (show World.ownsRow w13 w.heap.size 3 1 (.slice A_s n_s c_s) n_s (z1.map (Value.int .i64)) from own_base ho (by first | omega | (simp; omega)))
  clear ho
  have N_s : n_s ≤ n1 := by have h := RdLEN_int (Rd.of_own O_s.out); have := Hl1.out; omega
  go_wp2_with fail
  refine (toCallS_any A2 n2 c2 z2 _ (by omega) (by repeat (first | exact R_b.out | exact Rd.of_own O_b.out | (with_reducible refine RdC.al ?_ _) | (with_reducible refine RdC.dr ?_) | (with_reducible refine RdC.drN ?_ _) | (with_reducible refine RdI.al ?_ _) | (with_reducible refine RdI.dr ?_) | (with_reducible refine RdI.drN ?_ _) | (with_reducible refine Rd.alloc ?_ _) | (with_reducible refine Rd.drew ?_) | (with_reducible refine Rd.drewN ?_ _)))).mono ?_
  rintro e w14 ⟨A_t, n_t, c_t, rfl, ho, hb⟩
  have hz14 := hb.size
  try simp at hz14
  replace R_a := hide (show Rd w14 1 A1 n1 (z1.map (Value.int .i64)) from Rd.below (by repeat (first | exact R_a.out | (with_reducible refine Rd.alloc ?_ _) | (with_reducible refine Rd.drew ?_) | (with_reducible refine Rd.drewN ?_ _))) hb (Nat.le_refl _))
  replace R_b := hide (show Rd w14 3 A2 n2 (cellsC z2) from Rd.below (by repeat (first | exact R_b.out | (with_reducible refine Rd.alloc ?_ _) | (with_reducible refine Rd.drew ?_) | (with_reducible refine Rd.drewN ?_ _))) hb (Nat.le_refl _))
  replace O_U := hide (show World.ownsRow w14 w.heap.size 3 1 (.slice A_U n_U c_U) n_U ((bestK z1 z2).map (Value.int .i64)) from own_below (by repeat (first | exact O_U.out | (with_reducible refine World.ownsRow.alloc ?_ _) | (with_reducible refine World.ownsRow.drew ?_) | (with_reducible refine own_drewN ?_ _))) hb (Nat.le_refl _))
  replace O_g := hide (show World.ownsRow w14 w.heap.size 3 1 (.slice A_g n_g c_g) n_g ((marksI (1) n_g).map (Value.int .i64)) from own_below (by repeat (first | exact O_g.out | (with_reducible refine World.ownsRow.alloc ?_ _) | (with_reducible refine World.ownsRow.drew ?_) | (with_reducible refine own_drewN ?_ _))) hb (Nat.le_refl _))
  replace O_s := hide (show World.ownsRow w14 w.heap.size 3 1 (.slice A_s n_s c_s) n_s (z1.map (Value.int .i64)) from own_below (by repeat (first | exact O_s.out | (with_reducible refine World.ownsRow.alloc ?_ _) | (with_reducible refine World.ownsRow.drew ?_) | (with_reducible refine own_drewN ?_ _))) hb (Nat.le_refl _))
  have Hb14 := hide hb
  clear hb
  have LU_t := hide (fun k h => (⟨(own_lt_old ho k h).1, by have := (own_lt_old ho k h).2; (first | omega | (simp at this; omega))⟩ : k < w14.heap.size ∧ w13.heap.size ≤ k))
  have O_t := hide (show World.ownsRow w14 w.heap.size 45 3 (.slice A_t n_t c_t) n_t (cellsC z2) from own_base ho (by first | omega | (simp; omega)))
  clear ho
  have N_t : n_t ≤ n2 := by have h := RdLEN_call (Rd.of_own O_t.out); have := Hl2.out; omega
  go_wp2_with fail
  refine (BestShare_i A_s A_t n_s c_s n_t c_t z1 z2 _ (by omega) (by omega) (by repeat (first | exact Rd.of_own O_s.out | (with_reducible refine RdC.al ?_ _) | (with_reducible refine RdC.dr ?_) | (with_reducible refine RdC.drN ?_ _) | (with_reducible refine RdI.al ?_ _) | (with_reducible refine RdI.dr ?_) | (with_reducible refine RdI.drN ?_ _) | (with_reducible refine Rd.alloc ?_ _) | (with_reducible refine Rd.drew ?_) | (with_reducible refine Rd.drewN ?_ _))) (by repeat (first | exact Rd.of_own O_t.out | (with_reducible refine RdC.al ?_ _) | (with_reducible refine RdC.dr ?_) | (with_reducible refine RdC.drN ?_ _) | (with_reducible refine RdI.al ?_ _) | (with_reducible refine RdI.dr ?_) | (with_reducible refine RdI.drN ?_ _) | (with_reducible refine Rd.alloc ?_ _) | (with_reducible refine Rd.drew ?_) | (with_reducible refine Rd.drewN ?_ _)))).mono ?_
  rintro e w15 ⟨A_h, n_h, c_h, rfl, ho, hb⟩
  have hz15 := hb.size
  try simp at hz15
  replace R_a := hide (show Rd w15 1 A1 n1 (z1.map (Value.int .i64)) from Rd.below (by repeat (first | exact R_a.out | (with_reducible refine Rd.alloc ?_ _) | (with_reducible refine Rd.drew ?_) | (with_reducible refine Rd.drewN ?_ _))) hb (Nat.le_refl _))
  replace R_b := hide (show Rd w15 3 A2 n2 (cellsC z2) from Rd.below (by repeat (first | exact R_b.out | (with_reducible refine Rd.alloc ?_ _) | (with_reducible refine Rd.drew ?_) | (with_reducible refine Rd.drewN ?_ _))) hb (Nat.le_refl _))
  replace O_U := hide (show World.ownsRow w15 w.heap.size 3 1 (.slice A_U n_U c_U) n_U ((bestK z1 z2).map (Value.int .i64)) from own_below (by repeat (first | exact O_U.out | (with_reducible refine World.ownsRow.alloc ?_ _) | (with_reducible refine World.ownsRow.drew ?_) | (with_reducible refine own_drewN ?_ _))) hb (Nat.le_refl _))
  replace O_g := hide (show World.ownsRow w15 w.heap.size 3 1 (.slice A_g n_g c_g) n_g ((marksI (1) n_g).map (Value.int .i64)) from own_below (by repeat (first | exact O_g.out | (with_reducible refine World.ownsRow.alloc ?_ _) | (with_reducible refine World.ownsRow.drew ?_) | (with_reducible refine own_drewN ?_ _))) hb (Nat.le_refl _))
  replace O_s := hide (show World.ownsRow w15 w.heap.size 3 1 (.slice A_s n_s c_s) n_s (z1.map (Value.int .i64)) from own_below (by repeat (first | exact O_s.out | (with_reducible refine World.ownsRow.alloc ?_ _) | (with_reducible refine World.ownsRow.drew ?_) | (with_reducible refine own_drewN ?_ _))) hb (Nat.le_refl _))
  replace O_t := hide (show World.ownsRow w15 w.heap.size 45 3 (.slice A_t n_t c_t) n_t (cellsC z2) from own_below (by repeat (first | exact O_t.out | (with_reducible refine World.ownsRow.alloc ?_ _) | (with_reducible refine World.ownsRow.drew ?_) | (with_reducible refine own_drewN ?_ _))) hb (Nat.le_refl _))
  have Hb15 := hide hb
  clear hb
  have LU_h := hide (fun k h => (⟨(own_lt_old ho k h).1, by have := (own_lt_old ho k h).2; (first | omega | (simp at this; omega))⟩ : k < w15.heap.size ∧ w14.heap.size ≤ k))
  have O_h := hide (show World.ownsRow w15 w.heap.size 3 1 (.slice A_h n_h c_h) n_h ((bestK z1 z2).map (Value.int .i64)) from own_base ho (by first | omega | (simp; omega)))
  clear ho
  have N_h : n_h ≤ 6 := by have h := RdLEN_int (Rd.of_own O_h.out); omega
  go_wp2_with fail
  refine (eqIntS_same A_h A_U n_h c_h n_U c_U (bestK z1 z2) _ (by omega) (by repeat (first | exact Rd.of_own O_h.out | (with_reducible refine RdC.al ?_ _) | (with_reducible refine RdC.dr ?_) | (with_reducible refine RdC.drN ?_ _) | (with_reducible refine RdI.al ?_ _) | (with_reducible refine RdI.dr ?_) | (with_reducible refine RdI.drN ?_ _) | (with_reducible refine Rd.alloc ?_ _) | (with_reducible refine Rd.drew ?_) | (with_reducible refine Rd.drewN ?_ _))) (by repeat (first | exact Rd.of_own O_U.out | (with_reducible refine RdC.al ?_ _) | (with_reducible refine RdC.dr ?_) | (with_reducible refine RdC.drN ?_ _) | (with_reducible refine RdI.al ?_ _) | (with_reducible refine RdI.dr ?_) | (with_reducible refine RdI.drN ?_ _) | (with_reducible refine Rd.alloc ?_ _) | (with_reducible refine Rd.drew ?_) | (with_reducible refine Rd.drewN ?_ _)))).mono ?_
  rintro e wq5 ⟨rfl, q5, rfl⟩
  go_wp2_with fail
  refine (heldIntS_ok A_g n_g c_g 1 _ (by omega) (by omega) (by omega) (by repeat (first | exact Rd.of_own O_g.out | (with_reducible refine RdC.al ?_ _) | (with_reducible refine RdC.dr ?_) | (with_reducible refine RdC.drN ?_ _) | (with_reducible refine RdI.al ?_ _) | (with_reducible refine RdI.dr ?_) | (with_reducible refine RdI.drN ?_ _) | (with_reducible refine Rd.alloc ?_ _) | (with_reducible refine Rd.drew ?_) | (with_reducible refine Rd.drewN ?_ _)))).mono ?_
  rintro e wq6 ⟨rfl, q6, rfl⟩
  go_wp2_with fail
  go_ret
  exact ⟨rfl, (by repeat (first | (with_reducible exact Below.refl _ _) | (with_reducible refine Below.drew ?_) | (with_reducible refine below_drewN ?_ _) | ((with_reducible refine Below.alloc ?_ ?_ _); rotate_left; (focus (first | (simp; done) | (simp; omega) | omega))) | ((with_reducible refine Below.setCell ?_ ?_ _); rotate_left; (focus (first | (simp; done) | (simp; omega) | omega))) | ((with_reducible refine Below.trans ?_ (Below.mono Hb.out ?_)); rotate_left; (focus (first | (simp; done) | (simp; omega) | omega))) | ((with_reducible refine Below.trans ?_ (Below.mono Hb16.out ?_)); rotate_left; (focus (first | (simp; done) | (simp; omega) | omega))) | ((with_reducible refine Below.trans ?_ (Below.mono Hb15.out ?_)); rotate_left; (focus (first | (simp; done) | (simp; omega) | omega))) | ((with_reducible refine Below.trans ?_ (Below.mono Hb14.out ?_)); rotate_left; (focus (first | (simp; done) | (simp; omega) | omega))) | ((with_reducible refine Below.trans ?_ (Below.mono Hb13.out ?_)); rotate_left; (focus (first | (simp; done) | (simp; omega) | omega))) | ((with_reducible refine Below.trans ?_ (Below.mono Hb12.out ?_)); rotate_left; (focus (first | (simp; done) | (simp; omega) | omega))) | ((with_reducible refine Below.trans ?_ (Below.mono Hb11.out ?_)); rotate_left; (focus (first | (simp; done) | (simp; omega) | omega))) | ((with_reducible refine Below.trans ?_ (Below.mono Hb10.out ?_)); rotate_left; (focus (first | (simp; done) | (simp; omega) | omega))) | ((with_reducible refine Below.trans ?_ (Below.mono Hb9.out ?_)); rotate_left; (focus (first | (simp; done) | (simp; omega) | omega))) | ((with_reducible refine Below.trans ?_ (Below.mono Hb8.out ?_)); rotate_left; (focus (first | (simp; done) | (simp; omega) | omega))) | ((with_reducible refine Below.trans ?_ (Below.mono Hb7.out ?_)); rotate_left; (focus (first | (simp; done) | (simp; omega) | omega))) | ((with_reducible refine Below.trans ?_ (Below.mono Hb6.out ?_)); rotate_left; (focus (first | (simp; done) | (simp; omega) | omega))) | ((with_reducible refine Below.trans ?_ (Below.mono Hb5.out ?_)); rotate_left; (focus (first | (simp; done) | (simp; omega) | omega))) | ((with_reducible refine Below.trans ?_ (Below.mono Hb4.out ?_)); rotate_left; (focus (first | (simp; done) | (simp; omega) | omega))) | ((with_reducible refine Below.trans ?_ (Below.mono Hb3.out ?_)); rotate_left; (focus (first | (simp; done) | (simp; omega) | omega))) | ((with_reducible refine Below.trans ?_ (Below.mono Hb2.out ?_)); rotate_left; (focus (first | (simp; done) | (simp; omega) | omega))) | ((with_reducible refine Below.trans ?_ (Below.mono Hb1.out ?_)); rotate_left; (focus (first | (simp; done) | (simp; omega) | omega))) | ((with_reducible refine Below.trans ?_ (below_of_only Hg16.out ?_ ?_)); rotate_left; (focus (first | (simp; done) | (simp; omega) | omega)); (intro k hk; cases hk; omega)) | ((with_reducible refine Below.trans ?_ (below_of_only Hg15.out ?_ ?_)); rotate_left; (focus (first | (simp; done) | (simp; omega) | omega)); (intro k hk; cases hk; omega)) | ((with_reducible refine Below.trans ?_ (below_of_only Hg14.out ?_ ?_)); rotate_left; (focus (first | (simp; done) | (simp; omega) | omega)); (intro k hk; cases hk; omega)) | ((with_reducible refine Below.trans ?_ (below_of_only Hg13.out ?_ ?_)); rotate_left; (focus (first | (simp; done) | (simp; omega) | omega)); (intro k hk; cases hk; omega)) | ((with_reducible refine Below.trans ?_ (below_of_only Hg12.out ?_ ?_)); rotate_left; (focus (first | (simp; done) | (simp; omega) | omega)); (intro k hk; cases hk; omega)) | ((with_reducible refine Below.trans ?_ (below_of_only Hg11.out ?_ ?_)); rotate_left; (focus (first | (simp; done) | (simp; omega) | omega)); (intro k hk; cases hk; omega)) | ((with_reducible refine Below.trans ?_ (below_of_only Hg10.out ?_ ?_)); rotate_left; (focus (first | (simp; done) | (simp; omega) | omega)); (intro k hk; cases hk; omega)) | ((with_reducible refine Below.trans ?_ (below_of_only Hg9.out ?_ ?_)); rotate_left; (focus (first | (simp; done) | (simp; omega) | omega)); (intro k hk; cases hk; omega)) | ((with_reducible refine Below.trans ?_ (below_of_only Hg8.out ?_ ?_)); rotate_left; (focus (first | (simp; done) | (simp; omega) | omega)); (intro k hk; cases hk; omega)) | ((with_reducible refine Below.trans ?_ (below_of_only Hg7.out ?_ ?_)); rotate_left; (focus (first | (simp; done) | (simp; omega) | omega)); (intro k hk; cases hk; omega)) | ((with_reducible refine Below.trans ?_ (below_of_only Hg6.out ?_ ?_)); rotate_left; (focus (first | (simp; done) | (simp; omega) | omega)); (intro k hk; cases hk; omega)) | ((with_reducible refine Below.trans ?_ (below_of_only Hg5.out ?_ ?_)); rotate_left; (focus (first | (simp; done) | (simp; omega) | omega)); (intro k hk; cases hk; omega)) | ((with_reducible refine Below.trans ?_ (below_of_only Hg4.out ?_ ?_)); rotate_left; (focus (first | (simp; done) | (simp; omega) | omega)); (intro k hk; cases hk; omega)) | ((with_reducible refine Below.trans ?_ (below_of_only Hg3.out ?_ ?_)); rotate_left; (focus (first | (simp; done) | (simp; omega) | omega)); (intro k hk; cases hk; omega)) | ((with_reducible refine Below.trans ?_ (below_of_only Hg2.out ?_ ?_)); rotate_left; (focus (first | (simp; done) | (simp; omega) | omega)); (intro k hk; cases hk; omega)) | ((with_reducible refine Below.trans ?_ (below_of_only Hg1.out ?_ ?_)); rotate_left; (focus (first | (simp; done) | (simp; omega) | omega)); (intro k hk; cases hk; omega))))⟩

end Go.Proofs.Ytmhaclhcllndeaa
