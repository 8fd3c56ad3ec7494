/-
  The walks of the laws: ends decide; the next stop is the first one; sweeps visit every floor once.
-/
import Derived.Test.YtebflmbfgjbipaaWalksD4
import Derived.Test.YtebflmbfgjbipaaDrawFl
import Derived.Test.YtebflmbfgjbipaaLaw8
namespace Go.Proofs.Ytebflmbfgjbipaa
open Go.RowKit
set_option linter.unusedSimpArgs false
set_option linter.unusedVariables false

set_option maxHeartbeats 4000000 in
theorem fnSweepFirst_walk (A : Option Addr) (n c : Nat) (zs : List Int) (w : World) (hl : n ≤ c) (hr : RdI w .u8 A n zs) (hz : ∀ z ∈ zs, (Lit.int .u8 z).wf = true) :
    Calls Try.prog 12 #[.slice A n c] w fun e w' => e = .returned (.bool true) ∧ Below w.heap.size w w' := by
  have Ha := hide (code8_of hl hr hz)
  clear hr hz
  by_cases hn : 1048576 < n
  · have hn' : (1048576 : Int) < (n : Int) := by omega
    go_enter Try.func12, Try.ntmps12
    go_wp2_with fail
    go_ret
    exact ⟨rfl, Below.refl _ _⟩
  have hn' : (n : Int) ≤ 1048576 := by omega
  go_enter Try.func12, Try.ntmps12
  go_wp2_with fail
  refine (DrawSweepOrder_any _ A n c _ (Nat.le_refl _) Ha.out).mono ?_
  rintro e w1 ⟨A1, n1, c1, z1, x, y, rfl, hn1, sA1, x0, x1, y0, y1, r1, hb⟩
  have hz1 := hb.size
  try simp at hz1
  have Hb1 := hide hb
  clear hb
  have R_a := hide r1
  have Hl1 := hide (RdI.len r1)
  have SA := hide (Sl.of_slA sA1)
  clear r1 sA1
  go_wp2_with fail
  refine (SweepOrder_i A1 n1 c1 z1 x y _ (by omega) SA.out (by repeat (first | exact R_a.out | exact Rd.of_own O_a.out | (with_reducible refine RdI.al ?_ _) | (with_reducible refine RdI.dr ?_) | (with_reducible refine RdI.drN ?_ _) | (with_reducible refine Rd.alloc ?_ _) | (with_reducible refine Rd.drew ?_) | (with_reducible refine Rd.drewN ?_ _)))).mono ?_
  rintro e w2 ⟨A_g, n_g, c_g, rfl, ho, hb⟩
  have hz2 := hb.size
  try simp at hz2
  replace R_a := hide (show Rd w2 1 A1 n1 (z1.map (Value.int .i64)) from Rd.below (by repeat (first | exact R_a.out | (with_reducible refine Rd.alloc ?_ _) | (with_reducible refine Rd.drew ?_) | (with_reducible refine Rd.drewN ?_ _))) hb (Nat.le_refl _))
  have Hb2 := hide hb
  clear hb
  have LU_g := hide (fun k h => (⟨(own_lt_old ho k h).1, by have := (own_lt_old ho k h).2; (first | omega | (simp at this; omega))⟩ : k < w2.heap.size ∧ w1.heap.size ≤ k))
  have O_g := hide (show World.ownsRow w2 w.heap.size 3 1 (.slice A_g n_g c_g) n_g ((sweepK z1 x y).map (Value.int .i64)) from own_base ho (by first | omega | (simp; omega)))
  clear ho
  have N_g : n_g ≤ 12 := by have h := RdLEN_int (Rd.of_own O_g.out); have := sweepK_len z1 x y; omega
  go_wp2_with fail
  refine (SweepOrder_s A1 n1 c1 z1 x y _ (by omega) (by repeat (first | exact R_a.out | exact Rd.of_own O_a.out | (with_reducible refine RdI.al ?_ _) | (with_reducible refine RdI.dr ?_) | (with_reducible refine RdI.drN ?_ _) | (with_reducible refine Rd.alloc ?_ _) | (with_reducible refine Rd.drew ?_) | (with_reducible refine Rd.drewN ?_ _)))).mono ?_
  rintro e w3 ⟨A_W, n_W, c_W, rfl, ho, hb⟩
  have hz3 := hb.size
  try simp at hz3
  replace R_a := hide (show Rd w3 1 A1 n1 (z1.map (Value.int .i64)) from Rd.below (by repeat (first | exact R_a.out | (with_reducible refine Rd.alloc ?_ _) | (with_reducible refine Rd.drew ?_) | (with_reducible refine Rd.drewN ?_ _))) hb (Nat.le_refl _))
  replace O_g := hide (show World.ownsRow w3 w.heap.size 3 1 (.slice A_g n_g c_g) n_g ((sweepK z1 x y).map (Value.int .i64)) from own_below (by repeat (first | exact O_g.out | (with_reducible refine World.ownsRow.alloc ?_ _) | (with_reducible refine World.ownsRow.drew ?_) | (with_reducible refine own_drewN ?_ _))) hb (Nat.le_refl _))
  have Hb3 := hide hb
  clear hb
  have LU_W := hide (fun k h => (⟨(own_lt_old ho k h).1, by have := (own_lt_old ho k h).2; (first | omega | (simp at this; omega))⟩ : k < w3.heap.size ∧ w2.heap.size ≤ k))
  have O_W := hide (show World.ownsRow w3 w.heap.size 3 1 (.slice A_W n_W c_W) n_W ((sweepK z1 x y).map (Value.int .i64)) from own_base ho (by first | omega | (simp; omega)))
  clear ho
  have N_W : n_W ≤ 12 := by have h := RdLEN_int (Rd.of_own O_W.out); have := sweepK_len z1 x y; omega
  go_wp2_with fail
  refine (equalInts_same A_g A_W n_g c_g n_W c_W (sweepK z1 x y) _ (by omega) (by repeat (first | exact Rd.of_own O_g.out | (with_reducible refine RdI.al ?_ _) | (with_reducible refine RdI.dr ?_) | (with_reducible refine RdI.drN ?_ _) | (with_reducible refine Rd.alloc ?_ _) | (with_reducible refine Rd.drew ?_) | (with_reducible refine Rd.drewN ?_ _))) (by repeat (first | exact Rd.of_own O_W.out | (with_reducible refine RdI.al ?_ _) | (with_reducible refine RdI.dr ?_) | (with_reducible refine RdI.drN ?_ _) | (with_reducible refine Rd.alloc ?_ _) | (with_reducible refine Rd.drew ?_) | (with_reducible refine Rd.drewN ?_ _)))).mono ?_
  rintro e wq1 ⟨rfl, q1, rfl⟩
  clear O_W LU_W
  have hlg := hide (RdLEN_int (Rd.of_own O_g.out))
  by_cases h0 : n_g = 0
  · have h0' : ((n_g : Int) == 0) = true := by rw [beq_iff_eq]; omega
    clear h0
    go_wp2_with fail
    refine (SweepOrder_s A1 n1 c1 z1 x y _ (by omega) (by repeat (first | exact R_a.out | exact Rd.of_own O_a.out | (with_reducible refine RdI.al ?_ _) | (with_reducible refine RdI.dr ?_) | (with_reducible refine RdI.drN ?_ _) | (with_reducible refine Rd.alloc ?_ _) | (with_reducible refine Rd.drew ?_) | (with_reducible refine Rd.drewN ?_ _)))).mono ?_
    rintro e w4 ⟨A_V, n_V, c_V, rfl, ho, hb⟩
    have hz4 := hb.size
    try simp at hz4
    replace R_a := hide (show Rd w4 1 A1 n1 (z1.map (Value.int .i64)) from Rd.below (by repeat (first | exact R_a.out | (with_reducible refine Rd.alloc ?_ _) | (with_reducible refine Rd.drew ?_) | (with_reducible refine Rd.drewN ?_ _))) hb (Nat.le_refl _))
    replace O_g := hide (show World.ownsRow w4 w.heap.size 3 1 (.slice A_g n_g c_g) n_g ((sweepK z1 x y).map (Value.int .i64)) from own_below (by repeat (first | exact O_g.out | (with_reducible refine World.ownsRow.alloc ?_ _) | (with_reducible refine World.ownsRow.drew ?_) | (with_reducible refine own_drewN ?_ _))) hb (Nat.le_refl _))
    have Hb4 := hide hb
    clear hb
    have LU_V := hide (fun k h => (⟨(own_lt_old ho k h).1, by have := (own_lt_old ho k h).2; (first | omega | (simp at this; omega))⟩ : k < w4.heap.size ∧ w3.heap.size ≤ k))
    have O_V := hide (show World.ownsRow w4 w.heap.size 3 1 (.slice A_V n_V c_V) n_V ((sweepK z1 x y).map (Value.int .i64)) from own_base ho (by first | omega | (simp; omega)))
    clear ho
    have N_V : n_V ≤ 12 := by have h := RdLEN_int (Rd.of_own O_V.out); have := sweepK_len z1 x y; omega
    go_wp2_with fail
    refine (equalInts_same A_g A_V n_g c_g n_V c_V (sweepK z1 x y) _ (by omega) (by repeat (first | exact Rd.of_own O_g.out | (with_reducible refine RdI.al ?_ _) | (with_reducible refine RdI.dr ?_) | (with_reducible refine RdI.drN ?_ _) | (with_reducible refine Rd.alloc ?_ _) | (with_reducible refine Rd.drew ?_) | (with_reducible refine Rd.drewN ?_ _))) (by repeat (first | exact Rd.of_own O_V.out | (with_reducible refine RdI.al ?_ _) | (with_reducible refine RdI.dr ?_) | (with_reducible refine RdI.drN ?_ _) | (with_reducible refine Rd.alloc ?_ _) | (with_reducible refine Rd.drew ?_) | (with_reducible refine Rd.drewN ?_ _)))).mono ?_
    rintro e wq2 ⟨rfl, q2, rfl⟩
    go_wp2_with fail
    go_ret
    exact ⟨rfl, (by repeat (first | (with_reducible exact Below.refl _ _) | (with_reducible refine Below.drew ?_) | (with_reducible refine below_drewN ?_ _) | ((with_reducible refine Below.alloc ?_ ?_ _); rotate_left; (focus (first | (simp; done) | (simp; omega) | omega))) | ((with_reducible refine Below.setCell ?_ ?_ _); rotate_left; (focus (first | (simp; done) | (simp; omega) | omega))) | ((with_reducible refine Below.trans ?_ (Below.mono Hb.out ?_)); rotate_left; (focus (first | (simp; done) | (simp; omega) | omega))) | ((with_reducible refine Below.trans ?_ (Below.mono Hb16.out ?_)); rotate_left; (focus (first | (simp; done) | (simp; omega) | omega))) | ((with_reducible refine Below.trans ?_ (Below.mono Hb15.out ?_)); rotate_left; (focus (first | (simp; done) | (simp; omega) | omega))) | ((with_reducible refine Below.trans ?_ (Below.mono Hb14.out ?_)); rotate_left; (focus (first | (simp; done) | (simp; omega) | omega))) | ((with_reducible refine Below.trans ?_ (Below.mono Hb13.out ?_)); rotate_left; (focus (first | (simp; done) | (simp; omega) | omega))) | ((with_reducible refine Below.trans ?_ (Below.mono Hb12.out ?_)); rotate_left; (focus (first | (simp; done) | (simp; omega) | omega))) | ((with_reducible refine Below.trans ?_ (Below.mono Hb11.out ?_)); rotate_left; (focus (first | (simp; done) | (simp; omega) | omega))) | ((with_reducible refine Below.trans ?_ (Below.mono Hb10.out ?_)); rotate_left; (focus (first | (simp; done) | (simp; omega) | omega))) | ((with_reducible refine Below.trans ?_ (Below.mono Hb9.out ?_)); rotate_left; (focus (first | (simp; done) | (simp; omega) | omega))) | ((with_reducible refine Below.trans ?_ (Below.mono Hb8.out ?_)); rotate_left; (focus (first | (simp; done) | (simp; omega) | omega))) | ((with_reducible refine Below.trans ?_ (Below.mono Hb7.out ?_)); rotate_left; (focus (first | (simp; done) | (simp; omega) | omega))) | ((with_reducible refine Below.trans ?_ (Below.mono Hb6.out ?_)); rotate_left; (focus (first | (simp; done) | (simp; omega) | omega))) | ((with_reducible refine Below.trans ?_ (Below.mono Hb5.out ?_)); rotate_left; (focus (first | (simp; done) | (simp; omega) | omega))) | ((with_reducible refine Below.trans ?_ (Below.mono Hb4.out ?_)); rotate_left; (focus (first | (simp; done) | (simp; omega) | omega))) | ((with_reducible refine Below.trans ?_ (Below.mono Hb3.out ?_)); rotate_left; (focus (first | (simp; done) | (simp; omega) | omega))) | ((with_reducible refine Below.trans ?_ (Below.mono Hb2.out ?_)); rotate_left; (focus (first | (simp; done) | (simp; omega) | omega))) | ((with_reducible refine Below.trans ?_ (Below.mono Hb1.out ?_)); rotate_left; (focus (first | (simp; done) | (simp; omega) | omega))) | ((with_reducible refine Below.trans ?_ (below_of_only Hg16.out ?_ ?_)); rotate_left; (focus (first | (simp; done) | (simp; omega) | omega)); (intro k hk; cases hk; omega)) | ((with_reducible refine Below.trans ?_ (below_of_only Hg15.out ?_ ?_)); rotate_left; (focus (first | (simp; done) | (simp; omega) | omega)); (intro k hk; cases hk; omega)) | ((with_reducible refine Below.trans ?_ (below_of_only Hg14.out ?_ ?_)); rotate_left; (focus (first | (simp; done) | (simp; omega) | omega)); (intro k hk; cases hk; omega)) | ((with_reducible refine Below.trans ?_ (below_of_only Hg13.out ?_ ?_)); rotate_left; (focus (first | (simp; done) | (simp; omega) | omega)); (intro k hk; cases hk; omega)) | ((with_reducible refine Below.trans ?_ (below_of_only Hg12.out ?_ ?_)); rotate_left; (focus (first | (simp; done) | (simp; omega) | omega)); (intro k hk; cases hk; omega)) | ((with_reducible refine Below.trans ?_ (below_of_only Hg11.out ?_ ?_)); rotate_left; (focus (first | (simp; done) | (simp; omega) | omega)); (intro k hk; cases hk; omega)) | ((with_reducible refine Below.trans ?_ (below_of_only Hg10.out ?_ ?_)); rotate_left; (focus (first | (simp; done) | (simp; omega) | omega)); (intro k hk; cases hk; omega)) | ((with_reducible refine Below.trans ?_ (below_of_only Hg9.out ?_ ?_)); rotate_left; (focus (first | (simp; done) | (simp; omega) | omega)); (intro k hk; cases hk; omega)) | ((with_reducible refine Below.trans ?_ (below_of_only Hg8.out ?_ ?_)); rotate_left; (focus (first | (simp; done) | (simp; omega) | omega)); (intro k hk; cases hk; omega)) | ((with_reducible refine Below.trans ?_ (below_of_only Hg7.out ?_ ?_)); rotate_left; (focus (first | (simp; done) | (simp; omega) | omega)); (intro k hk; cases hk; omega)) | ((with_reducible refine Below.trans ?_ (below_of_only Hg6.out ?_ ?_)); rotate_left; (focus (first | (simp; done) | (simp; omega) | omega)); (intro k hk; cases hk; omega)) | ((with_reducible refine Below.trans ?_ (below_of_only Hg5.out ?_ ?_)); rotate_left; (focus (first | (simp; done) | (simp; omega) | omega)); (intro k hk; cases hk; omega)) | ((with_reducible refine Below.trans ?_ (below_of_only Hg4.out ?_ ?_)); rotate_left; (focus (first | (simp; done) | (simp; omega) | omega)); (intro k hk; cases hk; omega)) | ((with_reducible refine Below.trans ?_ (below_of_only Hg3.out ?_ ?_)); rotate_left; (focus (first | (simp; done) | (simp; omega) | omega)); (intro k hk; cases hk; omega)) | ((with_reducible refine Below.trans ?_ (below_of_only Hg2.out ?_ ?_)); rotate_left; (focus (first | (simp; done) | (simp; omega) | omega)); (intro k hk; cases hk; omega)) | ((with_reducible refine Below.trans ?_ (below_of_only Hg1.out ?_ ?_)); rotate_left; (focus (first | (simp; done) | (simp; omega) | omega)); (intro k hk; cases hk; omega))))⟩
  have h0' : ((n_g : Int) == 0) = false := by rw [beq_eq_false_iff_ne]; omega
  have hvs : vSw z1 x y = true := by
    cases h : vSw z1 x y with
    | true => rfl
    | false =>
      have h2 := hlg.out
      rw [sweepK_neg h] at h2
      simp at h2; omega
  have hw := vSw_iff.1 hvs
  obtain ⟨w1a, w1b, ⟨x2, x3⟩, w1d⟩ := hw
  have W1b := hide w1b
  have W1d := hide w1d
  have HV := hide hvs
  clear hvs w1b w1d
  have hv1 := vSw_iff.2 (show z1.length ≤ 12 ∧ (∀ u ∈ z1, 0 ≤ u ∧ u ≤ 15) ∧ (0 ≤ (0:Int) ∧ (0:Int) ≤ 15) ∧ ((1:Int) = 1 ∨ (1:Int) = -1) from ⟨w1a, W1b.out, by omega, .inl rfl⟩)
  have hv2 := vSw_iff.2 (show z1.length ≤ 12 ∧ (∀ u ∈ z1, 0 ≤ u ∧ u ≤ 15) ∧ (0 ≤ (15:Int) ∧ (15:Int) ≤ 15) ∧ ((-1:Int) = 1 ∨ (-1:Int) = -1) from ⟨w1a, W1b.out, by omega, .inr rfl⟩)
  have U1 := hide (show sweepK z1 0 1 = flo z1 by rw [sweepK_pos hv1, sweep_up0])
  have U2 := hide (show sweepK z1 15 (-1) = (flo z1).reverse by rw [sweepK_pos hv2, sweep_down15])
  clear hv1 hv2
  go_wp2_with fail
  refine (SweepOrder_i A1 n1 c1 z1 0 1 _ (by omega) SA.out (by repeat (first | exact R_a.out | exact Rd.of_own O_a.out | (with_reducible refine RdI.al ?_ _) | (with_reducible refine RdI.dr ?_) | (with_reducible refine RdI.drN ?_ _) | (with_reducible refine Rd.alloc ?_ _) | (with_reducible refine Rd.drew ?_) | (with_reducible refine Rd.drewN ?_ _)))).mono ?_
  rintro e w4 ⟨A_u, n_u, c_u, rfl, ho, hb⟩
  have hz4 := hb.size
  try simp at hz4
  replace R_a := hide (show Rd w4 1 A1 n1 (z1.map (Value.int .i64)) from Rd.below (by repeat (first | exact R_a.out | (with_reducible refine Rd.alloc ?_ _) | (with_reducible refine Rd.drew ?_) | (with_reducible refine Rd.drewN ?_ _))) hb (Nat.le_refl _))
  replace O_g := hide (show World.ownsRow w4 w.heap.size 3 1 (.slice A_g n_g c_g) n_g ((sweepK z1 x y).map (Value.int .i64)) from own_below (by repeat (first | exact O_g.out | (with_reducible refine World.ownsRow.alloc ?_ _) | (with_reducible refine World.ownsRow.drew ?_) | (with_reducible refine own_drewN ?_ _))) hb (Nat.le_refl _))
  have Hb4 := hide hb
  clear hb
  have LU_u := hide (fun k h => (⟨(own_lt_old ho k h).1, by have := (own_lt_old ho k h).2; (first | omega | (simp at this; omega))⟩ : k < w4.heap.size ∧ w3.heap.size ≤ k))
  have O_u := hide (show World.ownsRow w4 w.heap.size 3 1 (.slice A_u n_u c_u) n_u ((sweepK z1 0 1).map (Value.int .i64)) from own_base ho (by first | omega | (simp; omega)))
  clear ho
  have N_u : n_u ≤ 12 := by have h := RdLEN_int (Rd.of_own O_u.out); have := sweepK_len z1 0 1; omega
  go_wp2_with fail
  refine (SweepOrder_i A1 n1 c1 z1 15 (-1) _ (by omega) SA.out (by repeat (first | exact R_a.out | exact Rd.of_own O_a.out | (with_reducible refine RdI.al ?_ _) | (with_reducible refine RdI.dr ?_) | (with_reducible refine RdI.drN ?_ _) | (with_reducible refine Rd.alloc ?_ _) | (with_reducible refine Rd.drew ?_) | (with_reducible refine Rd.drewN ?_ _)))).mono ?_
  rintro e w5 ⟨A_d, n_d, c_d, rfl, ho, hb⟩
  have hz5 := hb.size
  try simp at hz5
  replace R_a := hide (show Rd w5 1 A1 n1 (z1.map (Value.int .i64)) from Rd.below (by repeat (first | exact R_a.out | (with_reducible refine Rd.alloc ?_ _) | (with_reducible refine Rd.drew ?_) | (with_reducible refine Rd.drewN ?_ _))) hb (Nat.le_refl _))
  replace O_g := hide (show World.ownsRow w5 w.heap.size 3 1 (.slice A_g n_g c_g) n_g ((sweepK z1 x y).map (Value.int .i64)) from own_below (by repeat (first | exact O_g.out | (with_reducible refine World.ownsRow.alloc ?_ _) | (with_reducible refine World.ownsRow.drew ?_) | (with_reducible refine own_drewN ?_ _))) hb (Nat.le_refl _))
  replace O_u := hide (show World.ownsRow w5 w.heap.size 3 1 (.slice A_u n_u c_u) n_u ((sweepK z1 0 1).map (Value.int .i64)) from own_below (by repeat (first | exact O_u.out | (with_reducible refine World.ownsRow.alloc ?_ _) | (with_reducible refine World.ownsRow.drew ?_) | (with_reducible refine own_drewN ?_ _))) hb (Nat.le_refl _))
  have Hb5 := hide hb
  clear hb
  have LU_d := hide (fun k h => (⟨(own_lt_old ho k h).1, by have := (own_lt_old ho k h).2; (first | omega | (simp at this; omega))⟩ : k < w5.heap.size ∧ w4.heap.size ≤ k))
  have O_d := hide (show World.ownsRow w5 w.heap.size 3 1 (.slice A_d n_d c_d) n_d ((sweepK z1 15 (-1)).map (Value.int .i64)) from own_base ho (by first | omega | (simp; omega)))
  clear ho
  have N_d : n_d ≤ 12 := by have h := RdLEN_int (Rd.of_own O_d.out); have := sweepK_len z1 15 (-1); omega
  have RU := hide (show RdI w5 .i64 A_u n_u (flo z1) from by have h := Rd.of_own O_u.out; rw [U1.out] at h; exact h)
  have RD := hide (show RdI w5 .i64 A_d n_d (flo z1).reverse from by have h := Rd.of_own O_d.out; rw [U2.out] at h; exact h)
  have hnd : n_d = n_u := by
    have h1 := RdI.len RU.out
    have h2 := RdI.len RD.out
    simp at h2
    omega
  subst hnd
  have Lu := hide (RdI.len RU.out)
  have HBB := hide (show Below w.heap.size w w5 from (by repeat (first | (with_reducible exact Below.refl _ _) | (with_reducible refine Below.drew ?_) | (with_reducible refine below_drewN ?_ _) | ((with_reducible refine Below.alloc ?_ ?_ _); rotate_left; (focus (first | (simp; done) | (simp; omega) | omega))) | ((with_reducible refine Below.setCell ?_ ?_ _); rotate_left; (focus (first | (simp; done) | (simp; omega) | omega))) | ((with_reducible refine Below.trans ?_ (Below.mono Hb.out ?_)); rotate_left; (focus (first | (simp; done) | (simp; omega) | omega))) | ((with_reducible refine Below.trans ?_ (Below.mono Hb16.out ?_)); rotate_left; (focus (first | (simp; done) | (simp; omega) | omega))) | ((with_reducible refine Below.trans ?_ (Below.mono Hb15.out ?_)); rotate_left; (focus (first | (simp; done) | (simp; omega) | omega))) | ((with_reducible refine Below.trans ?_ (Below.mono Hb14.out ?_)); rotate_left; (focus (first | (simp; done) | (simp; omega) | omega))) | ((with_reducible refine Below.trans ?_ (Below.mono Hb13.out ?_)); rotate_left; (focus (first | (simp; done) | (simp; omega) | omega))) | ((with_reducible refine Below.trans ?_ (Below.mono Hb12.out ?_)); rotate_left; (focus (first | (simp; done) | (simp; omega) | omega))) | ((with_reducible refine Below.trans ?_ (Below.mono Hb11.out ?_)); rotate_left; (focus (first | (simp; done) | (simp; omega) | omega))) | ((with_reducible refine Below.trans ?_ (Below.mono Hb10.out ?_)); rotate_left; (focus (first | (simp; done) | (simp; omega) | omega))) | ((with_reducible refine Below.trans ?_ (Below.mono Hb9.out ?_)); rotate_left; (focus (first | (simp; done) | (simp; omega) | omega))) | ((with_reducible refine Below.trans ?_ (Below.mono Hb8.out ?_)); rotate_left; (focus (first | (simp; done) | (simp; omega) | omega))) | ((with_reducible refine Below.trans ?_ (Below.mono Hb7.out ?_)); rotate_left; (focus (first | (simp; done) | (simp; omega) | omega))) | ((with_reducible refine Below.trans ?_ (Below.mono Hb6.out ?_)); rotate_left; (focus (first | (simp; done) | (simp; omega) | omega))) | ((with_reducible refine Below.trans ?_ (Below.mono Hb5.out ?_)); rotate_left; (focus (first | (simp; done) | (simp; omega) | omega))) | ((with_reducible refine Below.trans ?_ (Below.mono Hb4.out ?_)); rotate_left; (focus (first | (simp; done) | (simp; omega) | omega))) | ((with_reducible refine Below.trans ?_ (Below.mono Hb3.out ?_)); rotate_left; (focus (first | (simp; done) | (simp; omega) | omega))) | ((with_reducible refine Below.trans ?_ (Below.mono Hb2.out ?_)); rotate_left; (focus (first | (simp; done) | (simp; omega) | omega))) | ((with_reducible refine Below.trans ?_ (Below.mono Hb1.out ?_)); rotate_left; (focus (first | (simp; done) | (simp; omega) | omega))) | ((with_reducible refine Below.trans ?_ (below_of_only Hg16.out ?_ ?_)); rotate_left; (focus (first | (simp; done) | (simp; omega) | omega)); (intro k hk; cases hk; omega)) | ((with_reducible refine Below.trans ?_ (below_of_only Hg15.out ?_ ?_)); rotate_left; (focus (first | (simp; done) | (simp; omega) | omega)); (intro k hk; cases hk; omega)) | ((with_reducible refine Below.trans ?_ (below_of_only Hg14.out ?_ ?_)); rotate_left; (focus (first | (simp; done) | (simp; omega) | omega)); (intro k hk; cases hk; omega)) | ((with_reducible refine Below.trans ?_ (below_of_only Hg13.out ?_ ?_)); rotate_left; (focus (first | (simp; done) | (simp; omega) | omega)); (intro k hk; cases hk; omega)) | ((with_reducible refine Below.trans ?_ (below_of_only Hg12.out ?_ ?_)); rotate_left; (focus (first | (simp; done) | (simp; omega) | omega)); (intro k hk; cases hk; omega)) | ((with_reducible refine Below.trans ?_ (below_of_only Hg11.out ?_ ?_)); rotate_left; (focus (first | (simp; done) | (simp; omega) | omega)); (intro k hk; cases hk; omega)) | ((with_reducible refine Below.trans ?_ (below_of_only Hg10.out ?_ ?_)); rotate_left; (focus (first | (simp; done) | (simp; omega) | omega)); (intro k hk; cases hk; omega)) | ((with_reducible refine Below.trans ?_ (below_of_only Hg9.out ?_ ?_)); rotate_left; (focus (first | (simp; done) | (simp; omega) | omega)); (intro k hk; cases hk; omega)) | ((with_reducible refine Below.trans ?_ (below_of_only Hg8.out ?_ ?_)); rotate_left; (focus (first | (simp; done) | (simp; omega) | omega)); (intro k hk; cases hk; omega)) | ((with_reducible refine Below.trans ?_ (below_of_only Hg7.out ?_ ?_)); rotate_left; (focus (first | (simp; done) | (simp; omega) | omega)); (intro k hk; cases hk; omega)) | ((with_reducible refine Below.trans ?_ (below_of_only Hg6.out ?_ ?_)); rotate_left; (focus (first | (simp; done) | (simp; omega) | omega)); (intro k hk; cases hk; omega)) | ((with_reducible refine Below.trans ?_ (below_of_only Hg5.out ?_ ?_)); rotate_left; (focus (first | (simp; done) | (simp; omega) | omega)); (intro k hk; cases hk; omega)) | ((with_reducible refine Below.trans ?_ (below_of_only Hg4.out ?_ ?_)); rotate_left; (focus (first | (simp; done) | (simp; omega) | omega)); (intro k hk; cases hk; omega)) | ((with_reducible refine Below.trans ?_ (below_of_only Hg3.out ?_ ?_)); rotate_left; (focus (first | (simp; done) | (simp; omega) | omega)); (intro k hk; cases hk; omega)) | ((with_reducible refine Below.trans ?_ (below_of_only Hg2.out ?_ ?_)); rotate_left; (focus (first | (simp; done) | (simp; omega) | omega)); (intro k hk; cases hk; omega)) | ((with_reducible refine Below.trans ?_ (below_of_only Hg1.out ?_ ?_)); rotate_left; (focus (first | (simp; done) | (simp; omega) | omega)); (intro k hk; cases hk; omega)))))
  go_wp2_with fail
  go_loopw [9] (fun i wr => ∃ j : Nat, j ≤ n_d ∧ i = .int .i64 j ∧ ∃ q, wr = w5.drewN q) (fun i _ => n_d - (intOf i).toNat)
  case atStart => exact ⟨0, Nat.zero_le _, rfl, 0, rfl⟩
  case round =>
    obtain ⟨j, hj, rfl, q, rfl⟩ := hrel
    by_cases hjl : j < n_d
    · obtain ⟨b1, o1, u, hA1, hb1, hu, e1⟩ := RdI.at_ RU.out hjl
      obtain ⟨r, hr1, hr2⟩ : ∃ r, r + (j + 1) ≤ n_d ∧ n_d ≤ r + (j + 1) := ⟨n_d - (j + 1), by omega, by omega⟩
      obtain ⟨b2, o2, v, hA2, hb2, hv, e2⟩ := RdI.at_ RD.out (show r < n_d by omega)
      have hvu : v = u := by
        rw [List.getElem?_reverse (by rw [Lu.out]; omega), Lu.out, show n_d - 1 - r = j by omega, hu] at hv
        exact (Option.some.inj hv).symm
      subst hvu hA1 hA2
      have hjl' : (j : Int) < (n_d : Int) := by omega
      have hjl2 : ¬ (n_d : Int) ≤ (j : Int) := by omega
      have hjl4 : ¬ n_d ≤ j := by omega
      have hjl3 : decide ((n_d : Int) ≤ (j : Int)) = false := decide_eq_false hjl2
      have i1 : (0 : Int) ≤ (n_d : Int) - 1 - (j : Int) := by omega
      have i2 : (n_d : Int) - 1 - (j : Int) < (n_d : Int) := by omega
      have i3 : ((n_d : Int) - 1 - (j : Int)).toNat = r := by omega
      rcases Nat.eq_zero_or_pos j with hj0 | hj0
      · subst hj0
        have i4 : decide ((0 : Int) < (0 : Int)) = false := by decide
        simp only [Int.natCast_zero, Int.sub_zero] at i1 i2 i3
        rw [Nat.add_zero] at e1
        have k1 : decide ((n_d : Int) ≤ 0) = false := decide_eq_false (by omega)
        have k2 : decide (n_d = 0) = false := decide_eq_false (by omega)
        have k3 : ¬ n_d = 0 := by omega
        have k4 : (n_d == 0) = false := by rw [beq_eq_false_iff_ne]; omega
        clear hu hv hjl' hjl2 hjl3 hjl4
        go_wp2_with fail
        go_big_quiet (fail)
        go_wp2_with fail
        go_roundw
        case rel => exact ⟨1, by omega, by go_num, _, rfl⟩
        case measure => simp [intOf]; omega
      · obtain ⟨p, rfl⟩ : ∃ p, j = p + 1 := ⟨j - 1, by omega⟩
        obtain ⟨b3, o3, u', hA3, hb3, hu', e3⟩ := RdI.at_ RU.out (show p < n_d by omega)
        cases hA3
        have hlt : u' < v := by
          obtain ⟨k1, x1⟩ := List.getElem?_eq_some_iff.1 hu'
          obtain ⟨k2, x2⟩ := List.getElem?_eq_some_iff.1 hu
          have := List.pairwise_iff_getElem.1 (asc_flo z1) p (p + 1) k1 k2 (Nat.lt_succ_self _)
          rw [x1, x2] at this
          exact this
        have i4 : ¬ v ≤ u' := by omega
        have i5 : decide (v ≤ u') = false := decide_eq_false i4
        have i6 : (p : Int) < (n_d : Int) := by omega
        have i7 : (0 : Int) < (p : Int) + 1 := by omega
        have i8 : ((p : Int) + 1).toNat = p + 1 := by omega
        have j1 : (0 : Int) ≤ (n_d : Int) - 1 - ((p : Int) + 1) := by omega
        have j2 : (n_d : Int) - 1 - ((p : Int) + 1) < (n_d : Int) := by omega
        have j3 : ((n_d : Int) - 1 - ((p : Int) + 1)).toNat = r := by omega
        have j4 : (p : Int) + 1 < (n_d : Int) := by omega
        have j5 : ¬ (n_d : Int) ≤ (p : Int) + 1 := by omega
        have j6 : decide ((n_d : Int) ≤ (p : Int) + 1) = false := decide_eq_false j5
        have k1 : decide (n_d ≤ p + 1) = false := decide_eq_false (by omega)
        have k5 : ¬ n_d ≤ p + 1 := by omega
        have k2 : decide ((0 : Int) < (p : Int) + 1) = true := decide_eq_true (by omega)
        clear hu hv hu' i1 i2 i3 hjl' hjl2 hjl3 hjl4
        go_wp2_with fail
        go_big_quiet (fail)
        go_wp2_with fail
        go_roundw
        case rel => exact ⟨p + 1 + 1, by omega, by go_num, _, rfl⟩
        case measure => simp [intOf]; omega
    · go_wp2_with fail
      go_ret
      exact ⟨rfl, below_drewN HBB.out _⟩

end Go.Proofs.Ytebflmbfgjbipaa
