/-
  The walk of the law that RunDoor returns what the reference returns.
-/
import Derived.Test.YtlcdcelelpapnaaRunDoorI
import Derived.Test.YtlcdcelelpapnaaCopy
import Derived.Test.YtlcdcelelpapnaaTrack
namespace Go.Proofs.Ytlcdcelelpapnaa
open Go.RowKit
set_option linter.unusedSimpArgs false
set_option linter.unusedVariables false

theorem dRun_le (s l : Int) (ws bs : List Bool) (n : Nat) (h : ws.length = n) : (dRun s l ws bs).length ≤ n := by
  unfold dRun; split
  · rw [dStates_len]; omega
  · simp

set_option maxHeartbeats 4000000 in
theorem fnExactRunDoor_walk (s l : Int) (A1 : Option Addr) (n1 c1 : Nat) (z1 : List Bool) (A2 : Option Addr) (n2 c2 : Nat) (z2 : List Bool) (w : World) (_ : (Lit.int .i64 s).wf = true) (_ : (Lit.int .i64 l).wf = true) (_ : n1 ≤ c1) (r1 : RdB w A1 n1 z1) (_ : n2 ≤ c2) (r2 : RdB w A2 n2 z2) :
    Calls Try.prog 6 #[.agg #[.int .i64 s, .int .i64 l], .slice A1 n1 c1, .slice A2 n2 c2] w fun e w' => e = .returned (.bool true) ∧ Below w.heap.size w w' := by
  have R0_a1 := hide r1
  have R0_a2 := hide r2
  have D_a1 := hide (Rd.old r1)
  have D_a2 := hide (Rd.old r2)
  have hl1 := RdB.len r1
  clear r1 r2
  by_cases h1 : 1048576 < n1
  · have h1' : (1048576 : Int) < (n1 : Int) := by omega
    go_enter Try.func6, Try.ntmps6
    go_wp2_with fail
    go_ret
    exact ⟨rfl, (by repeat (first | (with_reducible exact Below.refl _ _) | (with_reducible refine Below.drew ?_) | (with_reducible refine below_drewN ?_ _) | ((with_reducible refine Below.alloc ?_ ?_ _); rotate_left; (focus (first | (simp; done) | (simp; omega) | omega))) | ((with_reducible refine Below.setCell ?_ ?_ _); rotate_left; (focus (first | (simp; done) | (simp; omega) | omega))) | ((with_reducible refine Below.trans ?_ (Below.mono Hb.out ?_)); rotate_left; (focus (first | (simp; done) | (simp; omega) | omega))) | ((with_reducible refine Below.trans ?_ (Below.mono Hb16.out ?_)); rotate_left; (focus (first | (simp; done) | (simp; omega) | omega))) | ((with_reducible refine Below.trans ?_ (Below.mono Hb15.out ?_)); rotate_left; (focus (first | (simp; done) | (simp; omega) | omega))) | ((with_reducible refine Below.trans ?_ (Below.mono Hb14.out ?_)); rotate_left; (focus (first | (simp; done) | (simp; omega) | omega))) | ((with_reducible refine Below.trans ?_ (Below.mono Hb13.out ?_)); rotate_left; (focus (first | (simp; done) | (simp; omega) | omega))) | ((with_reducible refine Below.trans ?_ (Below.mono Hb12.out ?_)); rotate_left; (focus (first | (simp; done) | (simp; omega) | omega))) | ((with_reducible refine Below.trans ?_ (Below.mono Hb11.out ?_)); rotate_left; (focus (first | (simp; done) | (simp; omega) | omega))) | ((with_reducible refine Below.trans ?_ (Below.mono Hb10.out ?_)); rotate_left; (focus (first | (simp; done) | (simp; omega) | omega))) | ((with_reducible refine Below.trans ?_ (Below.mono Hb9.out ?_)); rotate_left; (focus (first | (simp; done) | (simp; omega) | omega))) | ((with_reducible refine Below.trans ?_ (Below.mono Hb8.out ?_)); rotate_left; (focus (first | (simp; done) | (simp; omega) | omega))) | ((with_reducible refine Below.trans ?_ (Below.mono Hb7.out ?_)); rotate_left; (focus (first | (simp; done) | (simp; omega) | omega))) | ((with_reducible refine Below.trans ?_ (Below.mono Hb6.out ?_)); rotate_left; (focus (first | (simp; done) | (simp; omega) | omega))) | ((with_reducible refine Below.trans ?_ (Below.mono Hb5.out ?_)); rotate_left; (focus (first | (simp; done) | (simp; omega) | omega))) | ((with_reducible refine Below.trans ?_ (Below.mono Hb4.out ?_)); rotate_left; (focus (first | (simp; done) | (simp; omega) | omega))) | ((with_reducible refine Below.trans ?_ (Below.mono Hb3.out ?_)); rotate_left; (focus (first | (simp; done) | (simp; omega) | omega))) | ((with_reducible refine Below.trans ?_ (Below.mono Hb2.out ?_)); rotate_left; (focus (first | (simp; done) | (simp; omega) | omega))) | ((with_reducible refine Below.trans ?_ (Below.mono Hb1.out ?_)); rotate_left; (focus (first | (simp; done) | (simp; omega) | omega))) | ((with_reducible refine Below.trans ?_ (below_of_only Hg16.out ?_ ?_)); rotate_left; (focus (first | (simp; done) | (simp; omega) | omega)); (intro k hk; cases hk; omega)) | ((with_reducible refine Below.trans ?_ (below_of_only Hg15.out ?_ ?_)); rotate_left; (focus (first | (simp; done) | (simp; omega) | omega)); (intro k hk; cases hk; omega)) | ((with_reducible refine Below.trans ?_ (below_of_only Hg14.out ?_ ?_)); rotate_left; (focus (first | (simp; done) | (simp; omega) | omega)); (intro k hk; cases hk; omega)) | ((with_reducible refine Below.trans ?_ (below_of_only Hg13.out ?_ ?_)); rotate_left; (focus (first | (simp; done) | (simp; omega) | omega)); (intro k hk; cases hk; omega)) | ((with_reducible refine Below.trans ?_ (below_of_only Hg12.out ?_ ?_)); rotate_left; (focus (first | (simp; done) | (simp; omega) | omega)); (intro k hk; cases hk; omega)) | ((with_reducible refine Below.trans ?_ (below_of_only Hg11.out ?_ ?_)); rotate_left; (focus (first | (simp; done) | (simp; omega) | omega)); (intro k hk; cases hk; omega)) | ((with_reducible refine Below.trans ?_ (below_of_only Hg10.out ?_ ?_)); rotate_left; (focus (first | (simp; done) | (simp; omega) | omega)); (intro k hk; cases hk; omega)) | ((with_reducible refine Below.trans ?_ (below_of_only Hg9.out ?_ ?_)); rotate_left; (focus (first | (simp; done) | (simp; omega) | omega)); (intro k hk; cases hk; omega)) | ((with_reducible refine Below.trans ?_ (below_of_only Hg8.out ?_ ?_)); rotate_left; (focus (first | (simp; done) | (simp; omega) | omega)); (intro k hk; cases hk; omega)) | ((with_reducible refine Below.trans ?_ (below_of_only Hg7.out ?_ ?_)); rotate_left; (focus (first | (simp; done) | (simp; omega) | omega)); (intro k hk; cases hk; omega)) | ((with_reducible refine Below.trans ?_ (below_of_only Hg6.out ?_ ?_)); rotate_left; (focus (first | (simp; done) | (simp; omega) | omega)); (intro k hk; cases hk; omega)) | ((with_reducible refine Below.trans ?_ (below_of_only Hg5.out ?_ ?_)); rotate_left; (focus (first | (simp; done) | (simp; omega) | omega)); (intro k hk; cases hk; omega)) | ((with_reducible refine Below.trans ?_ (below_of_only Hg4.out ?_ ?_)); rotate_left; (focus (first | (simp; done) | (simp; omega) | omega)); (intro k hk; cases hk; omega)) | ((with_reducible refine Below.trans ?_ (below_of_only Hg3.out ?_ ?_)); rotate_left; (focus (first | (simp; done) | (simp; omega) | omega)); (intro k hk; cases hk; omega)) | ((with_reducible refine Below.trans ?_ (below_of_only Hg2.out ?_ ?_)); rotate_left; (focus (first | (simp; done) | (simp; omega) | omega)); (intro k hk; cases hk; omega)) | ((with_reducible refine Below.trans ?_ (below_of_only Hg1.out ?_ ?_)); rotate_left; (focus (first | (simp; done) | (simp; omega) | omega)); (intro k hk; cases hk; omega))))⟩
  have h1' : (n1 : Int) ≤ 1048576 := by omega
  by_cases h2 : 1048576 < n2
  · have h2' : (1048576 : Int) < (n2 : Int) := by omega
    go_enter Try.func6, Try.ntmps6
    go_wp2_with fail
    go_ret
    exact ⟨rfl, (by repeat (first | (with_reducible exact Below.refl _ _) | (with_reducible refine Below.drew ?_) | (with_reducible refine below_drewN ?_ _) | ((with_reducible refine Below.alloc ?_ ?_ _); rotate_left; (focus (first | (simp; done) | (simp; omega) | omega))) | ((with_reducible refine Below.setCell ?_ ?_ _); rotate_left; (focus (first | (simp; done) | (simp; omega) | omega))) | ((with_reducible refine Below.trans ?_ (Below.mono Hb.out ?_)); rotate_left; (focus (first | (simp; done) | (simp; omega) | omega))) | ((with_reducible refine Below.trans ?_ (Below.mono Hb16.out ?_)); rotate_left; (focus (first | (simp; done) | (simp; omega) | omega))) | ((with_reducible refine Below.trans ?_ (Below.mono Hb15.out ?_)); rotate_left; (focus (first | (simp; done) | (simp; omega) | omega))) | ((with_reducible refine Below.trans ?_ (Below.mono Hb14.out ?_)); rotate_left; (focus (first | (simp; done) | (simp; omega) | omega))) | ((with_reducible refine Below.trans ?_ (Below.mono Hb13.out ?_)); rotate_left; (focus (first | (simp; done) | (simp; omega) | omega))) | ((with_reducible refine Below.trans ?_ (Below.mono Hb12.out ?_)); rotate_left; (focus (first | (simp; done) | (simp; omega) | omega))) | ((with_reducible refine Below.trans ?_ (Below.mono Hb11.out ?_)); rotate_left; (focus (first | (simp; done) | (simp; omega) | omega))) | ((with_reducible refine Below.trans ?_ (Below.mono Hb10.out ?_)); rotate_left; (focus (first | (simp; done) | (simp; omega) | omega))) | ((with_reducible refine Below.trans ?_ (Below.mono Hb9.out ?_)); rotate_left; (focus (first | (simp; done) | (simp; omega) | omega))) | ((with_reducible refine Below.trans ?_ (Below.mono Hb8.out ?_)); rotate_left; (focus (first | (simp; done) | (simp; omega) | omega))) | ((with_reducible refine Below.trans ?_ (Below.mono Hb7.out ?_)); rotate_left; (focus (first | (simp; done) | (simp; omega) | omega))) | ((with_reducible refine Below.trans ?_ (Below.mono Hb6.out ?_)); rotate_left; (focus (first | (simp; done) | (simp; omega) | omega))) | ((with_reducible refine Below.trans ?_ (Below.mono Hb5.out ?_)); rotate_left; (focus (first | (simp; done) | (simp; omega) | omega))) | ((with_reducible refine Below.trans ?_ (Below.mono Hb4.out ?_)); rotate_left; (focus (first | (simp; done) | (simp; omega) | omega))) | ((with_reducible refine Below.trans ?_ (Below.mono Hb3.out ?_)); rotate_left; (focus (first | (simp; done) | (simp; omega) | omega))) | ((with_reducible refine Below.trans ?_ (Below.mono Hb2.out ?_)); rotate_left; (focus (first | (simp; done) | (simp; omega) | omega))) | ((with_reducible refine Below.trans ?_ (Below.mono Hb1.out ?_)); rotate_left; (focus (first | (simp; done) | (simp; omega) | omega))) | ((with_reducible refine Below.trans ?_ (below_of_only Hg16.out ?_ ?_)); rotate_left; (focus (first | (simp; done) | (simp; omega) | omega)); (intro k hk; cases hk; omega)) | ((with_reducible refine Below.trans ?_ (below_of_only Hg15.out ?_ ?_)); rotate_left; (focus (first | (simp; done) | (simp; omega) | omega)); (intro k hk; cases hk; omega)) | ((with_reducible refine Below.trans ?_ (below_of_only Hg14.out ?_ ?_)); rotate_left; (focus (first | (simp; done) | (simp; omega) | omega)); (intro k hk; cases hk; omega)) | ((with_reducible refine Below.trans ?_ (below_of_only Hg13.out ?_ ?_)); rotate_left; (focus (first | (simp; done) | (simp; omega) | omega)); (intro k hk; cases hk; omega)) | ((with_reducible refine Below.trans ?_ (below_of_only Hg12.out ?_ ?_)); rotate_left; (focus (first | (simp; done) | (simp; omega) | omega)); (intro k hk; cases hk; omega)) | ((with_reducible refine Below.trans ?_ (below_of_only Hg11.out ?_ ?_)); rotate_left; (focus (first | (simp; done) | (simp; omega) | omega)); (intro k hk; cases hk; omega)) | ((with_reducible refine Below.trans ?_ (below_of_only Hg10.out ?_ ?_)); rotate_left; (focus (first | (simp; done) | (simp; omega) | omega)); (intro k hk; cases hk; omega)) | ((with_reducible refine Below.trans ?_ (below_of_only Hg9.out ?_ ?_)); rotate_left; (focus (first | (simp; done) | (simp; omega) | omega)); (intro k hk; cases hk; omega)) | ((with_reducible refine Below.trans ?_ (below_of_only Hg8.out ?_ ?_)); rotate_left; (focus (first | (simp; done) | (simp; omega) | omega)); (intro k hk; cases hk; omega)) | ((with_reducible refine Below.trans ?_ (below_of_only Hg7.out ?_ ?_)); rotate_left; (focus (first | (simp; done) | (simp; omega) | omega)); (intro k hk; cases hk; omega)) | ((with_reducible refine Below.trans ?_ (below_of_only Hg6.out ?_ ?_)); rotate_left; (focus (first | (simp; done) | (simp; omega) | omega)); (intro k hk; cases hk; omega)) | ((with_reducible refine Below.trans ?_ (below_of_only Hg5.out ?_ ?_)); rotate_left; (focus (first | (simp; done) | (simp; omega) | omega)); (intro k hk; cases hk; omega)) | ((with_reducible refine Below.trans ?_ (below_of_only Hg4.out ?_ ?_)); rotate_left; (focus (first | (simp; done) | (simp; omega) | omega)); (intro k hk; cases hk; omega)) | ((with_reducible refine Below.trans ?_ (below_of_only Hg3.out ?_ ?_)); rotate_left; (focus (first | (simp; done) | (simp; omega) | omega)); (intro k hk; cases hk; omega)) | ((with_reducible refine Below.trans ?_ (below_of_only Hg2.out ?_ ?_)); rotate_left; (focus (first | (simp; done) | (simp; omega) | omega)); (intro k hk; cases hk; omega)) | ((with_reducible refine Below.trans ?_ (below_of_only Hg1.out ?_ ?_)); rotate_left; (focus (first | (simp; done) | (simp; omega) | omega)); (intro k hk; cases hk; omega))))⟩
  have h2' : (n2 : Int) ≤ 1048576 := by omega
  have hrl := dRun_le s l z1 z2 n1 hl1
  go_enter Try.func6, Try.ntmps6
  go_wp2_with fail
  refine (toDoor_any s l _).mono ?_
  rintro e w1 ⟨rfl, hb⟩
  have hz1 : w.heap.size + 1 ≤ w1.heap.size := by have := hb.size; simpa using this
  have HB := hide (Below.trans ((Below.refl w.heap.size w).alloc (Nat.le_refl _) _) (hb.mono (by simp)))
  have X_d := (Blk.new w 24 #[.int .i64 s, .int .i64 l]).below hb (by simp)
  have B_d := hide (Nat.le_refl w.heap.size)
  have R_a1 := hide (Rd.below R0_a1.out HB.out (Nat.le_refl _))
  have R_a2 := hide (Rd.below R0_a2.out HB.out (Nat.le_refl _))
  clear hb R0_a1 R0_a2
  obtain ⟨_, _, _, _⟩ := blk2 X_d
  go_wp2_with fail
  refine (toBoolS_any A1 n1 c1 z1 _ (by omega) R_a1.out).mono ?_
  rintro e w2 ⟨A_p1, n_p1, c_p1, rfl, ho, hb⟩
  have hz2 : w1.heap.size ≤ w2.heap.size := hb.size
  replace HB := hide (Below.trans HB.out (hb.mono (by omega)))
  replace R_a1 := hide (Rd.below R_a1.out hb (Nat.le_refl _))
  replace R_a2 := hide (Rd.below R_a2.out hb (Nat.le_refl _))
  replace X_d := X_d.below hb X_d.lt
  clear hb
  obtain ⟨_, _, _, _⟩ := blk2 X_d
  have L_p1 := hide (ho.lt)
  have LU_p1 := hide (fun k h => (own_lt_old ho k h : k < w2.heap.size ∧ w1.heap.size ≤ k))
  have O_p1 := hide ho
  clear ho
  have N_p1 : n_p1 ≤ n1 := by have h := RdLEN_bool (Rd.of_own O_p1.out); have h2 := RdLEN_bool (R_a1.out); omega
  go_wp2_with fail
  refine (toBoolS_any A2 n2 c2 z2 _ (by omega) R_a2.out).mono ?_
  rintro e w3 ⟨A_p2, n_p2, c_p2, rfl, ho, hb⟩
  have hz3 : w2.heap.size ≤ w3.heap.size := hb.size
  replace HB := hide (Below.trans HB.out (hb.mono (by omega)))
  replace O_p1 := hide (own_below O_p1.out hb (Nat.le_refl _))
  replace R_a1 := hide (Rd.below R_a1.out hb (Nat.le_refl _))
  replace R_a2 := hide (Rd.below R_a2.out hb (Nat.le_refl _))
  replace X_d := X_d.below hb X_d.lt
  clear hb
  obtain ⟨_, _, _, _⟩ := blk2 X_d
  have L_p2 := hide (ho.lt)
  have LU_p2 := hide (fun k h => (own_lt_old ho k h : k < w3.heap.size ∧ w2.heap.size ≤ k))
  have O_p2 := hide ho
  clear ho
  have N_p2 : n_p2 ≤ n2 := by have h := RdLEN_bool (Rd.of_own O_p2.out); have h2 := RdLEN_bool (R_a2.out); omega
  go_wp2_with fail
  refine (RunDoor_s s l A_p1 A_p2 n_p1 c_p1 n_p2 c_p2 z1 z2 _ (by omega) (by omega) (Rd.of_own O_p1.out) (Rd.of_own O_p2.out)).mono ?_
  rintro e w4 ⟨A_W, n_W, c_W, rfl, ho, hb⟩
  have hz4 : w3.heap.size ≤ w4.heap.size := hb.size
  replace HB := hide (Below.trans HB.out (hb.mono (by omega)))
  replace O_p1 := hide (own_below O_p1.out hb (Nat.le_refl _))
  replace O_p2 := hide (own_below O_p2.out hb (Nat.le_refl _))
  replace R_a1 := hide (Rd.below R_a1.out hb (Nat.le_refl _))
  replace R_a2 := hide (Rd.below R_a2.out hb (Nat.le_refl _))
  replace X_d := X_d.below hb X_d.lt
  clear hb
  obtain ⟨_, _, _, _⟩ := blk2 X_d
  have L_W := hide (ho.lt)
  have LU_W := hide (fun k h => (own_lt_old ho k h : k < w4.heap.size ∧ w3.heap.size ≤ k))
  have O_W := hide ho
  clear ho
  have N_W : n_W ≤ n1 := by have h := RdLEN_int (Rd.of_own O_W.out); omega
  clear O_p1 L_p1 LU_p1
  clear O_p2 L_p2 LU_p2
  go_wp2_with fail
  refine (toBoolS_any A1 n1 c1 z1 _ (by omega) R_a1.out).mono ?_
  rintro e w5 ⟨A_x1, n_x1, c_x1, rfl, ho, hb⟩
  have hz5 : w4.heap.size ≤ w5.heap.size := hb.size
  replace HB := hide (Below.trans HB.out (hb.mono (by omega)))
  replace O_W := hide (own_below O_W.out hb (Nat.le_refl _))
  replace R_a1 := hide (Rd.below R_a1.out hb (Nat.le_refl _))
  replace R_a2 := hide (Rd.below R_a2.out hb (Nat.le_refl _))
  replace X_d := X_d.below hb X_d.lt
  clear hb
  obtain ⟨_, _, _, _⟩ := blk2 X_d
  have L_x1 := hide (ho.lt)
  have LU_x1 := hide (fun k h => (own_lt_old ho k h : k < w5.heap.size ∧ w4.heap.size ≤ k))
  have O_x1 := hide ho
  clear ho
  have N_x1 : n_x1 ≤ n1 := by have h := RdLEN_bool (Rd.of_own O_x1.out); have h2 := RdLEN_bool (R_a1.out); omega
  go_wp2_with fail
  refine (toBoolS_any A2 n2 c2 z2 _ (by omega) R_a2.out).mono ?_
  rintro e w6 ⟨A_x2, n_x2, c_x2, rfl, ho, hb⟩
  have hz6 : w5.heap.size ≤ w6.heap.size := hb.size
  replace HB := hide (Below.trans HB.out (hb.mono (by omega)))
  replace O_W := hide (own_below O_W.out hb (Nat.le_refl _))
  replace O_x1 := hide (own_below O_x1.out hb (Nat.le_refl _))
  replace R_a1 := hide (Rd.below R_a1.out hb (Nat.le_refl _))
  replace R_a2 := hide (Rd.below R_a2.out hb (Nat.le_refl _))
  replace X_d := X_d.below hb X_d.lt
  clear hb
  obtain ⟨_, _, _, _⟩ := blk2 X_d
  have L_x2 := hide (ho.lt)
  have LU_x2 := hide (fun k h => (own_lt_old ho k h : k < w6.heap.size ∧ w5.heap.size ≤ k))
  have O_x2 := hide ho
  clear ho
  have N_x2 : n_x2 ≤ n2 := by have h := RdLEN_bool (Rd.of_own O_x2.out); have h2 := RdLEN_bool (R_a2.out); omega
  go_wp2_with fail
  refine (toDoor_any s l _).mono ?_
  rintro e w7 ⟨rfl, hb⟩
  have hz7 : w6.heap.size ≤ w7.heap.size := hb.size
  replace HB := hide (Below.trans HB.out (hb.mono (by omega)))
  replace O_W := hide (own_below O_W.out hb (Nat.le_refl _))
  replace O_x1 := hide (own_below O_x1.out hb (Nat.le_refl _))
  replace O_x2 := hide (own_below O_x2.out hb (Nat.le_refl _))
  replace R_a1 := hide (Rd.below R_a1.out hb (Nat.le_refl _))
  replace R_a2 := hide (Rd.below R_a2.out hb (Nat.le_refl _))
  replace X_d := X_d.below hb X_d.lt
  clear hb
  obtain ⟨_, _, _, _⟩ := blk2 X_d
  go_wp2_with fail
  refine (RunDoor_i s l A_x1 A_x2 n_x1 c_x1 n_x2 c_x2 z1 z2 _ (by omega) (by omega) (Rd.of_own O_x1.out) (Rd.of_own O_x2.out)).mono ?_
  rintro e w8 ⟨A_g, n_g, c_g, rfl, ho, hb⟩
  have hz8 : w7.heap.size ≤ w8.heap.size := hb.size
  replace HB := hide (Below.trans HB.out (hb.mono (by omega)))
  replace O_W := hide (own_below O_W.out hb (Nat.le_refl _))
  replace O_x1 := hide (own_below O_x1.out hb (Nat.le_refl _))
  replace O_x2 := hide (own_below O_x2.out hb (Nat.le_refl _))
  replace R_a1 := hide (Rd.below R_a1.out hb (Nat.le_refl _))
  replace R_a2 := hide (Rd.below R_a2.out hb (Nat.le_refl _))
  replace X_d := X_d.below hb X_d.lt
  clear hb
  obtain ⟨_, _, _, _⟩ := blk2 X_d
  have L_g := hide (ho.lt)
  have LU_g := hide (fun k h => (own_lt_old ho k h : k < w8.heap.size ∧ w7.heap.size ≤ k))
  have O_g := hide ho
  clear ho
  have N_g : n_g ≤ n1 := by have h := RdLEN_int (Rd.of_own O_g.out); omega
  go_wp2_with fail
  refine (eqIntS_same A_g _ n_g c_g _ _ (dRun s l z1 z2) _ (by omega) (Rd.of_own O_g.out) (Rd.of_own O_W.out)).mono ?_
  rintro e w9 ⟨rfl, q, hq⟩
  have hb := below_of_drewN hq
  clear hq
  have hz9 : w8.heap.size ≤ w9.heap.size := hb.size
  replace HB := hide (Below.trans HB.out (hb.mono (by omega)))
  replace O_W := hide (own_below O_W.out hb (Nat.le_refl _))
  replace O_x1 := hide (own_below O_x1.out hb (Nat.le_refl _))
  replace O_x2 := hide (own_below O_x2.out hb (Nat.le_refl _))
  replace O_g := hide (own_below O_g.out hb (Nat.le_refl _))
  replace R_a1 := hide (Rd.below R_a1.out hb (Nat.le_refl _))
  replace R_a2 := hide (Rd.below R_a2.out hb (Nat.le_refl _))
  replace X_d := X_d.below hb X_d.lt
  clear hb
  obtain ⟨_, _, _, _⟩ := blk2 X_d
  go_wp2_with fail
  refine (toBoolS_any A1 n1 c1 z1 _ (by omega) R_a1.out).mono ?_
  rintro e w10 ⟨A_y1, n_y1, c_y1, rfl, ho, hb⟩
  have hz10 : w9.heap.size ≤ w10.heap.size := hb.size
  replace HB := hide (Below.trans HB.out (hb.mono (by omega)))
  replace O_W := hide (own_below O_W.out hb (Nat.le_refl _))
  replace O_x1 := hide (own_below O_x1.out hb (Nat.le_refl _))
  replace O_x2 := hide (own_below O_x2.out hb (Nat.le_refl _))
  replace O_g := hide (own_below O_g.out hb (Nat.le_refl _))
  replace R_a1 := hide (Rd.below R_a1.out hb (Nat.le_refl _))
  replace R_a2 := hide (Rd.below R_a2.out hb (Nat.le_refl _))
  replace X_d := X_d.below hb X_d.lt
  clear hb
  obtain ⟨_, _, _, _⟩ := blk2 X_d
  have L_y1 := hide (ho.lt)
  have LU_y1 := hide (fun k h => (own_lt_old ho k h : k < w10.heap.size ∧ w9.heap.size ≤ k))
  have O_y1 := hide ho
  clear ho
  have N_y1 : n_y1 ≤ n1 := by have h := RdLEN_bool (Rd.of_own O_y1.out); have h2 := RdLEN_bool (R_a1.out); omega
  go_wp2_with fail
  refine (eqBoolS_same A_x1 _ n_x1 c_x1 _ _ (z1) _ (by omega) (Rd.of_own O_x1.out) (Rd.of_own O_y1.out)).mono ?_
  rintro e w11 ⟨rfl, q, hq⟩
  have hb := below_of_drewN hq
  clear hq
  have hz11 : w10.heap.size ≤ w11.heap.size := hb.size
  replace HB := hide (Below.trans HB.out (hb.mono (by omega)))
  replace O_W := hide (own_below O_W.out hb (Nat.le_refl _))
  replace O_x1 := hide (own_below O_x1.out hb (Nat.le_refl _))
  replace O_x2 := hide (own_below O_x2.out hb (Nat.le_refl _))
  replace O_g := hide (own_below O_g.out hb (Nat.le_refl _))
  replace O_y1 := hide (own_below O_y1.out hb (Nat.le_refl _))
  replace R_a1 := hide (Rd.below R_a1.out hb (Nat.le_refl _))
  replace R_a2 := hide (Rd.below R_a2.out hb (Nat.le_refl _))
  replace X_d := X_d.below hb X_d.lt
  clear hb
  obtain ⟨_, _, _, _⟩ := blk2 X_d
  clear O_y1 L_y1 LU_y1
  go_wp2_with fail
  refine (toBoolS_any A2 n2 c2 z2 _ (by omega) R_a2.out).mono ?_
  rintro e w12 ⟨A_y2, n_y2, c_y2, rfl, ho, hb⟩
  have hz12 : w11.heap.size ≤ w12.heap.size := hb.size
  replace HB := hide (Below.trans HB.out (hb.mono (by omega)))
  replace O_W := hide (own_below O_W.out hb (Nat.le_refl _))
  replace O_x1 := hide (own_below O_x1.out hb (Nat.le_refl _))
  replace O_x2 := hide (own_below O_x2.out hb (Nat.le_refl _))
  replace O_g := hide (own_below O_g.out hb (Nat.le_refl _))
  replace R_a1 := hide (Rd.below R_a1.out hb (Nat.le_refl _))
  replace R_a2 := hide (Rd.below R_a2.out hb (Nat.le_refl _))
  replace X_d := X_d.below hb X_d.lt
  clear hb
  obtain ⟨_, _, _, _⟩ := blk2 X_d
  have L_y2 := hide (ho.lt)
  have LU_y2 := hide (fun k h => (own_lt_old ho k h : k < w12.heap.size ∧ w11.heap.size ≤ k))
  have O_y2 := hide ho
  clear ho
  have N_y2 : n_y2 ≤ n2 := by have h := RdLEN_bool (Rd.of_own O_y2.out); have h2 := RdLEN_bool (R_a2.out); omega
  go_wp2_with fail
  refine (eqBoolS_same A_x2 _ n_x2 c_x2 _ _ (z2) _ (by omega) (Rd.of_own O_x2.out) (Rd.of_own O_y2.out)).mono ?_
  rintro e w13 ⟨rfl, q, hq⟩
  have hb := below_of_drewN hq
  clear hq
  have hz13 : w12.heap.size ≤ w13.heap.size := hb.size
  replace HB := hide (Below.trans HB.out (hb.mono (by omega)))
  replace O_W := hide (own_below O_W.out hb (Nat.le_refl _))
  replace O_x1 := hide (own_below O_x1.out hb (Nat.le_refl _))
  replace O_x2 := hide (own_below O_x2.out hb (Nat.le_refl _))
  replace O_g := hide (own_below O_g.out hb (Nat.le_refl _))
  replace O_y2 := hide (own_below O_y2.out hb (Nat.le_refl _))
  replace R_a1 := hide (Rd.below R_a1.out hb (Nat.le_refl _))
  replace R_a2 := hide (Rd.below R_a2.out hb (Nat.le_refl _))
  replace X_d := X_d.below hb X_d.lt
  clear hb
  obtain ⟨_, _, _, _⟩ := blk2 X_d
  clear O_y2 L_y2 LU_y2
  go_wp2_with fail
  refine (markBoolS_any _ A_x1 n_x1 c_x1 1 _ _ (by omega) (by omega) (by omega) O_x1.out).mono ?_
  rintro e w14 ⟨rfl, ho, hg⟩
  have hz14 : w13.heap.size ≤ w14.heap.size := hg.size
  replace HB := hide (Below.grown HB.out hg HB.out.size (fun k hk => by have := (LU_x1.out k hk).2; omega))
  replace O_W := hide (own_kept2 O_W.out hg (fun k h1 h2 => by have := LU_W.out k h1; have := LU_x1.out k h2; omega))
  replace O_x2 := hide (own_kept2 O_x2.out hg (fun k h1 h2 => by have := LU_x2.out k h1; have := LU_x1.out k h2; omega))
  replace O_g := hide (own_kept2 O_g.out hg (fun k h1 h2 => by have := LU_g.out k h1; have := LU_x1.out k h2; omega))
  replace R_a1 := hide (Rd.grown R_a1.out hg (fun hn b off e h2 => by have := D_a1.out hn b off e; have := (LU_x1.out b h2.symm).2; omega))
  replace R_a2 := hide (Rd.grown R_a2.out hg (fun hn b off e h2 => by have := D_a2.out hn b off e; have := (LU_x1.out b h2.symm).2; omega))
  replace X_d := X_d.grown hg (fun h2 => by have := (LU_x1.out _ h2.symm).2; have := B_d.out; omega)
  clear hg
  obtain ⟨_, _, _, _⟩ := blk2 X_d
  replace O_x1 := hide ho
  clear ho
  go_wp2_with fail
  refine (markBoolS_any _ A_x2 n_x2 c_x2 (1 + (n_x1 : Int)) _ _ (by omega) (by omega) (by omega) O_x2.out).mono ?_
  rintro e w15 ⟨rfl, ho, hg⟩
  have hz15 : w14.heap.size ≤ w15.heap.size := hg.size
  replace HB := hide (Below.grown HB.out hg HB.out.size (fun k hk => by have := (LU_x2.out k hk).2; omega))
  replace O_W := hide (own_kept2 O_W.out hg (fun k h1 h2 => by have := LU_W.out k h1; have := LU_x2.out k h2; omega))
  replace O_x1 := hide (own_kept2 O_x1.out hg (fun k h1 h2 => by have := LU_x1.out k h1; have := LU_x2.out k h2; omega))
  replace O_g := hide (own_kept2 O_g.out hg (fun k h1 h2 => by have := LU_g.out k h1; have := LU_x2.out k h2; omega))
  replace R_a1 := hide (Rd.grown R_a1.out hg (fun hn b off e h2 => by have := D_a1.out hn b off e; have := (LU_x2.out b h2.symm).2; omega))
  replace R_a2 := hide (Rd.grown R_a2.out hg (fun hn b off e h2 => by have := D_a2.out hn b off e; have := (LU_x2.out b h2.symm).2; omega))
  replace X_d := X_d.grown hg (fun h2 => by have := (LU_x2.out _ h2.symm).2; have := B_d.out; omega)
  clear hg
  obtain ⟨_, _, _, _⟩ := blk2 X_d
  replace O_x2 := hide ho
  clear ho
  clear O_x1 L_x1 LU_x1
  clear O_x2 L_x2 LU_x2
  go_wp2_with fail
  refine (eqIntS_same A_g _ n_g c_g _ _ (dRun s l z1 z2) _ (by omega) (Rd.of_own O_g.out) (Rd.of_own O_W.out)).mono ?_
  rintro e w16 ⟨rfl, q, hq⟩
  have hb := below_of_drewN hq
  clear hq
  have hz16 : w15.heap.size ≤ w16.heap.size := hb.size
  replace HB := hide (Below.trans HB.out (hb.mono (by omega)))
  replace O_W := hide (own_below O_W.out hb (Nat.le_refl _))
  replace O_g := hide (own_below O_g.out hb (Nat.le_refl _))
  replace R_a1 := hide (Rd.below R_a1.out hb (Nat.le_refl _))
  replace R_a2 := hide (Rd.below R_a2.out hb (Nat.le_refl _))
  replace X_d := X_d.below hb X_d.lt
  clear hb
  obtain ⟨_, _, _, _⟩ := blk2 X_d
  go_wp2_with fail
  refine (markIntS_any _ A_g n_g c_g 1 _ _ (by omega) (by omega) (by omega) O_g.out).mono ?_
  rintro e w17 ⟨rfl, ho, hg⟩
  have hz17 : w16.heap.size ≤ w17.heap.size := hg.size
  replace HB := hide (Below.grown HB.out hg HB.out.size (fun k hk => by have := (LU_g.out k hk).2; omega))
  replace O_W := hide (own_kept2 O_W.out hg (fun k h1 h2 => by have := LU_W.out k h1; have := LU_g.out k h2; omega))
  replace R_a1 := hide (Rd.grown R_a1.out hg (fun hn b off e h2 => by have := D_a1.out hn b off e; have := (LU_g.out b h2.symm).2; omega))
  replace R_a2 := hide (Rd.grown R_a2.out hg (fun hn b off e h2 => by have := D_a2.out hn b off e; have := (LU_g.out b h2.symm).2; omega))
  replace X_d := X_d.grown hg (fun h2 => by have := (LU_g.out _ h2.symm).2; have := B_d.out; omega)
  clear hg
  obtain ⟨_, _, _, _⟩ := blk2 X_d
  replace O_g := hide ho
  clear ho
  go_wp2_with fail
  refine (heldIntS_ok A_g n_g c_g 1 _ (by omega) (by omega) (by omega) (Rd.of_own O_g.out)).mono ?_
  rintro e w18 ⟨rfl, q, hq⟩
  have hb := below_of_drewN hq
  clear hq
  have hz18 : w17.heap.size ≤ w18.heap.size := hb.size
  replace HB := hide (Below.trans HB.out (hb.mono (by omega)))
  replace O_W := hide (own_below O_W.out hb (Nat.le_refl _))
  replace O_g := hide (own_below O_g.out hb (Nat.le_refl _))
  replace R_a1 := hide (Rd.below R_a1.out hb (Nat.le_refl _))
  replace R_a2 := hide (Rd.below R_a2.out hb (Nat.le_refl _))
  replace X_d := X_d.below hb X_d.lt
  clear hb
  obtain ⟨_, _, _, _⟩ := blk2 X_d
  go_wp2_with fail
  refine (toDoor_any s l _).mono ?_
  rintro e w19 ⟨rfl, hb⟩
  have hz19 : w18.heap.size ≤ w19.heap.size := hb.size
  replace HB := hide (Below.trans HB.out (hb.mono (by omega)))
  replace O_W := hide (own_below O_W.out hb (Nat.le_refl _))
  replace O_g := hide (own_below O_g.out hb (Nat.le_refl _))
  replace R_a1 := hide (Rd.below R_a1.out hb (Nat.le_refl _))
  replace R_a2 := hide (Rd.below R_a2.out hb (Nat.le_refl _))
  replace X_d := X_d.below hb X_d.lt
  clear hb
  obtain ⟨_, _, _, _⟩ := blk2 X_d
  go_wp2_with fail
  refine (toBoolS_any A1 n1 c1 z1 _ (by omega) R_a1.out).mono ?_
  rintro e w20 ⟨A_q1, n_q1, c_q1, rfl, ho, hb⟩
  have hz20 : w19.heap.size ≤ w20.heap.size := hb.size
  replace HB := hide (Below.trans HB.out (hb.mono (by omega)))
  replace O_W := hide (own_below O_W.out hb (Nat.le_refl _))
  replace O_g := hide (own_below O_g.out hb (Nat.le_refl _))
  replace R_a1 := hide (Rd.below R_a1.out hb (Nat.le_refl _))
  replace R_a2 := hide (Rd.below R_a2.out hb (Nat.le_refl _))
  replace X_d := X_d.below hb X_d.lt
  clear hb
  obtain ⟨_, _, _, _⟩ := blk2 X_d
  have L_q1 := hide (ho.lt)
  have LU_q1 := hide (fun k h => (own_lt_old ho k h : k < w20.heap.size ∧ w19.heap.size ≤ k))
  have O_q1 := hide ho
  clear ho
  have N_q1 : n_q1 ≤ n1 := by have h := RdLEN_bool (Rd.of_own O_q1.out); have h2 := RdLEN_bool (R_a1.out); omega
  go_wp2_with fail
  refine (toBoolS_any A2 n2 c2 z2 _ (by omega) R_a2.out).mono ?_
  rintro e w21 ⟨A_q2, n_q2, c_q2, rfl, ho, hb⟩
  have hz21 : w20.heap.size ≤ w21.heap.size := hb.size
  replace HB := hide (Below.trans HB.out (hb.mono (by omega)))
  replace O_W := hide (own_below O_W.out hb (Nat.le_refl _))
  replace O_g := hide (own_below O_g.out hb (Nat.le_refl _))
  replace O_q1 := hide (own_below O_q1.out hb (Nat.le_refl _))
  replace R_a1 := hide (Rd.below R_a1.out hb (Nat.le_refl _))
  replace R_a2 := hide (Rd.below R_a2.out hb (Nat.le_refl _))
  replace X_d := X_d.below hb X_d.lt
  clear hb
  obtain ⟨_, _, _, _⟩ := blk2 X_d
  have L_q2 := hide (ho.lt)
  have LU_q2 := hide (fun k h => (own_lt_old ho k h : k < w21.heap.size ∧ w20.heap.size ≤ k))
  have O_q2 := hide ho
  clear ho
  have N_q2 : n_q2 ≤ n2 := by have h := RdLEN_bool (Rd.of_own O_q2.out); have h2 := RdLEN_bool (R_a2.out); omega
  go_wp2_with fail
  refine (RunDoor_i s l A_q1 A_q2 n_q1 c_q1 n_q2 c_q2 z1 z2 _ (by omega) (by omega) (Rd.of_own O_q1.out) (Rd.of_own O_q2.out)).mono ?_
  rintro e w22 ⟨A_h, n_h, c_h, rfl, ho, hb⟩
  have hz22 : w21.heap.size ≤ w22.heap.size := hb.size
  replace HB := hide (Below.trans HB.out (hb.mono (by omega)))
  replace O_W := hide (own_below O_W.out hb (Nat.le_refl _))
  replace O_g := hide (own_below O_g.out hb (Nat.le_refl _))
  replace O_q1 := hide (own_below O_q1.out hb (Nat.le_refl _))
  replace O_q2 := hide (own_below O_q2.out hb (Nat.le_refl _))
  replace R_a1 := hide (Rd.below R_a1.out hb (Nat.le_refl _))
  replace R_a2 := hide (Rd.below R_a2.out hb (Nat.le_refl _))
  replace X_d := X_d.below hb X_d.lt
  clear hb
  obtain ⟨_, _, _, _⟩ := blk2 X_d
  have L_h := hide (ho.lt)
  have LU_h := hide (fun k h => (own_lt_old ho k h : k < w22.heap.size ∧ w21.heap.size ≤ k))
  have O_h := hide ho
  clear ho
  have N_h : n_h ≤ n1 := by have h := RdLEN_int (Rd.of_own O_h.out); omega
  clear O_q1 L_q1 LU_q1
  clear O_q2 L_q2 LU_q2
  go_wp2_with fail
  refine (eqIntS_same A_h _ n_h c_h _ _ (dRun s l z1 z2) _ (by omega) (Rd.of_own O_h.out) (Rd.of_own O_W.out)).mono ?_
  rintro e w23 ⟨rfl, q, hq⟩
  have hb := below_of_drewN hq
  clear hq
  have hz23 : w22.heap.size ≤ w23.heap.size := hb.size
  replace HB := hide (Below.trans HB.out (hb.mono (by omega)))
  replace O_W := hide (own_below O_W.out hb (Nat.le_refl _))
  replace O_g := hide (own_below O_g.out hb (Nat.le_refl _))
  replace O_h := hide (own_below O_h.out hb (Nat.le_refl _))
  replace R_a1 := hide (Rd.below R_a1.out hb (Nat.le_refl _))
  replace R_a2 := hide (Rd.below R_a2.out hb (Nat.le_refl _))
  replace X_d := X_d.below hb X_d.lt
  clear hb
  obtain ⟨_, _, _, _⟩ := blk2 X_d
  go_wp2_with fail
  refine (heldIntS_ok A_g n_g c_g 1 _ (by omega) (by omega) (by omega) (Rd.of_own O_g.out)).mono ?_
  rintro e w24 ⟨rfl, q, hq⟩
  have hb := below_of_drewN hq
  clear hq
  have hz24 : w23.heap.size ≤ w24.heap.size := hb.size
  replace HB := hide (Below.trans HB.out (hb.mono (by omega)))
  replace O_W := hide (own_below O_W.out hb (Nat.le_refl _))
  replace O_g := hide (own_below O_g.out hb (Nat.le_refl _))
  replace O_h := hide (own_below O_h.out hb (Nat.le_refl _))
  replace R_a1 := hide (Rd.below R_a1.out hb (Nat.le_refl _))
  replace R_a2 := hide (Rd.below R_a2.out hb (Nat.le_refl _))
  replace X_d := X_d.below hb X_d.lt
  clear hb
  obtain ⟨_, _, _, _⟩ := blk2 X_d
  go_wp2_with fail
  go_ret
  exact ⟨rfl, HB.out⟩

end Go.Proofs.Ytlcdcelelpapnaa
