/-
  The walks of the laws on the nearest car.
-/
import Derived.Test.YtmhaclhcllndeaaNearS
import Derived.Test.YtmhaclhcllndeaaCopy
import Derived.Test.YtmhaclhcllndeaaDrawFl
namespace Go.Proofs.Ytmhaclhcllndeaa
open Go.RowKit
set_option linter.unusedSimpArgs false
set_option linter.unusedVariables false

set_option maxHeartbeats 1000000 in
theorem fnExactNearestCar_walk (A1 : Option Addr) (n1 c1 : Nat) (z1 : List Int) (y : Int) (w : World) (_ : n1 ≤ c1) (r1 : RdI w .i64 A1 n1 z1) (_ : ∀ z ∈ z1, (Lit.int .i64 z).wf = true) (_ : (Lit.int .i64 y).wf = true) :
    Calls Try.prog 3 #[.slice A1 n1 c1, .int .i64 y] w fun e w' => e = .returned (.bool true) ∧ Below w.heap.size w w' := by
  obtain ⟨m, hm⟩ : ∃ m, nearF z1 y = m := ⟨_, rfl⟩
  have Hm := hide hm
  clear hm
  have R_a := hide r1
  have D_a := hide (RdI.old r1)
  have Hl1 := hide (RdI.len r1)
  clear r1
  by_cases h1 : 1048576 < n1
  · have h1' : (1048576 : Int) < (n1 : Int) := by omega
    go_enter Try.func3, Try.ntmps3
    go_wp2_with fail
    go_ret
    exact ⟨rfl, Below.refl _ _⟩
  have h1' : (n1 : Int) ≤ 1048576 := by omega
  go_enter Try.func3, Try.ntmps3
  go_wp2_with fail
  refine (toIntS_any A1 n1 c1 z1 _ (by omega) (by repeat (first | exact R_a.out | exact Rd.of_own O_a.out | (with_reducible refine RdI.al ?_ _) | (with_reducible refine RdI.dr ?_) | (with_reducible refine RdI.drN ?_ _) | (with_reducible refine Rd.alloc ?_ _) | (with_reducible refine Rd.drew ?_) | (with_reducible refine Rd.drewN ?_ _)))).mono ?_
  rintro e w1 ⟨A_p, n_p, c_p, rfl, ho, hb⟩
  have hz1 := hb.size
  try simp at hz1
  replace R_a := hide (show Rd w1 1 A1 n1 (z1.map (Value.int .i64)) from Rd.below (by repeat (first | exact R_a.out | (with_reducible refine Rd.alloc ?_ _) | (with_reducible refine Rd.drew ?_) | (with_reducible refine Rd.drewN ?_ _))) hb (Nat.le_refl _))
  have Hb1 := hide hb
  clear hb
  have LU_p := hide (fun k h => (⟨(own_lt_old ho k h).1, by have := (own_lt_old ho k h).2; (first | omega | (simp at this; omega))⟩ : k < w1.heap.size ∧ w.heap.size ≤ k))
  have O_p := hide (show World.ownsRow w1 w.heap.size 3 1 (.slice A_p n_p c_p) n_p (z1.map (Value.int .i64)) from own_base ho (by first | omega | (simp; omega)))
  clear ho
  have N_p : n_p ≤ n1 := by have h := RdLEN_int (Rd.of_own O_p.out); have := Hl1.out; omega
  go_wp2_with fail
  refine (NearestCar_s A_p n_p c_p z1 y m _ (by omega) (by repeat (first | exact Rd.of_own O_p.out | (with_reducible refine RdI.al ?_ _) | (with_reducible refine RdI.dr ?_) | (with_reducible refine RdI.drN ?_ _) | (with_reducible refine Rd.alloc ?_ _) | (with_reducible refine Rd.drew ?_) | (with_reducible refine Rd.drewN ?_ _))) Hm.out).mono ?_
  rintro e wq1 ⟨rfl, q1, rfl⟩
  clear O_p LU_p
  go_wp2_with fail
  refine (toIntS_any A1 n1 c1 z1 _ (by omega) (by repeat (first | exact R_a.out | exact Rd.of_own O_a.out | (with_reducible refine RdI.al ?_ _) | (with_reducible refine RdI.dr ?_) | (with_reducible refine RdI.drN ?_ _) | (with_reducible refine Rd.alloc ?_ _) | (with_reducible refine Rd.drew ?_) | (with_reducible refine Rd.drewN ?_ _)))).mono ?_
  rintro e w2 ⟨A_x, n_x, c_x, rfl, ho, hb⟩
  have hz2 := hb.size
  try simp at hz2
  replace R_a := hide (show Rd w2 1 A1 n1 (z1.map (Value.int .i64)) from Rd.below (by repeat (first | exact R_a.out | (with_reducible refine Rd.alloc ?_ _) | (with_reducible refine Rd.drew ?_) | (with_reducible refine Rd.drewN ?_ _))) hb (Nat.le_refl _))
  have Hb2 := hide hb
  clear hb
  have LU_x := hide (fun k h => (⟨(own_lt_old ho k h).1, by have := (own_lt_old ho k h).2; (first | omega | (simp at this; omega))⟩ : k < w2.heap.size ∧ w1.heap.size ≤ k))
  have O_x := hide (show World.ownsRow w2 w.heap.size 3 1 (.slice A_x n_x c_x) n_x (z1.map (Value.int .i64)) from own_base ho (by first | omega | (simp; omega)))
  clear ho
  have N_x : n_x ≤ n1 := by have h := RdLEN_int (Rd.of_own O_x.out); have := Hl1.out; omega
  go_wp2_with fail
  refine (NearestCar_i A_x n_x c_x z1 y m _ (by omega) (by repeat (first | exact Rd.of_own O_x.out | (with_reducible refine RdI.al ?_ _) | (with_reducible refine RdI.dr ?_) | (with_reducible refine RdI.drN ?_ _) | (with_reducible refine Rd.alloc ?_ _) | (with_reducible refine Rd.drew ?_) | (with_reducible refine Rd.drewN ?_ _))) Hm.out).mono ?_
  rintro e wq2 ⟨rfl, q2, rfl⟩
  go_wp2_with fail
  refine (toIntS_any A1 n1 c1 z1 _ (by omega) (by repeat (first | exact R_a.out | exact Rd.of_own O_a.out | (with_reducible refine RdI.al ?_ _) | (with_reducible refine RdI.dr ?_) | (with_reducible refine RdI.drN ?_ _) | (with_reducible refine Rd.alloc ?_ _) | (with_reducible refine Rd.drew ?_) | (with_reducible refine Rd.drewN ?_ _)))).mono ?_
  rintro e w3 ⟨A_y, n_y, c_y, rfl, ho, hb⟩
  have hz3 := hb.size
  try simp at hz3
  replace R_a := hide (show Rd w3 1 A1 n1 (z1.map (Value.int .i64)) from Rd.below (by repeat (first | exact R_a.out | (with_reducible refine Rd.alloc ?_ _) | (with_reducible refine Rd.drew ?_) | (with_reducible refine Rd.drewN ?_ _))) hb (Nat.le_refl _))
  replace O_x := hide (show World.ownsRow w3 w.heap.size 3 1 (.slice A_x n_x c_x) n_x (z1.map (Value.int .i64)) from own_below (by repeat (first | exact O_x.out | (with_reducible refine World.ownsRow.alloc ?_ _) | (with_reducible refine World.ownsRow.drew ?_) | (with_reducible refine own_drewN ?_ _))) hb (Nat.le_refl _))
  have Hb3 := hide hb
  clear hb
  have LU_y := hide (fun k h => (⟨(own_lt_old ho k h).1, by have := (own_lt_old ho k h).2; (first | omega | (simp at this; omega))⟩ : k < w3.heap.size ∧ w2.heap.size ≤ k))
  have O_y := hide (show World.ownsRow w3 w.heap.size 3 1 (.slice A_y n_y c_y) n_y (z1.map (Value.int .i64)) from own_base ho (by first | omega | (simp; omega)))
  clear ho
  have N_y : n_y ≤ n1 := by have h := RdLEN_int (Rd.of_own O_y.out); have := Hl1.out; omega
  go_wp2_with fail
  refine (eqIntS_same A_x A_y n_x c_x n_y c_y z1 _ (by omega) (by repeat (first | exact Rd.of_own O_x.out | (with_reducible refine RdI.al ?_ _) | (with_reducible refine RdI.dr ?_) | (with_reducible refine RdI.drN ?_ _) | (with_reducible refine Rd.alloc ?_ _) | (with_reducible refine Rd.drew ?_) | (with_reducible refine Rd.drewN ?_ _))) (by repeat (first | exact Rd.of_own O_y.out | (with_reducible refine RdI.al ?_ _) | (with_reducible refine RdI.dr ?_) | (with_reducible refine RdI.drN ?_ _) | (with_reducible refine Rd.alloc ?_ _) | (with_reducible refine Rd.drew ?_) | (with_reducible refine Rd.drewN ?_ _)))).mono ?_
  rintro e wq3 ⟨rfl, q3, rfl⟩
  go_wp2_with fail
  go_ret
  exact ⟨rfl, (by repeat (first | (with_reducible exact Below.refl _ _) | (with_reducible refine Below.drew ?_) | (with_reducible refine below_drewN ?_ _) | ((with_reducible refine Below.alloc ?_ ?_ _); rotate_left; (focus (first | (simp; done) | (simp; omega) | omega))) | ((with_reducible refine Below.setCell ?_ ?_ _); rotate_left; (focus (first | (simp; done) | (simp; omega) | omega))) | ((with_reducible refine Below.trans ?_ (Below.mono Hb.out ?_)); rotate_left; (focus (first | (simp; done) | (simp; omega) | omega))) | ((with_reducible refine Below.trans ?_ (Below.mono Hb16.out ?_)); rotate_left; (focus (first | (simp; done) | (simp; omega) | omega))) | ((with_reducible refine Below.trans ?_ (Below.mono Hb15.out ?_)); rotate_left; (focus (first | (simp; done) | (simp; omega) | omega))) | ((with_reducible refine Below.trans ?_ (Below.mono Hb14.out ?_)); rotate_left; (focus (first | (simp; done) | (simp; omega) | omega))) | ((with_reducible refine Below.trans ?_ (Below.mono Hb13.out ?_)); rotate_left; (focus (first | (simp; done) | (simp; omega) | omega))) | ((with_reducible refine Below.trans ?_ (Below.mono Hb12.out ?_)); rotate_left; (focus (first | (simp; done) | (simp; omega) | omega))) | ((with_reducible refine Below.trans ?_ (Below.mono Hb11.out ?_)); rotate_left; (focus (first | (simp; done) | (simp; omega) | omega))) | ((with_reducible refine Below.trans ?_ (Below.mono Hb10.out ?_)); rotate_left; (focus (first | (simp; done) | (simp; omega) | omega))) | ((with_reducible refine Below.trans ?_ (Below.mono Hb9.out ?_)); rotate_left; (focus (first | (simp; done) | (simp; omega) | omega))) | ((with_reducible refine Below.trans ?_ (Below.mono Hb8.out ?_)); rotate_left; (focus (first | (simp; done) | (simp; omega) | omega))) | ((with_reducible refine Below.trans ?_ (Below.mono Hb7.out ?_)); rotate_left; (focus (first | (simp; done) | (simp; omega) | omega))) | ((with_reducible refine Below.trans ?_ (Below.mono Hb6.out ?_)); rotate_left; (focus (first | (simp; done) | (simp; omega) | omega))) | ((with_reducible refine Below.trans ?_ (Below.mono Hb5.out ?_)); rotate_left; (focus (first | (simp; done) | (simp; omega) | omega))) | ((with_reducible refine Below.trans ?_ (Below.mono Hb4.out ?_)); rotate_left; (focus (first | (simp; done) | (simp; omega) | omega))) | ((with_reducible refine Below.trans ?_ (Below.mono Hb3.out ?_)); rotate_left; (focus (first | (simp; done) | (simp; omega) | omega))) | ((with_reducible refine Below.trans ?_ (Below.mono Hb2.out ?_)); rotate_left; (focus (first | (simp; done) | (simp; omega) | omega))) | ((with_reducible refine Below.trans ?_ (Below.mono Hb1.out ?_)); rotate_left; (focus (first | (simp; done) | (simp; omega) | omega))) | ((with_reducible refine Below.trans ?_ (below_of_only Hg16.out ?_ ?_)); rotate_left; (focus (first | (simp; done) | (simp; omega) | omega)); (intro k hk; cases hk; omega)) | ((with_reducible refine Below.trans ?_ (below_of_only Hg15.out ?_ ?_)); rotate_left; (focus (first | (simp; done) | (simp; omega) | omega)); (intro k hk; cases hk; omega)) | ((with_reducible refine Below.trans ?_ (below_of_only Hg14.out ?_ ?_)); rotate_left; (focus (first | (simp; done) | (simp; omega) | omega)); (intro k hk; cases hk; omega)) | ((with_reducible refine Below.trans ?_ (below_of_only Hg13.out ?_ ?_)); rotate_left; (focus (first | (simp; done) | (simp; omega) | omega)); (intro k hk; cases hk; omega)) | ((with_reducible refine Below.trans ?_ (below_of_only Hg12.out ?_ ?_)); rotate_left; (focus (first | (simp; done) | (simp; omega) | omega)); (intro k hk; cases hk; omega)) | ((with_reducible refine Below.trans ?_ (below_of_only Hg11.out ?_ ?_)); rotate_left; (focus (first | (simp; done) | (simp; omega) | omega)); (intro k hk; cases hk; omega)) | ((with_reducible refine Below.trans ?_ (below_of_only Hg10.out ?_ ?_)); rotate_left; (focus (first | (simp; done) | (simp; omega) | omega)); (intro k hk; cases hk; omega)) | ((with_reducible refine Below.trans ?_ (below_of_only Hg9.out ?_ ?_)); rotate_left; (focus (first | (simp; done) | (simp; omega) | omega)); (intro k hk; cases hk; omega)) | ((with_reducible refine Below.trans ?_ (below_of_only Hg8.out ?_ ?_)); rotate_left; (focus (first | (simp; done) | (simp; omega) | omega)); (intro k hk; cases hk; omega)) | ((with_reducible refine Below.trans ?_ (below_of_only Hg7.out ?_ ?_)); rotate_left; (focus (first | (simp; done) | (simp; omega) | omega)); (intro k hk; cases hk; omega)) | ((with_reducible refine Below.trans ?_ (below_of_only Hg6.out ?_ ?_)); rotate_left; (focus (first | (simp; done) | (simp; omega) | omega)); (intro k hk; cases hk; omega)) | ((with_reducible refine Below.trans ?_ (below_of_only Hg5.out ?_ ?_)); rotate_left; (focus (first | (simp; done) | (simp; omega) | omega)); (intro k hk; cases hk; omega)) | ((with_reducible refine Below.trans ?_ (below_of_only Hg4.out ?_ ?_)); rotate_left; (focus (first | (simp; done) | (simp; omega) | omega)); (intro k hk; cases hk; omega)) | ((with_reducible refine Below.trans ?_ (below_of_only Hg3.out ?_ ?_)); rotate_left; (focus (first | (simp; done) | (simp; omega) | omega)); (intro k hk; cases hk; omega)) | ((with_reducible refine Below.trans ?_ (below_of_only Hg2.out ?_ ?_)); rotate_left; (focus (first | (simp; done) | (simp; omega) | omega)); (intro k hk; cases hk; omega)) | ((with_reducible refine Below.trans ?_ (below_of_only Hg1.out ?_ ?_)); rotate_left; (focus (first | (simp; done) | (simp; omega) | omega)); (intro k hk; cases hk; omega))))⟩

end Go.Proofs.Ytmhaclhcllndeaa
