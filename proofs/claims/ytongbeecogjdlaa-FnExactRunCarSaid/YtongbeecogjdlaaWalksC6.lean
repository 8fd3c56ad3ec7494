/-
  The walk of the law that RunCar returns what the reference returns.
-/
import Derived.Test.YtongbeecogjdlaaWalksC4
import Derived.Test.YtongbeecogjdlaaCopy
import Derived.Test.YtongbeecogjdlaaRdl
namespace Go.Proofs.Ytongbeecogjdlaa
open Go.RowKit
set_option linter.unusedSimpArgs false
set_option linter.unusedVariables false

set_option maxHeartbeats 4000000 in
theorem fnExactRunCar_walk (f h l : Int) (o : Bool) (A1 : Option Addr) (n1 c1 : Nat) (z1 : List Int) (w : World) (_ : (Lit.int .i64 f).wf = true) (_ : (Lit.int .i64 h).wf = true) (_ : (Lit.int .i64 l).wf = true) (_ : n1 ≤ c1) (r1 : RdI w .i64 A1 n1 z1) (_ : ∀ z ∈ z1, (Lit.int .i64 z).wf = true) :
    Calls Try.prog 5 #[.agg #[.int .i64 f, .int .i64 h, .int .i64 l, .bool o], .slice A1 n1 c1] w fun e w' => e = .returned (.bool true) ∧ Below w.heap.size w w' := by
  have R_a := hide r1
  have hl1 := RdI.len r1
  have Hl1 := hide hl1
  clear r1 hl1
  obtain ⟨⟨⟨d1, d2, d3, d4⟩, m⟩, hq⟩ : ∃ q, cRun f h l o z1 = q := ⟨_, rfl⟩
  have Hq := hide hq
  clear hq
  by_cases h1 : 1048576 < n1
  · have h1' : (1048576 : Int) < (n1 : Int) := by omega
    go_enter Try.func5, Try.ntmps5
    go_wp2_with fail
    go_ret
    exact ⟨rfl, (by repeat (first | (with_reducible exact Below.refl _ _) | (with_reducible refine Below.drew ?_) | (with_reducible refine below_drewN ?_ _) | ((with_reducible refine Below.alloc ?_ ?_ _); rotate_left; (focus (first | (simp; done) | (simp; omega) | omega))) | ((with_reducible refine Below.setCell ?_ ?_ _); rotate_left; (focus (first | (simp; done) | (simp; omega) | omega))) | ((with_reducible refine Below.trans ?_ (Below.mono Hb.out ?_)); rotate_left; (focus (first | (simp; done) | (simp; omega) | omega))) | ((with_reducible refine Below.trans ?_ (Below.mono Hb16.out ?_)); rotate_left; (focus (first | (simp; done) | (simp; omega) | omega))) | ((with_reducible refine Below.trans ?_ (Below.mono Hb15.out ?_)); rotate_left; (focus (first | (simp; done) | (simp; omega) | omega))) | ((with_reducible refine Below.trans ?_ (Below.mono Hb14.out ?_)); rotate_left; (focus (first | (simp; done) | (simp; omega) | omega))) | ((with_reducible refine Below.trans ?_ (Below.mono Hb13.out ?_)); rotate_left; (focus (first | (simp; done) | (simp; omega) | omega))) | ((with_reducible refine Below.trans ?_ (Below.mono Hb12.out ?_)); rotate_left; (focus (first | (simp; done) | (simp; omega) | omega))) | ((with_reducible refine Below.trans ?_ (Below.mono Hb11.out ?_)); rotate_left; (focus (first | (simp; done) | (simp; omega) | omega))) | ((with_reducible refine Below.trans ?_ (Below.mono Hb10.out ?_)); rotate_left; (focus (first | (simp; done) | (simp; omega) | omega))) | ((with_reducible refine Below.trans ?_ (Below.mono Hb9.out ?_)); rotate_left; (focus (first | (simp; done) | (simp; omega) | omega))) | ((with_reducible refine Below.trans ?_ (Below.mono Hb8.out ?_)); rotate_left; (focus (first | (simp; done) | (simp; omega) | omega))) | ((with_reducible refine Below.trans ?_ (Below.mono Hb7.out ?_)); rotate_left; (focus (first | (simp; done) | (simp; omega) | omega))) | ((with_reducible refine Below.trans ?_ (Below.mono Hb6.out ?_)); rotate_left; (focus (first | (simp; done) | (simp; omega) | omega))) | ((with_reducible refine Below.trans ?_ (Below.mono Hb5.out ?_)); rotate_left; (focus (first | (simp; done) | (simp; omega) | omega))) | ((with_reducible refine Below.trans ?_ (Below.mono Hb4.out ?_)); rotate_left; (focus (first | (simp; done) | (simp; omega) | omega))) | ((with_reducible refine Below.trans ?_ (Below.mono Hb3.out ?_)); rotate_left; (focus (first | (simp; done) | (simp; omega) | omega))) | ((with_reducible refine Below.trans ?_ (Below.mono Hb2.out ?_)); rotate_left; (focus (first | (simp; done) | (simp; omega) | omega))) | ((with_reducible refine Below.trans ?_ (Below.mono Hb1.out ?_)); rotate_left; (focus (first | (simp; done) | (simp; omega) | omega))) | ((with_reducible refine Below.trans ?_ (below_of_only Hg16.out ?_ ?_)); rotate_left; (focus (first | (simp; done) | (simp; omega) | omega)); (intro k hk; cases hk; omega)) | ((with_reducible refine Below.trans ?_ (below_of_only Hg15.out ?_ ?_)); rotate_left; (focus (first | (simp; done) | (simp; omega) | omega)); (intro k hk; cases hk; omega)) | ((with_reducible refine Below.trans ?_ (below_of_only Hg14.out ?_ ?_)); rotate_left; (focus (first | (simp; done) | (simp; omega) | omega)); (intro k hk; cases hk; omega)) | ((with_reducible refine Below.trans ?_ (below_of_only Hg13.out ?_ ?_)); rotate_left; (focus (first | (simp; done) | (simp; omega) | omega)); (intro k hk; cases hk; omega)) | ((with_reducible refine Below.trans ?_ (below_of_only Hg12.out ?_ ?_)); rotate_left; (focus (first | (simp; done) | (simp; omega) | omega)); (intro k hk; cases hk; omega)) | ((with_reducible refine Below.trans ?_ (below_of_only Hg11.out ?_ ?_)); rotate_left; (focus (first | (simp; done) | (simp; omega) | omega)); (intro k hk; cases hk; omega)) | ((with_reducible refine Below.trans ?_ (below_of_only Hg10.out ?_ ?_)); rotate_left; (focus (first | (simp; done) | (simp; omega) | omega)); (intro k hk; cases hk; omega)) | ((with_reducible refine Below.trans ?_ (below_of_only Hg9.out ?_ ?_)); rotate_left; (focus (first | (simp; done) | (simp; omega) | omega)); (intro k hk; cases hk; omega)) | ((with_reducible refine Below.trans ?_ (below_of_only Hg8.out ?_ ?_)); rotate_left; (focus (first | (simp; done) | (simp; omega) | omega)); (intro k hk; cases hk; omega)) | ((with_reducible refine Below.trans ?_ (below_of_only Hg7.out ?_ ?_)); rotate_left; (focus (first | (simp; done) | (simp; omega) | omega)); (intro k hk; cases hk; omega)) | ((with_reducible refine Below.trans ?_ (below_of_only Hg6.out ?_ ?_)); rotate_left; (focus (first | (simp; done) | (simp; omega) | omega)); (intro k hk; cases hk; omega)) | ((with_reducible refine Below.trans ?_ (below_of_only Hg5.out ?_ ?_)); rotate_left; (focus (first | (simp; done) | (simp; omega) | omega)); (intro k hk; cases hk; omega)) | ((with_reducible refine Below.trans ?_ (below_of_only Hg4.out ?_ ?_)); rotate_left; (focus (first | (simp; done) | (simp; omega) | omega)); (intro k hk; cases hk; omega)) | ((with_reducible refine Below.trans ?_ (below_of_only Hg3.out ?_ ?_)); rotate_left; (focus (first | (simp; done) | (simp; omega) | omega)); (intro k hk; cases hk; omega)) | ((with_reducible refine Below.trans ?_ (below_of_only Hg2.out ?_ ?_)); rotate_left; (focus (first | (simp; done) | (simp; omega) | omega)); (intro k hk; cases hk; omega)) | ((with_reducible refine Below.trans ?_ (below_of_only Hg1.out ?_ ?_)); rotate_left; (focus (first | (simp; done) | (simp; omega) | omega)); (intro k hk; cases hk; omega))))⟩
  have h1' : (n1 : Int) ≤ 1048576 := by omega
  go_enter Try.func5, Try.ntmps5
  go_wp2_with fail
  refine (toCar_any f h l o _).mono ?_
  rintro e w1 ⟨rfl, hb⟩
  have hz1 := hb.size
  try simp at hz1
  obtain ⟨_, _, _, _, _, _, _, _⟩ := sz (show w.heap.size < w1.heap.size from by omega)
  have hx : Blk _ (w.heap.size) 23 #[.int .i64 f, .int .i64 h, .int .i64 l, .bool o] := Blk.below (by repeat (first | (with_reducible assumption) | (with_reducible exact Blk.new _ _ _) | ((with_reducible refine Blk.new_at ?_); (first | (simp; done) | (simp; omega))) | (with_reducible refine Blk.drew ?_) | (with_reducible refine Blk.drewN ?_ _) | (with_reducible refine Blk.alloc ?_ _) | ((with_reducible refine Blk.far ?_ ?_ _); rotate_left; (focus (first | (simp; done) | (simp; omega) | omega))))) hb (by (focus (first | (simp; done) | (simp; omega) | omega)))
  obtain ⟨_, _, _, _, _, _, _, _⟩ := blk4 hx
  replace R_a := hide (show Rd w1 1 A1 n1 (z1.map (Value.int .i64)) from Rd.below (by repeat (first | exact R_a.out | (with_reducible refine Rd.alloc ?_ _) | (with_reducible refine Rd.drew ?_) | (with_reducible refine Rd.drewN ?_ _))) hb (Nat.le_refl _))
  have Hb1 := hide hb
  clear hb
  go_wp2_with fail
  refine (toIntS_any A1 n1 c1 z1 _ (by omega) (by repeat (first | exact R_a.out | exact Rd.of_own O_a.out | (with_reducible refine RdI.al ?_ _) | (with_reducible refine RdI.dr ?_) | (with_reducible refine RdI.drN ?_ _) | (with_reducible refine Rd.alloc ?_ _) | (with_reducible refine Rd.drew ?_) | (with_reducible refine Rd.drewN ?_ _)))).mono ?_
  rintro e w2 ⟨A_p, n_p, c_p, rfl, ho, hb⟩
  have hz2 := hb.size
  try simp at hz2
  obtain ⟨_, _, _, _, _, _, _, _⟩ := sz (show w.heap.size < w2.heap.size from by omega)
  have hx : Blk _ (w.heap.size) 23 #[.int .i64 f, .int .i64 h, .int .i64 l, .bool o] := Blk.below (by repeat (first | (with_reducible assumption) | (with_reducible exact Blk.new _ _ _) | ((with_reducible refine Blk.new_at ?_); (first | (simp; done) | (simp; omega))) | (with_reducible refine Blk.drew ?_) | (with_reducible refine Blk.drewN ?_ _) | (with_reducible refine Blk.alloc ?_ _) | ((with_reducible refine Blk.far ?_ ?_ _); rotate_left; (focus (first | (simp; done) | (simp; omega) | omega))))) hb (by (focus (first | (simp; done) | (simp; omega) | omega)))
  obtain ⟨_, _, _, _, _, _, _, _⟩ := blk4 hx
  replace R_a := hide (show Rd w2 1 A1 n1 (z1.map (Value.int .i64)) from Rd.below (by repeat (first | exact R_a.out | (with_reducible refine Rd.alloc ?_ _) | (with_reducible refine Rd.drew ?_) | (with_reducible refine Rd.drewN ?_ _))) hb (Nat.le_refl _))
  have Hb2 := hide hb
  clear hb
  have LU_p := hide (own_lt_old ho)
  have O_p := hide (show World.ownsRow w2 w.heap.size 3 1 (.slice A_p n_p c_p) n_p (z1.map (Value.int .i64)) from own_base ho (by first | omega | (simp; omega)))
  clear ho
  have N_p : n_p ≤ n1 := by have h := RdLEN_int (Rd.of_own O_p.out); have := Hl1.out; omega
  go_wp2_with fail
  refine (RunCar_s5 f h l o A_p n_p c_p z1 d1 d2 d3 d4 m _ (by omega) (by repeat (first | exact Rd.of_own O_p.out | (with_reducible refine RdI.al ?_ _) | (with_reducible refine RdI.dr ?_) | (with_reducible refine RdI.drN ?_ _) | (with_reducible refine Rd.alloc ?_ _) | (with_reducible refine Rd.drew ?_) | (with_reducible refine Rd.drewN ?_ _))) Hq.out).mono ?_
  rintro e w3 ⟨rfl, hb⟩
  have hz3 := hb.size
  try simp at hz3
  obtain ⟨_, _, _, _, _, _, _, _⟩ := sz (show w.heap.size < w3.heap.size from by omega)
  have hx : Blk _ (w.heap.size) 23 #[.int .i64 f, .int .i64 h, .int .i64 l, .bool o] := Blk.below (by repeat (first | (with_reducible assumption) | (with_reducible exact Blk.new _ _ _) | ((with_reducible refine Blk.new_at ?_); (first | (simp; done) | (simp; omega))) | (with_reducible refine Blk.drew ?_) | (with_reducible refine Blk.drewN ?_ _) | (with_reducible refine Blk.alloc ?_ _) | ((with_reducible refine Blk.far ?_ ?_ _); rotate_left; (focus (first | (simp; done) | (simp; omega) | omega))))) hb (by (focus (first | (simp; done) | (simp; omega) | omega)))
  obtain ⟨_, _, _, _, _, _, _, _⟩ := blk4 hx
  replace R_a := hide (show Rd w3 1 A1 n1 (z1.map (Value.int .i64)) from Rd.below (by repeat (first | exact R_a.out | (with_reducible refine Rd.alloc ?_ _) | (with_reducible refine Rd.drew ?_) | (with_reducible refine Rd.drewN ?_ _))) hb (Nat.le_refl _))
  replace O_p := hide (show World.ownsRow w3 w.heap.size 3 1 (.slice A_p n_p c_p) n_p (z1.map (Value.int .i64)) from own_below (by repeat (first | exact O_p.out | (with_reducible refine World.ownsRow.alloc ?_ _) | (with_reducible refine World.ownsRow.drew ?_) | (with_reducible refine own_drewN ?_ _))) hb (Nat.le_refl _))
  have Hb3 := hide hb
  clear hb
  clear O_p LU_p
  go_wp2_with fail
  refine (toIntS_any A1 n1 c1 z1 _ (by omega) (by repeat (first | exact R_a.out | exact Rd.of_own O_a.out | (with_reducible refine RdI.al ?_ _) | (with_reducible refine RdI.dr ?_) | (with_reducible refine RdI.drN ?_ _) | (with_reducible refine Rd.alloc ?_ _) | (with_reducible refine Rd.drew ?_) | (with_reducible refine Rd.drewN ?_ _)))).mono ?_
  rintro e w4 ⟨A_x, n_x, c_x, rfl, ho, hb⟩
  have hz4 := hb.size
  try simp at hz4
  obtain ⟨_, _, _, _, _, _, _, _⟩ := sz (show w.heap.size < w4.heap.size from by omega)
  obtain ⟨_, _, _, _, _, _, _, _⟩ := sz (show w3.heap.size < w4.heap.size from by omega)
  have hx : Blk _ (w.heap.size) 23 #[.int .i64 f, .int .i64 h, .int .i64 l, .bool o] := Blk.below (by repeat (first | (with_reducible assumption) | (with_reducible exact Blk.new _ _ _) | ((with_reducible refine Blk.new_at ?_); (first | (simp; done) | (simp; omega))) | (with_reducible refine Blk.drew ?_) | (with_reducible refine Blk.drewN ?_ _) | (with_reducible refine Blk.alloc ?_ _) | ((with_reducible refine Blk.far ?_ ?_ _); rotate_left; (focus (first | (simp; done) | (simp; omega) | omega))))) hb (by (focus (first | (simp; done) | (simp; omega) | omega)))
  obtain ⟨_, _, _, _, _, _, _, _⟩ := blk4 hx
  have hx : Blk _ (w3.heap.size) 25 #[.int .i64 d1, .int .i64 d2, .int .i64 d3, .bool d4] := Blk.below (by repeat (first | (with_reducible assumption) | (with_reducible exact Blk.new _ _ _) | ((with_reducible refine Blk.new_at ?_); (first | (simp; done) | (simp; omega))) | (with_reducible refine Blk.drew ?_) | (with_reducible refine Blk.drewN ?_ _) | (with_reducible refine Blk.alloc ?_ _) | ((with_reducible refine Blk.far ?_ ?_ _); rotate_left; (focus (first | (simp; done) | (simp; omega) | omega))))) hb (by (focus (first | (simp; done) | (simp; omega) | omega)))
  obtain ⟨_, _, _, _, _, _, _, _⟩ := blk4 hx
  replace R_a := hide (show Rd w4 1 A1 n1 (z1.map (Value.int .i64)) from Rd.below (by repeat (first | exact R_a.out | (with_reducible refine Rd.alloc ?_ _) | (with_reducible refine Rd.drew ?_) | (with_reducible refine Rd.drewN ?_ _))) hb (Nat.le_refl _))
  have Hb4 := hide hb
  clear hb
  have LU_x := hide (own_lt_old ho)
  have O_x := hide (show World.ownsRow w4 w.heap.size 3 1 (.slice A_x n_x c_x) n_x (z1.map (Value.int .i64)) from own_base ho (by first | omega | (simp; omega)))
  clear ho
  have N_x : n_x ≤ n1 := by have h := RdLEN_int (Rd.of_own O_x.out); have := Hl1.out; omega
  go_wp2_with fail
  refine (toCar_any f h l o _).mono ?_
  rintro e w5 ⟨rfl, hb⟩
  have hz5 := hb.size
  try simp at hz5
  obtain ⟨_, _, _, _, _, _, _, _⟩ := sz (show w.heap.size < w5.heap.size from by omega)
  obtain ⟨_, _, _, _, _, _, _, _⟩ := sz (show w3.heap.size < w5.heap.size from by omega)
  have hx : Blk _ (w.heap.size) 23 #[.int .i64 f, .int .i64 h, .int .i64 l, .bool o] := Blk.below (by repeat (first | (with_reducible assumption) | (with_reducible exact Blk.new _ _ _) | ((with_reducible refine Blk.new_at ?_); (first | (simp; done) | (simp; omega))) | (with_reducible refine Blk.drew ?_) | (with_reducible refine Blk.drewN ?_ _) | (with_reducible refine Blk.alloc ?_ _) | ((with_reducible refine Blk.far ?_ ?_ _); rotate_left; (focus (first | (simp; done) | (simp; omega) | omega))))) hb (by (focus (first | (simp; done) | (simp; omega) | omega)))
  obtain ⟨_, _, _, _, _, _, _, _⟩ := blk4 hx
  have hx : Blk _ (w3.heap.size) 25 #[.int .i64 d1, .int .i64 d2, .int .i64 d3, .bool d4] := Blk.below (by repeat (first | (with_reducible assumption) | (with_reducible exact Blk.new _ _ _) | ((with_reducible refine Blk.new_at ?_); (first | (simp; done) | (simp; omega))) | (with_reducible refine Blk.drew ?_) | (with_reducible refine Blk.drewN ?_ _) | (with_reducible refine Blk.alloc ?_ _) | ((with_reducible refine Blk.far ?_ ?_ _); rotate_left; (focus (first | (simp; done) | (simp; omega) | omega))))) hb (by (focus (first | (simp; done) | (simp; omega) | omega)))
  obtain ⟨_, _, _, _, _, _, _, _⟩ := blk4 hx
  replace R_a := hide (show Rd w5 1 A1 n1 (z1.map (Value.int .i64)) from Rd.below (by repeat (first | exact R_a.out | (with_reducible refine Rd.alloc ?_ _) | (with_reducible refine Rd.drew ?_) | (with_reducible refine Rd.drewN ?_ _))) hb (Nat.le_refl _))
  replace O_x := hide (show World.ownsRow w5 w.heap.size 3 1 (.slice A_x n_x c_x) n_x (z1.map (Value.int .i64)) from own_below (by repeat (first | exact O_x.out | (with_reducible refine World.ownsRow.alloc ?_ _) | (with_reducible refine World.ownsRow.drew ?_) | (with_reducible refine own_drewN ?_ _))) hb (Nat.le_refl _))
  have Hb5 := hide hb
  clear hb
  go_wp2_with fail
  refine (RunCar_i5 f h l o A_x n_x c_x z1 d1 d2 d3 d4 m _ (by omega) (by repeat (first | exact Rd.of_own O_x.out | (with_reducible refine RdI.al ?_ _) | (with_reducible refine RdI.dr ?_) | (with_reducible refine RdI.drN ?_ _) | (with_reducible refine Rd.alloc ?_ _) | (with_reducible refine Rd.drew ?_) | (with_reducible refine Rd.drewN ?_ _))) Hq.out).mono ?_
  rintro e w6 ⟨rfl, hb⟩
  have hz6 := hb.size
  try simp at hz6
  obtain ⟨_, _, _, _, _, _, _, _⟩ := sz (show w.heap.size < w6.heap.size from by omega)
  obtain ⟨_, _, _, _, _, _, _, _⟩ := sz (show w3.heap.size < w6.heap.size from by omega)
  have hx : Blk _ (w.heap.size) 23 #[.int .i64 f, .int .i64 h, .int .i64 l, .bool o] := Blk.below (by repeat (first | (with_reducible assumption) | (with_reducible exact Blk.new _ _ _) | ((with_reducible refine Blk.new_at ?_); (first | (simp; done) | (simp; omega))) | (with_reducible refine Blk.drew ?_) | (with_reducible refine Blk.drewN ?_ _) | (with_reducible refine Blk.alloc ?_ _) | ((with_reducible refine Blk.far ?_ ?_ _); rotate_left; (focus (first | (simp; done) | (simp; omega) | omega))))) hb (by (focus (first | (simp; done) | (simp; omega) | omega)))
  obtain ⟨_, _, _, _, _, _, _, _⟩ := blk4 hx
  have hx : Blk _ (w3.heap.size) 25 #[.int .i64 d1, .int .i64 d2, .int .i64 d3, .bool d4] := Blk.below (by repeat (first | (with_reducible assumption) | (with_reducible exact Blk.new _ _ _) | ((with_reducible refine Blk.new_at ?_); (first | (simp; done) | (simp; omega))) | (with_reducible refine Blk.drew ?_) | (with_reducible refine Blk.drewN ?_ _) | (with_reducible refine Blk.alloc ?_ _) | ((with_reducible refine Blk.far ?_ ?_ _); rotate_left; (focus (first | (simp; done) | (simp; omega) | omega))))) hb (by (focus (first | (simp; done) | (simp; omega) | omega)))
  obtain ⟨_, _, _, _, _, _, _, _⟩ := blk4 hx
  replace R_a := hide (show Rd w6 1 A1 n1 (z1.map (Value.int .i64)) from Rd.below (by repeat (first | exact R_a.out | (with_reducible refine Rd.alloc ?_ _) | (with_reducible refine Rd.drew ?_) | (with_reducible refine Rd.drewN ?_ _))) hb (Nat.le_refl _))
  replace O_x := hide (show World.ownsRow w6 w.heap.size 3 1 (.slice A_x n_x c_x) n_x (z1.map (Value.int .i64)) from own_below (by repeat (first | exact O_x.out | (with_reducible refine World.ownsRow.alloc ?_ _) | (with_reducible refine World.ownsRow.drew ?_) | (with_reducible refine own_drewN ?_ _))) hb (Nat.le_refl _))
  have Hb6 := hide hb
  clear hb
  go_wp2_with fail
  refine (eqCar_same _ _ _ _ _).mono ?_
  rintro e w7 ⟨rfl, hb⟩
  have hz7 := hb.size
  try simp at hz7
  obtain ⟨_, _, _, _, _, _, _, _⟩ := sz (show w.heap.size < w7.heap.size from by omega)
  obtain ⟨_, _, _, _, _, _, _, _⟩ := sz (show w3.heap.size < w7.heap.size from by omega)
  obtain ⟨_, _, _, _, _, _, _, _⟩ := sz (show w6.heap.size < w7.heap.size from by omega)
  have hx : Blk _ (w.heap.size) 23 #[.int .i64 f, .int .i64 h, .int .i64 l, .bool o] := Blk.below (by repeat (first | (with_reducible assumption) | (with_reducible exact Blk.new _ _ _) | ((with_reducible refine Blk.new_at ?_); (first | (simp; done) | (simp; omega))) | (with_reducible refine Blk.drew ?_) | (with_reducible refine Blk.drewN ?_ _) | (with_reducible refine Blk.alloc ?_ _) | ((with_reducible refine Blk.far ?_ ?_ _); rotate_left; (focus (first | (simp; done) | (simp; omega) | omega))))) hb (by (focus (first | (simp; done) | (simp; omega) | omega)))
  obtain ⟨_, _, _, _, _, _, _, _⟩ := blk4 hx
  have hx : Blk _ (w3.heap.size) 25 #[.int .i64 d1, .int .i64 d2, .int .i64 d3, .bool d4] := Blk.below (by repeat (first | (with_reducible assumption) | (with_reducible exact Blk.new _ _ _) | ((with_reducible refine Blk.new_at ?_); (first | (simp; done) | (simp; omega))) | (with_reducible refine Blk.drew ?_) | (with_reducible refine Blk.drewN ?_ _) | (with_reducible refine Blk.alloc ?_ _) | ((with_reducible refine Blk.far ?_ ?_ _); rotate_left; (focus (first | (simp; done) | (simp; omega) | omega))))) hb (by (focus (first | (simp; done) | (simp; omega) | omega)))
  obtain ⟨_, _, _, _, _, _, _, _⟩ := blk4 hx
  have hx : Blk _ (w6.heap.size) 25 #[.int .i64 d1, .int .i64 d2, .int .i64 d3, .bool d4] := Blk.below (by repeat (first | (with_reducible assumption) | (with_reducible exact Blk.new _ _ _) | ((with_reducible refine Blk.new_at ?_); (first | (simp; done) | (simp; omega))) | (with_reducible refine Blk.drew ?_) | (with_reducible refine Blk.drewN ?_ _) | (with_reducible refine Blk.alloc ?_ _) | ((with_reducible refine Blk.far ?_ ?_ _); rotate_left; (focus (first | (simp; done) | (simp; omega) | omega))))) hb (by (focus (first | (simp; done) | (simp; omega) | omega)))
  obtain ⟨_, _, _, _, _, _, _, _⟩ := blk4 hx
  replace R_a := hide (show Rd w7 1 A1 n1 (z1.map (Value.int .i64)) from Rd.below (by repeat (first | exact R_a.out | (with_reducible refine Rd.alloc ?_ _) | (with_reducible refine Rd.drew ?_) | (with_reducible refine Rd.drewN ?_ _))) hb (Nat.le_refl _))
  replace O_x := hide (show World.ownsRow w7 w.heap.size 3 1 (.slice A_x n_x c_x) n_x (z1.map (Value.int .i64)) from own_below (by repeat (first | exact O_x.out | (with_reducible refine World.ownsRow.alloc ?_ _) | (with_reducible refine World.ownsRow.drew ?_) | (with_reducible refine own_drewN ?_ _))) hb (Nat.le_refl _))
  have Hb7 := hide hb
  clear hb
  go_wp2_with fail
  refine (toIntS_any A1 n1 c1 z1 _ (by omega) (by repeat (first | exact R_a.out | exact Rd.of_own O_a.out | (with_reducible refine RdI.al ?_ _) | (with_reducible refine RdI.dr ?_) | (with_reducible refine RdI.drN ?_ _) | (with_reducible refine Rd.alloc ?_ _) | (with_reducible refine Rd.drew ?_) | (with_reducible refine Rd.drewN ?_ _)))).mono ?_
  rintro e w8 ⟨A_y, n_y, c_y, rfl, ho, hb⟩
  have hz8 := hb.size
  try simp at hz8
  obtain ⟨_, _, _, _, _, _, _, _⟩ := sz (show w.heap.size < w8.heap.size from by omega)
  obtain ⟨_, _, _, _, _, _, _, _⟩ := sz (show w3.heap.size < w8.heap.size from by omega)
  obtain ⟨_, _, _, _, _, _, _, _⟩ := sz (show w6.heap.size < w8.heap.size from by omega)
  have hx : Blk _ (w.heap.size) 23 #[.int .i64 f, .int .i64 h, .int .i64 l, .bool o] := Blk.below (by repeat (first | (with_reducible assumption) | (with_reducible exact Blk.new _ _ _) | ((with_reducible refine Blk.new_at ?_); (first | (simp; done) | (simp; omega))) | (with_reducible refine Blk.drew ?_) | (with_reducible refine Blk.drewN ?_ _) | (with_reducible refine Blk.alloc ?_ _) | ((with_reducible refine Blk.far ?_ ?_ _); rotate_left; (focus (first | (simp; done) | (simp; omega) | omega))))) hb (by (focus (first | (simp; done) | (simp; omega) | omega)))
  obtain ⟨_, _, _, _, _, _, _, _⟩ := blk4 hx
  have hx : Blk _ (w3.heap.size) 25 #[.int .i64 d1, .int .i64 d2, .int .i64 d3, .bool d4] := Blk.below (by repeat (first | (with_reducible assumption) | (with_reducible exact Blk.new _ _ _) | ((with_reducible refine Blk.new_at ?_); (first | (simp; done) | (simp; omega))) | (with_reducible refine Blk.drew ?_) | (with_reducible refine Blk.drewN ?_ _) | (with_reducible refine Blk.alloc ?_ _) | ((with_reducible refine Blk.far ?_ ?_ _); rotate_left; (focus (first | (simp; done) | (simp; omega) | omega))))) hb (by (focus (first | (simp; done) | (simp; omega) | omega)))
  obtain ⟨_, _, _, _, _, _, _, _⟩ := blk4 hx
  have hx : Blk _ (w6.heap.size) 25 #[.int .i64 d1, .int .i64 d2, .int .i64 d3, .bool d4] := Blk.below (by repeat (first | (with_reducible assumption) | (with_reducible exact Blk.new _ _ _) | ((with_reducible refine Blk.new_at ?_); (first | (simp; done) | (simp; omega))) | (with_reducible refine Blk.drew ?_) | (with_reducible refine Blk.drewN ?_ _) | (with_reducible refine Blk.alloc ?_ _) | ((with_reducible refine Blk.far ?_ ?_ _); rotate_left; (focus (first | (simp; done) | (simp; omega) | omega))))) hb (by (focus (first | (simp; done) | (simp; omega) | omega)))
  obtain ⟨_, _, _, _, _, _, _, _⟩ := blk4 hx
  replace R_a := hide (show Rd w8 1 A1 n1 (z1.map (Value.int .i64)) from Rd.below (by repeat (first | exact R_a.out | (with_reducible refine Rd.alloc ?_ _) | (with_reducible refine Rd.drew ?_) | (with_reducible refine Rd.drewN ?_ _))) hb (Nat.le_refl _))
  replace O_x := hide (show World.ownsRow w8 w.heap.size 3 1 (.slice A_x n_x c_x) n_x (z1.map (Value.int .i64)) from own_below (by repeat (first | exact O_x.out | (with_reducible refine World.ownsRow.alloc ?_ _) | (with_reducible refine World.ownsRow.drew ?_) | (with_reducible refine own_drewN ?_ _))) hb (Nat.le_refl _))
  have Hb8 := hide hb
  clear hb
  have LU_y := hide (own_lt_old ho)
  have O_y := hide (show World.ownsRow w8 w.heap.size 3 1 (.slice A_y n_y c_y) n_y (z1.map (Value.int .i64)) from own_base ho (by first | omega | (simp; omega)))
  clear ho
  have N_y : n_y ≤ n1 := by have h := RdLEN_int (Rd.of_own O_y.out); have := Hl1.out; omega
  go_wp2_with fail
  refine (eqIntS_same A_x A_y n_x c_x n_y c_y z1 _ (by omega) (by repeat (first | exact Rd.of_own O_x.out | (with_reducible refine RdI.al ?_ _) | (with_reducible refine RdI.dr ?_) | (with_reducible refine RdI.drN ?_ _) | (with_reducible refine Rd.alloc ?_ _) | (with_reducible refine Rd.drew ?_) | (with_reducible refine Rd.drewN ?_ _))) (by repeat (first | exact Rd.of_own O_y.out | (with_reducible refine RdI.al ?_ _) | (with_reducible refine RdI.dr ?_) | (with_reducible refine RdI.drN ?_ _) | (with_reducible refine Rd.alloc ?_ _) | (with_reducible refine Rd.drew ?_) | (with_reducible refine Rd.drewN ?_ _)))).mono ?_
  rintro e w9 ⟨rfl, q, hq⟩
  subst hq
  go_wp2_with fail
  go_ret
  exact ⟨rfl, (by repeat (first | (with_reducible exact Below.refl _ _) | (with_reducible refine Below.drew ?_) | (with_reducible refine below_drewN ?_ _) | ((with_reducible refine Below.alloc ?_ ?_ _); rotate_left; (focus (first | (simp; done) | (simp; omega) | omega))) | ((with_reducible refine Below.setCell ?_ ?_ _); rotate_left; (focus (first | (simp; done) | (simp; omega) | omega))) | ((with_reducible refine Below.trans ?_ (Below.mono Hb.out ?_)); rotate_left; (focus (first | (simp; done) | (simp; omega) | omega))) | ((with_reducible refine Below.trans ?_ (Below.mono Hb16.out ?_)); rotate_left; (focus (first | (simp; done) | (simp; omega) | omega))) | ((with_reducible refine Below.trans ?_ (Below.mono Hb15.out ?_)); rotate_left; (focus (first | (simp; done) | (simp; omega) | omega))) | ((with_reducible refine Below.trans ?_ (Below.mono Hb14.out ?_)); rotate_left; (focus (first | (simp; done) | (simp; omega) | omega))) | ((with_reducible refine Below.trans ?_ (Below.mono Hb13.out ?_)); rotate_left; (focus (first | (simp; done) | (simp; omega) | omega))) | ((with_reducible refine Below.trans ?_ (Below.mono Hb12.out ?_)); rotate_left; (focus (first | (simp; done) | (simp; omega) | omega))) | ((with_reducible refine Below.trans ?_ (Below.mono Hb11.out ?_)); rotate_left; (focus (first | (simp; done) | (simp; omega) | omega))) | ((with_reducible refine Below.trans ?_ (Below.mono Hb10.out ?_)); rotate_left; (focus (first | (simp; done) | (simp; omega) | omega))) | ((with_reducible refine Below.trans ?_ (Below.mono Hb9.out ?_)); rotate_left; (focus (first | (simp; done) | (simp; omega) | omega))) | ((with_reducible refine Below.trans ?_ (Below.mono Hb8.out ?_)); rotate_left; (focus (first | (simp; done) | (simp; omega) | omega))) | ((with_reducible refine Below.trans ?_ (Below.mono Hb7.out ?_)); rotate_left; (focus (first | (simp; done) | (simp; omega) | omega))) | ((with_reducible refine Below.trans ?_ (Below.mono Hb6.out ?_)); rotate_left; (focus (first | (simp; done) | (simp; omega) | omega))) | ((with_reducible refine Below.trans ?_ (Below.mono Hb5.out ?_)); rotate_left; (focus (first | (simp; done) | (simp; omega) | omega))) | ((with_reducible refine Below.trans ?_ (Below.mono Hb4.out ?_)); rotate_left; (focus (first | (simp; done) | (simp; omega) | omega))) | ((with_reducible refine Below.trans ?_ (Below.mono Hb3.out ?_)); rotate_left; (focus (first | (simp; done) | (simp; omega) | omega))) | ((with_reducible refine Below.trans ?_ (Below.mono Hb2.out ?_)); rotate_left; (focus (first | (simp; done) | (simp; omega) | omega))) | ((with_reducible refine Below.trans ?_ (Below.mono Hb1.out ?_)); rotate_left; (focus (first | (simp; done) | (simp; omega) | omega))) | ((with_reducible refine Below.trans ?_ (below_of_only Hg16.out ?_ ?_)); rotate_left; (focus (first | (simp; done) | (simp; omega) | omega)); (intro k hk; cases hk; omega)) | ((with_reducible refine Below.trans ?_ (below_of_only Hg15.out ?_ ?_)); rotate_left; (focus (first | (simp; done) | (simp; omega) | omega)); (intro k hk; cases hk; omega)) | ((with_reducible refine Below.trans ?_ (below_of_only Hg14.out ?_ ?_)); rotate_left; (focus (first | (simp; done) | (simp; omega) | omega)); (intro k hk; cases hk; omega)) | ((with_reducible refine Below.trans ?_ (below_of_only Hg13.out ?_ ?_)); rotate_left; (focus (first | (simp; done) | (simp; omega) | omega)); (intro k hk; cases hk; omega)) | ((with_reducible refine Below.trans ?_ (below_of_only Hg12.out ?_ ?_)); rotate_left; (focus (first | (simp; done) | (simp; omega) | omega)); (intro k hk; cases hk; omega)) | ((with_reducible refine Below.trans ?_ (below_of_only Hg11.out ?_ ?_)); rotate_left; (focus (first | (simp; done) | (simp; omega) | omega)); (intro k hk; cases hk; omega)) | ((with_reducible refine Below.trans ?_ (below_of_only Hg10.out ?_ ?_)); rotate_left; (focus (first | (simp; done) | (simp; omega) | omega)); (intro k hk; cases hk; omega)) | ((with_reducible refine Below.trans ?_ (below_of_only Hg9.out ?_ ?_)); rotate_left; (focus (first | (simp; done) | (simp; omega) | omega)); (intro k hk; cases hk; omega)) | ((with_reducible refine Below.trans ?_ (below_of_only Hg8.out ?_ ?_)); rotate_left; (focus (first | (simp; done) | (simp; omega) | omega)); (intro k hk; cases hk; omega)) | ((with_reducible refine Below.trans ?_ (below_of_only Hg7.out ?_ ?_)); rotate_left; (focus (first | (simp; done) | (simp; omega) | omega)); (intro k hk; cases hk; omega)) | ((with_reducible refine Below.trans ?_ (below_of_only Hg6.out ?_ ?_)); rotate_left; (focus (first | (simp; done) | (simp; omega) | omega)); (intro k hk; cases hk; omega)) | ((with_reducible refine Below.trans ?_ (below_of_only Hg5.out ?_ ?_)); rotate_left; (focus (first | (simp; done) | (simp; omega) | omega)); (intro k hk; cases hk; omega)) | ((with_reducible refine Below.trans ?_ (below_of_only Hg4.out ?_ ?_)); rotate_left; (focus (first | (simp; done) | (simp; omega) | omega)); (intro k hk; cases hk; omega)) | ((with_reducible refine Below.trans ?_ (below_of_only Hg3.out ?_ ?_)); rotate_left; (focus (first | (simp; done) | (simp; omega) | omega)); (intro k hk; cases hk; omega)) | ((with_reducible refine Below.trans ?_ (below_of_only Hg2.out ?_ ?_)); rotate_left; (focus (first | (simp; done) | (simp; omega) | omega)); (intro k hk; cases hk; omega)) | ((with_reducible refine Below.trans ?_ (below_of_only Hg1.out ?_ ?_)); rotate_left; (focus (first | (simp; done) | (simp; omega) | omega)); (intro k hk; cases hk; omega))))⟩

end Go.Proofs.Ytongbeecogjdlaa
