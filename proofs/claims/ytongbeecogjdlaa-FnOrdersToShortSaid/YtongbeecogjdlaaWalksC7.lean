/-
  The walks of the laws on the orders to a floor.
-/
import Derived.Test.YtongbeecogjdlaaWalksC4
import Derived.Test.YtongbeecogjdlaaOrdersC
import Derived.Test.YtongbeecogjdlaaRdl
namespace Go.Proofs.Ytongbeecogjdlaa
open Go.RowKit
set_option linter.unusedSimpArgs false
set_option linter.unusedVariables false

theorem cOrders_le (f h l : Int) (o : Bool) (y : Int) : (cOrders f h l o y).length ≤ 19 := by
  unfold cOrders
  split
  · rename_i hc
    have hv := vC_iff.1 hc.1
    by_cases hne : o = true ∧ f = y
    · unfold ordersC; rw [if_pos hne]; simp
    · have := (orders_moves f h o y hne).2; omega
  · simp
theorem cOrders_nil {f h l : Int} {o : Bool} {y : Int} (hc : vC f h l o = true ∧ l < 5 ∧ 0 ≤ y ∧ y ≤ 15) : cOrders f h l o y = ordersC f h o y := if_pos hc
set_option maxHeartbeats 400000 in
theorem absolute_any (x : Int) (w : World) (x0 : -1000000 ≤ x) (x1 : x ≤ 1000000) :
    Calls Try.prog 32 #[.int .i64 x] w fun e w' => e = .returned (.int .i64 (x.natAbs : Int)) ∧ w = w' := by
  go_enter Try.func32, Try.ntmps32
  go_wp2
  all_goals
    go_ret
    refine ⟨ret_int ?_, rfl⟩
    go_light
    omega

theorem ValidCar_ib (f h l : Int) (o : Bool) (v : Bool) (w : World) (hv : vC f h l o = v) :
    Calls Try.prog 18 #[.agg #[.int .i64 f, .int .i64 h, .int .i64 l, .bool o]] w fun e w' => e = .returned (.bool v) ∧ Below w.heap.size w w' := by
  subst hv
  refine (ValidCar_i f h l o w).mono ?_
  rintro e w' ⟨rfl, rfl⟩
  exact ⟨rfl, (Below.refl _ _).alloc (Nat.le_refl _) _⟩

set_option maxHeartbeats 4000000 in
theorem fnExactOrdersTo_walk (f h l : Int) (o : Bool) (y : Int) (w : World) (_ : (Lit.int .i64 f).wf = true) (_ : (Lit.int .i64 h).wf = true) (_ : (Lit.int .i64 l).wf = true) (_ : (Lit.int .i64 y).wf = true) :
    Calls Try.prog 6 #[.agg #[.int .i64 f, .int .i64 h, .int .i64 l, .bool o], .int .i64 y] w fun e w' => e = .returned (.bool true) ∧ Below w.heap.size w w' := by
  have hle := cOrders_le f h l o y
  go_enter Try.func6, Try.ntmps6
  go_wp2_with fail
  refine (toCar_any f h l o _).mono ?_
  rintro e w1 ⟨rfl, hb⟩
  have hz1 := hb.size
  try simp at hz1
  obtain ⟨_, _, _, _, _, _, _, _⟩ := sz (show w.heap.size < w1.heap.size from by omega)
  have hx : Blk _ (w.heap.size) 23 #[.int .i64 f, .int .i64 h, .int .i64 l, .bool o] := Blk.below (by repeat (first | (with_reducible assumption) | (with_reducible exact Blk.new _ _ _) | ((with_reducible refine Blk.new_at ?_); (first | (simp; done) | (simp; omega))) | (with_reducible refine Blk.drew ?_) | (with_reducible refine Blk.drewN ?_ _) | (with_reducible refine Blk.alloc ?_ _) | ((with_reducible refine Blk.far ?_ ?_ _); rotate_left; (focus (first | (simp; done) | (simp; omega) | omega))))) hb (by (focus (first | (simp; done) | (simp; omega) | omega)))
  obtain ⟨_, _, _, _, _, _, _, _⟩ := blk4 hx
  have Hb1 := hide hb
  clear hb
  go_wp2_with fail
  refine (OrdersTo_s f h l o y _).mono ?_
  rintro e w2 ⟨A_W, n_W, c_W, rfl, ho, hb⟩
  have hz2 := hb.size
  try simp at hz2
  obtain ⟨_, _, _, _, _, _, _, _⟩ := sz (show w.heap.size < w2.heap.size from by omega)
  have hx : Blk _ (w.heap.size) 23 #[.int .i64 f, .int .i64 h, .int .i64 l, .bool o] := Blk.below (by repeat (first | (with_reducible assumption) | (with_reducible exact Blk.new _ _ _) | ((with_reducible refine Blk.new_at ?_); (first | (simp; done) | (simp; omega))) | (with_reducible refine Blk.drew ?_) | (with_reducible refine Blk.drewN ?_ _) | (with_reducible refine Blk.alloc ?_ _) | ((with_reducible refine Blk.far ?_ ?_ _); rotate_left; (focus (first | (simp; done) | (simp; omega) | omega))))) hb (by (focus (first | (simp; done) | (simp; omega) | omega)))
  obtain ⟨_, _, _, _, _, _, _, _⟩ := blk4 hx
  have Hb2 := hide hb
  clear hb
  have LU_W := hide (fun k h => (⟨(own_lt_old ho k h).1, by have := (own_lt_old ho k h).2; (first | omega | (simp at this; omega))⟩ : k < w2.heap.size ∧ w1.heap.size ≤ k))
  have O_W := hide (show World.ownsRow w2 w.heap.size 3 1 (.slice A_W n_W c_W) n_W ((cOrders f h l o y).map (Value.int .i64)) from own_base ho (by first | omega | (simp; omega)))
  clear ho
  have N_W : n_W ≤ 19 := by have h := RdLEN_int (Rd.of_own O_W.out); omega
  go_wp2_with fail
  refine (toCar_any f h l o _).mono ?_
  rintro e w3 ⟨rfl, hb⟩
  have hz3 := hb.size
  try simp at hz3
  obtain ⟨_, _, _, _, _, _, _, _⟩ := sz (show w.heap.size < w3.heap.size from by omega)
  have hx : Blk _ (w.heap.size) 23 #[.int .i64 f, .int .i64 h, .int .i64 l, .bool o] := Blk.below (by repeat (first | (with_reducible assumption) | (with_reducible exact Blk.new _ _ _) | ((with_reducible refine Blk.new_at ?_); (first | (simp; done) | (simp; omega))) | (with_reducible refine Blk.drew ?_) | (with_reducible refine Blk.drewN ?_ _) | (with_reducible refine Blk.alloc ?_ _) | ((with_reducible refine Blk.far ?_ ?_ _); rotate_left; (focus (first | (simp; done) | (simp; omega) | omega))))) hb (by (focus (first | (simp; done) | (simp; omega) | omega)))
  obtain ⟨_, _, _, _, _, _, _, _⟩ := blk4 hx
  replace O_W := hide (show World.ownsRow w3 w.heap.size 3 1 (.slice A_W n_W c_W) n_W ((cOrders f h l o y).map (Value.int .i64)) from own_below (by repeat (first | exact O_W.out | (with_reducible refine World.ownsRow.alloc ?_ _) | (with_reducible refine World.ownsRow.drew ?_) | (with_reducible refine own_drewN ?_ _))) hb (Nat.le_refl _))
  have Hb3 := hide hb
  clear hb
  go_wp2_with fail
  refine (OrdersTo_i f h l o y _).mono ?_
  rintro e w4 ⟨A_g, n_g, c_g, rfl, ho, hb⟩
  have hz4 := hb.size
  try simp at hz4
  obtain ⟨_, _, _, _, _, _, _, _⟩ := sz (show w.heap.size < w4.heap.size from by omega)
  have hx : Blk _ (w.heap.size) 23 #[.int .i64 f, .int .i64 h, .int .i64 l, .bool o] := Blk.below (by repeat (first | (with_reducible assumption) | (with_reducible exact Blk.new _ _ _) | ((with_reducible refine Blk.new_at ?_); (first | (simp; done) | (simp; omega))) | (with_reducible refine Blk.drew ?_) | (with_reducible refine Blk.drewN ?_ _) | (with_reducible refine Blk.alloc ?_ _) | ((with_reducible refine Blk.far ?_ ?_ _); rotate_left; (focus (first | (simp; done) | (simp; omega) | omega))))) hb (by (focus (first | (simp; done) | (simp; omega) | omega)))
  obtain ⟨_, _, _, _, _, _, _, _⟩ := blk4 hx
  replace O_W := hide (show World.ownsRow w4 w.heap.size 3 1 (.slice A_W n_W c_W) n_W ((cOrders f h l o y).map (Value.int .i64)) from own_below (by repeat (first | exact O_W.out | (with_reducible refine World.ownsRow.alloc ?_ _) | (with_reducible refine World.ownsRow.drew ?_) | (with_reducible refine own_drewN ?_ _))) hb (Nat.le_refl _))
  have Hb4 := hide hb
  clear hb
  have LU_g := hide (fun k h => (⟨(own_lt_old ho k h).1, by have := (own_lt_old ho k h).2; (first | omega | (simp at this; omega))⟩ : k < w4.heap.size ∧ w3.heap.size ≤ k))
  have O_g := hide (show World.ownsRow w4 w.heap.size 3 1 (.slice A_g n_g c_g) n_g ((cOrders f h l o y).map (Value.int .i64)) from own_base ho (by first | omega | (simp; omega)))
  clear ho
  have N_g : n_g ≤ 19 := by have h := RdLEN_int (Rd.of_own O_g.out); omega
  go_wp2_with fail
  refine (eqIntS_same A_g A_W n_g c_g n_W c_W (cOrders f h l o y) _ (by omega) (by repeat (first | exact Rd.of_own O_g.out | (with_reducible refine RdI.al ?_ _) | (with_reducible refine RdI.dr ?_) | (with_reducible refine RdI.drN ?_ _) | (with_reducible refine Rd.alloc ?_ _) | (with_reducible refine Rd.drew ?_) | (with_reducible refine Rd.drewN ?_ _))) (by repeat (first | exact Rd.of_own O_W.out | (with_reducible refine RdI.al ?_ _) | (with_reducible refine RdI.dr ?_) | (with_reducible refine RdI.drN ?_ _) | (with_reducible refine Rd.alloc ?_ _) | (with_reducible refine Rd.drew ?_) | (with_reducible refine Rd.drewN ?_ _)))).mono ?_
  rintro e wq1 ⟨rfl, q1, rfl⟩
  go_wp2_with fail
  refine (markIntS_any _ A_g n_g c_g 1 _ _ (by omega) (by omega) (by omega) (by repeat (first | exact O_g.out | (with_reducible refine World.ownsRow.alloc ?_ _) | (with_reducible refine World.ownsRow.drew ?_) | (with_reducible refine own_drewN ?_ _)))).mono ?_
  rintro e w5 ⟨rfl, ho, hg⟩
  have hz5 := hg.size
  try simp at hz5
  have Hb5 := hide (below_of_only (B := w.heap.size) hg (by (first | omega | (simp; omega))) (fun k hk => by have := LU_g.out k hk; omega))
  obtain ⟨_, _, _, _, _, _, _, _⟩ := sz (show w.heap.size < w5.heap.size from by omega)
  have hx : Blk _ (w.heap.size) 23 #[.int .i64 f, .int .i64 h, .int .i64 l, .bool o] := Blk.grown (by repeat (first | (with_reducible assumption) | (with_reducible exact Blk.new _ _ _) | ((with_reducible refine Blk.new_at ?_); (first | (simp; done) | (simp; omega))) | (with_reducible refine Blk.drew ?_) | (with_reducible refine Blk.drewN ?_ _) | (with_reducible refine Blk.alloc ?_ _) | ((with_reducible refine Blk.far ?_ ?_ _); rotate_left; (focus (first | (simp; done) | (simp; omega) | omega))))) hg (fun h2 => by have := LU_g.out _ h2.symm; omega)
  obtain ⟨_, _, _, _, _, _, _, _⟩ := blk4 hx
  replace O_W := hide (show World.ownsRow w5 w.heap.size 3 1 (.slice A_W n_W c_W) n_W ((cOrders f h l o y).map (Value.int .i64)) from own_kept2 (by repeat (first | exact O_W.out | (with_reducible refine World.ownsRow.alloc ?_ _) | (with_reducible refine World.ownsRow.drew ?_) | (with_reducible refine own_drewN ?_ _))) hg (fun k h1 h2 => by have := LU_W.out k h1; have := LU_g.out k h2; omega))
  replace O_g := hide (show World.ownsRow w5 w.heap.size 3 1 (.slice A_g n_g c_g) n_g ((marksI 1 n_g).map (Value.int .i64)) from ho)
  clear ho hg
  go_wp2_with fail
  refine (heldIntS_ok A_g n_g c_g 1 _ (by omega) (by omega) (by omega) (by repeat (first | exact Rd.of_own O_g.out | (with_reducible refine RdI.al ?_ _) | (with_reducible refine RdI.dr ?_) | (with_reducible refine RdI.drN ?_ _) | (with_reducible refine Rd.alloc ?_ _) | (with_reducible refine Rd.drew ?_) | (with_reducible refine Rd.drewN ?_ _)))).mono ?_
  rintro e wq2 ⟨rfl, q2, rfl⟩
  go_wp2_with fail
  refine (toCar_any f h l o _).mono ?_
  rintro e w6 ⟨rfl, hb⟩
  have hz6 := hb.size
  try simp at hz6
  obtain ⟨_, _, _, _, _, _, _, _⟩ := sz (show w.heap.size < w6.heap.size from by omega)
  have hx : Blk _ (w.heap.size) 23 #[.int .i64 f, .int .i64 h, .int .i64 l, .bool o] := Blk.below (by repeat (first | (with_reducible assumption) | (with_reducible exact Blk.new _ _ _) | ((with_reducible refine Blk.new_at ?_); (first | (simp; done) | (simp; omega))) | (with_reducible refine Blk.drew ?_) | (with_reducible refine Blk.drewN ?_ _) | (with_reducible refine Blk.alloc ?_ _) | ((with_reducible refine Blk.far ?_ ?_ _); rotate_left; (focus (first | (simp; done) | (simp; omega) | omega))))) hb (by (focus (first | (simp; done) | (simp; omega) | omega)))
  obtain ⟨_, _, _, _, _, _, _, _⟩ := blk4 hx
  replace O_W := hide (show World.ownsRow w6 w.heap.size 3 1 (.slice A_W n_W c_W) n_W ((cOrders f h l o y).map (Value.int .i64)) from own_below (by repeat (first | exact O_W.out | (with_reducible refine World.ownsRow.alloc ?_ _) | (with_reducible refine World.ownsRow.drew ?_) | (with_reducible refine own_drewN ?_ _))) hb (Nat.le_refl _))
  replace O_g := hide (show World.ownsRow w6 w.heap.size 3 1 (.slice A_g n_g c_g) n_g ((marksI 1 n_g).map (Value.int .i64)) from own_below (by repeat (first | exact O_g.out | (with_reducible refine World.ownsRow.alloc ?_ _) | (with_reducible refine World.ownsRow.drew ?_) | (with_reducible refine own_drewN ?_ _))) hb (Nat.le_refl _))
  have Hb6 := hide hb
  clear hb
  go_wp2_with fail
  refine (OrdersTo_i f h l o y _).mono ?_
  rintro e w7 ⟨A_h, n_h, c_h, rfl, ho, hb⟩
  have hz7 := hb.size
  try simp at hz7
  obtain ⟨_, _, _, _, _, _, _, _⟩ := sz (show w.heap.size < w7.heap.size from by omega)
  have hx : Blk _ (w.heap.size) 23 #[.int .i64 f, .int .i64 h, .int .i64 l, .bool o] := Blk.below (by repeat (first | (with_reducible assumption) | (with_reducible exact Blk.new _ _ _) | ((with_reducible refine Blk.new_at ?_); (first | (simp; done) | (simp; omega))) | (with_reducible refine Blk.drew ?_) | (with_reducible refine Blk.drewN ?_ _) | (with_reducible refine Blk.alloc ?_ _) | ((with_reducible refine Blk.far ?_ ?_ _); rotate_left; (focus (first | (simp; done) | (simp; omega) | omega))))) hb (by (focus (first | (simp; done) | (simp; omega) | omega)))
  obtain ⟨_, _, _, _, _, _, _, _⟩ := blk4 hx
  replace O_W := hide (show World.ownsRow w7 w.heap.size 3 1 (.slice A_W n_W c_W) n_W ((cOrders f h l o y).map (Value.int .i64)) from own_below (by repeat (first | exact O_W.out | (with_reducible refine World.ownsRow.alloc ?_ _) | (with_reducible refine World.ownsRow.drew ?_) | (with_reducible refine own_drewN ?_ _))) hb (Nat.le_refl _))
  replace O_g := hide (show World.ownsRow w7 w.heap.size 3 1 (.slice A_g n_g c_g) n_g ((marksI 1 n_g).map (Value.int .i64)) from own_below (by repeat (first | exact O_g.out | (with_reducible refine World.ownsRow.alloc ?_ _) | (with_reducible refine World.ownsRow.drew ?_) | (with_reducible refine own_drewN ?_ _))) hb (Nat.le_refl _))
  have Hb7 := hide hb
  clear hb
  have LU_h := hide (fun k h => (⟨(own_lt_old ho k h).1, by have := (own_lt_old ho k h).2; (first | omega | (simp at this; omega))⟩ : k < w7.heap.size ∧ w6.heap.size ≤ k))
  have O_h := hide (show World.ownsRow w7 w.heap.size 3 1 (.slice A_h n_h c_h) n_h ((cOrders f h l o y).map (Value.int .i64)) from own_base ho (by first | omega | (simp; omega)))
  clear ho
  have N_h : n_h ≤ 19 := by have h := RdLEN_int (Rd.of_own O_h.out); omega
  go_wp2_with fail
  refine (eqIntS_same A_h A_W n_h c_h n_W c_W (cOrders f h l o y) _ (by omega) (by repeat (first | exact Rd.of_own O_h.out | (with_reducible refine RdI.al ?_ _) | (with_reducible refine RdI.dr ?_) | (with_reducible refine RdI.drN ?_ _) | (with_reducible refine Rd.alloc ?_ _) | (with_reducible refine Rd.drew ?_) | (with_reducible refine Rd.drewN ?_ _))) (by repeat (first | exact Rd.of_own O_W.out | (with_reducible refine RdI.al ?_ _) | (with_reducible refine RdI.dr ?_) | (with_reducible refine RdI.drN ?_ _) | (with_reducible refine Rd.alloc ?_ _) | (with_reducible refine Rd.drew ?_) | (with_reducible refine Rd.drewN ?_ _)))).mono ?_
  rintro e wq3 ⟨rfl, q3, rfl⟩
  go_wp2_with fail
  refine (heldIntS_ok A_g n_g c_g 1 _ (by omega) (by omega) (by omega) (by repeat (first | exact Rd.of_own O_g.out | (with_reducible refine RdI.al ?_ _) | (with_reducible refine RdI.dr ?_) | (with_reducible refine RdI.drN ?_ _) | (with_reducible refine Rd.alloc ?_ _) | (with_reducible refine Rd.drew ?_) | (with_reducible refine Rd.drewN ?_ _)))).mono ?_
  rintro e wq4 ⟨rfl, q4, rfl⟩
  go_wp2_with fail
  go_ret
  exact ⟨rfl, (by repeat (first | (with_reducible exact Below.refl _ _) | (with_reducible refine Below.drew ?_) | (with_reducible refine below_drewN ?_ _) | ((with_reducible refine Below.alloc ?_ ?_ _); rotate_left; (focus (first | (simp; done) | (simp; omega) | omega))) | ((with_reducible refine Below.setCell ?_ ?_ _); rotate_left; (focus (first | (simp; done) | (simp; omega) | omega))) | ((with_reducible refine Below.trans ?_ (Below.mono Hb.out ?_)); rotate_left; (focus (first | (simp; done) | (simp; omega) | omega))) | ((with_reducible refine Below.trans ?_ (Below.mono Hb16.out ?_)); rotate_left; (focus (first | (simp; done) | (simp; omega) | omega))) | ((with_reducible refine Below.trans ?_ (Below.mono Hb15.out ?_)); rotate_left; (focus (first | (simp; done) | (simp; omega) | omega))) | ((with_reducible refine Below.trans ?_ (Below.mono Hb14.out ?_)); rotate_left; (focus (first | (simp; done) | (simp; omega) | omega))) | ((with_reducible refine Below.trans ?_ (Below.mono Hb13.out ?_)); rotate_left; (focus (first | (simp; done) | (simp; omega) | omega))) | ((with_reducible refine Below.trans ?_ (Below.mono Hb12.out ?_)); rotate_left; (focus (first | (simp; done) | (simp; omega) | omega))) | ((with_reducible refine Below.trans ?_ (Below.mono Hb11.out ?_)); rotate_left; (focus (first | (simp; done) | (simp; omega) | omega))) | ((with_reducible refine Below.trans ?_ (Below.mono Hb10.out ?_)); rotate_left; (focus (first | (simp; done) | (simp; omega) | omega))) | ((with_reducible refine Below.trans ?_ (Below.mono Hb9.out ?_)); rotate_left; (focus (first | (simp; done) | (simp; omega) | omega))) | ((with_reducible refine Below.trans ?_ (Below.mono Hb8.out ?_)); rotate_left; (focus (first | (simp; done) | (simp; omega) | omega))) | ((with_reducible refine Below.trans ?_ (Below.mono Hb7.out ?_)); rotate_left; (focus (first | (simp; done) | (simp; omega) | omega))) | ((with_reducible refine Below.trans ?_ (Below.mono Hb6.out ?_)); rotate_left; (focus (first | (simp; done) | (simp; omega) | omega))) | ((with_reducible refine Below.trans ?_ (Below.mono Hb5.out ?_)); rotate_left; (focus (first | (simp; done) | (simp; omega) | omega))) | ((with_reducible refine Below.trans ?_ (Below.mono Hb4.out ?_)); rotate_left; (focus (first | (simp; done) | (simp; omega) | omega))) | ((with_reducible refine Below.trans ?_ (Below.mono Hb3.out ?_)); rotate_left; (focus (first | (simp; done) | (simp; omega) | omega))) | ((with_reducible refine Below.trans ?_ (Below.mono Hb2.out ?_)); rotate_left; (focus (first | (simp; done) | (simp; omega) | omega))) | ((with_reducible refine Below.trans ?_ (Below.mono Hb1.out ?_)); rotate_left; (focus (first | (simp; done) | (simp; omega) | omega))) | ((with_reducible refine Below.trans ?_ (below_of_only Hg16.out ?_ ?_)); rotate_left; (focus (first | (simp; done) | (simp; omega) | omega)); (intro k hk; cases hk; omega)) | ((with_reducible refine Below.trans ?_ (below_of_only Hg15.out ?_ ?_)); rotate_left; (focus (first | (simp; done) | (simp; omega) | omega)); (intro k hk; cases hk; omega)) | ((with_reducible refine Below.trans ?_ (below_of_only Hg14.out ?_ ?_)); rotate_left; (focus (first | (simp; done) | (simp; omega) | omega)); (intro k hk; cases hk; omega)) | ((with_reducible refine Below.trans ?_ (below_of_only Hg13.out ?_ ?_)); rotate_left; (focus (first | (simp; done) | (simp; omega) | omega)); (intro k hk; cases hk; omega)) | ((with_reducible refine Below.trans ?_ (below_of_only Hg12.out ?_ ?_)); rotate_left; (focus (first | (simp; done) | (simp; omega) | omega)); (intro k hk; cases hk; omega)) | ((with_reducible refine Below.trans ?_ (below_of_only Hg11.out ?_ ?_)); rotate_left; (focus (first | (simp; done) | (simp; omega) | omega)); (intro k hk; cases hk; omega)) | ((with_reducible refine Below.trans ?_ (below_of_only Hg10.out ?_ ?_)); rotate_left; (focus (first | (simp; done) | (simp; omega) | omega)); (intro k hk; cases hk; omega)) | ((with_reducible refine Below.trans ?_ (below_of_only Hg9.out ?_ ?_)); rotate_left; (focus (first | (simp; done) | (simp; omega) | omega)); (intro k hk; cases hk; omega)) | ((with_reducible refine Below.trans ?_ (below_of_only Hg8.out ?_ ?_)); rotate_left; (focus (first | (simp; done) | (simp; omega) | omega)); (intro k hk; cases hk; omega)) | ((with_reducible refine Below.trans ?_ (below_of_only Hg7.out ?_ ?_)); rotate_left; (focus (first | (simp; done) | (simp; omega) | omega)); (intro k hk; cases hk; omega)) | ((with_reducible refine Below.trans ?_ (below_of_only Hg6.out ?_ ?_)); rotate_left; (focus (first | (simp; done) | (simp; omega) | omega)); (intro k hk; cases hk; omega)) | ((with_reducible refine Below.trans ?_ (below_of_only Hg5.out ?_ ?_)); rotate_left; (focus (first | (simp; done) | (simp; omega) | omega)); (intro k hk; cases hk; omega)) | ((with_reducible refine Below.trans ?_ (below_of_only Hg4.out ?_ ?_)); rotate_left; (focus (first | (simp; done) | (simp; omega) | omega)); (intro k hk; cases hk; omega)) | ((with_reducible refine Below.trans ?_ (below_of_only Hg3.out ?_ ?_)); rotate_left; (focus (first | (simp; done) | (simp; omega) | omega)); (intro k hk; cases hk; omega)) | ((with_reducible refine Below.trans ?_ (below_of_only Hg2.out ?_ ?_)); rotate_left; (focus (first | (simp; done) | (simp; omega) | omega)); (intro k hk; cases hk; omega)) | ((with_reducible refine Below.trans ?_ (below_of_only Hg1.out ?_ ?_)); rotate_left; (focus (first | (simp; done) | (simp; omega) | omega)); (intro k hk; cases hk; omega))))⟩

set_option maxHeartbeats 4000000 in
theorem fnOrdersTo_walk (A : Option Addr) (n c : Nat) (zs : List Int) (w : World) (hl : n ≤ c) (hr : RdI w .u8 A n zs) (hz : ∀ z ∈ zs, (Lit.int .u8 z).wf = true) :
    Calls Try.prog 14 #[.slice A n c] w fun e w' => e = .returned (.bool true) ∧ Below w.heap.size w w' := by
  have Ha := hide (code8_of hl hr hz)
  clear hr hz
  by_cases hn : 1048576 < n
  · have hn' : (1048576 : Int) < (n : Int) := by omega
    go_enter Try.func14, Try.ntmps14
    go_wp2_with fail
    go_ret
    exact ⟨rfl, Below.refl _ _⟩
  have hn' : (n : Int) ≤ 1048576 := by omega
  go_enter Try.func14, Try.ntmps14
  go_wp2_with fail
  refine (DrawOrdersTo_any _ A n c _ (Nat.le_refl _) Ha.out).mono ?_
  rintro e w1 ⟨f, h, l, o, y, rfl, hb⟩
  have hz1 := hb.size
  try simp at hz1
  have Hb1 := hide hb
  clear hb
  have hle := cOrders_le f h l o y
  go_wp2_with fail
  refine (OrdersTo_i f h l o y _).mono ?_
  rintro e w2 ⟨A_g, n_g, c_g, rfl, ho, hb⟩
  have hz2 := hb.size
  try simp at hz2
  obtain ⟨_, _, _, _, _, _, _, _⟩ := sz (show w1.heap.size < w2.heap.size from by omega)
  have hx : Blk _ (w1.heap.size) 25 #[.int .i64 f, .int .i64 h, .int .i64 l, .bool o] := Blk.below (by repeat (first | (with_reducible assumption) | (with_reducible exact Blk.new _ _ _) | ((with_reducible refine Blk.new_at ?_); (first | (simp; done) | (simp; omega))) | (with_reducible refine Blk.drew ?_) | (with_reducible refine Blk.drewN ?_ _) | (with_reducible refine Blk.alloc ?_ _) | ((with_reducible refine Blk.far ?_ ?_ _); rotate_left; (focus (first | (simp; done) | (simp; omega) | omega))))) hb (by (focus (first | (simp; done) | (simp; omega) | omega)))
  obtain ⟨_, _, _, _, _, _, _, _⟩ := blk4 hx
  have Hb2 := hide hb
  clear hb
  have LU_g := hide (fun k h => (⟨(own_lt_old ho k h).1, by have := (own_lt_old ho k h).2; (first | omega | (simp at this; omega))⟩ : k < w2.heap.size ∧ w1.heap.size ≤ k))
  have O_g := hide (show World.ownsRow w2 w.heap.size 3 1 (.slice A_g n_g c_g) n_g ((cOrders f h l o y).map (Value.int .i64)) from own_base ho (by first | omega | (simp; omega)))
  clear ho
  have N_g : n_g ≤ 19 := by have h := RdLEN_int (Rd.of_own O_g.out); omega
  go_wp2_with fail
  refine (OrdersTo_s f h l o y _).mono ?_
  rintro e w3 ⟨A_W, n_W, c_W, rfl, ho, hb⟩
  have hz3 := hb.size
  try simp at hz3
  obtain ⟨_, _, _, _, _, _, _, _⟩ := sz (show w1.heap.size < w3.heap.size from by omega)
  have hx : Blk _ (w1.heap.size) 25 #[.int .i64 f, .int .i64 h, .int .i64 l, .bool o] := Blk.below (by repeat (first | (with_reducible assumption) | (with_reducible exact Blk.new _ _ _) | ((with_reducible refine Blk.new_at ?_); (first | (simp; done) | (simp; omega))) | (with_reducible refine Blk.drew ?_) | (with_reducible refine Blk.drewN ?_ _) | (with_reducible refine Blk.alloc ?_ _) | ((with_reducible refine Blk.far ?_ ?_ _); rotate_left; (focus (first | (simp; done) | (simp; omega) | omega))))) hb (by (focus (first | (simp; done) | (simp; omega) | omega)))
  obtain ⟨_, _, _, _, _, _, _, _⟩ := blk4 hx
  replace O_g := hide (show World.ownsRow w3 w.heap.size 3 1 (.slice A_g n_g c_g) n_g ((cOrders f h l o y).map (Value.int .i64)) from own_below (by repeat (first | exact O_g.out | (with_reducible refine World.ownsRow.alloc ?_ _) | (with_reducible refine World.ownsRow.drew ?_) | (with_reducible refine own_drewN ?_ _))) hb (Nat.le_refl _))
  have Hb3 := hide hb
  clear hb
  have LU_W := hide (fun k h => (⟨(own_lt_old ho k h).1, by have := (own_lt_old ho k h).2; (first | omega | (simp at this; omega))⟩ : k < w3.heap.size ∧ w2.heap.size ≤ k))
  have O_W := hide (show World.ownsRow w3 w.heap.size 3 1 (.slice A_W n_W c_W) n_W ((cOrders f h l o y).map (Value.int .i64)) from own_base ho (by first | omega | (simp; omega)))
  clear ho
  go_wp2_with fail
  refine (equalInts_same A_g A_W n_g c_g n_W c_W (cOrders f h l o y) _ (by omega) (by repeat (first | exact Rd.of_own O_g.out | (with_reducible refine RdI.al ?_ _) | (with_reducible refine RdI.dr ?_) | (with_reducible refine RdI.drN ?_ _) | (with_reducible refine Rd.alloc ?_ _) | (with_reducible refine Rd.drew ?_) | (with_reducible refine Rd.drewN ?_ _))) (by repeat (first | exact Rd.of_own O_W.out | (with_reducible refine RdI.al ?_ _) | (with_reducible refine RdI.dr ?_) | (with_reducible refine RdI.drN ?_ _) | (with_reducible refine Rd.alloc ?_ _) | (with_reducible refine Rd.drew ?_) | (with_reducible refine Rd.drewN ?_ _)))).mono ?_
  rintro e wq1 ⟨rfl, q1, rfl⟩
  cases hv : vC f h l o
  all_goals
    have Hv := hide hv
    clear hv
  · go_wp2_with fail
    refine (ValidCar_ib f h l o false _ Hv.out).mono ?_
    rintro e w4 ⟨rfl, hb⟩
    have hz4 := hb.size
    try simp at hz4
    obtain ⟨_, _, _, _, _, _, _, _⟩ := sz (show w1.heap.size < w4.heap.size from by omega)
    have hx : Blk _ (w1.heap.size) 25 #[.int .i64 f, .int .i64 h, .int .i64 l, .bool o] := Blk.below (by repeat (first | (with_reducible assumption) | (with_reducible exact Blk.new _ _ _) | ((with_reducible refine Blk.new_at ?_); (first | (simp; done) | (simp; omega))) | (with_reducible refine Blk.drew ?_) | (with_reducible refine Blk.drewN ?_ _) | (with_reducible refine Blk.alloc ?_ _) | ((with_reducible refine Blk.far ?_ ?_ _); rotate_left; (focus (first | (simp; done) | (simp; omega) | omega))))) hb (by (focus (first | (simp; done) | (simp; omega) | omega)))
    obtain ⟨_, _, _, _, _, _, _, _⟩ := blk4 hx
    replace O_g := hide (show World.ownsRow w4 w.heap.size 3 1 (.slice A_g n_g c_g) n_g ((cOrders f h l o y).map (Value.int .i64)) from own_below (by repeat (first | exact O_g.out | (with_reducible refine World.ownsRow.alloc ?_ _) | (with_reducible refine World.ownsRow.drew ?_) | (with_reducible refine own_drewN ?_ _))) hb (Nat.le_refl _))
    replace O_W := hide (show World.ownsRow w4 w.heap.size 3 1 (.slice A_W n_W c_W) n_W ((cOrders f h l o y).map (Value.int .i64)) from own_below (by repeat (first | exact O_W.out | (with_reducible refine World.ownsRow.alloc ?_ _) | (with_reducible refine World.ownsRow.drew ?_) | (with_reducible refine own_drewN ?_ _))) hb (Nat.le_refl _))
    have Hb4 := hide hb
    clear hb
    go_wp2_with fail
    refine (OrdersTo_s f h l o y _).mono ?_
    rintro e w5 ⟨A_V, n_V, c_V, rfl, ho, hb⟩
    have hz5 := hb.size
    try simp at hz5
    obtain ⟨_, _, _, _, _, _, _, _⟩ := sz (show w1.heap.size < w5.heap.size from by omega)
    have hx : Blk _ (w1.heap.size) 25 #[.int .i64 f, .int .i64 h, .int .i64 l, .bool o] := Blk.below (by repeat (first | (with_reducible assumption) | (with_reducible exact Blk.new _ _ _) | ((with_reducible refine Blk.new_at ?_); (first | (simp; done) | (simp; omega))) | (with_reducible refine Blk.drew ?_) | (with_reducible refine Blk.drewN ?_ _) | (with_reducible refine Blk.alloc ?_ _) | ((with_reducible refine Blk.far ?_ ?_ _); rotate_left; (focus (first | (simp; done) | (simp; omega) | omega))))) hb (by (focus (first | (simp; done) | (simp; omega) | omega)))
    obtain ⟨_, _, _, _, _, _, _, _⟩ := blk4 hx
    replace O_g := hide (show World.ownsRow w5 w.heap.size 3 1 (.slice A_g n_g c_g) n_g ((cOrders f h l o y).map (Value.int .i64)) from own_below (by repeat (first | exact O_g.out | (with_reducible refine World.ownsRow.alloc ?_ _) | (with_reducible refine World.ownsRow.drew ?_) | (with_reducible refine own_drewN ?_ _))) hb (Nat.le_refl _))
    replace O_W := hide (show World.ownsRow w5 w.heap.size 3 1 (.slice A_W n_W c_W) n_W ((cOrders f h l o y).map (Value.int .i64)) from own_below (by repeat (first | exact O_W.out | (with_reducible refine World.ownsRow.alloc ?_ _) | (with_reducible refine World.ownsRow.drew ?_) | (with_reducible refine own_drewN ?_ _))) hb (Nat.le_refl _))
    have Hb5 := hide hb
    clear hb
    have LU_V := hide (fun k h => (⟨(own_lt_old ho k h).1, by have := (own_lt_old ho k h).2; (first | omega | (simp at this; omega))⟩ : k < w5.heap.size ∧ w4.heap.size ≤ k))
    have O_V := hide (show World.ownsRow w5 w.heap.size 3 1 (.slice A_V n_V c_V) n_V ((cOrders f h l o y).map (Value.int .i64)) from own_base ho (by first | omega | (simp; omega)))
    clear ho
    go_wp2_with fail
    refine (equalInts_same A_g A_V n_g c_g n_V c_V (cOrders f h l o y) _ (by omega) (by repeat (first | exact Rd.of_own O_g.out | (with_reducible refine RdI.al ?_ _) | (with_reducible refine RdI.dr ?_) | (with_reducible refine RdI.drN ?_ _) | (with_reducible refine Rd.alloc ?_ _) | (with_reducible refine Rd.drew ?_) | (with_reducible refine Rd.drewN ?_ _))) (by repeat (first | exact Rd.of_own O_V.out | (with_reducible refine RdI.al ?_ _) | (with_reducible refine RdI.dr ?_) | (with_reducible refine RdI.drN ?_ _) | (with_reducible refine Rd.alloc ?_ _) | (with_reducible refine Rd.drew ?_) | (with_reducible refine Rd.drewN ?_ _)))).mono ?_
    rintro e wq2 ⟨rfl, q2, rfl⟩
    go_wp2_with fail
    go_ret
    exact ⟨rfl, (by repeat (first | (with_reducible exact Below.refl _ _) | (with_reducible refine Below.drew ?_) | (with_reducible refine below_drewN ?_ _) | ((with_reducible refine Below.alloc ?_ ?_ _); rotate_left; (focus (first | (simp; done) | (simp; omega) | omega))) | ((with_reducible refine Below.setCell ?_ ?_ _); rotate_left; (focus (first | (simp; done) | (simp; omega) | omega))) | ((with_reducible refine Below.trans ?_ (Below.mono Hb.out ?_)); rotate_left; (focus (first | (simp; done) | (simp; omega) | omega))) | ((with_reducible refine Below.trans ?_ (Below.mono Hb16.out ?_)); rotate_left; (focus (first | (simp; done) | (simp; omega) | omega))) | ((with_reducible refine Below.trans ?_ (Below.mono Hb15.out ?_)); rotate_left; (focus (first | (simp; done) | (simp; omega) | omega))) | ((with_reducible refine Below.trans ?_ (Below.mono Hb14.out ?_)); rotate_left; (focus (first | (simp; done) | (simp; omega) | omega))) | ((with_reducible refine Below.trans ?_ (Below.mono Hb13.out ?_)); rotate_left; (focus (first | (simp; done) | (simp; omega) | omega))) | ((with_reducible refine Below.trans ?_ (Below.mono Hb12.out ?_)); rotate_left; (focus (first | (simp; done) | (simp; omega) | omega))) | ((with_reducible refine Below.trans ?_ (Below.mono Hb11.out ?_)); rotate_left; (focus (first | (simp; done) | (simp; omega) | omega))) | ((with_reducible refine Below.trans ?_ (Below.mono Hb10.out ?_)); rotate_left; (focus (first | (simp; done) | (simp; omega) | omega))) | ((with_reducible refine Below.trans ?_ (Below.mono Hb9.out ?_)); rotate_left; (focus (first | (simp; done) | (simp; omega) | omega))) | ((with_reducible refine Below.trans ?_ (Below.mono Hb8.out ?_)); rotate_left; (focus (first | (simp; done) | (simp; omega) | omega))) | ((with_reducible refine Below.trans ?_ (Below.mono Hb7.out ?_)); rotate_left; (focus (first | (simp; done) | (simp; omega) | omega))) | ((with_reducible refine Below.trans ?_ (Below.mono Hb6.out ?_)); rotate_left; (focus (first | (simp; done) | (simp; omega) | omega))) | ((with_reducible refine Below.trans ?_ (Below.mono Hb5.out ?_)); rotate_left; (focus (first | (simp; done) | (simp; omega) | omega))) | ((with_reducible refine Below.trans ?_ (Below.mono Hb4.out ?_)); rotate_left; (focus (first | (simp; done) | (simp; omega) | omega))) | ((with_reducible refine Below.trans ?_ (Below.mono Hb3.out ?_)); rotate_left; (focus (first | (simp; done) | (simp; omega) | omega))) | ((with_reducible refine Below.trans ?_ (Below.mono Hb2.out ?_)); rotate_left; (focus (first | (simp; done) | (simp; omega) | omega))) | ((with_reducible refine Below.trans ?_ (Below.mono Hb1.out ?_)); rotate_left; (focus (first | (simp; done) | (simp; omega) | omega))) | ((with_reducible refine Below.trans ?_ (below_of_only Hg16.out ?_ ?_)); rotate_left; (focus (first | (simp; done) | (simp; omega) | omega)); (intro k hk; cases hk; omega)) | ((with_reducible refine Below.trans ?_ (below_of_only Hg15.out ?_ ?_)); rotate_left; (focus (first | (simp; done) | (simp; omega) | omega)); (intro k hk; cases hk; omega)) | ((with_reducible refine Below.trans ?_ (below_of_only Hg14.out ?_ ?_)); rotate_left; (focus (first | (simp; done) | (simp; omega) | omega)); (intro k hk; cases hk; omega)) | ((with_reducible refine Below.trans ?_ (below_of_only Hg13.out ?_ ?_)); rotate_left; (focus (first | (simp; done) | (simp; omega) | omega)); (intro k hk; cases hk; omega)) | ((with_reducible refine Below.trans ?_ (below_of_only Hg12.out ?_ ?_)); rotate_left; (focus (first | (simp; done) | (simp; omega) | omega)); (intro k hk; cases hk; omega)) | ((with_reducible refine Below.trans ?_ (below_of_only Hg11.out ?_ ?_)); rotate_left; (focus (first | (simp; done) | (simp; omega) | omega)); (intro k hk; cases hk; omega)) | ((with_reducible refine Below.trans ?_ (below_of_only Hg10.out ?_ ?_)); rotate_left; (focus (first | (simp; done) | (simp; omega) | omega)); (intro k hk; cases hk; omega)) | ((with_reducible refine Below.trans ?_ (below_of_only Hg9.out ?_ ?_)); rotate_left; (focus (first | (simp; done) | (simp; omega) | omega)); (intro k hk; cases hk; omega)) | ((with_reducible refine Below.trans ?_ (below_of_only Hg8.out ?_ ?_)); rotate_left; (focus (first | (simp; done) | (simp; omega) | omega)); (intro k hk; cases hk; omega)) | ((with_reducible refine Below.trans ?_ (below_of_only Hg7.out ?_ ?_)); rotate_left; (focus (first | (simp; done) | (simp; omega) | omega)); (intro k hk; cases hk; omega)) | ((with_reducible refine Below.trans ?_ (below_of_only Hg6.out ?_ ?_)); rotate_left; (focus (first | (simp; done) | (simp; omega) | omega)); (intro k hk; cases hk; omega)) | ((with_reducible refine Below.trans ?_ (below_of_only Hg5.out ?_ ?_)); rotate_left; (focus (first | (simp; done) | (simp; omega) | omega)); (intro k hk; cases hk; omega)) | ((with_reducible refine Below.trans ?_ (below_of_only Hg4.out ?_ ?_)); rotate_left; (focus (first | (simp; done) | (simp; omega) | omega)); (intro k hk; cases hk; omega)) | ((with_reducible refine Below.trans ?_ (below_of_only Hg3.out ?_ ?_)); rotate_left; (focus (first | (simp; done) | (simp; omega) | omega)); (intro k hk; cases hk; omega)) | ((with_reducible refine Below.trans ?_ (below_of_only Hg2.out ?_ ?_)); rotate_left; (focus (first | (simp; done) | (simp; omega) | omega)); (intro k hk; cases hk; omega)) | ((with_reducible refine Below.trans ?_ (below_of_only Hg1.out ?_ ?_)); rotate_left; (focus (first | (simp; done) | (simp; omega) | omega)); (intro k hk; cases hk; omega))))⟩
  go_wp2_with fail
  refine (ValidCar_ib f h l o true _ Hv.out).mono ?_
  rintro e w4 ⟨rfl, hb⟩
  have hz4 := hb.size
  try simp at hz4
  obtain ⟨_, _, _, _, _, _, _, _⟩ := sz (show w1.heap.size < w4.heap.size from by omega)
  have hx : Blk _ (w1.heap.size) 25 #[.int .i64 f, .int .i64 h, .int .i64 l, .bool o] := Blk.below (by repeat (first | (with_reducible assumption) | (with_reducible exact Blk.new _ _ _) | ((with_reducible refine Blk.new_at ?_); (first | (simp; done) | (simp; omega))) | (with_reducible refine Blk.drew ?_) | (with_reducible refine Blk.drewN ?_ _) | (with_reducible refine Blk.alloc ?_ _) | ((with_reducible refine Blk.far ?_ ?_ _); rotate_left; (focus (first | (simp; done) | (simp; omega) | omega))))) hb (by (focus (first | (simp; done) | (simp; omega) | omega)))
  obtain ⟨_, _, _, _, _, _, _, _⟩ := blk4 hx
  replace O_g := hide (show World.ownsRow w4 w.heap.size 3 1 (.slice A_g n_g c_g) n_g ((cOrders f h l o y).map (Value.int .i64)) from own_below (by repeat (first | exact O_g.out | (with_reducible refine World.ownsRow.alloc ?_ _) | (with_reducible refine World.ownsRow.drew ?_) | (with_reducible refine own_drewN ?_ _))) hb (Nat.le_refl _))
  replace O_W := hide (show World.ownsRow w4 w.heap.size 3 1 (.slice A_W n_W c_W) n_W ((cOrders f h l o y).map (Value.int .i64)) from own_below (by repeat (first | exact O_W.out | (with_reducible refine World.ownsRow.alloc ?_ _) | (with_reducible refine World.ownsRow.drew ?_) | (with_reducible refine own_drewN ?_ _))) hb (Nat.le_refl _))
  have Hb4 := hide hb
  clear hb
  by_cases h5 : l = 5
  · subst h5
    skip
    go_wp2_with fail
    refine (OrdersTo_s f h 5 o y _).mono ?_
    rintro e w5 ⟨A_V, n_V, c_V, rfl, ho, hb⟩
    have hz5 := hb.size
    try simp at hz5
    obtain ⟨_, _, _, _, _, _, _, _⟩ := sz (show w1.heap.size < w5.heap.size from by omega)
    have hx : Blk _ (w1.heap.size) 25 #[.int .i64 f, .int .i64 h, .int .i64 5, .bool o] := Blk.below (by repeat (first | (with_reducible assumption) | (with_reducible exact Blk.new _ _ _) | ((with_reducible refine Blk.new_at ?_); (first | (simp; done) | (simp; omega))) | (with_reducible refine Blk.drew ?_) | (with_reducible refine Blk.drewN ?_ _) | (with_reducible refine Blk.alloc ?_ _) | ((with_reducible refine Blk.far ?_ ?_ _); rotate_left; (focus (first | (simp; done) | (simp; omega) | omega))))) hb (by (focus (first | (simp; done) | (simp; omega) | omega)))
    obtain ⟨_, _, _, _, _, _, _, _⟩ := blk4 hx
    replace O_g := hide (show World.ownsRow w5 w.heap.size 3 1 (.slice A_g n_g c_g) n_g ((cOrders f h 5 o y).map (Value.int .i64)) from own_below (by repeat (first | exact O_g.out | (with_reducible refine World.ownsRow.alloc ?_ _) | (with_reducible refine World.ownsRow.drew ?_) | (with_reducible refine own_drewN ?_ _))) hb (Nat.le_refl _))
    replace O_W := hide (show World.ownsRow w5 w.heap.size 3 1 (.slice A_W n_W c_W) n_W ((cOrders f h 5 o y).map (Value.int .i64)) from own_below (by repeat (first | exact O_W.out | (with_reducible refine World.ownsRow.alloc ?_ _) | (with_reducible refine World.ownsRow.drew ?_) | (with_reducible refine own_drewN ?_ _))) hb (Nat.le_refl _))
    have Hb5 := hide hb
    clear hb
    have LU_V := hide (fun k h => (⟨(own_lt_old ho k h).1, by have := (own_lt_old ho k h).2; (first | omega | (simp at this; omega))⟩ : k < w5.heap.size ∧ w4.heap.size ≤ k))
    have O_V := hide (show World.ownsRow w5 w.heap.size 3 1 (.slice A_V n_V c_V) n_V ((cOrders f h 5 o y).map (Value.int .i64)) from own_base ho (by first | omega | (simp; omega)))
    clear ho
    go_wp2_with fail
    refine (equalInts_same A_g A_V n_g c_g n_V c_V (cOrders f h 5 o y) _ (by omega) (by repeat (first | exact Rd.of_own O_g.out | (with_reducible refine RdI.al ?_ _) | (with_reducible refine RdI.dr ?_) | (with_reducible refine RdI.drN ?_ _) | (with_reducible refine Rd.alloc ?_ _) | (with_reducible refine Rd.drew ?_) | (with_reducible refine Rd.drewN ?_ _))) (by repeat (first | exact Rd.of_own O_V.out | (with_reducible refine RdI.al ?_ _) | (with_reducible refine RdI.dr ?_) | (with_reducible refine RdI.drN ?_ _) | (with_reducible refine Rd.alloc ?_ _) | (with_reducible refine Rd.drew ?_) | (with_reducible refine Rd.drewN ?_ _)))).mono ?_
    rintro e wq3 ⟨rfl, q3, rfl⟩
    go_wp2_with fail
    go_ret
    exact ⟨rfl, (by repeat (first | (with_reducible exact Below.refl _ _) | (with_reducible refine Below.drew ?_) | (with_reducible refine below_drewN ?_ _) | ((with_reducible refine Below.alloc ?_ ?_ _); rotate_left; (focus (first | (simp; done) | (simp; omega) | omega))) | ((with_reducible refine Below.setCell ?_ ?_ _); rotate_left; (focus (first | (simp; done) | (simp; omega) | omega))) | ((with_reducible refine Below.trans ?_ (Below.mono Hb.out ?_)); rotate_left; (focus (first | (simp; done) | (simp; omega) | omega))) | ((with_reducible refine Below.trans ?_ (Below.mono Hb16.out ?_)); rotate_left; (focus (first | (simp; done) | (simp; omega) | omega))) | ((with_reducible refine Below.trans ?_ (Below.mono Hb15.out ?_)); rotate_left; (focus (first | (simp; done) | (simp; omega) | omega))) | ((with_reducible refine Below.trans ?_ (Below.mono Hb14.out ?_)); rotate_left; (focus (first | (simp; done) | (simp; omega) | omega))) | ((with_reducible refine Below.trans ?_ (Below.mono Hb13.out ?_)); rotate_left; (focus (first | (simp; done) | (simp; omega) | omega))) | ((with_reducible refine Below.trans ?_ (Below.mono Hb12.out ?_)); rotate_left; (focus (first | (simp; done) | (simp; omega) | omega))) | ((with_reducible refine Below.trans ?_ (Below.mono Hb11.out ?_)); rotate_left; (focus (first | (simp; done) | (simp; omega) | omega))) | ((with_reducible refine Below.trans ?_ (Below.mono Hb10.out ?_)); rotate_left; (focus (first | (simp; done) | (simp; omega) | omega))) | ((with_reducible refine Below.trans ?_ (Below.mono Hb9.out ?_)); rotate_left; (focus (first | (simp; done) | (simp; omega) | omega))) | ((with_reducible refine Below.trans ?_ (Below.mono Hb8.out ?_)); rotate_left; (focus (first | (simp; done) | (simp; omega) | omega))) | ((with_reducible refine Below.trans ?_ (Below.mono Hb7.out ?_)); rotate_left; (focus (first | (simp; done) | (simp; omega) | omega))) | ((with_reducible refine Below.trans ?_ (Below.mono Hb6.out ?_)); rotate_left; (focus (first | (simp; done) | (simp; omega) | omega))) | ((with_reducible refine Below.trans ?_ (Below.mono Hb5.out ?_)); rotate_left; (focus (first | (simp; done) | (simp; omega) | omega))) | ((with_reducible refine Below.trans ?_ (Below.mono Hb4.out ?_)); rotate_left; (focus (first | (simp; done) | (simp; omega) | omega))) | ((with_reducible refine Below.trans ?_ (Below.mono Hb3.out ?_)); rotate_left; (focus (first | (simp; done) | (simp; omega) | omega))) | ((with_reducible refine Below.trans ?_ (Below.mono Hb2.out ?_)); rotate_left; (focus (first | (simp; done) | (simp; omega) | omega))) | ((with_reducible refine Below.trans ?_ (Below.mono Hb1.out ?_)); rotate_left; (focus (first | (simp; done) | (simp; omega) | omega))) | ((with_reducible refine Below.trans ?_ (below_of_only Hg16.out ?_ ?_)); rotate_left; (focus (first | (simp; done) | (simp; omega) | omega)); (intro k hk; cases hk; omega)) | ((with_reducible refine Below.trans ?_ (below_of_only Hg15.out ?_ ?_)); rotate_left; (focus (first | (simp; done) | (simp; omega) | omega)); (intro k hk; cases hk; omega)) | ((with_reducible refine Below.trans ?_ (below_of_only Hg14.out ?_ ?_)); rotate_left; (focus (first | (simp; done) | (simp; omega) | omega)); (intro k hk; cases hk; omega)) | ((with_reducible refine Below.trans ?_ (below_of_only Hg13.out ?_ ?_)); rotate_left; (focus (first | (simp; done) | (simp; omega) | omega)); (intro k hk; cases hk; omega)) | ((with_reducible refine Below.trans ?_ (below_of_only Hg12.out ?_ ?_)); rotate_left; (focus (first | (simp; done) | (simp; omega) | omega)); (intro k hk; cases hk; omega)) | ((with_reducible refine Below.trans ?_ (below_of_only Hg11.out ?_ ?_)); rotate_left; (focus (first | (simp; done) | (simp; omega) | omega)); (intro k hk; cases hk; omega)) | ((with_reducible refine Below.trans ?_ (below_of_only Hg10.out ?_ ?_)); rotate_left; (focus (first | (simp; done) | (simp; omega) | omega)); (intro k hk; cases hk; omega)) | ((with_reducible refine Below.trans ?_ (below_of_only Hg9.out ?_ ?_)); rotate_left; (focus (first | (simp; done) | (simp; omega) | omega)); (intro k hk; cases hk; omega)) | ((with_reducible refine Below.trans ?_ (below_of_only Hg8.out ?_ ?_)); rotate_left; (focus (first | (simp; done) | (simp; omega) | omega)); (intro k hk; cases hk; omega)) | ((with_reducible refine Below.trans ?_ (below_of_only Hg7.out ?_ ?_)); rotate_left; (focus (first | (simp; done) | (simp; omega) | omega)); (intro k hk; cases hk; omega)) | ((with_reducible refine Below.trans ?_ (below_of_only Hg6.out ?_ ?_)); rotate_left; (focus (first | (simp; done) | (simp; omega) | omega)); (intro k hk; cases hk; omega)) | ((with_reducible refine Below.trans ?_ (below_of_only Hg5.out ?_ ?_)); rotate_left; (focus (first | (simp; done) | (simp; omega) | omega)); (intro k hk; cases hk; omega)) | ((with_reducible refine Below.trans ?_ (below_of_only Hg4.out ?_ ?_)); rotate_left; (focus (first | (simp; done) | (simp; omega) | omega)); (intro k hk; cases hk; omega)) | ((with_reducible refine Below.trans ?_ (below_of_only Hg3.out ?_ ?_)); rotate_left; (focus (first | (simp; done) | (simp; omega) | omega)); (intro k hk; cases hk; omega)) | ((with_reducible refine Below.trans ?_ (below_of_only Hg2.out ?_ ?_)); rotate_left; (focus (first | (simp; done) | (simp; omega) | omega)); (intro k hk; cases hk; omega)) | ((with_reducible refine Below.trans ?_ (below_of_only Hg1.out ?_ ?_)); rotate_left; (focus (first | (simp; done) | (simp; omega) | omega)); (intro k hk; cases hk; omega))))⟩
  have h5e : (l == 5) = false := by simpa using h5
  by_cases hy0 : y < 0
  · have Hh5 := hide h5
    clear h5
    go_wp2_with fail
    refine (OrdersTo_s f h l o y _).mono ?_
    rintro e w5 ⟨A_V, n_V, c_V, rfl, ho, hb⟩
    have hz5 := hb.size
    try simp at hz5
    obtain ⟨_, _, _, _, _, _, _, _⟩ := sz (show w1.heap.size < w5.heap.size from by omega)
    have hx : Blk _ (w1.heap.size) 25 #[.int .i64 f, .int .i64 h, .int .i64 l, .bool o] := Blk.below (by repeat (first | (with_reducible assumption) | (with_reducible exact Blk.new _ _ _) | ((with_reducible refine Blk.new_at ?_); (first | (simp; done) | (simp; omega))) | (with_reducible refine Blk.drew ?_) | (with_reducible refine Blk.drewN ?_ _) | (with_reducible refine Blk.alloc ?_ _) | ((with_reducible refine Blk.far ?_ ?_ _); rotate_left; (focus (first | (simp; done) | (simp; omega) | omega))))) hb (by (focus (first | (simp; done) | (simp; omega) | omega)))
    obtain ⟨_, _, _, _, _, _, _, _⟩ := blk4 hx
    replace O_g := hide (show World.ownsRow w5 w.heap.size 3 1 (.slice A_g n_g c_g) n_g ((cOrders f h l o y).map (Value.int .i64)) from own_below (by repeat (first | exact O_g.out | (with_reducible refine World.ownsRow.alloc ?_ _) | (with_reducible refine World.ownsRow.drew ?_) | (with_reducible refine own_drewN ?_ _))) hb (Nat.le_refl _))
    replace O_W := hide (show World.ownsRow w5 w.heap.size 3 1 (.slice A_W n_W c_W) n_W ((cOrders f h l o y).map (Value.int .i64)) from own_below (by repeat (first | exact O_W.out | (with_reducible refine World.ownsRow.alloc ?_ _) | (with_reducible refine World.ownsRow.drew ?_) | (with_reducible refine own_drewN ?_ _))) hb (Nat.le_refl _))
    have Hb5 := hide hb
    clear hb
    have LU_V := hide (fun k h => (⟨(own_lt_old ho k h).1, by have := (own_lt_old ho k h).2; (first | omega | (simp at this; omega))⟩ : k < w5.heap.size ∧ w4.heap.size ≤ k))
    have O_V := hide (show World.ownsRow w5 w.heap.size 3 1 (.slice A_V n_V c_V) n_V ((cOrders f h l o y).map (Value.int .i64)) from own_base ho (by first | omega | (simp; omega)))
    clear ho
    go_wp2_with fail
    refine (equalInts_same A_g A_V n_g c_g n_V c_V (cOrders f h l o y) _ (by omega) (by repeat (first | exact Rd.of_own O_g.out | (with_reducible refine RdI.al ?_ _) | (with_reducible refine RdI.dr ?_) | (with_reducible refine RdI.drN ?_ _) | (with_reducible refine Rd.alloc ?_ _) | (with_reducible refine Rd.drew ?_) | (with_reducible refine Rd.drewN ?_ _))) (by repeat (first | exact Rd.of_own O_V.out | (with_reducible refine RdI.al ?_ _) | (with_reducible refine RdI.dr ?_) | (with_reducible refine RdI.drN ?_ _) | (with_reducible refine Rd.alloc ?_ _) | (with_reducible refine Rd.drew ?_) | (with_reducible refine Rd.drewN ?_ _)))).mono ?_
    rintro e wq4 ⟨rfl, q4, rfl⟩
    go_wp2_with fail
    go_ret
    exact ⟨rfl, (by repeat (first | (with_reducible exact Below.refl _ _) | (with_reducible refine Below.drew ?_) | (with_reducible refine below_drewN ?_ _) | ((with_reducible refine Below.alloc ?_ ?_ _); rotate_left; (focus (first | (simp; done) | (simp; omega) | omega))) | ((with_reducible refine Below.setCell ?_ ?_ _); rotate_left; (focus (first | (simp; done) | (simp; omega) | omega))) | ((with_reducible refine Below.trans ?_ (Below.mono Hb.out ?_)); rotate_left; (focus (first | (simp; done) | (simp; omega) | omega))) | ((with_reducible refine Below.trans ?_ (Below.mono Hb16.out ?_)); rotate_left; (focus (first | (simp; done) | (simp; omega) | omega))) | ((with_reducible refine Below.trans ?_ (Below.mono Hb15.out ?_)); rotate_left; (focus (first | (simp; done) | (simp; omega) | omega))) | ((with_reducible refine Below.trans ?_ (Below.mono Hb14.out ?_)); rotate_left; (focus (first | (simp; done) | (simp; omega) | omega))) | ((with_reducible refine Below.trans ?_ (Below.mono Hb13.out ?_)); rotate_left; (focus (first | (simp; done) | (simp; omega) | omega))) | ((with_reducible refine Below.trans ?_ (Below.mono Hb12.out ?_)); rotate_left; (focus (first | (simp; done) | (simp; omega) | omega))) | ((with_reducible refine Below.trans ?_ (Below.mono Hb11.out ?_)); rotate_left; (focus (first | (simp; done) | (simp; omega) | omega))) | ((with_reducible refine Below.trans ?_ (Below.mono Hb10.out ?_)); rotate_left; (focus (first | (simp; done) | (simp; omega) | omega))) | ((with_reducible refine Below.trans ?_ (Below.mono Hb9.out ?_)); rotate_left; (focus (first | (simp; done) | (simp; omega) | omega))) | ((with_reducible refine Below.trans ?_ (Below.mono Hb8.out ?_)); rotate_left; (focus (first | (simp; done) | (simp; omega) | omega))) | ((with_reducible refine Below.trans ?_ (Below.mono Hb7.out ?_)); rotate_left; (focus (first | (simp; done) | (simp; omega) | omega))) | ((with_reducible refine Below.trans ?_ (Below.mono Hb6.out ?_)); rotate_left; (focus (first | (simp; done) | (simp; omega) | omega))) | ((with_reducible refine Below.trans ?_ (Below.mono Hb5.out ?_)); rotate_left; (focus (first | (simp; done) | (simp; omega) | omega))) | ((with_reducible refine Below.trans ?_ (Below.mono Hb4.out ?_)); rotate_left; (focus (first | (simp; done) | (simp; omega) | omega))) | ((with_reducible refine Below.trans ?_ (Below.mono Hb3.out ?_)); rotate_left; (focus (first | (simp; done) | (simp; omega) | omega))) | ((with_reducible refine Below.trans ?_ (Below.mono Hb2.out ?_)); rotate_left; (focus (first | (simp; done) | (simp; omega) | omega))) | ((with_reducible refine Below.trans ?_ (Below.mono Hb1.out ?_)); rotate_left; (focus (first | (simp; done) | (simp; omega) | omega))) | ((with_reducible refine Below.trans ?_ (below_of_only Hg16.out ?_ ?_)); rotate_left; (focus (first | (simp; done) | (simp; omega) | omega)); (intro k hk; cases hk; omega)) | ((with_reducible refine Below.trans ?_ (below_of_only Hg15.out ?_ ?_)); rotate_left; (focus (first | (simp; done) | (simp; omega) | omega)); (intro k hk; cases hk; omega)) | ((with_reducible refine Below.trans ?_ (below_of_only Hg14.out ?_ ?_)); rotate_left; (focus (first | (simp; done) | (simp; omega) | omega)); (intro k hk; cases hk; omega)) | ((with_reducible refine Below.trans ?_ (below_of_only Hg13.out ?_ ?_)); rotate_left; (focus (first | (simp; done) | (simp; omega) | omega)); (intro k hk; cases hk; omega)) | ((with_reducible refine Below.trans ?_ (below_of_only Hg12.out ?_ ?_)); rotate_left; (focus (first | (simp; done) | (simp; omega) | omega)); (intro k hk; cases hk; omega)) | ((with_reducible refine Below.trans ?_ (below_of_only Hg11.out ?_ ?_)); rotate_left; (focus (first | (simp; done) | (simp; omega) | omega)); (intro k hk; cases hk; omega)) | ((with_reducible refine Below.trans ?_ (below_of_only Hg10.out ?_ ?_)); rotate_left; (focus (first | (simp; done) | (simp; omega) | omega)); (intro k hk; cases hk; omega)) | ((with_reducible refine Below.trans ?_ (below_of_only Hg9.out ?_ ?_)); rotate_left; (focus (first | (simp; done) | (simp; omega) | omega)); (intro k hk; cases hk; omega)) | ((with_reducible refine Below.trans ?_ (below_of_only Hg8.out ?_ ?_)); rotate_left; (focus (first | (simp; done) | (simp; omega) | omega)); (intro k hk; cases hk; omega)) | ((with_reducible refine Below.trans ?_ (below_of_only Hg7.out ?_ ?_)); rotate_left; (focus (first | (simp; done) | (simp; omega) | omega)); (intro k hk; cases hk; omega)) | ((with_reducible refine Below.trans ?_ (below_of_only Hg6.out ?_ ?_)); rotate_left; (focus (first | (simp; done) | (simp; omega) | omega)); (intro k hk; cases hk; omega)) | ((with_reducible refine Below.trans ?_ (below_of_only Hg5.out ?_ ?_)); rotate_left; (focus (first | (simp; done) | (simp; omega) | omega)); (intro k hk; cases hk; omega)) | ((with_reducible refine Below.trans ?_ (below_of_only Hg4.out ?_ ?_)); rotate_left; (focus (first | (simp; done) | (simp; omega) | omega)); (intro k hk; cases hk; omega)) | ((with_reducible refine Below.trans ?_ (below_of_only Hg3.out ?_ ?_)); rotate_left; (focus (first | (simp; done) | (simp; omega) | omega)); (intro k hk; cases hk; omega)) | ((with_reducible refine Below.trans ?_ (below_of_only Hg2.out ?_ ?_)); rotate_left; (focus (first | (simp; done) | (simp; omega) | omega)); (intro k hk; cases hk; omega)) | ((with_reducible refine Below.trans ?_ (below_of_only Hg1.out ?_ ?_)); rotate_left; (focus (first | (simp; done) | (simp; omega) | omega)); (intro k hk; cases hk; omega))))⟩
  by_cases hy1 : 15 < y
  · have Hh5 := hide h5
    clear h5
    go_wp2_with fail
    refine (OrdersTo_s f h l o y _).mono ?_
    rintro e w5 ⟨A_V, n_V, c_V, rfl, ho, hb⟩
    have hz5 := hb.size
    try simp at hz5
    obtain ⟨_, _, _, _, _, _, _, _⟩ := sz (show w1.heap.size < w5.heap.size from by omega)
    have hx : Blk _ (w1.heap.size) 25 #[.int .i64 f, .int .i64 h, .int .i64 l, .bool o] := Blk.below (by repeat (first | (with_reducible assumption) | (with_reducible exact Blk.new _ _ _) | ((with_reducible refine Blk.new_at ?_); (first | (simp; done) | (simp; omega))) | (with_reducible refine Blk.drew ?_) | (with_reducible refine Blk.drewN ?_ _) | (with_reducible refine Blk.alloc ?_ _) | ((with_reducible refine Blk.far ?_ ?_ _); rotate_left; (focus (first | (simp; done) | (simp; omega) | omega))))) hb (by (focus (first | (simp; done) | (simp; omega) | omega)))
    obtain ⟨_, _, _, _, _, _, _, _⟩ := blk4 hx
    replace O_g := hide (show World.ownsRow w5 w.heap.size 3 1 (.slice A_g n_g c_g) n_g ((cOrders f h l o y).map (Value.int .i64)) from own_below (by repeat (first | exact O_g.out | (with_reducible refine World.ownsRow.alloc ?_ _) | (with_reducible refine World.ownsRow.drew ?_) | (with_reducible refine own_drewN ?_ _))) hb (Nat.le_refl _))
    replace O_W := hide (show World.ownsRow w5 w.heap.size 3 1 (.slice A_W n_W c_W) n_W ((cOrders f h l o y).map (Value.int .i64)) from own_below (by repeat (first | exact O_W.out | (with_reducible refine World.ownsRow.alloc ?_ _) | (with_reducible refine World.ownsRow.drew ?_) | (with_reducible refine own_drewN ?_ _))) hb (Nat.le_refl _))
    have Hb5 := hide hb
    clear hb
    have LU_V := hide (fun k h => (⟨(own_lt_old ho k h).1, by have := (own_lt_old ho k h).2; (first | omega | (simp at this; omega))⟩ : k < w5.heap.size ∧ w4.heap.size ≤ k))
    have O_V := hide (show World.ownsRow w5 w.heap.size 3 1 (.slice A_V n_V c_V) n_V ((cOrders f h l o y).map (Value.int .i64)) from own_base ho (by first | omega | (simp; omega)))
    clear ho
    go_wp2_with fail
    refine (equalInts_same A_g A_V n_g c_g n_V c_V (cOrders f h l o y) _ (by omega) (by repeat (first | exact Rd.of_own O_g.out | (with_reducible refine RdI.al ?_ _) | (with_reducible refine RdI.dr ?_) | (with_reducible refine RdI.drN ?_ _) | (with_reducible refine Rd.alloc ?_ _) | (with_reducible refine Rd.drew ?_) | (with_reducible refine Rd.drewN ?_ _))) (by repeat (first | exact Rd.of_own O_V.out | (with_reducible refine RdI.al ?_ _) | (with_reducible refine RdI.dr ?_) | (with_reducible refine RdI.drN ?_ _) | (with_reducible refine Rd.alloc ?_ _) | (with_reducible refine Rd.drew ?_) | (with_reducible refine Rd.drewN ?_ _)))).mono ?_
    rintro e wq5 ⟨rfl, q5, rfl⟩
    go_wp2_with fail
    go_ret
    exact ⟨rfl, (by repeat (first | (with_reducible exact Below.refl _ _) | (with_reducible refine Below.drew ?_) | (with_reducible refine below_drewN ?_ _) | ((with_reducible refine Below.alloc ?_ ?_ _); rotate_left; (focus (first | (simp; done) | (simp; omega) | omega))) | ((with_reducible refine Below.setCell ?_ ?_ _); rotate_left; (focus (first | (simp; done) | (simp; omega) | omega))) | ((with_reducible refine Below.trans ?_ (Below.mono Hb.out ?_)); rotate_left; (focus (first | (simp; done) | (simp; omega) | omega))) | ((with_reducible refine Below.trans ?_ (Below.mono Hb16.out ?_)); rotate_left; (focus (first | (simp; done) | (simp; omega) | omega))) | ((with_reducible refine Below.trans ?_ (Below.mono Hb15.out ?_)); rotate_left; (focus (first | (simp; done) | (simp; omega) | omega))) | ((with_reducible refine Below.trans ?_ (Below.mono Hb14.out ?_)); rotate_left; (focus (first | (simp; done) | (simp; omega) | omega))) | ((with_reducible refine Below.trans ?_ (Below.mono Hb13.out ?_)); rotate_left; (focus (first | (simp; done) | (simp; omega) | omega))) | ((with_reducible refine Below.trans ?_ (Below.mono Hb12.out ?_)); rotate_left; (focus (first | (simp; done) | (simp; omega) | omega))) | ((with_reducible refine Below.trans ?_ (Below.mono Hb11.out ?_)); rotate_left; (focus (first | (simp; done) | (simp; omega) | omega))) | ((with_reducible refine Below.trans ?_ (Below.mono Hb10.out ?_)); rotate_left; (focus (first | (simp; done) | (simp; omega) | omega))) | ((with_reducible refine Below.trans ?_ (Below.mono Hb9.out ?_)); rotate_left; (focus (first | (simp; done) | (simp; omega) | omega))) | ((with_reducible refine Below.trans ?_ (Below.mono Hb8.out ?_)); rotate_left; (focus (first | (simp; done) | (simp; omega) | omega))) | ((with_reducible refine Below.trans ?_ (Below.mono Hb7.out ?_)); rotate_left; (focus (first | (simp; done) | (simp; omega) | omega))) | ((with_reducible refine Below.trans ?_ (Below.mono Hb6.out ?_)); rotate_left; (focus (first | (simp; done) | (simp; omega) | omega))) | ((with_reducible refine Below.trans ?_ (Below.mono Hb5.out ?_)); rotate_left; (focus (first | (simp; done) | (simp; omega) | omega))) | ((with_reducible refine Below.trans ?_ (Below.mono Hb4.out ?_)); rotate_left; (focus (first | (simp; done) | (simp; omega) | omega))) | ((with_reducible refine Below.trans ?_ (Below.mono Hb3.out ?_)); rotate_left; (focus (first | (simp; done) | (simp; omega) | omega))) | ((with_reducible refine Below.trans ?_ (Below.mono Hb2.out ?_)); rotate_left; (focus (first | (simp; done) | (simp; omega) | omega))) | ((with_reducible refine Below.trans ?_ (Below.mono Hb1.out ?_)); rotate_left; (focus (first | (simp; done) | (simp; omega) | omega))) | ((with_reducible refine Below.trans ?_ (below_of_only Hg16.out ?_ ?_)); rotate_left; (focus (first | (simp; done) | (simp; omega) | omega)); (intro k hk; cases hk; omega)) | ((with_reducible refine Below.trans ?_ (below_of_only Hg15.out ?_ ?_)); rotate_left; (focus (first | (simp; done) | (simp; omega) | omega)); (intro k hk; cases hk; omega)) | ((with_reducible refine Below.trans ?_ (below_of_only Hg14.out ?_ ?_)); rotate_left; (focus (first | (simp; done) | (simp; omega) | omega)); (intro k hk; cases hk; omega)) | ((with_reducible refine Below.trans ?_ (below_of_only Hg13.out ?_ ?_)); rotate_left; (focus (first | (simp; done) | (simp; omega) | omega)); (intro k hk; cases hk; omega)) | ((with_reducible refine Below.trans ?_ (below_of_only Hg12.out ?_ ?_)); rotate_left; (focus (first | (simp; done) | (simp; omega) | omega)); (intro k hk; cases hk; omega)) | ((with_reducible refine Below.trans ?_ (below_of_only Hg11.out ?_ ?_)); rotate_left; (focus (first | (simp; done) | (simp; omega) | omega)); (intro k hk; cases hk; omega)) | ((with_reducible refine Below.trans ?_ (below_of_only Hg10.out ?_ ?_)); rotate_left; (focus (first | (simp; done) | (simp; omega) | omega)); (intro k hk; cases hk; omega)) | ((with_reducible refine Below.trans ?_ (below_of_only Hg9.out ?_ ?_)); rotate_left; (focus (first | (simp; done) | (simp; omega) | omega)); (intro k hk; cases hk; omega)) | ((with_reducible refine Below.trans ?_ (below_of_only Hg8.out ?_ ?_)); rotate_left; (focus (first | (simp; done) | (simp; omega) | omega)); (intro k hk; cases hk; omega)) | ((with_reducible refine Below.trans ?_ (below_of_only Hg7.out ?_ ?_)); rotate_left; (focus (first | (simp; done) | (simp; omega) | omega)); (intro k hk; cases hk; omega)) | ((with_reducible refine Below.trans ?_ (below_of_only Hg6.out ?_ ?_)); rotate_left; (focus (first | (simp; done) | (simp; omega) | omega)); (intro k hk; cases hk; omega)) | ((with_reducible refine Below.trans ?_ (below_of_only Hg5.out ?_ ?_)); rotate_left; (focus (first | (simp; done) | (simp; omega) | omega)); (intro k hk; cases hk; omega)) | ((with_reducible refine Below.trans ?_ (below_of_only Hg4.out ?_ ?_)); rotate_left; (focus (first | (simp; done) | (simp; omega) | omega)); (intro k hk; cases hk; omega)) | ((with_reducible refine Below.trans ?_ (below_of_only Hg3.out ?_ ?_)); rotate_left; (focus (first | (simp; done) | (simp; omega) | omega)); (intro k hk; cases hk; omega)) | ((with_reducible refine Below.trans ?_ (below_of_only Hg2.out ?_ ?_)); rotate_left; (focus (first | (simp; done) | (simp; omega) | omega)); (intro k hk; cases hk; omega)) | ((with_reducible refine Below.trans ?_ (below_of_only Hg1.out ?_ ?_)); rotate_left; (focus (first | (simp; done) | (simp; omega) | omega)); (intro k hk; cases hk; omega))))⟩
  have hcond : vC f h l o = true ∧ l < 5 ∧ 0 ≤ y ∧ y ≤ 15 := ⟨Hv.out, by have := (vC_iff.1 Hv.out).2.1; omega, by omega, by omega⟩
  have hrun : cRun f h l o (cOrders f h l o y) = ((y, 0, l, true), ((cOrders f h l o y).length : Int)) := cRun_of Hv.out (by omega) (by rw [cOrders_nil hcond]; exact orders_arrive hcond.1 hcond.2.1 hcond.2.2.1 hcond.2.2.2)
  have hl := RdLEN_int (Rd.of_own O_g.out)
  rw [hl] at hrun
  have Hrun := hide hrun
  clear hrun hcond hl h5
  go_wp2_with fail
  refine (RunCar_i5 f h l o A_g n_g c_g (cOrders f h l o y) y 0 l true (n_g : Int) _ (by omega) (by repeat (first | exact Rd.of_own O_g.out | (with_reducible refine RdI.al ?_ _) | (with_reducible refine RdI.dr ?_) | (with_reducible refine RdI.drN ?_ _) | (with_reducible refine Rd.alloc ?_ _) | (with_reducible refine Rd.drew ?_) | (with_reducible refine Rd.drewN ?_ _))) Hrun.out).mono ?_
  rintro e w5 ⟨rfl, hb⟩
  have hz5 := hb.size
  try simp at hz5
  obtain ⟨_, _, _, _, _, _, _, _⟩ := sz (show w1.heap.size < w5.heap.size from by omega)
  have hx : Blk _ (w1.heap.size) 25 #[.int .i64 f, .int .i64 h, .int .i64 l, .bool o] := Blk.below (by repeat (first | (with_reducible assumption) | (with_reducible exact Blk.new _ _ _) | ((with_reducible refine Blk.new_at ?_); (first | (simp; done) | (simp; omega))) | (with_reducible refine Blk.drew ?_) | (with_reducible refine Blk.drewN ?_ _) | (with_reducible refine Blk.alloc ?_ _) | ((with_reducible refine Blk.far ?_ ?_ _); rotate_left; (focus (first | (simp; done) | (simp; omega) | omega))))) hb (by (focus (first | (simp; done) | (simp; omega) | omega)))
  obtain ⟨_, _, _, _, _, _, _, _⟩ := blk4 hx
  replace O_g := hide (show World.ownsRow w5 w.heap.size 3 1 (.slice A_g n_g c_g) n_g ((cOrders f h l o y).map (Value.int .i64)) from own_below (by repeat (first | exact O_g.out | (with_reducible refine World.ownsRow.alloc ?_ _) | (with_reducible refine World.ownsRow.drew ?_) | (with_reducible refine own_drewN ?_ _))) hb (Nat.le_refl _))
  replace O_W := hide (show World.ownsRow w5 w.heap.size 3 1 (.slice A_W n_W c_W) n_W ((cOrders f h l o y).map (Value.int .i64)) from own_below (by repeat (first | exact O_W.out | (with_reducible refine World.ownsRow.alloc ?_ _) | (with_reducible refine World.ownsRow.drew ?_) | (with_reducible refine own_drewN ?_ _))) hb (Nat.le_refl _))
  have Hb5 := hide hb
  clear hb
  go_wp2_with fail
  go_ret
  exact ⟨rfl, (by repeat (first | (with_reducible exact Below.refl _ _) | (with_reducible refine Below.drew ?_) | (with_reducible refine below_drewN ?_ _) | ((with_reducible refine Below.alloc ?_ ?_ _); rotate_left; (focus (first | (simp; done) | (simp; omega) | omega))) | ((with_reducible refine Below.setCell ?_ ?_ _); rotate_left; (focus (first | (simp; done) | (simp; omega) | omega))) | ((with_reducible refine Below.trans ?_ (Below.mono Hb.out ?_)); rotate_left; (focus (first | (simp; done) | (simp; omega) | omega))) | ((with_reducible refine Below.trans ?_ (Below.mono Hb16.out ?_)); rotate_left; (focus (first | (simp; done) | (simp; omega) | omega))) | ((with_reducible refine Below.trans ?_ (Below.mono Hb15.out ?_)); rotate_left; (focus (first | (simp; done) | (simp; omega) | omega))) | ((with_reducible refine Below.trans ?_ (Below.mono Hb14.out ?_)); rotate_left; (focus (first | (simp; done) | (simp; omega) | omega))) | ((with_reducible refine Below.trans ?_ (Below.mono Hb13.out ?_)); rotate_left; (focus (first | (simp; done) | (simp; omega) | omega))) | ((with_reducible refine Below.trans ?_ (Below.mono Hb12.out ?_)); rotate_left; (focus (first | (simp; done) | (simp; omega) | omega))) | ((with_reducible refine Below.trans ?_ (Below.mono Hb11.out ?_)); rotate_left; (focus (first | (simp; done) | (simp; omega) | omega))) | ((with_reducible refine Below.trans ?_ (Below.mono Hb10.out ?_)); rotate_left; (focus (first | (simp; done) | (simp; omega) | omega))) | ((with_reducible refine Below.trans ?_ (Below.mono Hb9.out ?_)); rotate_left; (focus (first | (simp; done) | (simp; omega) | omega))) | ((with_reducible refine Below.trans ?_ (Below.mono Hb8.out ?_)); rotate_left; (focus (first | (simp; done) | (simp; omega) | omega))) | ((with_reducible refine Below.trans ?_ (Below.mono Hb7.out ?_)); rotate_left; (focus (first | (simp; done) | (simp; omega) | omega))) | ((with_reducible refine Below.trans ?_ (Below.mono Hb6.out ?_)); rotate_left; (focus (first | (simp; done) | (simp; omega) | omega))) | ((with_reducible refine Below.trans ?_ (Below.mono Hb5.out ?_)); rotate_left; (focus (first | (simp; done) | (simp; omega) | omega))) | ((with_reducible refine Below.trans ?_ (Below.mono Hb4.out ?_)); rotate_left; (focus (first | (simp; done) | (simp; omega) | omega))) | ((with_reducible refine Below.trans ?_ (Below.mono Hb3.out ?_)); rotate_left; (focus (first | (simp; done) | (simp; omega) | omega))) | ((with_reducible refine Below.trans ?_ (Below.mono Hb2.out ?_)); rotate_left; (focus (first | (simp; done) | (simp; omega) | omega))) | ((with_reducible refine Below.trans ?_ (Below.mono Hb1.out ?_)); rotate_left; (focus (first | (simp; done) | (simp; omega) | omega))) | ((with_reducible refine Below.trans ?_ (below_of_only Hg16.out ?_ ?_)); rotate_left; (focus (first | (simp; done) | (simp; omega) | omega)); (intro k hk; cases hk; omega)) | ((with_reducible refine Below.trans ?_ (below_of_only Hg15.out ?_ ?_)); rotate_left; (focus (first | (simp; done) | (simp; omega) | omega)); (intro k hk; cases hk; omega)) | ((with_reducible refine Below.trans ?_ (below_of_only Hg14.out ?_ ?_)); rotate_left; (focus (first | (simp; done) | (simp; omega) | omega)); (intro k hk; cases hk; omega)) | ((with_reducible refine Below.trans ?_ (below_of_only Hg13.out ?_ ?_)); rotate_left; (focus (first | (simp; done) | (simp; omega) | omega)); (intro k hk; cases hk; omega)) | ((with_reducible refine Below.trans ?_ (below_of_only Hg12.out ?_ ?_)); rotate_left; (focus (first | (simp; done) | (simp; omega) | omega)); (intro k hk; cases hk; omega)) | ((with_reducible refine Below.trans ?_ (below_of_only Hg11.out ?_ ?_)); rotate_left; (focus (first | (simp; done) | (simp; omega) | omega)); (intro k hk; cases hk; omega)) | ((with_reducible refine Below.trans ?_ (below_of_only Hg10.out ?_ ?_)); rotate_left; (focus (first | (simp; done) | (simp; omega) | omega)); (intro k hk; cases hk; omega)) | ((with_reducible refine Below.trans ?_ (below_of_only Hg9.out ?_ ?_)); rotate_left; (focus (first | (simp; done) | (simp; omega) | omega)); (intro k hk; cases hk; omega)) | ((with_reducible refine Below.trans ?_ (below_of_only Hg8.out ?_ ?_)); rotate_left; (focus (first | (simp; done) | (simp; omega) | omega)); (intro k hk; cases hk; omega)) | ((with_reducible refine Below.trans ?_ (below_of_only Hg7.out ?_ ?_)); rotate_left; (focus (first | (simp; done) | (simp; omega) | omega)); (intro k hk; cases hk; omega)) | ((with_reducible refine Below.trans ?_ (below_of_only Hg6.out ?_ ?_)); rotate_left; (focus (first | (simp; done) | (simp; omega) | omega)); (intro k hk; cases hk; omega)) | ((with_reducible refine Below.trans ?_ (below_of_only Hg5.out ?_ ?_)); rotate_left; (focus (first | (simp; done) | (simp; omega) | omega)); (intro k hk; cases hk; omega)) | ((with_reducible refine Below.trans ?_ (below_of_only Hg4.out ?_ ?_)); rotate_left; (focus (first | (simp; done) | (simp; omega) | omega)); (intro k hk; cases hk; omega)) | ((with_reducible refine Below.trans ?_ (below_of_only Hg3.out ?_ ?_)); rotate_left; (focus (first | (simp; done) | (simp; omega) | omega)); (intro k hk; cases hk; omega)) | ((with_reducible refine Below.trans ?_ (below_of_only Hg2.out ?_ ?_)); rotate_left; (focus (first | (simp; done) | (simp; omega) | omega)); (intro k hk; cases hk; omega)) | ((with_reducible refine Below.trans ?_ (below_of_only Hg1.out ?_ ?_)); rotate_left; (focus (first | (simp; done) | (simp; omega) | omega)); (intro k hk; cases hk; omega))))⟩

set_option maxHeartbeats 4000000 in
theorem fnOrdersToShort_walk (A : Option Addr) (n c : Nat) (zs : List Int) (w : World) (hl : n ≤ c) (hr : RdI w .u8 A n zs) (hz : ∀ z ∈ zs, (Lit.int .u8 z).wf = true) :
    Calls Try.prog 15 #[.slice A n c] w fun e w' => e = .returned (.bool true) ∧ Below w.heap.size w w' := by
  have Ha := hide (code8_of hl hr hz)
  clear hr hz
  by_cases hn : 1048576 < n
  · have hn' : (1048576 : Int) < (n : Int) := by omega
    go_enter Try.func15, Try.ntmps15
    go_wp2_with fail
    go_ret
    exact ⟨rfl, Below.refl _ _⟩
  have hn' : (n : Int) ≤ 1048576 := by omega
  go_enter Try.func15, Try.ntmps15
  go_wp2_with fail
  refine (DrawOrdersTo_any _ A n c _ (Nat.le_refl _) Ha.out).mono ?_
  rintro e w1 ⟨f, h, l, o, y, rfl, hb⟩
  have hz1 := hb.size
  try simp at hz1
  have Hb1 := hide hb
  clear hb
  have hle := cOrders_le f h l o y
  go_wp2_with fail
  refine (OrdersTo_i f h l o y _).mono ?_
  rintro e w2 ⟨A_g, n_g, c_g, rfl, ho, hb⟩
  have hz2 := hb.size
  try simp at hz2
  obtain ⟨_, _, _, _, _, _, _, _⟩ := sz (show w1.heap.size < w2.heap.size from by omega)
  have hx : Blk _ (w1.heap.size) 25 #[.int .i64 f, .int .i64 h, .int .i64 l, .bool o] := Blk.below (by repeat (first | (with_reducible assumption) | (with_reducible exact Blk.new _ _ _) | ((with_reducible refine Blk.new_at ?_); (first | (simp; done) | (simp; omega))) | (with_reducible refine Blk.drew ?_) | (with_reducible refine Blk.drewN ?_ _) | (with_reducible refine Blk.alloc ?_ _) | ((with_reducible refine Blk.far ?_ ?_ _); rotate_left; (focus (first | (simp; done) | (simp; omega) | omega))))) hb (by (focus (first | (simp; done) | (simp; omega) | omega)))
  obtain ⟨_, _, _, _, _, _, _, _⟩ := blk4 hx
  have Hb2 := hide hb
  clear hb
  have LU_g := hide (fun k h => (⟨(own_lt_old ho k h).1, by have := (own_lt_old ho k h).2; (first | omega | (simp at this; omega))⟩ : k < w2.heap.size ∧ w1.heap.size ≤ k))
  have O_g := hide (show World.ownsRow w2 w.heap.size 3 1 (.slice A_g n_g c_g) n_g ((cOrders f h l o y).map (Value.int .i64)) from own_base ho (by first | omega | (simp; omega)))
  clear ho
  have N_g : n_g ≤ 19 := by have h := RdLEN_int (Rd.of_own O_g.out); omega
  go_wp2_with fail
  refine (OrdersTo_s f h l o y _).mono ?_
  rintro e w3 ⟨A_W, n_W, c_W, rfl, ho, hb⟩
  have hz3 := hb.size
  try simp at hz3
  obtain ⟨_, _, _, _, _, _, _, _⟩ := sz (show w1.heap.size < w3.heap.size from by omega)
  have hx : Blk _ (w1.heap.size) 25 #[.int .i64 f, .int .i64 h, .int .i64 l, .bool o] := Blk.below (by repeat (first | (with_reducible assumption) | (with_reducible exact Blk.new _ _ _) | ((with_reducible refine Blk.new_at ?_); (first | (simp; done) | (simp; omega))) | (with_reducible refine Blk.drew ?_) | (with_reducible refine Blk.drewN ?_ _) | (with_reducible refine Blk.alloc ?_ _) | ((with_reducible refine Blk.far ?_ ?_ _); rotate_left; (focus (first | (simp; done) | (simp; omega) | omega))))) hb (by (focus (first | (simp; done) | (simp; omega) | omega)))
  obtain ⟨_, _, _, _, _, _, _, _⟩ := blk4 hx
  replace O_g := hide (show World.ownsRow w3 w.heap.size 3 1 (.slice A_g n_g c_g) n_g ((cOrders f h l o y).map (Value.int .i64)) from own_below (by repeat (first | exact O_g.out | (with_reducible refine World.ownsRow.alloc ?_ _) | (with_reducible refine World.ownsRow.drew ?_) | (with_reducible refine own_drewN ?_ _))) hb (Nat.le_refl _))
  have Hb3 := hide hb
  clear hb
  have LU_W := hide (fun k h => (⟨(own_lt_old ho k h).1, by have := (own_lt_old ho k h).2; (first | omega | (simp at this; omega))⟩ : k < w3.heap.size ∧ w2.heap.size ≤ k))
  have O_W := hide (show World.ownsRow w3 w.heap.size 3 1 (.slice A_W n_W c_W) n_W ((cOrders f h l o y).map (Value.int .i64)) from own_base ho (by first | omega | (simp; omega)))
  clear ho
  go_wp2_with fail
  refine (equalInts_same A_g A_W n_g c_g n_W c_W (cOrders f h l o y) _ (by omega) (by repeat (first | exact Rd.of_own O_g.out | (with_reducible refine RdI.al ?_ _) | (with_reducible refine RdI.dr ?_) | (with_reducible refine RdI.drN ?_ _) | (with_reducible refine Rd.alloc ?_ _) | (with_reducible refine Rd.drew ?_) | (with_reducible refine Rd.drewN ?_ _))) (by repeat (first | exact Rd.of_own O_W.out | (with_reducible refine RdI.al ?_ _) | (with_reducible refine RdI.dr ?_) | (with_reducible refine RdI.drN ?_ _) | (with_reducible refine Rd.alloc ?_ _) | (with_reducible refine Rd.drew ?_) | (with_reducible refine Rd.drewN ?_ _)))).mono ?_
  rintro e wq1 ⟨rfl, q1, rfl⟩
  by_cases h0 : n_g = 0
  · have h0' : ((n_g : Int) == 0) = true := by simp [h0]
    clear h0
    go_wp2_with fail
    refine (OrdersTo_s f h l o y _).mono ?_
    rintro e w4 ⟨A_V, n_V, c_V, rfl, ho, hb⟩
    have hz4 := hb.size
    try simp at hz4
    obtain ⟨_, _, _, _, _, _, _, _⟩ := sz (show w1.heap.size < w4.heap.size from by omega)
    have hx : Blk _ (w1.heap.size) 25 #[.int .i64 f, .int .i64 h, .int .i64 l, .bool o] := Blk.below (by repeat (first | (with_reducible assumption) | (with_reducible exact Blk.new _ _ _) | ((with_reducible refine Blk.new_at ?_); (first | (simp; done) | (simp; omega))) | (with_reducible refine Blk.drew ?_) | (with_reducible refine Blk.drewN ?_ _) | (with_reducible refine Blk.alloc ?_ _) | ((with_reducible refine Blk.far ?_ ?_ _); rotate_left; (focus (first | (simp; done) | (simp; omega) | omega))))) hb (by (focus (first | (simp; done) | (simp; omega) | omega)))
    obtain ⟨_, _, _, _, _, _, _, _⟩ := blk4 hx
    replace O_g := hide (show World.ownsRow w4 w.heap.size 3 1 (.slice A_g n_g c_g) n_g ((cOrders f h l o y).map (Value.int .i64)) from own_below (by repeat (first | exact O_g.out | (with_reducible refine World.ownsRow.alloc ?_ _) | (with_reducible refine World.ownsRow.drew ?_) | (with_reducible refine own_drewN ?_ _))) hb (Nat.le_refl _))
    replace O_W := hide (show World.ownsRow w4 w.heap.size 3 1 (.slice A_W n_W c_W) n_W ((cOrders f h l o y).map (Value.int .i64)) from own_below (by repeat (first | exact O_W.out | (with_reducible refine World.ownsRow.alloc ?_ _) | (with_reducible refine World.ownsRow.drew ?_) | (with_reducible refine own_drewN ?_ _))) hb (Nat.le_refl _))
    have Hb4 := hide hb
    clear hb
    have LU_V := hide (fun k h => (⟨(own_lt_old ho k h).1, by have := (own_lt_old ho k h).2; (first | omega | (simp at this; omega))⟩ : k < w4.heap.size ∧ w3.heap.size ≤ k))
    have O_V := hide (show World.ownsRow w4 w.heap.size 3 1 (.slice A_V n_V c_V) n_V ((cOrders f h l o y).map (Value.int .i64)) from own_base ho (by first | omega | (simp; omega)))
    clear ho
    go_wp2_with fail
    refine (equalInts_same A_g A_V n_g c_g n_V c_V (cOrders f h l o y) _ (by omega) (by repeat (first | exact Rd.of_own O_g.out | (with_reducible refine RdI.al ?_ _) | (with_reducible refine RdI.dr ?_) | (with_reducible refine RdI.drN ?_ _) | (with_reducible refine Rd.alloc ?_ _) | (with_reducible refine Rd.drew ?_) | (with_reducible refine Rd.drewN ?_ _))) (by repeat (first | exact Rd.of_own O_V.out | (with_reducible refine RdI.al ?_ _) | (with_reducible refine RdI.dr ?_) | (with_reducible refine RdI.drN ?_ _) | (with_reducible refine Rd.alloc ?_ _) | (with_reducible refine Rd.drew ?_) | (with_reducible refine Rd.drewN ?_ _)))).mono ?_
    rintro e wq2 ⟨rfl, q2, rfl⟩
    go_wp2_with fail
    go_ret
    exact ⟨rfl, (by repeat (first | (with_reducible exact Below.refl _ _) | (with_reducible refine Below.drew ?_) | (with_reducible refine below_drewN ?_ _) | ((with_reducible refine Below.alloc ?_ ?_ _); rotate_left; (focus (first | (simp; done) | (simp; omega) | omega))) | ((with_reducible refine Below.setCell ?_ ?_ _); rotate_left; (focus (first | (simp; done) | (simp; omega) | omega))) | ((with_reducible refine Below.trans ?_ (Below.mono Hb.out ?_)); rotate_left; (focus (first | (simp; done) | (simp; omega) | omega))) | ((with_reducible refine Below.trans ?_ (Below.mono Hb16.out ?_)); rotate_left; (focus (first | (simp; done) | (simp; omega) | omega))) | ((with_reducible refine Below.trans ?_ (Below.mono Hb15.out ?_)); rotate_left; (focus (first | (simp; done) | (simp; omega) | omega))) | ((with_reducible refine Below.trans ?_ (Below.mono Hb14.out ?_)); rotate_left; (focus (first | (simp; done) | (simp; omega) | omega))) | ((with_reducible refine Below.trans ?_ (Below.mono Hb13.out ?_)); rotate_left; (focus (first | (simp; done) | (simp; omega) | omega))) | ((with_reducible refine Below.trans ?_ (Below.mono Hb12.out ?_)); rotate_left; (focus (first | (simp; done) | (simp; omega) | omega))) | ((with_reducible refine Below.trans ?_ (Below.mono Hb11.out ?_)); rotate_left; (focus (first | (simp; done) | (simp; omega) | omega))) | ((with_reducible refine Below.trans ?_ (Below.mono Hb10.out ?_)); rotate_left; (focus (first | (simp; done) | (simp; omega) | omega))) | ((with_reducible refine Below.trans ?_ (Below.mono Hb9.out ?_)); rotate_left; (focus (first | (simp; done) | (simp; omega) | omega))) | ((with_reducible refine Below.trans ?_ (Below.mono Hb8.out ?_)); rotate_left; (focus (first | (simp; done) | (simp; omega) | omega))) | ((with_reducible refine Below.trans ?_ (Below.mono Hb7.out ?_)); rotate_left; (focus (first | (simp; done) | (simp; omega) | omega))) | ((with_reducible refine Below.trans ?_ (Below.mono Hb6.out ?_)); rotate_left; (focus (first | (simp; done) | (simp; omega) | omega))) | ((with_reducible refine Below.trans ?_ (Below.mono Hb5.out ?_)); rotate_left; (focus (first | (simp; done) | (simp; omega) | omega))) | ((with_reducible refine Below.trans ?_ (Below.mono Hb4.out ?_)); rotate_left; (focus (first | (simp; done) | (simp; omega) | omega))) | ((with_reducible refine Below.trans ?_ (Below.mono Hb3.out ?_)); rotate_left; (focus (first | (simp; done) | (simp; omega) | omega))) | ((with_reducible refine Below.trans ?_ (Below.mono Hb2.out ?_)); rotate_left; (focus (first | (simp; done) | (simp; omega) | omega))) | ((with_reducible refine Below.trans ?_ (Below.mono Hb1.out ?_)); rotate_left; (focus (first | (simp; done) | (simp; omega) | omega))) | ((with_reducible refine Below.trans ?_ (below_of_only Hg16.out ?_ ?_)); rotate_left; (focus (first | (simp; done) | (simp; omega) | omega)); (intro k hk; cases hk; omega)) | ((with_reducible refine Below.trans ?_ (below_of_only Hg15.out ?_ ?_)); rotate_left; (focus (first | (simp; done) | (simp; omega) | omega)); (intro k hk; cases hk; omega)) | ((with_reducible refine Below.trans ?_ (below_of_only Hg14.out ?_ ?_)); rotate_left; (focus (first | (simp; done) | (simp; omega) | omega)); (intro k hk; cases hk; omega)) | ((with_reducible refine Below.trans ?_ (below_of_only Hg13.out ?_ ?_)); rotate_left; (focus (first | (simp; done) | (simp; omega) | omega)); (intro k hk; cases hk; omega)) | ((with_reducible refine Below.trans ?_ (below_of_only Hg12.out ?_ ?_)); rotate_left; (focus (first | (simp; done) | (simp; omega) | omega)); (intro k hk; cases hk; omega)) | ((with_reducible refine Below.trans ?_ (below_of_only Hg11.out ?_ ?_)); rotate_left; (focus (first | (simp; done) | (simp; omega) | omega)); (intro k hk; cases hk; omega)) | ((with_reducible refine Below.trans ?_ (below_of_only Hg10.out ?_ ?_)); rotate_left; (focus (first | (simp; done) | (simp; omega) | omega)); (intro k hk; cases hk; omega)) | ((with_reducible refine Below.trans ?_ (below_of_only Hg9.out ?_ ?_)); rotate_left; (focus (first | (simp; done) | (simp; omega) | omega)); (intro k hk; cases hk; omega)) | ((with_reducible refine Below.trans ?_ (below_of_only Hg8.out ?_ ?_)); rotate_left; (focus (first | (simp; done) | (simp; omega) | omega)); (intro k hk; cases hk; omega)) | ((with_reducible refine Below.trans ?_ (below_of_only Hg7.out ?_ ?_)); rotate_left; (focus (first | (simp; done) | (simp; omega) | omega)); (intro k hk; cases hk; omega)) | ((with_reducible refine Below.trans ?_ (below_of_only Hg6.out ?_ ?_)); rotate_left; (focus (first | (simp; done) | (simp; omega) | omega)); (intro k hk; cases hk; omega)) | ((with_reducible refine Below.trans ?_ (below_of_only Hg5.out ?_ ?_)); rotate_left; (focus (first | (simp; done) | (simp; omega) | omega)); (intro k hk; cases hk; omega)) | ((with_reducible refine Below.trans ?_ (below_of_only Hg4.out ?_ ?_)); rotate_left; (focus (first | (simp; done) | (simp; omega) | omega)); (intro k hk; cases hk; omega)) | ((with_reducible refine Below.trans ?_ (below_of_only Hg3.out ?_ ?_)); rotate_left; (focus (first | (simp; done) | (simp; omega) | omega)); (intro k hk; cases hk; omega)) | ((with_reducible refine Below.trans ?_ (below_of_only Hg2.out ?_ ?_)); rotate_left; (focus (first | (simp; done) | (simp; omega) | omega)); (intro k hk; cases hk; omega)) | ((with_reducible refine Below.trans ?_ (below_of_only Hg1.out ?_ ?_)); rotate_left; (focus (first | (simp; done) | (simp; omega) | omega)); (intro k hk; cases hk; omega))))⟩
  have h0' : ((n_g : Int) == 0) = false := by rw [beq_eq_false_iff_ne]; omega
  have hl := RdLEN_int (Rd.of_own O_g.out)
  have hcond : vC f h l o = true ∧ l < 5 ∧ 0 ≤ y ∧ y ≤ 15 := by
    by_cases hc : vC f h l o = true ∧ l < 5 ∧ 0 ≤ y ∧ y ≤ 15
    · exact hc
    · rw [show cOrders f h l o y = [] from if_neg hc] at hl
      simp at hl
      omega
  have hne : ¬ (o = true ∧ f = y) := by
    rintro ⟨rfl, rfl⟩
    rw [cOrders_nil hcond] at hl
    simp [ordersC] at hl
    omega
  have hmv := orders_moves f h o y hne
  rw [← cOrders_nil hcond, hl] at hmv
  have hb := vC_iff.1 hcond.1
  obtain ⟨⟨f0, f1⟩, _, _, _⟩ := hb
  obtain ⟨_, _, y0, y1⟩ := hcond
  have HM := hide hmv.1
  have HLE := hmv.2
  have Hl := hide hl
  have Hne := hide hne
  clear h0 hl hne hmv
  go_wp2_with fail
  go_loop [6, 7] (fun m i => ∃ k : Nat, k ≤ n_g ∧ i = .int .i64 k ∧ m = .int .i64 (moves ((cOrders f h l o y).take k) : Nat)) (fun _ i => n_g - (intOf i).toNat)
  case atStart => exact ⟨0, Nat.zero_le _, rfl, int_eq (by simp [moves])⟩
  case round =>
    obtain ⟨k, hk, rfl, rfl⟩ := hrel
    by_cases hkn : k < n_g
    · obtain ⟨b1, o1, z, rfl, hb1, hz', hc1⟩ := RdI.at_ (show RdI w3 .i64 A_g n_g (cOrders f h l o y) from Rd.of_own O_g.out) hkn
      have hms := moves_succ hz'
      have hml : moves ((cOrders f h l o y).take k) ≤ k := Nat.le_trans (moves_le _) (List.length_take_le _ _)
      have Hms := hide hms
      clear hms hz'
      generalize hmk : moves ((cOrders f h l o y).take k) = mk at *
      have hlt' : (k : Int) < (n_g : Int) := by omega
      by_cases z1 : z = 1
      · subst z1
        go_wp2_with fail
        go_round
        case rel => exact ⟨k + 1, by omega, by go_num, int_eq (by rw [Hms.out]; simp [mv])⟩
        case measure => simp [intOf]; omega
      · have z1' : (z == 1) = false := by simpa using z1
        by_cases z2 : z = 2
        · subst z2
          go_wp2_with fail
          go_round
          case rel => exact ⟨k + 1, by omega, by go_num, int_eq (by rw [Hms.out]; simp [mv])⟩
          case measure => simp [intOf]; omega
        · have z2' : (z == 2) = false := by simpa using z2
          have Hzz := hide (And.intro z1 z2)
          clear z1 z2
          go_wp2_with fail
          go_round
          case rel => exact ⟨k + 1, by omega, by go_num, int_eq (by rw [Hms.out]; simp [mv, Hzz.out.1, Hzz.out.2])⟩
          case measure => simp [intOf]; omega
    · obtain rfl : k = n_g := by omega
      have hfin : moves ((cOrders f h l o y).take k) = (y - f).natAbs := by rw [List.take_of_length_le (by have := Hl.out; omega)]; exact HM.out
      rw [hfin]
      clear hfin
      have w1' : IntKind.i64.wrap (y - f) = y - f := IntWalk.i64_in _ (by omega)
      have hab : (y - f).natAbs ≤ 15 := by omega
      generalize hab' : (y - f).natAbs = ab at *
      have Hab := hide hab'
      clear hab'
      go_wp2_with fail
      refine (absolute_any (y - f) _ (by omega) (by omega)).mono ?_
      rintro e w' ⟨rfl, rfl⟩
      rw [Hab.out]
      cases o
      · go_wp2_with fail
        go_ret
        exact ⟨rfl, (by repeat (first | (with_reducible exact Below.refl _ _) | (with_reducible refine Below.drew ?_) | (with_reducible refine below_drewN ?_ _) | ((with_reducible refine Below.alloc ?_ ?_ _); rotate_left; (focus (first | (simp; done) | (simp; omega) | omega))) | ((with_reducible refine Below.setCell ?_ ?_ _); rotate_left; (focus (first | (simp; done) | (simp; omega) | omega))) | ((with_reducible refine Below.trans ?_ (Below.mono Hb.out ?_)); rotate_left; (focus (first | (simp; done) | (simp; omega) | omega))) | ((with_reducible refine Below.trans ?_ (Below.mono Hb16.out ?_)); rotate_left; (focus (first | (simp; done) | (simp; omega) | omega))) | ((with_reducible refine Below.trans ?_ (Below.mono Hb15.out ?_)); rotate_left; (focus (first | (simp; done) | (simp; omega) | omega))) | ((with_reducible refine Below.trans ?_ (Below.mono Hb14.out ?_)); rotate_left; (focus (first | (simp; done) | (simp; omega) | omega))) | ((with_reducible refine Below.trans ?_ (Below.mono Hb13.out ?_)); rotate_left; (focus (first | (simp; done) | (simp; omega) | omega))) | ((with_reducible refine Below.trans ?_ (Below.mono Hb12.out ?_)); rotate_left; (focus (first | (simp; done) | (simp; omega) | omega))) | ((with_reducible refine Below.trans ?_ (Below.mono Hb11.out ?_)); rotate_left; (focus (first | (simp; done) | (simp; omega) | omega))) | ((with_reducible refine Below.trans ?_ (Below.mono Hb10.out ?_)); rotate_left; (focus (first | (simp; done) | (simp; omega) | omega))) | ((with_reducible refine Below.trans ?_ (Below.mono Hb9.out ?_)); rotate_left; (focus (first | (simp; done) | (simp; omega) | omega))) | ((with_reducible refine Below.trans ?_ (Below.mono Hb8.out ?_)); rotate_left; (focus (first | (simp; done) | (simp; omega) | omega))) | ((with_reducible refine Below.trans ?_ (Below.mono Hb7.out ?_)); rotate_left; (focus (first | (simp; done) | (simp; omega) | omega))) | ((with_reducible refine Below.trans ?_ (Below.mono Hb6.out ?_)); rotate_left; (focus (first | (simp; done) | (simp; omega) | omega))) | ((with_reducible refine Below.trans ?_ (Below.mono Hb5.out ?_)); rotate_left; (focus (first | (simp; done) | (simp; omega) | omega))) | ((with_reducible refine Below.trans ?_ (Below.mono Hb4.out ?_)); rotate_left; (focus (first | (simp; done) | (simp; omega) | omega))) | ((with_reducible refine Below.trans ?_ (Below.mono Hb3.out ?_)); rotate_left; (focus (first | (simp; done) | (simp; omega) | omega))) | ((with_reducible refine Below.trans ?_ (Below.mono Hb2.out ?_)); rotate_left; (focus (first | (simp; done) | (simp; omega) | omega))) | ((with_reducible refine Below.trans ?_ (Below.mono Hb1.out ?_)); rotate_left; (focus (first | (simp; done) | (simp; omega) | omega))) | ((with_reducible refine Below.trans ?_ (below_of_only Hg16.out ?_ ?_)); rotate_left; (focus (first | (simp; done) | (simp; omega) | omega)); (intro k hk; cases hk; omega)) | ((with_reducible refine Below.trans ?_ (below_of_only Hg15.out ?_ ?_)); rotate_left; (focus (first | (simp; done) | (simp; omega) | omega)); (intro k hk; cases hk; omega)) | ((with_reducible refine Below.trans ?_ (below_of_only Hg14.out ?_ ?_)); rotate_left; (focus (first | (simp; done) | (simp; omega) | omega)); (intro k hk; cases hk; omega)) | ((with_reducible refine Below.trans ?_ (below_of_only Hg13.out ?_ ?_)); rotate_left; (focus (first | (simp; done) | (simp; omega) | omega)); (intro k hk; cases hk; omega)) | ((with_reducible refine Below.trans ?_ (below_of_only Hg12.out ?_ ?_)); rotate_left; (focus (first | (simp; done) | (simp; omega) | omega)); (intro k hk; cases hk; omega)) | ((with_reducible refine Below.trans ?_ (below_of_only Hg11.out ?_ ?_)); rotate_left; (focus (first | (simp; done) | (simp; omega) | omega)); (intro k hk; cases hk; omega)) | ((with_reducible refine Below.trans ?_ (below_of_only Hg10.out ?_ ?_)); rotate_left; (focus (first | (simp; done) | (simp; omega) | omega)); (intro k hk; cases hk; omega)) | ((with_reducible refine Below.trans ?_ (below_of_only Hg9.out ?_ ?_)); rotate_left; (focus (first | (simp; done) | (simp; omega) | omega)); (intro k hk; cases hk; omega)) | ((with_reducible refine Below.trans ?_ (below_of_only Hg8.out ?_ ?_)); rotate_left; (focus (first | (simp; done) | (simp; omega) | omega)); (intro k hk; cases hk; omega)) | ((with_reducible refine Below.trans ?_ (below_of_only Hg7.out ?_ ?_)); rotate_left; (focus (first | (simp; done) | (simp; omega) | omega)); (intro k hk; cases hk; omega)) | ((with_reducible refine Below.trans ?_ (below_of_only Hg6.out ?_ ?_)); rotate_left; (focus (first | (simp; done) | (simp; omega) | omega)); (intro k hk; cases hk; omega)) | ((with_reducible refine Below.trans ?_ (below_of_only Hg5.out ?_ ?_)); rotate_left; (focus (first | (simp; done) | (simp; omega) | omega)); (intro k hk; cases hk; omega)) | ((with_reducible refine Below.trans ?_ (below_of_only Hg4.out ?_ ?_)); rotate_left; (focus (first | (simp; done) | (simp; omega) | omega)); (intro k hk; cases hk; omega)) | ((with_reducible refine Below.trans ?_ (below_of_only Hg3.out ?_ ?_)); rotate_left; (focus (first | (simp; done) | (simp; omega) | omega)); (intro k hk; cases hk; omega)) | ((with_reducible refine Below.trans ?_ (below_of_only Hg2.out ?_ ?_)); rotate_left; (focus (first | (simp; done) | (simp; omega) | omega)); (intro k hk; cases hk; omega)) | ((with_reducible refine Below.trans ?_ (below_of_only Hg1.out ?_ ?_)); rotate_left; (focus (first | (simp; done) | (simp; omega) | omega)); (intro k hk; cases hk; omega))))⟩
      · have hfy : (f != y) = true := by simp; intro e; exact Hne.out ⟨rfl, e⟩
        go_wp2_with fail
        go_ret
        exact ⟨rfl, (by repeat (first | (with_reducible exact Below.refl _ _) | (with_reducible refine Below.drew ?_) | (with_reducible refine below_drewN ?_ _) | ((with_reducible refine Below.alloc ?_ ?_ _); rotate_left; (focus (first | (simp; done) | (simp; omega) | omega))) | ((with_reducible refine Below.setCell ?_ ?_ _); rotate_left; (focus (first | (simp; done) | (simp; omega) | omega))) | ((with_reducible refine Below.trans ?_ (Below.mono Hb.out ?_)); rotate_left; (focus (first | (simp; done) | (simp; omega) | omega))) | ((with_reducible refine Below.trans ?_ (Below.mono Hb16.out ?_)); rotate_left; (focus (first | (simp; done) | (simp; omega) | omega))) | ((with_reducible refine Below.trans ?_ (Below.mono Hb15.out ?_)); rotate_left; (focus (first | (simp; done) | (simp; omega) | omega))) | ((with_reducible refine Below.trans ?_ (Below.mono Hb14.out ?_)); rotate_left; (focus (first | (simp; done) | (simp; omega) | omega))) | ((with_reducible refine Below.trans ?_ (Below.mono Hb13.out ?_)); rotate_left; (focus (first | (simp; done) | (simp; omega) | omega))) | ((with_reducible refine Below.trans ?_ (Below.mono Hb12.out ?_)); rotate_left; (focus (first | (simp; done) | (simp; omega) | omega))) | ((with_reducible refine Below.trans ?_ (Below.mono Hb11.out ?_)); rotate_left; (focus (first | (simp; done) | (simp; omega) | omega))) | ((with_reducible refine Below.trans ?_ (Below.mono Hb10.out ?_)); rotate_left; (focus (first | (simp; done) | (simp; omega) | omega))) | ((with_reducible refine Below.trans ?_ (Below.mono Hb9.out ?_)); rotate_left; (focus (first | (simp; done) | (simp; omega) | omega))) | ((with_reducible refine Below.trans ?_ (Below.mono Hb8.out ?_)); rotate_left; (focus (first | (simp; done) | (simp; omega) | omega))) | ((with_reducible refine Below.trans ?_ (Below.mono Hb7.out ?_)); rotate_left; (focus (first | (simp; done) | (simp; omega) | omega))) | ((with_reducible refine Below.trans ?_ (Below.mono Hb6.out ?_)); rotate_left; (focus (first | (simp; done) | (simp; omega) | omega))) | ((with_reducible refine Below.trans ?_ (Below.mono Hb5.out ?_)); rotate_left; (focus (first | (simp; done) | (simp; omega) | omega))) | ((with_reducible refine Below.trans ?_ (Below.mono Hb4.out ?_)); rotate_left; (focus (first | (simp; done) | (simp; omega) | omega))) | ((with_reducible refine Below.trans ?_ (Below.mono Hb3.out ?_)); rotate_left; (focus (first | (simp; done) | (simp; omega) | omega))) | ((with_reducible refine Below.trans ?_ (Below.mono Hb2.out ?_)); rotate_left; (focus (first | (simp; done) | (simp; omega) | omega))) | ((with_reducible refine Below.trans ?_ (Below.mono Hb1.out ?_)); rotate_left; (focus (first | (simp; done) | (simp; omega) | omega))) | ((with_reducible refine Below.trans ?_ (below_of_only Hg16.out ?_ ?_)); rotate_left; (focus (first | (simp; done) | (simp; omega) | omega)); (intro k hk; cases hk; omega)) | ((with_reducible refine Below.trans ?_ (below_of_only Hg15.out ?_ ?_)); rotate_left; (focus (first | (simp; done) | (simp; omega) | omega)); (intro k hk; cases hk; omega)) | ((with_reducible refine Below.trans ?_ (below_of_only Hg14.out ?_ ?_)); rotate_left; (focus (first | (simp; done) | (simp; omega) | omega)); (intro k hk; cases hk; omega)) | ((with_reducible refine Below.trans ?_ (below_of_only Hg13.out ?_ ?_)); rotate_left; (focus (first | (simp; done) | (simp; omega) | omega)); (intro k hk; cases hk; omega)) | ((with_reducible refine Below.trans ?_ (below_of_only Hg12.out ?_ ?_)); rotate_left; (focus (first | (simp; done) | (simp; omega) | omega)); (intro k hk; cases hk; omega)) | ((with_reducible refine Below.trans ?_ (below_of_only Hg11.out ?_ ?_)); rotate_left; (focus (first | (simp; done) | (simp; omega) | omega)); (intro k hk; cases hk; omega)) | ((with_reducible refine Below.trans ?_ (below_of_only Hg10.out ?_ ?_)); rotate_left; (focus (first | (simp; done) | (simp; omega) | omega)); (intro k hk; cases hk; omega)) | ((with_reducible refine Below.trans ?_ (below_of_only Hg9.out ?_ ?_)); rotate_left; (focus (first | (simp; done) | (simp; omega) | omega)); (intro k hk; cases hk; omega)) | ((with_reducible refine Below.trans ?_ (below_of_only Hg8.out ?_ ?_)); rotate_left; (focus (first | (simp; done) | (simp; omega) | omega)); (intro k hk; cases hk; omega)) | ((with_reducible refine Below.trans ?_ (below_of_only Hg7.out ?_ ?_)); rotate_left; (focus (first | (simp; done) | (simp; omega) | omega)); (intro k hk; cases hk; omega)) | ((with_reducible refine Below.trans ?_ (below_of_only Hg6.out ?_ ?_)); rotate_left; (focus (first | (simp; done) | (simp; omega) | omega)); (intro k hk; cases hk; omega)) | ((with_reducible refine Below.trans ?_ (below_of_only Hg5.out ?_ ?_)); rotate_left; (focus (first | (simp; done) | (simp; omega) | omega)); (intro k hk; cases hk; omega)) | ((with_reducible refine Below.trans ?_ (below_of_only Hg4.out ?_ ?_)); rotate_left; (focus (first | (simp; done) | (simp; omega) | omega)); (intro k hk; cases hk; omega)) | ((with_reducible refine Below.trans ?_ (below_of_only Hg3.out ?_ ?_)); rotate_left; (focus (first | (simp; done) | (simp; omega) | omega)); (intro k hk; cases hk; omega)) | ((with_reducible refine Below.trans ?_ (below_of_only Hg2.out ?_ ?_)); rotate_left; (focus (first | (simp; done) | (simp; omega) | omega)); (intro k hk; cases hk; omega)) | ((with_reducible refine Below.trans ?_ (below_of_only Hg1.out ?_ ?_)); rotate_left; (focus (first | (simp; done) | (simp; omega) | omega)); (intro k hk; cases hk; omega))))⟩

end Go.Proofs.Ytongbeecogjdlaa
