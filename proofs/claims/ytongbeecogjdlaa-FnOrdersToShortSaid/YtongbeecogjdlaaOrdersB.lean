/-
  The orders that bring a car to a floor: both functions.
-/
import Derived.Test.YtongbeecogjdlaaOrdersA
import Derived.Test.YtongbeecogjdlaaDs
namespace Go.Proofs.Ytongbeecogjdlaa
open Go.RowKit
set_option linter.unusedSimpArgs false
set_option linter.unusedVariables false

set_option maxHeartbeats 2000000 in
theorem OrdersTo_s_te (f l : Int) (w : World) (f0 : 0 ≤ f) (f1 : f ≤ 15) (l0 : 0 ≤ l) (l1 : l < 5)  :
    Calls Try.prog 26 #[.agg #[.int .i64 f, .int .i64 (0), .int .i64 l, .bool true], .int .i64 f] w (RetI w (ordersC f (0) true f)) := by
  have hv : vC f (0) l true = true := by rw [vC_iff]; refine ⟨⟨by omega, by omega⟩, ⟨by omega, by omega⟩, ⟨by omega, by omega⟩, ?_⟩; first | exact .inl rfl | exact .inr rfl
  have hl5 : (l == 5) = false := by simp; omega
  have hin : inB f 0 15 = true := inB_iff.2 ⟨by omega, by omega⟩
  have Hv := hide hv
  have Hin := hide hin
  clear hv hin
  obtain ⟨i0, hi0, iz0, iz1, iz2⟩ := info_parts int_info
  go_enter Try.func26, Try.ntmps26
  go_wp2_with fail
  refine (validCar_s _ _ _ _ _).mono ?_
  rintro e w' ⟨rfl, rfl⟩
  rw [Hv.out]
  go_wp2_with fail
  refine (inRange_any _ _ _ _).mono ?_
  rintro e w' ⟨rfl, rfl⟩
  rw [Hin.out]
  have HS := hide ((OS.start2 w f (0) l true).alloc (.cells #[.int .i64 f, .int .i64 (0), .int .i64 l, .bool true] 25))
  obtain ⟨_, _, _, _, _, _, _, _⟩ := blk4 HS.out.x
  have hret : RetI w (ordersC f (0) true f) (.returned (.slice (some ⟨w.heap.size + 1, 0, none⟩) 0 0)) _ := ⟨_, 0, 0, rfl, by rw [show ordersC f (0) true f = [] by simp [ordersC]]; exact HS.out.ow, HS.out.be⟩
  go_wp2_with fail
  go_ret
  exact hret

set_option maxHeartbeats 2000000 in
theorem OrdersTo_s_tu (f l y : Int) (w : World) (f0 : 0 ≤ f) (f1 : f ≤ 15) (l0 : 0 ≤ l) (l1 : l < 5) (hy : f < y) (y1 : y ≤ 15) :
    Calls Try.prog 26 #[.agg #[.int .i64 f, .int .i64 (0), .int .i64 l, .bool true], .int .i64 y] w (RetI w (ordersC f (0) true y)) := by
  have hv : vC f (0) l true = true := by rw [vC_iff]; refine ⟨⟨by omega, by omega⟩, ⟨by omega, by omega⟩, ⟨by omega, by omega⟩, ?_⟩; first | exact .inl rfl | exact .inr rfl
  have hl5 : (l == 5) = false := by simp; omega
  have hin : inB y 0 15 = true := inB_iff.2 ⟨by omega, by omega⟩
  have Hv := hide hv
  have Hin := hide hin
  clear hv hin
  obtain ⟨i0, hi0, iz0, iz1, iz2⟩ := info_parts int_info
  obtain ⟨D, hD⟩ : ∃ D, (y - f).natAbs = D := ⟨_, rfl⟩
  have HD := hide hD
  have hD0 : 0 < D := by omega
  have hD15 : D ≤ 15 := by omega
  have hfy : (f == y) = false := by simp; omega
  have hfy' : (f != y) = true := by simp; omega
  clear hD
  go_enter Try.func26, Try.ntmps26
  go_wp2_with fail
  refine (validCar_s _ _ _ _ _).mono ?_
  rintro e w' ⟨rfl, rfl⟩
  rw [Hv.out]
  go_wp2_with fail
  refine (inRange_any _ _ _ _).mono ?_
  rintro e w' ⟨rfl, rfl⟩
  rw [Hin.out]
  have HS := hide ((OS.start2 w f (0) l true).alloc (.cells #[.int .i64 f, .int .i64 (0), .int .i64 l, .bool true] 25))
  obtain ⟨_, _, _, _, _, _, _, _⟩ := blk4 HS.out.x
  go_wp2_with (first
    | (at_builtin; refine wpList_append_own _ rfl (.tmp 34) (.tmp 35) _ rfl w.heap.size 3 i0 (.int .i64 0) 1 8 Try.underlying32 hi0 iz0 iz1 iz2 rfl (by decide) _ _ _ rfl ((HS.out).ow.alloc _) _ 1 1 [.int .i64 (5)] rfl rfl (cell_one_at _ _ _ _ (by simp)) (by intro u hu; simp at hu; subst hu; rfl) (by unfold maxLen; omega) (by omega) (by have hsz := (HS.out).be.size; (try simp at hsz); (try simp); omega) ?_; intro vHS1 wHS1 hown hgrow _; have HS1 := hide (((HS.out).alloc (.cells #[.int .i64 (5)] 3)).app hown hgrow); clear hown hgrow; obtain ⟨_, _, _, _, _, _, _, _⟩ := blk4 HS1.out.x))
  have HSp := hide HS1.out
  go_loopw [5, 7, 8] (fun v hd i wr => ∃ (k : Nat) (hk : Int), k ≤ D ∧ i = .int .i64 k ∧ (k = 0 → hk = 0) ∧ (0 < k → hk = 1) ∧ hd = .int .i64 hk ∧ Hid (OS w wr v (1 + k) ([5] ++ List.replicate k 1) f (0) l true)) (fun _ _ i _ => D - (intOf i).toNat)
  case atStart => exact ⟨0, 0, Nat.zero_le _, rfl, fun _ => rfl, fun h => absurd h (by omega), rfl, by simpa using HSp⟩
  case round =>
    obtain ⟨k, hk, hkD, rfl, hk0, hk1, rfl, HL⟩ := hrel
    obtain ⟨_, _, _, _, _, _, _, _⟩ := blk4 HL.out.x
    have Hk := hide (And.intro hk0 hk1)
    clear hk0 hk1
    by_cases hlt : k < D
    · have hlt' : (k : Int) < (D : Int) := by omega
      go_wp2_with fail
      refine (distance_s (y - f) D _ (by omega) (by omega) HD.out).mono ?_
      rintro e w' ⟨rfl, rfl⟩
      go_wp2_with (first
        | (at_builtin; refine wpList_append_own _ rfl (.tmp 62) (.tmp 63) _ rfl w.heap.size 3 i0 (.int .i64 0) 1 8 Try.underlying32 hi0 iz0 iz1 iz2 rfl (by decide) _ _ _ rfl ((HL.out).ow.alloc _) _ 1 1 [.int .i64 (1)] rfl rfl (cell_one_at _ _ _ _ (by simp)) (by intro u hu; simp at hu; subst hu; rfl) (by unfold maxLen; omega) (by omega) (by have hsz := (HL.out).be.size; (try simp at hsz); (try simp); omega) ?_; intro vHL2 wHL2 hown hgrow _; have HL2 := hide (((HL.out).alloc (.cells #[.int .i64 (1)] 3)).app hown hgrow); clear hown hgrow; obtain ⟨_, _, _, _, _, _, _, _⟩ := blk4 HL2.out.x))
      go_roundw
      case rel => exact ⟨k + 1, 1, by omega, by go_num, fun h => absurd h (by omega), fun _ => rfl, rfl, by rw [List.replicate_succ', ← List.append_assoc, ← Nat.add_assoc]; exact HL2⟩
      case measure => simp [intOf]; omega
    · obtain rfl : k = D := by omega
      obtain rfl : hk = 1 := Hk.out.2 hD0
      go_wp2_with fail
      refine (distance_s (y - f) k _ (by omega) (by omega) HD.out).mono ?_
      rintro e w' ⟨rfl, rfl⟩
      go_wp2_with (first
        | (at_builtin; refine wpList_append_own _ rfl (.tmp 70) (.tmp 71) _ rfl w.heap.size 3 i0 (.int .i64 0) 1 8 Try.underlying32 hi0 iz0 iz1 iz2 rfl (by decide) _ _ _ rfl ((HL.out).ow.alloc _) _ 1 1 [.int .i64 (3)] rfl rfl (cell_one_at _ _ _ _ (by simp)) (by intro u hu; simp at hu; subst hu; rfl) (by unfold maxLen; omega) (by omega) (by have hsz := (HL.out).be.size; (try simp at hsz); (try simp); omega) ?_; intro vHL3 wHL3 hown hgrow _; have HL3 := hide (((HL.out).alloc (.cells #[.int .i64 (3)] 3)).app hown hgrow); clear hown hgrow; obtain ⟨_, _, _, _, _, _, _, _⟩ := blk4 HL3.out.x)
        | (at_builtin; refine wpList_append_own _ rfl (.tmp 73) (.tmp 74) _ rfl w.heap.size 3 i0 (.int .i64 0) 1 8 Try.underlying32 hi0 iz0 iz1 iz2 rfl (by decide) _ _ _ rfl ((HL3.out).ow.alloc _) _ 1 1 [.int .i64 (4)] rfl rfl (cell_one_at _ _ _ _ (by simp)) (by intro u hu; simp at hu; subst hu; rfl) (by unfold maxLen; omega) (by omega) (by have hsz := (HL3.out).be.size; (try simp at hsz); (try simp); omega) ?_; intro vHL4 wHL4 hown hgrow _; have HL4 := hide (((HL3.out).alloc (.cells #[.int .i64 (4)] 3)).app hown hgrow); clear hown hgrow; obtain ⟨_, _, _, _, _, _, _, _⟩ := blk4 HL4.out.x))
      obtain ⟨Ar, cr, rfl, hret⟩ := HL4.out.ret (ordersC f (0) true y) (by
        have hD := HD.out
        have e2 : ¬ f = y := by omega
        have e3 : ¬ y = f := by omega
        have e4 : f < y := by omega
        have e5 : 0 < y - f := by omega
        have e6 : ¬ y - f ≤ 0 := by omega
        have e7 : ¬ 0 < f - y := by omega
        have e8 : f - y ≤ 0 := by omega
        have e9 : f ≤ y := by omega
        have e10 : ¬ y ≤ f := by omega
        simp [ordersC, hD, e2, e3, e4, e5, e6, e7, e8, e9, e10]
        try omega)
      go_ret
      exact hret

set_option maxHeartbeats 2000000 in
theorem OrdersTo_s_td (f l y : Int) (w : World) (f0 : 0 ≤ f) (f1 : f ≤ 15) (l0 : 0 ≤ l) (l1 : l < 5) (hy : y < f) (y0 : 0 ≤ y) :
    Calls Try.prog 26 #[.agg #[.int .i64 f, .int .i64 (0), .int .i64 l, .bool true], .int .i64 y] w (RetI w (ordersC f (0) true y)) := by
  have hv : vC f (0) l true = true := by rw [vC_iff]; refine ⟨⟨by omega, by omega⟩, ⟨by omega, by omega⟩, ⟨by omega, by omega⟩, ?_⟩; first | exact .inl rfl | exact .inr rfl
  have hl5 : (l == 5) = false := by simp; omega
  have hin : inB y 0 15 = true := inB_iff.2 ⟨by omega, by omega⟩
  have Hv := hide hv
  have Hin := hide hin
  clear hv hin
  obtain ⟨i0, hi0, iz0, iz1, iz2⟩ := info_parts int_info
  obtain ⟨D, hD⟩ : ∃ D, (y - f).natAbs = D := ⟨_, rfl⟩
  have HD := hide hD
  have hD0 : 0 < D := by omega
  have hD15 : D ≤ 15 := by omega
  have hfy : (f == y) = false := by simp; omega
  have hfy' : (f != y) = true := by simp; omega
  clear hD
  go_enter Try.func26, Try.ntmps26
  go_wp2_with fail
  refine (validCar_s _ _ _ _ _).mono ?_
  rintro e w' ⟨rfl, rfl⟩
  rw [Hv.out]
  go_wp2_with fail
  refine (inRange_any _ _ _ _).mono ?_
  rintro e w' ⟨rfl, rfl⟩
  rw [Hin.out]
  have HS := hide ((OS.start2 w f (0) l true).alloc (.cells #[.int .i64 f, .int .i64 (0), .int .i64 l, .bool true] 25))
  obtain ⟨_, _, _, _, _, _, _, _⟩ := blk4 HS.out.x
  go_wp2_with (first
    | (at_builtin; refine wpList_append_own _ rfl (.tmp 34) (.tmp 35) _ rfl w.heap.size 3 i0 (.int .i64 0) 1 8 Try.underlying32 hi0 iz0 iz1 iz2 rfl (by decide) _ _ _ rfl ((HS.out).ow.alloc _) _ 1 1 [.int .i64 (5)] rfl rfl (cell_one_at _ _ _ _ (by simp)) (by intro u hu; simp at hu; subst hu; rfl) (by unfold maxLen; omega) (by omega) (by have hsz := (HS.out).be.size; (try simp at hsz); (try simp); omega) ?_; intro vHS1 wHS1 hown hgrow _; have HS1 := hide (((HS.out).alloc (.cells #[.int .i64 (5)] 3)).app hown hgrow); clear hown hgrow; obtain ⟨_, _, _, _, _, _, _, _⟩ := blk4 HS1.out.x))
  have HSp := hide HS1.out
  go_loopw [5, 7, 8] (fun v hd i wr => ∃ (k : Nat) (hk : Int), k ≤ D ∧ i = .int .i64 k ∧ (k = 0 → hk = 0) ∧ (0 < k → hk = 1) ∧ hd = .int .i64 hk ∧ Hid (OS w wr v (1 + k) ([5] ++ List.replicate k 2) f (0) l true)) (fun _ _ i _ => D - (intOf i).toNat)
  case atStart => exact ⟨0, 0, Nat.zero_le _, rfl, fun _ => rfl, fun h => absurd h (by omega), rfl, by simpa using HSp⟩
  case round =>
    obtain ⟨k, hk, hkD, rfl, hk0, hk1, rfl, HL⟩ := hrel
    obtain ⟨_, _, _, _, _, _, _, _⟩ := blk4 HL.out.x
    have Hk := hide (And.intro hk0 hk1)
    clear hk0 hk1
    by_cases hlt : k < D
    · have hlt' : (k : Int) < (D : Int) := by omega
      go_wp2_with fail
      refine (distance_s (y - f) D _ (by omega) (by omega) HD.out).mono ?_
      rintro e w' ⟨rfl, rfl⟩
      go_wp2_with (first
        | (at_builtin; refine wpList_append_own _ rfl (.tmp 65) (.tmp 66) _ rfl w.heap.size 3 i0 (.int .i64 0) 1 8 Try.underlying32 hi0 iz0 iz1 iz2 rfl (by decide) _ _ _ rfl ((HL.out).ow.alloc _) _ 1 1 [.int .i64 (2)] rfl rfl (cell_one_at _ _ _ _ (by simp)) (by intro u hu; simp at hu; subst hu; rfl) (by unfold maxLen; omega) (by omega) (by have hsz := (HL.out).be.size; (try simp at hsz); (try simp); omega) ?_; intro vHL2 wHL2 hown hgrow _; have HL2 := hide (((HL.out).alloc (.cells #[.int .i64 (2)] 3)).app hown hgrow); clear hown hgrow; obtain ⟨_, _, _, _, _, _, _, _⟩ := blk4 HL2.out.x))
      go_roundw
      case rel => exact ⟨k + 1, 1, by omega, by go_num, fun h => absurd h (by omega), fun _ => rfl, rfl, by rw [List.replicate_succ', ← List.append_assoc, ← Nat.add_assoc]; exact HL2⟩
      case measure => simp [intOf]; omega
    · obtain rfl : k = D := by omega
      obtain rfl : hk = 1 := Hk.out.2 hD0
      go_wp2_with fail
      refine (distance_s (y - f) k _ (by omega) (by omega) HD.out).mono ?_
      rintro e w' ⟨rfl, rfl⟩
      go_wp2_with (first
        | (at_builtin; refine wpList_append_own _ rfl (.tmp 70) (.tmp 71) _ rfl w.heap.size 3 i0 (.int .i64 0) 1 8 Try.underlying32 hi0 iz0 iz1 iz2 rfl (by decide) _ _ _ rfl ((HL.out).ow.alloc _) _ 1 1 [.int .i64 (3)] rfl rfl (cell_one_at _ _ _ _ (by simp)) (by intro u hu; simp at hu; subst hu; rfl) (by unfold maxLen; omega) (by omega) (by have hsz := (HL.out).be.size; (try simp at hsz); (try simp); omega) ?_; intro vHL3 wHL3 hown hgrow _; have HL3 := hide (((HL.out).alloc (.cells #[.int .i64 (3)] 3)).app hown hgrow); clear hown hgrow; obtain ⟨_, _, _, _, _, _, _, _⟩ := blk4 HL3.out.x)
        | (at_builtin; refine wpList_append_own _ rfl (.tmp 73) (.tmp 74) _ rfl w.heap.size 3 i0 (.int .i64 0) 1 8 Try.underlying32 hi0 iz0 iz1 iz2 rfl (by decide) _ _ _ rfl ((HL3.out).ow.alloc _) _ 1 1 [.int .i64 (4)] rfl rfl (cell_one_at _ _ _ _ (by simp)) (by intro u hu; simp at hu; subst hu; rfl) (by unfold maxLen; omega) (by omega) (by have hsz := (HL3.out).be.size; (try simp at hsz); (try simp); omega) ?_; intro vHL4 wHL4 hown hgrow _; have HL4 := hide (((HL3.out).alloc (.cells #[.int .i64 (4)] 3)).app hown hgrow); clear hown hgrow; obtain ⟨_, _, _, _, _, _, _, _⟩ := blk4 HL4.out.x))
      obtain ⟨Ar, cr, rfl, hret⟩ := HL4.out.ret (ordersC f (0) true y) (by
        have hD := HD.out
        have e2 : ¬ f = y := by omega
        have e3 : ¬ y = f := by omega
        have e4 : ¬ f < y := by omega
        have e5 : ¬ 0 < y - f := by omega
        have e6 : y - f ≤ 0 := by omega
        have e7 : 0 < f - y := by omega
        have e8 : ¬ f - y ≤ 0 := by omega
        have e9 : ¬ f ≤ y := by omega
        have e10 : y ≤ f := by omega
        simp [ordersC, hD, e2, e3, e4, e5, e6, e7, e8, e9, e10]
        try omega)
      go_ret
      exact hret

set_option maxHeartbeats 2000000 in
theorem OrdersTo_s_ze (f l : Int) (w : World) (f0 : 0 ≤ f) (f1 : f ≤ 15) (l0 : 0 ≤ l) (l1 : l < 5)  :
    Calls Try.prog 26 #[.agg #[.int .i64 f, .int .i64 (0), .int .i64 l, .bool false], .int .i64 f] w (RetI w (ordersC f (0) false f)) := by
  have hv : vC f (0) l false = true := by rw [vC_iff]; refine ⟨⟨by omega, by omega⟩, ⟨by omega, by omega⟩, ⟨by omega, by omega⟩, ?_⟩; first | exact .inl rfl | exact .inr rfl
  have hl5 : (l == 5) = false := by simp; omega
  have hin : inB f 0 15 = true := inB_iff.2 ⟨by omega, by omega⟩
  have Hv := hide hv
  have Hin := hide hin
  clear hv hin
  obtain ⟨i0, hi0, iz0, iz1, iz2⟩ := info_parts int_info
  go_enter Try.func26, Try.ntmps26
  go_wp2_with fail
  refine (validCar_s _ _ _ _ _).mono ?_
  rintro e w' ⟨rfl, rfl⟩
  rw [Hv.out]
  go_wp2_with fail
  refine (inRange_any _ _ _ _).mono ?_
  rintro e w' ⟨rfl, rfl⟩
  rw [Hin.out]
  have HS := hide ((OS.start2 w f (0) l false).alloc (.cells #[.int .i64 f, .int .i64 (0), .int .i64 l, .bool false] 25))
  obtain ⟨_, _, _, _, _, _, _, _⟩ := blk4 HS.out.x
  go_wp2_with fail
  go_loopw [5, 7, 8] (fun v hd i wr => hd = .int .i64 0 ∧ i = .int .i64 0 ∧ Hid (OS w wr v 0 [] f (0) l false)) (fun _ _ i _ => 0)
  case atStart => exact ⟨rfl, rfl, HS⟩
  case round =>
    obtain ⟨rfl, rfl, HS5⟩ := hrel
    obtain ⟨_, _, _, _, _, _, _, _⟩ := blk4 HS5.out.x
    go_wp2_with fail
    refine (distance_s 0 0 _ (by omega) (by omega) rfl).mono ?_
    rintro e w' ⟨rfl, rfl⟩
    go_wp2_with (first
      | (at_builtin; refine wpList_append_own _ rfl (.tmp 73) (.tmp 74) _ rfl w.heap.size 3 i0 (.int .i64 0) 1 8 Try.underlying32 hi0 iz0 iz1 iz2 rfl (by decide) _ _ _ rfl ((HS5.out).ow.alloc _) _ 1 1 [.int .i64 (4)] rfl rfl (cell_one_at _ _ _ _ (by simp)) (by intro u hu; simp at hu; subst hu; rfl) (by unfold maxLen; omega) (by omega) (by have hsz := (HS5.out).be.size; (try simp at hsz); (try simp); omega) ?_; intro vHSz wHSz hown hgrow _; have HSz := hide (((HS5.out).alloc (.cells #[.int .i64 (4)] 3)).app hown hgrow); clear hown hgrow; obtain ⟨_, _, _, _, _, _, _, _⟩ := blk4 HSz.out.x))
    obtain ⟨Ar, cr, rfl, hret⟩ := HSz.out.ret (ordersC f (0) false f) (by simp [ordersC])
    go_ret
    exact hret

set_option maxHeartbeats 2000000 in
theorem OrdersTo_s_zu (f l y : Int) (w : World) (f0 : 0 ≤ f) (f1 : f ≤ 15) (l0 : 0 ≤ l) (l1 : l < 5) (hy : f < y) (y1 : y ≤ 15) :
    Calls Try.prog 26 #[.agg #[.int .i64 f, .int .i64 (0), .int .i64 l, .bool false], .int .i64 y] w (RetI w (ordersC f (0) false y)) := by
  have hv : vC f (0) l false = true := by rw [vC_iff]; refine ⟨⟨by omega, by omega⟩, ⟨by omega, by omega⟩, ⟨by omega, by omega⟩, ?_⟩; first | exact .inl rfl | exact .inr rfl
  have hl5 : (l == 5) = false := by simp; omega
  have hin : inB y 0 15 = true := inB_iff.2 ⟨by omega, by omega⟩
  have Hv := hide hv
  have Hin := hide hin
  clear hv hin
  obtain ⟨i0, hi0, iz0, iz1, iz2⟩ := info_parts int_info
  obtain ⟨D, hD⟩ : ∃ D, (y - f).natAbs = D := ⟨_, rfl⟩
  have HD := hide hD
  have hD0 : 0 < D := by omega
  have hD15 : D ≤ 15 := by omega
  have hfy : (f == y) = false := by simp; omega
  have hfy' : (f != y) = true := by simp; omega
  clear hD
  go_enter Try.func26, Try.ntmps26
  go_wp2_with fail
  refine (validCar_s _ _ _ _ _).mono ?_
  rintro e w' ⟨rfl, rfl⟩
  rw [Hv.out]
  go_wp2_with fail
  refine (inRange_any _ _ _ _).mono ?_
  rintro e w' ⟨rfl, rfl⟩
  rw [Hin.out]
  have HS := hide ((OS.start2 w f (0) l false).alloc (.cells #[.int .i64 f, .int .i64 (0), .int .i64 l, .bool false] 25))
  obtain ⟨_, _, _, _, _, _, _, _⟩ := blk4 HS.out.x
  go_wp2_with fail
  go_loopw [5, 7, 8] (fun v hd i wr => ∃ (k : Nat) (hk : Int), k ≤ D ∧ i = .int .i64 k ∧ (k = 0 → hk = 0) ∧ (0 < k → hk = 1) ∧ hd = .int .i64 hk ∧ Hid (OS w wr v (0 + k) ([] ++ List.replicate k 1) f (0) l false)) (fun _ _ i _ => D - (intOf i).toNat)
  case atStart => exact ⟨0, 0, Nat.zero_le _, rfl, fun _ => rfl, fun h => absurd h (by omega), rfl, by simpa using HS⟩
  case round =>
    obtain ⟨k, hk, hkD, rfl, hk0, hk1, rfl, HL⟩ := hrel
    obtain ⟨_, _, _, _, _, _, _, _⟩ := blk4 HL.out.x
    have Hk := hide (And.intro hk0 hk1)
    clear hk0 hk1
    by_cases hlt : k < D
    · have hlt' : (k : Int) < (D : Int) := by omega
      go_wp2_with fail
      refine (distance_s (y - f) D _ (by omega) (by omega) HD.out).mono ?_
      rintro e w' ⟨rfl, rfl⟩
      go_wp2_with (first
        | (at_builtin; refine wpList_append_own _ rfl (.tmp 62) (.tmp 63) _ rfl w.heap.size 3 i0 (.int .i64 0) 1 8 Try.underlying32 hi0 iz0 iz1 iz2 rfl (by decide) _ _ _ rfl ((HL.out).ow.alloc _) _ 1 1 [.int .i64 (1)] rfl rfl (cell_one_at _ _ _ _ (by simp)) (by intro u hu; simp at hu; subst hu; rfl) (by unfold maxLen; omega) (by omega) (by have hsz := (HL.out).be.size; (try simp at hsz); (try simp); omega) ?_; intro vHL2 wHL2 hown hgrow _; have HL2 := hide (((HL.out).alloc (.cells #[.int .i64 (1)] 3)).app hown hgrow); clear hown hgrow; obtain ⟨_, _, _, _, _, _, _, _⟩ := blk4 HL2.out.x))
      go_roundw
      case rel => exact ⟨k + 1, 1, by omega, by go_num, fun h => absurd h (by omega), fun _ => rfl, rfl, by rw [List.replicate_succ', ← List.append_assoc, ← Nat.add_assoc]; exact HL2⟩
      case measure => simp [intOf]; omega
    · obtain rfl : k = D := by omega
      obtain rfl : hk = 1 := Hk.out.2 hD0
      go_wp2_with fail
      refine (distance_s (y - f) k _ (by omega) (by omega) HD.out).mono ?_
      rintro e w' ⟨rfl, rfl⟩
      go_wp2_with (first
        | (at_builtin; refine wpList_append_own _ rfl (.tmp 70) (.tmp 71) _ rfl w.heap.size 3 i0 (.int .i64 0) 1 8 Try.underlying32 hi0 iz0 iz1 iz2 rfl (by decide) _ _ _ rfl ((HL.out).ow.alloc _) _ 1 1 [.int .i64 (3)] rfl rfl (cell_one_at _ _ _ _ (by simp)) (by intro u hu; simp at hu; subst hu; rfl) (by unfold maxLen; omega) (by omega) (by have hsz := (HL.out).be.size; (try simp at hsz); (try simp); omega) ?_; intro vHL3 wHL3 hown hgrow _; have HL3 := hide (((HL.out).alloc (.cells #[.int .i64 (3)] 3)).app hown hgrow); clear hown hgrow; obtain ⟨_, _, _, _, _, _, _, _⟩ := blk4 HL3.out.x)
        | (at_builtin; refine wpList_append_own _ rfl (.tmp 73) (.tmp 74) _ rfl w.heap.size 3 i0 (.int .i64 0) 1 8 Try.underlying32 hi0 iz0 iz1 iz2 rfl (by decide) _ _ _ rfl ((HL3.out).ow.alloc _) _ 1 1 [.int .i64 (4)] rfl rfl (cell_one_at _ _ _ _ (by simp)) (by intro u hu; simp at hu; subst hu; rfl) (by unfold maxLen; omega) (by omega) (by have hsz := (HL3.out).be.size; (try simp at hsz); (try simp); omega) ?_; intro vHL4 wHL4 hown hgrow _; have HL4 := hide (((HL3.out).alloc (.cells #[.int .i64 (4)] 3)).app hown hgrow); clear hown hgrow; obtain ⟨_, _, _, _, _, _, _, _⟩ := blk4 HL4.out.x))
      obtain ⟨Ar, cr, rfl, hret⟩ := HL4.out.ret (ordersC f (0) false y) (by
        have hD := HD.out
        have e2 : ¬ f = y := by omega
        have e3 : ¬ y = f := by omega
        have e4 : f < y := by omega
        have e5 : 0 < y - f := by omega
        have e6 : ¬ y - f ≤ 0 := by omega
        have e7 : ¬ 0 < f - y := by omega
        have e8 : f - y ≤ 0 := by omega
        have e9 : f ≤ y := by omega
        have e10 : ¬ y ≤ f := by omega
        simp [ordersC, hD, e2, e3, e4, e5, e6, e7, e8, e9, e10]
        try omega)
      go_ret
      exact hret

set_option maxHeartbeats 2000000 in
theorem OrdersTo_s_zd (f l y : Int) (w : World) (f0 : 0 ≤ f) (f1 : f ≤ 15) (l0 : 0 ≤ l) (l1 : l < 5) (hy : y < f) (y0 : 0 ≤ y) :
    Calls Try.prog 26 #[.agg #[.int .i64 f, .int .i64 (0), .int .i64 l, .bool false], .int .i64 y] w (RetI w (ordersC f (0) false y)) := by
  have hv : vC f (0) l false = true := by rw [vC_iff]; refine ⟨⟨by omega, by omega⟩, ⟨by omega, by omega⟩, ⟨by omega, by omega⟩, ?_⟩; first | exact .inl rfl | exact .inr rfl
  have hl5 : (l == 5) = false := by simp; omega
  have hin : inB y 0 15 = true := inB_iff.2 ⟨by omega, by omega⟩
  have Hv := hide hv
  have Hin := hide hin
  clear hv hin
  obtain ⟨i0, hi0, iz0, iz1, iz2⟩ := info_parts int_info
  obtain ⟨D, hD⟩ : ∃ D, (y - f).natAbs = D := ⟨_, rfl⟩
  have HD := hide hD
  have hD0 : 0 < D := by omega
  have hD15 : D ≤ 15 := by omega
  have hfy : (f == y) = false := by simp; omega
  have hfy' : (f != y) = true := by simp; omega
  clear hD
  go_enter Try.func26, Try.ntmps26
  go_wp2_with fail
  refine (validCar_s _ _ _ _ _).mono ?_
  rintro e w' ⟨rfl, rfl⟩
  rw [Hv.out]
  go_wp2_with fail
  refine (inRange_any _ _ _ _).mono ?_
  rintro e w' ⟨rfl, rfl⟩
  rw [Hin.out]
  have HS := hide ((OS.start2 w f (0) l false).alloc (.cells #[.int .i64 f, .int .i64 (0), .int .i64 l, .bool false] 25))
  obtain ⟨_, _, _, _, _, _, _, _⟩ := blk4 HS.out.x
  go_wp2_with fail
  go_loopw [5, 7, 8] (fun v hd i wr => ∃ (k : Nat) (hk : Int), k ≤ D ∧ i = .int .i64 k ∧ (k = 0 → hk = 0) ∧ (0 < k → hk = 1) ∧ hd = .int .i64 hk ∧ Hid (OS w wr v (0 + k) ([] ++ List.replicate k 2) f (0) l false)) (fun _ _ i _ => D - (intOf i).toNat)
  case atStart => exact ⟨0, 0, Nat.zero_le _, rfl, fun _ => rfl, fun h => absurd h (by omega), rfl, by simpa using HS⟩
  case round =>
    obtain ⟨k, hk, hkD, rfl, hk0, hk1, rfl, HL⟩ := hrel
    obtain ⟨_, _, _, _, _, _, _, _⟩ := blk4 HL.out.x
    have Hk := hide (And.intro hk0 hk1)
    clear hk0 hk1
    by_cases hlt : k < D
    · have hlt' : (k : Int) < (D : Int) := by omega
      go_wp2_with fail
      refine (distance_s (y - f) D _ (by omega) (by omega) HD.out).mono ?_
      rintro e w' ⟨rfl, rfl⟩
      go_wp2_with (first
        | (at_builtin; refine wpList_append_own _ rfl (.tmp 65) (.tmp 66) _ rfl w.heap.size 3 i0 (.int .i64 0) 1 8 Try.underlying32 hi0 iz0 iz1 iz2 rfl (by decide) _ _ _ rfl ((HL.out).ow.alloc _) _ 1 1 [.int .i64 (2)] rfl rfl (cell_one_at _ _ _ _ (by simp)) (by intro u hu; simp at hu; subst hu; rfl) (by unfold maxLen; omega) (by omega) (by have hsz := (HL.out).be.size; (try simp at hsz); (try simp); omega) ?_; intro vHL2 wHL2 hown hgrow _; have HL2 := hide (((HL.out).alloc (.cells #[.int .i64 (2)] 3)).app hown hgrow); clear hown hgrow; obtain ⟨_, _, _, _, _, _, _, _⟩ := blk4 HL2.out.x))
      go_roundw
      case rel => exact ⟨k + 1, 1, by omega, by go_num, fun h => absurd h (by omega), fun _ => rfl, rfl, by rw [List.replicate_succ', ← List.append_assoc, ← Nat.add_assoc]; exact HL2⟩
      case measure => simp [intOf]; omega
    · obtain rfl : k = D := by omega
      obtain rfl : hk = 1 := Hk.out.2 hD0
      go_wp2_with fail
      refine (distance_s (y - f) k _ (by omega) (by omega) HD.out).mono ?_
      rintro e w' ⟨rfl, rfl⟩
      go_wp2_with (first
        | (at_builtin; refine wpList_append_own _ rfl (.tmp 70) (.tmp 71) _ rfl w.heap.size 3 i0 (.int .i64 0) 1 8 Try.underlying32 hi0 iz0 iz1 iz2 rfl (by decide) _ _ _ rfl ((HL.out).ow.alloc _) _ 1 1 [.int .i64 (3)] rfl rfl (cell_one_at _ _ _ _ (by simp)) (by intro u hu; simp at hu; subst hu; rfl) (by unfold maxLen; omega) (by omega) (by have hsz := (HL.out).be.size; (try simp at hsz); (try simp); omega) ?_; intro vHL3 wHL3 hown hgrow _; have HL3 := hide (((HL.out).alloc (.cells #[.int .i64 (3)] 3)).app hown hgrow); clear hown hgrow; obtain ⟨_, _, _, _, _, _, _, _⟩ := blk4 HL3.out.x)
        | (at_builtin; refine wpList_append_own _ rfl (.tmp 73) (.tmp 74) _ rfl w.heap.size 3 i0 (.int .i64 0) 1 8 Try.underlying32 hi0 iz0 iz1 iz2 rfl (by decide) _ _ _ rfl ((HL3.out).ow.alloc _) _ 1 1 [.int .i64 (4)] rfl rfl (cell_one_at _ _ _ _ (by simp)) (by intro u hu; simp at hu; subst hu; rfl) (by unfold maxLen; omega) (by omega) (by have hsz := (HL3.out).be.size; (try simp at hsz); (try simp); omega) ?_; intro vHL4 wHL4 hown hgrow _; have HL4 := hide (((HL3.out).alloc (.cells #[.int .i64 (4)] 3)).app hown hgrow); clear hown hgrow; obtain ⟨_, _, _, _, _, _, _, _⟩ := blk4 HL4.out.x))
      obtain ⟨Ar, cr, rfl, hret⟩ := HL4.out.ret (ordersC f (0) false y) (by
        have hD := HD.out
        have e2 : ¬ f = y := by omega
        have e3 : ¬ y = f := by omega
        have e4 : ¬ f < y := by omega
        have e5 : ¬ 0 < y - f := by omega
        have e6 : y - f ≤ 0 := by omega
        have e7 : 0 < f - y := by omega
        have e8 : ¬ f - y ≤ 0 := by omega
        have e9 : ¬ f ≤ y := by omega
        have e10 : y ≤ f := by omega
        simp [ordersC, hD, e2, e3, e4, e5, e6, e7, e8, e9, e10]
        try omega)
      go_ret
      exact hret

set_option maxHeartbeats 2000000 in
theorem OrdersTo_s_pe (f l : Int) (w : World) (f0 : 0 ≤ f) (f1 : f ≤ 15) (l0 : 0 ≤ l) (l1 : l < 5)  :
    Calls Try.prog 26 #[.agg #[.int .i64 f, .int .i64 (1), .int .i64 l, .bool false], .int .i64 f] w (RetI w (ordersC f (1) false f)) := by
  have hv : vC f (1) l false = true := by rw [vC_iff]; refine ⟨⟨by omega, by omega⟩, ⟨by omega, by omega⟩, ⟨by omega, by omega⟩, ?_⟩; first | exact .inl rfl | exact .inr rfl
  have hl5 : (l == 5) = false := by simp; omega
  have hin : inB f 0 15 = true := inB_iff.2 ⟨by omega, by omega⟩
  have Hv := hide hv
  have Hin := hide hin
  clear hv hin
  obtain ⟨i0, hi0, iz0, iz1, iz2⟩ := info_parts int_info
  go_enter Try.func26, Try.ntmps26
  go_wp2_with fail
  refine (validCar_s _ _ _ _ _).mono ?_
  rintro e w' ⟨rfl, rfl⟩
  rw [Hv.out]
  go_wp2_with fail
  refine (inRange_any _ _ _ _).mono ?_
  rintro e w' ⟨rfl, rfl⟩
  rw [Hin.out]
  have HS := hide ((OS.start2 w f (1) l false).alloc (.cells #[.int .i64 f, .int .i64 (1), .int .i64 l, .bool false] 25))
  obtain ⟨_, _, _, _, _, _, _, _⟩ := blk4 HS.out.x
  go_wp2_with (first
    | (at_builtin; refine wpList_append_own _ rfl (.tmp 51) (.tmp 52) _ rfl w.heap.size 3 i0 (.int .i64 0) 1 8 Try.underlying32 hi0 iz0 iz1 iz2 rfl (by decide) _ _ _ rfl ((HS.out).ow.alloc _) _ 1 1 [.int .i64 (3)] rfl rfl (cell_one_at _ _ _ _ (by simp)) (by intro u hu; simp at hu; subst hu; rfl) (by unfold maxLen; omega) (by omega) (by have hsz := (HS.out).be.size; (try simp at hsz); (try simp); omega) ?_; intro vHS2 wHS2 hown hgrow _; have HS2 := hide (((HS.out).alloc (.cells #[.int .i64 (3)] 3)).app hown hgrow); clear hown hgrow; obtain ⟨_, _, _, _, _, _, _, _⟩ := blk4 HS2.out.x))
  have HSp := hide HS2.out
  go_loopw [5, 7, 8] (fun v hd i wr => hd = .int .i64 0 ∧ i = .int .i64 0 ∧ Hid (OS w wr v 1 [3] f (1) l false)) (fun _ _ i _ => 0)
  case atStart => exact ⟨rfl, rfl, HSp⟩
  case round =>
    obtain ⟨rfl, rfl, HS5⟩ := hrel
    obtain ⟨_, _, _, _, _, _, _, _⟩ := blk4 HS5.out.x
    go_wp2_with fail
    refine (distance_s 0 0 _ (by omega) (by omega) rfl).mono ?_
    rintro e w' ⟨rfl, rfl⟩
    go_wp2_with (first
      | (at_builtin; refine wpList_append_own _ rfl (.tmp 73) (.tmp 74) _ rfl w.heap.size 3 i0 (.int .i64 0) 1 8 Try.underlying32 hi0 iz0 iz1 iz2 rfl (by decide) _ _ _ rfl ((HS5.out).ow.alloc _) _ 1 1 [.int .i64 (4)] rfl rfl (cell_one_at _ _ _ _ (by simp)) (by intro u hu; simp at hu; subst hu; rfl) (by unfold maxLen; omega) (by omega) (by have hsz := (HS5.out).be.size; (try simp at hsz); (try simp); omega) ?_; intro vHSz wHSz hown hgrow _; have HSz := hide (((HS5.out).alloc (.cells #[.int .i64 (4)] 3)).app hown hgrow); clear hown hgrow; obtain ⟨_, _, _, _, _, _, _, _⟩ := blk4 HSz.out.x))
    obtain ⟨Ar, cr, rfl, hret⟩ := HSz.out.ret (ordersC f (1) false f) (by simp [ordersC])
    go_ret
    exact hret

set_option maxHeartbeats 2000000 in
theorem OrdersTo_s_pu (f l y : Int) (w : World) (f0 : 0 ≤ f) (f1 : f ≤ 15) (l0 : 0 ≤ l) (l1 : l < 5) (hy : f < y) (y1 : y ≤ 15) :
    Calls Try.prog 26 #[.agg #[.int .i64 f, .int .i64 (1), .int .i64 l, .bool false], .int .i64 y] w (RetI w (ordersC f (1) false y)) := by
  have hv : vC f (1) l false = true := by rw [vC_iff]; refine ⟨⟨by omega, by omega⟩, ⟨by omega, by omega⟩, ⟨by omega, by omega⟩, ?_⟩; first | exact .inl rfl | exact .inr rfl
  have hl5 : (l == 5) = false := by simp; omega
  have hin : inB y 0 15 = true := inB_iff.2 ⟨by omega, by omega⟩
  have Hv := hide hv
  have Hin := hide hin
  clear hv hin
  obtain ⟨i0, hi0, iz0, iz1, iz2⟩ := info_parts int_info
  obtain ⟨D, hD⟩ : ∃ D, (y - f).natAbs = D := ⟨_, rfl⟩
  have HD := hide hD
  have hD0 : 0 < D := by omega
  have hD15 : D ≤ 15 := by omega
  have hfy : (f == y) = false := by simp; omega
  have hfy' : (f != y) = true := by simp; omega
  clear hD
  go_enter Try.func26, Try.ntmps26
  go_wp2_with fail
  refine (validCar_s _ _ _ _ _).mono ?_
  rintro e w' ⟨rfl, rfl⟩
  rw [Hv.out]
  go_wp2_with fail
  refine (inRange_any _ _ _ _).mono ?_
  rintro e w' ⟨rfl, rfl⟩
  rw [Hin.out]
  have HS := hide ((OS.start2 w f (1) l false).alloc (.cells #[.int .i64 f, .int .i64 (1), .int .i64 l, .bool false] 25))
  obtain ⟨_, _, _, _, _, _, _, _⟩ := blk4 HS.out.x
  go_wp2_with fail
  go_loopw [5, 7, 8] (fun v hd i wr => ∃ (k : Nat) (hk : Int), k ≤ D ∧ i = .int .i64 k ∧ (k = 0 → hk = 1) ∧ (0 < k → hk = 1) ∧ hd = .int .i64 hk ∧ Hid (OS w wr v (0 + k) ([] ++ List.replicate k 1) f (1) l false)) (fun _ _ i _ => D - (intOf i).toNat)
  case atStart => exact ⟨0, 1, Nat.zero_le _, rfl, fun _ => rfl, fun h => absurd h (by omega), rfl, by simpa using HS⟩
  case round =>
    obtain ⟨k, hk, hkD, rfl, hk0, hk1, rfl, HL⟩ := hrel
    obtain ⟨_, _, _, _, _, _, _, _⟩ := blk4 HL.out.x
    have Hk := hide (And.intro hk0 hk1)
    clear hk0 hk1
    by_cases hlt : k < D
    · have hlt' : (k : Int) < (D : Int) := by omega
      go_wp2_with fail
      refine (distance_s (y - f) D _ (by omega) (by omega) HD.out).mono ?_
      rintro e w' ⟨rfl, rfl⟩
      go_wp2_with (first
        | (at_builtin; refine wpList_append_own _ rfl (.tmp 62) (.tmp 63) _ rfl w.heap.size 3 i0 (.int .i64 0) 1 8 Try.underlying32 hi0 iz0 iz1 iz2 rfl (by decide) _ _ _ rfl ((HL.out).ow.alloc _) _ 1 1 [.int .i64 (1)] rfl rfl (cell_one_at _ _ _ _ (by simp)) (by intro u hu; simp at hu; subst hu; rfl) (by unfold maxLen; omega) (by omega) (by have hsz := (HL.out).be.size; (try simp at hsz); (try simp); omega) ?_; intro vHL2 wHL2 hown hgrow _; have HL2 := hide (((HL.out).alloc (.cells #[.int .i64 (1)] 3)).app hown hgrow); clear hown hgrow; obtain ⟨_, _, _, _, _, _, _, _⟩ := blk4 HL2.out.x))
      go_roundw
      case rel => exact ⟨k + 1, 1, by omega, by go_num, fun h => absurd h (by omega), fun _ => rfl, rfl, by rw [List.replicate_succ', ← List.append_assoc, ← Nat.add_assoc]; exact HL2⟩
      case measure => simp [intOf]; omega
    · obtain rfl : k = D := by omega
      obtain rfl : hk = 1 := Hk.out.2 hD0
      go_wp2_with fail
      refine (distance_s (y - f) k _ (by omega) (by omega) HD.out).mono ?_
      rintro e w' ⟨rfl, rfl⟩
      go_wp2_with (first
        | (at_builtin; refine wpList_append_own _ rfl (.tmp 70) (.tmp 71) _ rfl w.heap.size 3 i0 (.int .i64 0) 1 8 Try.underlying32 hi0 iz0 iz1 iz2 rfl (by decide) _ _ _ rfl ((HL.out).ow.alloc _) _ 1 1 [.int .i64 (3)] rfl rfl (cell_one_at _ _ _ _ (by simp)) (by intro u hu; simp at hu; subst hu; rfl) (by unfold maxLen; omega) (by omega) (by have hsz := (HL.out).be.size; (try simp at hsz); (try simp); omega) ?_; intro vHL3 wHL3 hown hgrow _; have HL3 := hide (((HL.out).alloc (.cells #[.int .i64 (3)] 3)).app hown hgrow); clear hown hgrow; obtain ⟨_, _, _, _, _, _, _, _⟩ := blk4 HL3.out.x)
        | (at_builtin; refine wpList_append_own _ rfl (.tmp 73) (.tmp 74) _ rfl w.heap.size 3 i0 (.int .i64 0) 1 8 Try.underlying32 hi0 iz0 iz1 iz2 rfl (by decide) _ _ _ rfl ((HL3.out).ow.alloc _) _ 1 1 [.int .i64 (4)] rfl rfl (cell_one_at _ _ _ _ (by simp)) (by intro u hu; simp at hu; subst hu; rfl) (by unfold maxLen; omega) (by omega) (by have hsz := (HL3.out).be.size; (try simp at hsz); (try simp); omega) ?_; intro vHL4 wHL4 hown hgrow _; have HL4 := hide (((HL3.out).alloc (.cells #[.int .i64 (4)] 3)).app hown hgrow); clear hown hgrow; obtain ⟨_, _, _, _, _, _, _, _⟩ := blk4 HL4.out.x))
      obtain ⟨Ar, cr, rfl, hret⟩ := HL4.out.ret (ordersC f (1) false y) (by
        have hD := HD.out
        have e2 : ¬ f = y := by omega
        have e3 : ¬ y = f := by omega
        have e4 : f < y := by omega
        have e5 : 0 < y - f := by omega
        have e6 : ¬ y - f ≤ 0 := by omega
        have e7 : ¬ 0 < f - y := by omega
        have e8 : f - y ≤ 0 := by omega
        have e9 : f ≤ y := by omega
        have e10 : ¬ y ≤ f := by omega
        simp [ordersC, hD, e2, e3, e4, e5, e6, e7, e8, e9, e10]
        try omega)
      go_ret
      exact hret

set_option maxHeartbeats 2000000 in
theorem OrdersTo_s_pd (f l y : Int) (w : World) (f0 : 0 ≤ f) (f1 : f ≤ 15) (l0 : 0 ≤ l) (l1 : l < 5) (hy : y < f) (y0 : 0 ≤ y) :
    Calls Try.prog 26 #[.agg #[.int .i64 f, .int .i64 (1), .int .i64 l, .bool false], .int .i64 y] w (RetI w (ordersC f (1) false y)) := by
  have hv : vC f (1) l false = true := by rw [vC_iff]; refine ⟨⟨by omega, by omega⟩, ⟨by omega, by omega⟩, ⟨by omega, by omega⟩, ?_⟩; first | exact .inl rfl | exact .inr rfl
  have hl5 : (l == 5) = false := by simp; omega
  have hin : inB y 0 15 = true := inB_iff.2 ⟨by omega, by omega⟩
  have Hv := hide hv
  have Hin := hide hin
  clear hv hin
  obtain ⟨i0, hi0, iz0, iz1, iz2⟩ := info_parts int_info
  obtain ⟨D, hD⟩ : ∃ D, (y - f).natAbs = D := ⟨_, rfl⟩
  have HD := hide hD
  have hD0 : 0 < D := by omega
  have hD15 : D ≤ 15 := by omega
  have hfy : (f == y) = false := by simp; omega
  have hfy' : (f != y) = true := by simp; omega
  clear hD
  go_enter Try.func26, Try.ntmps26
  go_wp2_with fail
  refine (validCar_s _ _ _ _ _).mono ?_
  rintro e w' ⟨rfl, rfl⟩
  rw [Hv.out]
  go_wp2_with fail
  refine (inRange_any _ _ _ _).mono ?_
  rintro e w' ⟨rfl, rfl⟩
  rw [Hin.out]
  have HS := hide ((OS.start2 w f (1) l false).alloc (.cells #[.int .i64 f, .int .i64 (1), .int .i64 l, .bool false] 25))
  obtain ⟨_, _, _, _, _, _, _, _⟩ := blk4 HS.out.x
  go_wp2_with (first
    | (at_builtin; refine wpList_append_own _ rfl (.tmp 51) (.tmp 52) _ rfl w.heap.size 3 i0 (.int .i64 0) 1 8 Try.underlying32 hi0 iz0 iz1 iz2 rfl (by decide) _ _ _ rfl ((HS.out).ow.alloc _) _ 1 1 [.int .i64 (3)] rfl rfl (cell_one_at _ _ _ _ (by simp)) (by intro u hu; simp at hu; subst hu; rfl) (by unfold maxLen; omega) (by omega) (by have hsz := (HS.out).be.size; (try simp at hsz); (try simp); omega) ?_; intro vHS2 wHS2 hown hgrow _; have HS2 := hide (((HS.out).alloc (.cells #[.int .i64 (3)] 3)).app hown hgrow); clear hown hgrow; obtain ⟨_, _, _, _, _, _, _, _⟩ := blk4 HS2.out.x))
  have HSp := hide HS2.out
  go_loopw [5, 7, 8] (fun v hd i wr => ∃ (k : Nat) (hk : Int), k ≤ D ∧ i = .int .i64 k ∧ (k = 0 → hk = 0) ∧ (0 < k → hk = 1) ∧ hd = .int .i64 hk ∧ Hid (OS w wr v (1 + k) ([3] ++ List.replicate k 2) f (1) l false)) (fun _ _ i _ => D - (intOf i).toNat)
  case atStart => exact ⟨0, 0, Nat.zero_le _, rfl, fun _ => rfl, fun h => absurd h (by omega), rfl, by simpa using HSp⟩
  case round =>
    obtain ⟨k, hk, hkD, rfl, hk0, hk1, rfl, HL⟩ := hrel
    obtain ⟨_, _, _, _, _, _, _, _⟩ := blk4 HL.out.x
    have Hk := hide (And.intro hk0 hk1)
    clear hk0 hk1
    by_cases hlt : k < D
    · have hlt' : (k : Int) < (D : Int) := by omega
      go_wp2_with fail
      refine (distance_s (y - f) D _ (by omega) (by omega) HD.out).mono ?_
      rintro e w' ⟨rfl, rfl⟩
      go_wp2_with (first
        | (at_builtin; refine wpList_append_own _ rfl (.tmp 65) (.tmp 66) _ rfl w.heap.size 3 i0 (.int .i64 0) 1 8 Try.underlying32 hi0 iz0 iz1 iz2 rfl (by decide) _ _ _ rfl ((HL.out).ow.alloc _) _ 1 1 [.int .i64 (2)] rfl rfl (cell_one_at _ _ _ _ (by simp)) (by intro u hu; simp at hu; subst hu; rfl) (by unfold maxLen; omega) (by omega) (by have hsz := (HL.out).be.size; (try simp at hsz); (try simp); omega) ?_; intro vHL2 wHL2 hown hgrow _; have HL2 := hide (((HL.out).alloc (.cells #[.int .i64 (2)] 3)).app hown hgrow); clear hown hgrow; obtain ⟨_, _, _, _, _, _, _, _⟩ := blk4 HL2.out.x))
      go_roundw
      case rel => exact ⟨k + 1, 1, by omega, by go_num, fun h => absurd h (by omega), fun _ => rfl, rfl, by rw [List.replicate_succ', ← List.append_assoc, ← Nat.add_assoc]; exact HL2⟩
      case measure => simp [intOf]; omega
    · obtain rfl : k = D := by omega
      obtain rfl : hk = 1 := Hk.out.2 hD0
      go_wp2_with fail
      refine (distance_s (y - f) k _ (by omega) (by omega) HD.out).mono ?_
      rintro e w' ⟨rfl, rfl⟩
      go_wp2_with (first
        | (at_builtin; refine wpList_append_own _ rfl (.tmp 70) (.tmp 71) _ rfl w.heap.size 3 i0 (.int .i64 0) 1 8 Try.underlying32 hi0 iz0 iz1 iz2 rfl (by decide) _ _ _ rfl ((HL.out).ow.alloc _) _ 1 1 [.int .i64 (3)] rfl rfl (cell_one_at _ _ _ _ (by simp)) (by intro u hu; simp at hu; subst hu; rfl) (by unfold maxLen; omega) (by omega) (by have hsz := (HL.out).be.size; (try simp at hsz); (try simp); omega) ?_; intro vHL3 wHL3 hown hgrow _; have HL3 := hide (((HL.out).alloc (.cells #[.int .i64 (3)] 3)).app hown hgrow); clear hown hgrow; obtain ⟨_, _, _, _, _, _, _, _⟩ := blk4 HL3.out.x)
        | (at_builtin; refine wpList_append_own _ rfl (.tmp 73) (.tmp 74) _ rfl w.heap.size 3 i0 (.int .i64 0) 1 8 Try.underlying32 hi0 iz0 iz1 iz2 rfl (by decide) _ _ _ rfl ((HL3.out).ow.alloc _) _ 1 1 [.int .i64 (4)] rfl rfl (cell_one_at _ _ _ _ (by simp)) (by intro u hu; simp at hu; subst hu; rfl) (by unfold maxLen; omega) (by omega) (by have hsz := (HL3.out).be.size; (try simp at hsz); (try simp); omega) ?_; intro vHL4 wHL4 hown hgrow _; have HL4 := hide (((HL3.out).alloc (.cells #[.int .i64 (4)] 3)).app hown hgrow); clear hown hgrow; obtain ⟨_, _, _, _, _, _, _, _⟩ := blk4 HL4.out.x))
      obtain ⟨Ar, cr, rfl, hret⟩ := HL4.out.ret (ordersC f (1) false y) (by
        have hD := HD.out
        have e2 : ¬ f = y := by omega
        have e3 : ¬ y = f := by omega
        have e4 : ¬ f < y := by omega
        have e5 : ¬ 0 < y - f := by omega
        have e6 : y - f ≤ 0 := by omega
        have e7 : 0 < f - y := by omega
        have e8 : ¬ f - y ≤ 0 := by omega
        have e9 : ¬ f ≤ y := by omega
        have e10 : y ≤ f := by omega
        simp [ordersC, hD, e2, e3, e4, e5, e6, e7, e8, e9, e10]
        try omega)
      go_ret
      exact hret

set_option maxHeartbeats 2000000 in
theorem OrdersTo_s_me (f l : Int) (w : World) (f0 : 0 ≤ f) (f1 : f ≤ 15) (l0 : 0 ≤ l) (l1 : l < 5)  :
    Calls Try.prog 26 #[.agg #[.int .i64 f, .int .i64 (-1), .int .i64 l, .bool false], .int .i64 f] w (RetI w (ordersC f (-1) false f)) := by
  have hv : vC f (-1) l false = true := by rw [vC_iff]; refine ⟨⟨by omega, by omega⟩, ⟨by omega, by omega⟩, ⟨by omega, by omega⟩, ?_⟩; first | exact .inl rfl | exact .inr rfl
  have hl5 : (l == 5) = false := by simp; omega
  have hin : inB f 0 15 = true := inB_iff.2 ⟨by omega, by omega⟩
  have Hv := hide hv
  have Hin := hide hin
  clear hv hin
  obtain ⟨i0, hi0, iz0, iz1, iz2⟩ := info_parts int_info
  go_enter Try.func26, Try.ntmps26
  go_wp2_with fail
  refine (validCar_s _ _ _ _ _).mono ?_
  rintro e w' ⟨rfl, rfl⟩
  rw [Hv.out]
  go_wp2_with fail
  refine (inRange_any _ _ _ _).mono ?_
  rintro e w' ⟨rfl, rfl⟩
  rw [Hin.out]
  have HS := hide ((OS.start2 w f (-1) l false).alloc (.cells #[.int .i64 f, .int .i64 (-1), .int .i64 l, .bool false] 25))
  obtain ⟨_, _, _, _, _, _, _, _⟩ := blk4 HS.out.x
  go_wp2_with (first
    | (at_builtin; refine wpList_append_own _ rfl (.tmp 51) (.tmp 52) _ rfl w.heap.size 3 i0 (.int .i64 0) 1 8 Try.underlying32 hi0 iz0 iz1 iz2 rfl (by decide) _ _ _ rfl ((HS.out).ow.alloc _) _ 1 1 [.int .i64 (3)] rfl rfl (cell_one_at _ _ _ _ (by simp)) (by intro u hu; simp at hu; subst hu; rfl) (by unfold maxLen; omega) (by omega) (by have hsz := (HS.out).be.size; (try simp at hsz); (try simp); omega) ?_; intro vHS2 wHS2 hown hgrow _; have HS2 := hide (((HS.out).alloc (.cells #[.int .i64 (3)] 3)).app hown hgrow); clear hown hgrow; obtain ⟨_, _, _, _, _, _, _, _⟩ := blk4 HS2.out.x))
  have HSp := hide HS2.out
  go_loopw [5, 7, 8] (fun v hd i wr => hd = .int .i64 0 ∧ i = .int .i64 0 ∧ Hid (OS w wr v 1 [3] f (-1) l false)) (fun _ _ i _ => 0)
  case atStart => exact ⟨rfl, rfl, HSp⟩
  case round =>
    obtain ⟨rfl, rfl, HS5⟩ := hrel
    obtain ⟨_, _, _, _, _, _, _, _⟩ := blk4 HS5.out.x
    go_wp2_with fail
    refine (distance_s 0 0 _ (by omega) (by omega) rfl).mono ?_
    rintro e w' ⟨rfl, rfl⟩
    go_wp2_with (first
      | (at_builtin; refine wpList_append_own _ rfl (.tmp 73) (.tmp 74) _ rfl w.heap.size 3 i0 (.int .i64 0) 1 8 Try.underlying32 hi0 iz0 iz1 iz2 rfl (by decide) _ _ _ rfl ((HS5.out).ow.alloc _) _ 1 1 [.int .i64 (4)] rfl rfl (cell_one_at _ _ _ _ (by simp)) (by intro u hu; simp at hu; subst hu; rfl) (by unfold maxLen; omega) (by omega) (by have hsz := (HS5.out).be.size; (try simp at hsz); (try simp); omega) ?_; intro vHSz wHSz hown hgrow _; have HSz := hide (((HS5.out).alloc (.cells #[.int .i64 (4)] 3)).app hown hgrow); clear hown hgrow; obtain ⟨_, _, _, _, _, _, _, _⟩ := blk4 HSz.out.x))
    obtain ⟨Ar, cr, rfl, hret⟩ := HSz.out.ret (ordersC f (-1) false f) (by simp [ordersC])
    go_ret
    exact hret

set_option maxHeartbeats 2000000 in
theorem OrdersTo_s_mu (f l y : Int) (w : World) (f0 : 0 ≤ f) (f1 : f ≤ 15) (l0 : 0 ≤ l) (l1 : l < 5) (hy : f < y) (y1 : y ≤ 15) :
    Calls Try.prog 26 #[.agg #[.int .i64 f, .int .i64 (-1), .int .i64 l, .bool false], .int .i64 y] w (RetI w (ordersC f (-1) false y)) := by
  have hv : vC f (-1) l false = true := by rw [vC_iff]; refine ⟨⟨by omega, by omega⟩, ⟨by omega, by omega⟩, ⟨by omega, by omega⟩, ?_⟩; first | exact .inl rfl | exact .inr rfl
  have hl5 : (l == 5) = false := by simp; omega
  have hin : inB y 0 15 = true := inB_iff.2 ⟨by omega, by omega⟩
  have Hv := hide hv
  have Hin := hide hin
  clear hv hin
  obtain ⟨i0, hi0, iz0, iz1, iz2⟩ := info_parts int_info
  obtain ⟨D, hD⟩ : ∃ D, (y - f).natAbs = D := ⟨_, rfl⟩
  have HD := hide hD
  have hD0 : 0 < D := by omega
  have hD15 : D ≤ 15 := by omega
  have hfy : (f == y) = false := by simp; omega
  have hfy' : (f != y) = true := by simp; omega
  clear hD
  go_enter Try.func26, Try.ntmps26
  go_wp2_with fail
  refine (validCar_s _ _ _ _ _).mono ?_
  rintro e w' ⟨rfl, rfl⟩
  rw [Hv.out]
  go_wp2_with fail
  refine (inRange_any _ _ _ _).mono ?_
  rintro e w' ⟨rfl, rfl⟩
  rw [Hin.out]
  have HS := hide ((OS.start2 w f (-1) l false).alloc (.cells #[.int .i64 f, .int .i64 (-1), .int .i64 l, .bool false] 25))
  obtain ⟨_, _, _, _, _, _, _, _⟩ := blk4 HS.out.x
  go_wp2_with (first
    | (at_builtin; refine wpList_append_own _ rfl (.tmp 51) (.tmp 52) _ rfl w.heap.size 3 i0 (.int .i64 0) 1 8 Try.underlying32 hi0 iz0 iz1 iz2 rfl (by decide) _ _ _ rfl ((HS.out).ow.alloc _) _ 1 1 [.int .i64 (3)] rfl rfl (cell_one_at _ _ _ _ (by simp)) (by intro u hu; simp at hu; subst hu; rfl) (by unfold maxLen; omega) (by omega) (by have hsz := (HS.out).be.size; (try simp at hsz); (try simp); omega) ?_; intro vHS2 wHS2 hown hgrow _; have HS2 := hide (((HS.out).alloc (.cells #[.int .i64 (3)] 3)).app hown hgrow); clear hown hgrow; obtain ⟨_, _, _, _, _, _, _, _⟩ := blk4 HS2.out.x))
  have HSp := hide HS2.out
  go_loopw [5, 7, 8] (fun v hd i wr => ∃ (k : Nat) (hk : Int), k ≤ D ∧ i = .int .i64 k ∧ (k = 0 → hk = 0) ∧ (0 < k → hk = 1) ∧ hd = .int .i64 hk ∧ Hid (OS w wr v (1 + k) ([3] ++ List.replicate k 1) f (-1) l false)) (fun _ _ i _ => D - (intOf i).toNat)
  case atStart => exact ⟨0, 0, Nat.zero_le _, rfl, fun _ => rfl, fun h => absurd h (by omega), rfl, by simpa using HSp⟩
  case round =>
    obtain ⟨k, hk, hkD, rfl, hk0, hk1, rfl, HL⟩ := hrel
    obtain ⟨_, _, _, _, _, _, _, _⟩ := blk4 HL.out.x
    have Hk := hide (And.intro hk0 hk1)
    clear hk0 hk1
    by_cases hlt : k < D
    · have hlt' : (k : Int) < (D : Int) := by omega
      go_wp2_with fail
      refine (distance_s (y - f) D _ (by omega) (by omega) HD.out).mono ?_
      rintro e w' ⟨rfl, rfl⟩
      go_wp2_with (first
        | (at_builtin; refine wpList_append_own _ rfl (.tmp 62) (.tmp 63) _ rfl w.heap.size 3 i0 (.int .i64 0) 1 8 Try.underlying32 hi0 iz0 iz1 iz2 rfl (by decide) _ _ _ rfl ((HL.out).ow.alloc _) _ 1 1 [.int .i64 (1)] rfl rfl (cell_one_at _ _ _ _ (by simp)) (by intro u hu; simp at hu; subst hu; rfl) (by unfold maxLen; omega) (by omega) (by have hsz := (HL.out).be.size; (try simp at hsz); (try simp); omega) ?_; intro vHL2 wHL2 hown hgrow _; have HL2 := hide (((HL.out).alloc (.cells #[.int .i64 (1)] 3)).app hown hgrow); clear hown hgrow; obtain ⟨_, _, _, _, _, _, _, _⟩ := blk4 HL2.out.x))
      go_roundw
      case rel => exact ⟨k + 1, 1, by omega, by go_num, fun h => absurd h (by omega), fun _ => rfl, rfl, by rw [List.replicate_succ', ← List.append_assoc, ← Nat.add_assoc]; exact HL2⟩
      case measure => simp [intOf]; omega
    · obtain rfl : k = D := by omega
      obtain rfl : hk = 1 := Hk.out.2 hD0
      go_wp2_with fail
      refine (distance_s (y - f) k _ (by omega) (by omega) HD.out).mono ?_
      rintro e w' ⟨rfl, rfl⟩
      go_wp2_with (first
        | (at_builtin; refine wpList_append_own _ rfl (.tmp 70) (.tmp 71) _ rfl w.heap.size 3 i0 (.int .i64 0) 1 8 Try.underlying32 hi0 iz0 iz1 iz2 rfl (by decide) _ _ _ rfl ((HL.out).ow.alloc _) _ 1 1 [.int .i64 (3)] rfl rfl (cell_one_at _ _ _ _ (by simp)) (by intro u hu; simp at hu; subst hu; rfl) (by unfold maxLen; omega) (by omega) (by have hsz := (HL.out).be.size; (try simp at hsz); (try simp); omega) ?_; intro vHL3 wHL3 hown hgrow _; have HL3 := hide (((HL.out).alloc (.cells #[.int .i64 (3)] 3)).app hown hgrow); clear hown hgrow; obtain ⟨_, _, _, _, _, _, _, _⟩ := blk4 HL3.out.x)
        | (at_builtin; refine wpList_append_own _ rfl (.tmp 73) (.tmp 74) _ rfl w.heap.size 3 i0 (.int .i64 0) 1 8 Try.underlying32 hi0 iz0 iz1 iz2 rfl (by decide) _ _ _ rfl ((HL3.out).ow.alloc _) _ 1 1 [.int .i64 (4)] rfl rfl (cell_one_at _ _ _ _ (by simp)) (by intro u hu; simp at hu; subst hu; rfl) (by unfold maxLen; omega) (by omega) (by have hsz := (HL3.out).be.size; (try simp at hsz); (try simp); omega) ?_; intro vHL4 wHL4 hown hgrow _; have HL4 := hide (((HL3.out).alloc (.cells #[.int .i64 (4)] 3)).app hown hgrow); clear hown hgrow; obtain ⟨_, _, _, _, _, _, _, _⟩ := blk4 HL4.out.x))
      obtain ⟨Ar, cr, rfl, hret⟩ := HL4.out.ret (ordersC f (-1) false y) (by
        have hD := HD.out
        have e2 : ¬ f = y := by omega
        have e3 : ¬ y = f := by omega
        have e4 : f < y := by omega
        have e5 : 0 < y - f := by omega
        have e6 : ¬ y - f ≤ 0 := by omega
        have e7 : ¬ 0 < f - y := by omega
        have e8 : f - y ≤ 0 := by omega
        have e9 : f ≤ y := by omega
        have e10 : ¬ y ≤ f := by omega
        simp [ordersC, hD, e2, e3, e4, e5, e6, e7, e8, e9, e10]
        try omega)
      go_ret
      exact hret

set_option maxHeartbeats 2000000 in
theorem OrdersTo_s_md (f l y : Int) (w : World) (f0 : 0 ≤ f) (f1 : f ≤ 15) (l0 : 0 ≤ l) (l1 : l < 5) (hy : y < f) (y0 : 0 ≤ y) :
    Calls Try.prog 26 #[.agg #[.int .i64 f, .int .i64 (-1), .int .i64 l, .bool false], .int .i64 y] w (RetI w (ordersC f (-1) false y)) := by
  have hv : vC f (-1) l false = true := by rw [vC_iff]; refine ⟨⟨by omega, by omega⟩, ⟨by omega, by omega⟩, ⟨by omega, by omega⟩, ?_⟩; first | exact .inl rfl | exact .inr rfl
  have hl5 : (l == 5) = false := by simp; omega
  have hin : inB y 0 15 = true := inB_iff.2 ⟨by omega, by omega⟩
  have Hv := hide hv
  have Hin := hide hin
  clear hv hin
  obtain ⟨i0, hi0, iz0, iz1, iz2⟩ := info_parts int_info
  obtain ⟨D, hD⟩ : ∃ D, (y - f).natAbs = D := ⟨_, rfl⟩
  have HD := hide hD
  have hD0 : 0 < D := by omega
  have hD15 : D ≤ 15 := by omega
  have hfy : (f == y) = false := by simp; omega
  have hfy' : (f != y) = true := by simp; omega
  clear hD
  go_enter Try.func26, Try.ntmps26
  go_wp2_with fail
  refine (validCar_s _ _ _ _ _).mono ?_
  rintro e w' ⟨rfl, rfl⟩
  rw [Hv.out]
  go_wp2_with fail
  refine (inRange_any _ _ _ _).mono ?_
  rintro e w' ⟨rfl, rfl⟩
  rw [Hin.out]
  have HS := hide ((OS.start2 w f (-1) l false).alloc (.cells #[.int .i64 f, .int .i64 (-1), .int .i64 l, .bool false] 25))
  obtain ⟨_, _, _, _, _, _, _, _⟩ := blk4 HS.out.x
  go_wp2_with fail
  go_loopw [5, 7, 8] (fun v hd i wr => ∃ (k : Nat) (hk : Int), k ≤ D ∧ i = .int .i64 k ∧ (k = 0 → hk = -1) ∧ (0 < k → hk = 1) ∧ hd = .int .i64 hk ∧ Hid (OS w wr v (0 + k) ([] ++ List.replicate k 2) f (-1) l false)) (fun _ _ i _ => D - (intOf i).toNat)
  case atStart => exact ⟨0, -1, Nat.zero_le _, rfl, fun _ => rfl, fun h => absurd h (by omega), rfl, by simpa using HS⟩
  case round =>
    obtain ⟨k, hk, hkD, rfl, hk0, hk1, rfl, HL⟩ := hrel
    obtain ⟨_, _, _, _, _, _, _, _⟩ := blk4 HL.out.x
    have Hk := hide (And.intro hk0 hk1)
    clear hk0 hk1
    by_cases hlt : k < D
    · have hlt' : (k : Int) < (D : Int) := by omega
      go_wp2_with fail
      refine (distance_s (y - f) D _ (by omega) (by omega) HD.out).mono ?_
      rintro e w' ⟨rfl, rfl⟩
      go_wp2_with (first
        | (at_builtin; refine wpList_append_own _ rfl (.tmp 65) (.tmp 66) _ rfl w.heap.size 3 i0 (.int .i64 0) 1 8 Try.underlying32 hi0 iz0 iz1 iz2 rfl (by decide) _ _ _ rfl ((HL.out).ow.alloc _) _ 1 1 [.int .i64 (2)] rfl rfl (cell_one_at _ _ _ _ (by simp)) (by intro u hu; simp at hu; subst hu; rfl) (by unfold maxLen; omega) (by omega) (by have hsz := (HL.out).be.size; (try simp at hsz); (try simp); omega) ?_; intro vHL2 wHL2 hown hgrow _; have HL2 := hide (((HL.out).alloc (.cells #[.int .i64 (2)] 3)).app hown hgrow); clear hown hgrow; obtain ⟨_, _, _, _, _, _, _, _⟩ := blk4 HL2.out.x))
      go_roundw
      case rel => exact ⟨k + 1, 1, by omega, by go_num, fun h => absurd h (by omega), fun _ => rfl, rfl, by rw [List.replicate_succ', ← List.append_assoc, ← Nat.add_assoc]; exact HL2⟩
      case measure => simp [intOf]; omega
    · obtain rfl : k = D := by omega
      obtain rfl : hk = 1 := Hk.out.2 hD0
      go_wp2_with fail
      refine (distance_s (y - f) k _ (by omega) (by omega) HD.out).mono ?_
      rintro e w' ⟨rfl, rfl⟩
      go_wp2_with (first
        | (at_builtin; refine wpList_append_own _ rfl (.tmp 70) (.tmp 71) _ rfl w.heap.size 3 i0 (.int .i64 0) 1 8 Try.underlying32 hi0 iz0 iz1 iz2 rfl (by decide) _ _ _ rfl ((HL.out).ow.alloc _) _ 1 1 [.int .i64 (3)] rfl rfl (cell_one_at _ _ _ _ (by simp)) (by intro u hu; simp at hu; subst hu; rfl) (by unfold maxLen; omega) (by omega) (by have hsz := (HL.out).be.size; (try simp at hsz); (try simp); omega) ?_; intro vHL3 wHL3 hown hgrow _; have HL3 := hide (((HL.out).alloc (.cells #[.int .i64 (3)] 3)).app hown hgrow); clear hown hgrow; obtain ⟨_, _, _, _, _, _, _, _⟩ := blk4 HL3.out.x)
        | (at_builtin; refine wpList_append_own _ rfl (.tmp 73) (.tmp 74) _ rfl w.heap.size 3 i0 (.int .i64 0) 1 8 Try.underlying32 hi0 iz0 iz1 iz2 rfl (by decide) _ _ _ rfl ((HL3.out).ow.alloc _) _ 1 1 [.int .i64 (4)] rfl rfl (cell_one_at _ _ _ _ (by simp)) (by intro u hu; simp at hu; subst hu; rfl) (by unfold maxLen; omega) (by omega) (by have hsz := (HL3.out).be.size; (try simp at hsz); (try simp); omega) ?_; intro vHL4 wHL4 hown hgrow _; have HL4 := hide (((HL3.out).alloc (.cells #[.int .i64 (4)] 3)).app hown hgrow); clear hown hgrow; obtain ⟨_, _, _, _, _, _, _, _⟩ := blk4 HL4.out.x))
      obtain ⟨Ar, cr, rfl, hret⟩ := HL4.out.ret (ordersC f (-1) false y) (by
        have hD := HD.out
        have e2 : ¬ f = y := by omega
        have e3 : ¬ y = f := by omega
        have e4 : ¬ f < y := by omega
        have e5 : ¬ 0 < y - f := by omega
        have e6 : y - f ≤ 0 := by omega
        have e7 : 0 < f - y := by omega
        have e8 : ¬ f - y ≤ 0 := by omega
        have e9 : ¬ f ≤ y := by omega
        have e10 : y ≤ f := by omega
        simp [ordersC, hD, e2, e3, e4, e5, e6, e7, e8, e9, e10]
        try omega)
      go_ret
      exact hret

end Go.Proofs.Ytongbeecogjdlaa
