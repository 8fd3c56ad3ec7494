/-
  The orders that bring a car to a floor: both functions.
-/
import Derived.Test.YtongbeecogjdlaaRunCar
import Derived.Test.YtongbeecogjdlaaDs
namespace Go.Proofs.Ytongbeecogjdlaa
open Go.RowKit
set_option linter.unusedSimpArgs false
set_option linter.unusedVariables false

set_option maxHeartbeats 400000 in
theorem distance_i (a b : Int) (D : Nat) (w : World) (a0 : 0 ≤ a) (a1 : a ≤ 15) (b0 : 0 ≤ b) (b1 : b ≤ 15) (hD : (a - b).natAbs = D) :
    Calls Try.prog 43 #[.int .i64 a, .int .i64 b] w fun e w' => e = .returned (.int .i64 (D : Int)) ∧ w = w' := by
  have HD := hide hD
  clear hD
  rcases Int.lt_or_le a b with h | h
  all_goals
    go_enter Try.func43, Try.ntmps43
    go_wp2
    all_goals
      go_ret
      refine ⟨ret_int ?_, rfl⟩
      have hD := HD.out
      go_light
      first | omega | (simp at *; omega)
set_option maxHeartbeats 400000 in
theorem distance_s (a : Int) (D : Nat) (w : World) (a0 : -15 ≤ a) (a1 : a ≤ 15) (hD : a.natAbs = D) :
    Calls Try.prog 42 #[.int .i64 a] w fun e w' => e = .returned (.int .i64 (D : Int)) ∧ w = w' := by
  have HD := hide hD
  clear hD
  go_enter Try.func42, Try.ntmps42
  go_wp2
  all_goals
    go_ret
    refine ⟨ret_int ?_, rfl⟩
    have hD := HD.out
    go_light
    first | omega | (simp at *; omega)

structure OS (w wr : World) (v : Value) (n : Nat) (zs : List Int) (f h l : Int) (o : Bool) : Prop where
  ow : wr.ownsRow w.heap.size 3 1 v n (zs.map (Value.int .i64))
  x : Blk wr w.heap.size 25 #[.int .i64 f, .int .i64 h, .int .i64 l, .bool o]
  be : Below w.heap.size w wr
section
variable {w wr w' : World} {v : Value} {n : Nat} {zs : List Int} {f h l : Int} {o : Bool}
theorem OS.alloc (s : OS w wr v n zs f h l o) (b : Obj) : OS w (wr.alloc b) v n zs f h l o := ⟨s.ow.alloc b, s.x.alloc b, s.be.alloc s.be.size b⟩
theorem OS.app (s : OS w wr v n zs f h l o) {v' : Value} {z : Int} (ho : w'.ownsRow w.heap.size 3 1 v' (n + 1) (zs.map (Value.int .i64) ++ [.int .i64 z])) (hg : wr.grownBy w' v.ownBlock) : OS w w' v' (n + 1) (zs ++ [z]) f h l o :=
  ⟨by simpa using ho, s.x.grown hg (Ne.symm (own_blk_ne s.ow s.x (by decide))), s.be.grown hg s.be.size (fun k hk => (s.ow.lt k hk).1)⟩
theorem OS.setO (s : OS w wr v n zs f h l o) (u : Bool) : OS w (wr.setCell ⟨w.heap.size, 3, none⟩ (.bool u)) v n zs f h l u :=
  ⟨own_setOther s.ow (p := ⟨w.heap.size, 3, none⟩) (own_blk_ne s.ow s.x (by decide)) _, by simpa using s.x.set_ 3 (.bool u), s.be.setCell (p := ⟨w.heap.size, 3, none⟩) (Nat.le_refl _) _⟩
theorem OS.setH (s : OS w wr v n zs f h l o) (u : Int) : OS w (wr.setCell ⟨w.heap.size, 1, none⟩ (.int .i64 u)) v n zs f u l o :=
  ⟨own_setOther s.ow (p := ⟨w.heap.size, 1, none⟩) (own_blk_ne s.ow s.x (by decide)) _, by simpa using s.x.set_ 1 (.int .i64 u), s.be.setCell (p := ⟨w.heap.size, 1, none⟩) (Nat.le_refl _) _⟩
theorem OS.ret (s : OS w wr v n zs f h l o) (zs' : List Int) (hz : zs = zs') : ∃ A c, v = .slice A n c ∧ RetI w zs' (.returned (.slice A n c)) wr := by
  subst hz
  obtain ⟨A, c, rfl⟩ := own_form s.ow
  exact ⟨A, c, rfl, A, n, c, rfl, s.ow, s.be⟩
theorem OS.start (w : World) (f h l : Int) (o : Bool) : OS w (w.alloc (.cells #[.int .i64 f, .int .i64 h, .int .i64 l, .bool o] 25)) (.slice none 0 0) 0 [] f h l o :=
  ⟨World.ownsRow_nil _ _ _ _, Blk.new _ _ _, (Below.refl _ _).alloc (Nat.le_refl _) _⟩
theorem OS.start2 (w : World) (f h l : Int) (o : Bool) : OS w ((w.alloc (.cells #[.int .i64 f, .int .i64 h, .int .i64 l, .bool o] 25)).alloc (.cells #[] 3)) (.slice (some ⟨w.heap.size + 1, 0, none⟩) 0 0) 0 [] f h l o := by
  have a1 := World.ownsRow_lit (e := 3) (size := 1) (base := w.heap.size) (w.alloc (.cells #[.int .i64 f, .int .i64 h, .int .i64 l, .bool o] 25)) #[] 0 (by simp) (by unfold maxLen; omega) rfl
  exact ⟨by simpa using a1, (Blk.new _ _ _).alloc _, ((Below.refl _ _).alloc (Nat.le_refl _) _).alloc (by simp) _⟩
end

set_option maxHeartbeats 2000000 in
theorem OrdersTo_i_te (f l : Int) (w : World) (f0 : 0 ≤ f) (f1 : f ≤ 15) (l0 : 0 ≤ l) (l1 : l < 5)  :
    Calls Try.prog 27 #[.agg #[.int .i64 f, .int .i64 (0), .int .i64 l, .bool true], .int .i64 f] w (RetI w (ordersC f (0) true f)) := by
  have hv : vC f (0) l true = true := by rw [vC_iff]; refine ⟨⟨by omega, by omega⟩, ⟨by omega, by omega⟩, ⟨by omega, by omega⟩, ?_⟩; first | exact .inl rfl | exact .inr rfl
  have hl5 : (l == 5) = false := by simp; omega
  have hin : inB f 0 15 = true := inB_iff.2 ⟨by omega, by omega⟩
  have Hv := hide hv
  have Hin := hide hin
  clear hv hin
  obtain ⟨i0, hi0, iz0, iz1, iz2⟩ := info_parts int_info
  go_enter Try.func27, Try.ntmps27
  go_wp2_with fail
  refine (ValidCar_i _ _ _ _ _).mono ?_
  rintro e w' ⟨rfl, rfl⟩
  rw [Hv.out]
  go_wp2_with fail
  refine (validFloor_any _ _).mono ?_
  rintro e w' ⟨rfl, rfl⟩
  rw [Hin.out]
  have HS := hide ((OS.start w f (0) l true).alloc (.cells #[.int .i64 f, .int .i64 (0), .int .i64 l, .bool true] 25))
  obtain ⟨_, _, _, _, _, _, _, _⟩ := blk4 HS.out.x
  go_wp2_with fail
  refine (distance_i f f 0 _ (by omega) (by omega) f0 f1 (by simp)).mono ?_
  rintro e w' ⟨rfl, rfl⟩
  go_wp2_with fail
  go_loopw [5, 60] (fun v i wr => i = .int .i64 0 ∧ Hid (OS w wr v 0 [] f 0 l true)) (fun _ i _ => 0)
  case atStart => exact ⟨rfl, HS⟩
  case round =>
    obtain ⟨rfl, HS5⟩ := hrel
    obtain ⟨_, _, _, _, _, _, _, _⟩ := blk4 HS5.out.x
    obtain ⟨Ar, cr, rfl⟩ := own_form HS5.out.ow
    have hret : RetI w (ordersC f (0) true f) (.returned (.slice Ar 0 cr)) _ := ⟨_, 0, _, rfl, by rw [show ordersC f (0) true f = [] by simp [ordersC]]; exact HS5.out.ow, HS5.out.be⟩
    go_wp2_with fail
    go_ret
    exact hret

set_option maxHeartbeats 2000000 in
theorem OrdersTo_i_tu (f l y : Int) (w : World) (f0 : 0 ≤ f) (f1 : f ≤ 15) (l0 : 0 ≤ l) (l1 : l < 5) (hy : f < y) (y1 : y ≤ 15) :
    Calls Try.prog 27 #[.agg #[.int .i64 f, .int .i64 (0), .int .i64 l, .bool true], .int .i64 y] w (RetI w (ordersC f (0) true y)) := by
  have hv : vC f (0) l true = true := by rw [vC_iff]; refine ⟨⟨by omega, by omega⟩, ⟨by omega, by omega⟩, ⟨by omega, by omega⟩, ?_⟩; first | exact .inl rfl | exact .inr rfl
  have hl5 : (l == 5) = false := by simp; omega
  have hin : inB y 0 15 = true := inB_iff.2 ⟨by omega, by omega⟩
  have Hv := hide hv
  have Hin := hide hin
  clear hv hin
  obtain ⟨i0, hi0, iz0, iz1, iz2⟩ := info_parts int_info
  obtain ⟨D, hD⟩ : ∃ D, (y - f).natAbs = D := ⟨_, rfl⟩
  have HD := hide hD
  have hD0 : 0 < D := by omega
  have hD15 : D ≤ 15 := by omega
  have hfy : (f == y) = false := by simp; omega
  have hfy' : (f != y) = true := by simp; omega
  clear hD
  go_enter Try.func27, Try.ntmps27
  go_wp2_with fail
  refine (ValidCar_i _ _ _ _ _).mono ?_
  rintro e w' ⟨rfl, rfl⟩
  rw [Hv.out]
  go_wp2_with fail
  refine (validFloor_any _ _).mono ?_
  rintro e w' ⟨rfl, rfl⟩
  rw [Hin.out]
  have HS := hide ((OS.start w f (0) l true).alloc (.cells #[.int .i64 f, .int .i64 (0), .int .i64 l, .bool true] 25))
  obtain ⟨_, _, _, _, _, _, _, _⟩ := blk4 HS.out.x
  go_wp2_with (first
    | (at_builtin; refine wpList_append_own _ rfl (.tmp 29) (.tmp 30) _ rfl w.heap.size 3 i0 (.int .i64 0) 1 8 Try.underlying32 hi0 iz0 iz1 iz2 rfl (by decide) _ _ _ rfl ((HS.out).ow.alloc _) _ 1 1 [.int .i64 (5)] rfl rfl (cell_one_at _ _ _ _ (by simp)) (by intro u hu; simp at hu; subst hu; rfl) (by unfold maxLen; omega) (by omega) (by have hsz := (HS.out).be.size; (try simp at hsz); (try simp); omega) ?_; intro vHS1 wHS1 hown hgrow _; have HS1 := hide (((HS.out).alloc (.cells #[.int .i64 (5)] 3)).app hown hgrow); clear hown hgrow; obtain ⟨_, _, _, _, _, _, _, _⟩ := blk4 HS1.out.x))
  have HSp := hide (HS1.out.setO false)
  obtain ⟨_, _, _, _, _, _, _, _⟩ := blk4 HSp.out.x
  refine (distance_i y f D _ (by omega) (by omega) f0 f1 HD.out).mono ?_
  rintro e w' ⟨rfl, rfl⟩
  go_wp2_with fail
  go_loopw [5, 60] (fun v i wr => ∃ (k : Nat) (hk : Int), k ≤ D ∧ i = .int .i64 k ∧ (k = 0 → hk = 0) ∧ (0 < k → hk = 1) ∧ Hid (OS w wr v (1 + k) ([5] ++ List.replicate k 1) f hk l false)) (fun _ i _ => D - (intOf i).toNat)
  case atStart => exact ⟨0, 0, Nat.zero_le _, rfl, fun _ => rfl, fun h => absurd h (by omega), by simpa using HSp⟩
  case round =>
    obtain ⟨k, hk, hkD, rfl, hk0, hk1, HL⟩ := hrel
    obtain ⟨_, _, _, _, _, _, _, _⟩ := blk4 HL.out.x
    have Hk := hide (And.intro hk0 hk1)
    clear hk0 hk1
    by_cases hlt : k < D
    · have hlt' : (k : Int) < (D : Int) := by omega
      go_wp2_with (first
        | (at_builtin; refine wpList_append_own _ rfl (.tmp 62) (.tmp 64) _ rfl w.heap.size 3 i0 (.int .i64 0) 1 8 Try.underlying32 hi0 iz0 iz1 iz2 rfl (by decide) _ _ _ rfl ((HL.out).ow.alloc _) _ 1 1 [.int .i64 (1)] rfl rfl (cell_one_at _ _ _ _ (by simp)) (by intro u hu; simp at hu; subst hu; rfl) (by unfold maxLen; omega) (by omega) (by have hsz := (HL.out).be.size; (try simp at hsz); (try simp); omega) ?_; intro vHL2 wHL2 hown hgrow _; have HL2 := hide (((HL.out).alloc (.cells #[.int .i64 (1)] 3)).app hown hgrow); clear hown hgrow; obtain ⟨_, _, _, _, _, _, _, _⟩ := blk4 HL2.out.x))
      replace HL2 := hide (HL2.out.setH (1))
      go_roundw
      case rel => exact ⟨k + 1, 1, by omega, by go_num, fun h => absurd h (by omega), fun _ => rfl, by rw [List.replicate_succ', ← List.append_assoc, ← Nat.add_assoc]; exact HL2⟩
      case measure => simp [intOf]; omega
    · obtain rfl : k = D := by omega
      obtain rfl : hk = 1 := Hk.out.2 hD0
      go_wp2_with (first
        | (at_builtin; refine wpList_append_own _ rfl (.tmp 72) (.tmp 73) _ rfl w.heap.size 3 i0 (.int .i64 0) 1 8 Try.underlying32 hi0 iz0 iz1 iz2 rfl (by decide) _ _ _ rfl ((HL.out).ow.alloc _) _ 1 1 [.int .i64 (3)] rfl rfl (cell_one_at _ _ _ _ (by simp)) (by intro u hu; simp at hu; subst hu; rfl) (by unfold maxLen; omega) (by omega) (by have hsz := (HL.out).be.size; (try simp at hsz); (try simp); omega) ?_; intro vHL3 wHL3 hown hgrow _; have HL3 := hide (((HL.out).alloc (.cells #[.int .i64 (3)] 3)).app hown hgrow); clear hown hgrow; obtain ⟨_, _, _, _, _, _, _, _⟩ := blk4 HL3.out.x)
        | (at_builtin; refine wpList_append_own _ rfl (.tmp 78) (.tmp 79) _ rfl w.heap.size 3 i0 (.int .i64 0) 1 8 Try.underlying32 hi0 iz0 iz1 iz2 rfl (by decide) _ _ _ rfl ((HL3.out).ow.alloc _) _ 1 1 [.int .i64 (4)] rfl rfl (cell_one_at _ _ _ _ (by simp)) (by intro u hu; simp at hu; subst hu; rfl) (by unfold maxLen; omega) (by omega) (by have hsz := (HL3.out).be.size; (try simp at hsz); (try simp); omega) ?_; intro vHL4 wHL4 hown hgrow _; have HL4 := hide (((HL3.out).alloc (.cells #[.int .i64 (4)] 3)).app hown hgrow); clear hown hgrow; obtain ⟨_, _, _, _, _, _, _, _⟩ := blk4 HL4.out.x))
      obtain ⟨Ar, cr, rfl, hret⟩ := HL4.out.ret (ordersC f (0) true y) (by
        have hD := HD.out
        have e2 : ¬ f = y := by omega
        have e3 : ¬ y = f := by omega
        have e4 : f < y := by omega
        have e5 : 0 < y - f := by omega
        have e6 : ¬ y - f ≤ 0 := by omega
        have e7 : ¬ 0 < f - y := by omega
        have e8 : f - y ≤ 0 := by omega
        have e9 : f ≤ y := by omega
        have e10 : ¬ y ≤ f := by omega
        simp [ordersC, hD, e2, e3, e4, e5, e6, e7, e8, e9, e10]
        try omega)
      go_ret
      exact hret

set_option maxHeartbeats 2000000 in
theorem OrdersTo_i_td (f l y : Int) (w : World) (f0 : 0 ≤ f) (f1 : f ≤ 15) (l0 : 0 ≤ l) (l1 : l < 5) (hy : y < f) (y0 : 0 ≤ y) :
    Calls Try.prog 27 #[.agg #[.int .i64 f, .int .i64 (0), .int .i64 l, .bool true], .int .i64 y] w (RetI w (ordersC f (0) true y)) := by
  have hv : vC f (0) l true = true := by rw [vC_iff]; refine ⟨⟨by omega, by omega⟩, ⟨by omega, by omega⟩, ⟨by omega, by omega⟩, ?_⟩; first | exact .inl rfl | exact .inr rfl
  have hl5 : (l == 5) = false := by simp; omega
  have hin : inB y 0 15 = true := inB_iff.2 ⟨by omega, by omega⟩
  have Hv := hide hv
  have Hin := hide hin
  clear hv hin
  obtain ⟨i0, hi0, iz0, iz1, iz2⟩ := info_parts int_info
  obtain ⟨D, hD⟩ : ∃ D, (y - f).natAbs = D := ⟨_, rfl⟩
  have HD := hide hD
  have hD0 : 0 < D := by omega
  have hD15 : D ≤ 15 := by omega
  have hfy : (f == y) = false := by simp; omega
  have hfy' : (f != y) = true := by simp; omega
  clear hD
  go_enter Try.func27, Try.ntmps27
  go_wp2_with fail
  refine (ValidCar_i _ _ _ _ _).mono ?_
  rintro e w' ⟨rfl, rfl⟩
  rw [Hv.out]
  go_wp2_with fail
  refine (validFloor_any _ _).mono ?_
  rintro e w' ⟨rfl, rfl⟩
  rw [Hin.out]
  have HS := hide ((OS.start w f (0) l true).alloc (.cells #[.int .i64 f, .int .i64 (0), .int .i64 l, .bool true] 25))
  obtain ⟨_, _, _, _, _, _, _, _⟩ := blk4 HS.out.x
  go_wp2_with (first
    | (at_builtin; refine wpList_append_own _ rfl (.tmp 29) (.tmp 30) _ rfl w.heap.size 3 i0 (.int .i64 0) 1 8 Try.underlying32 hi0 iz0 iz1 iz2 rfl (by decide) _ _ _ rfl ((HS.out).ow.alloc _) _ 1 1 [.int .i64 (5)] rfl rfl (cell_one_at _ _ _ _ (by simp)) (by intro u hu; simp at hu; subst hu; rfl) (by unfold maxLen; omega) (by omega) (by have hsz := (HS.out).be.size; (try simp at hsz); (try simp); omega) ?_; intro vHS1 wHS1 hown hgrow _; have HS1 := hide (((HS.out).alloc (.cells #[.int .i64 (5)] 3)).app hown hgrow); clear hown hgrow; obtain ⟨_, _, _, _, _, _, _, _⟩ := blk4 HS1.out.x))
  have HSp := hide (HS1.out.setO false)
  obtain ⟨_, _, _, _, _, _, _, _⟩ := blk4 HSp.out.x
  refine (distance_i y f D _ (by omega) (by omega) f0 f1 HD.out).mono ?_
  rintro e w' ⟨rfl, rfl⟩
  go_wp2_with fail
  go_loopw [5, 60] (fun v i wr => ∃ (k : Nat) (hk : Int), k ≤ D ∧ i = .int .i64 k ∧ (k = 0 → hk = 0) ∧ (0 < k → hk = -1) ∧ Hid (OS w wr v (1 + k) ([5] ++ List.replicate k 2) f hk l false)) (fun _ i _ => D - (intOf i).toNat)
  case atStart => exact ⟨0, 0, Nat.zero_le _, rfl, fun _ => rfl, fun h => absurd h (by omega), by simpa using HSp⟩
  case round =>
    obtain ⟨k, hk, hkD, rfl, hk0, hk1, HL⟩ := hrel
    obtain ⟨_, _, _, _, _, _, _, _⟩ := blk4 HL.out.x
    have Hk := hide (And.intro hk0 hk1)
    clear hk0 hk1
    by_cases hlt : k < D
    · have hlt' : (k : Int) < (D : Int) := by omega
      go_wp2_with (first
        | (at_builtin; refine wpList_append_own _ rfl (.tmp 62) (.tmp 64) _ rfl w.heap.size 3 i0 (.int .i64 0) 1 8 Try.underlying32 hi0 iz0 iz1 iz2 rfl (by decide) _ _ _ rfl ((HL.out).ow.alloc _) _ 1 1 [.int .i64 (2)] rfl rfl (cell_one_at _ _ _ _ (by simp)) (by intro u hu; simp at hu; subst hu; rfl) (by unfold maxLen; omega) (by omega) (by have hsz := (HL.out).be.size; (try simp at hsz); (try simp); omega) ?_; intro vHL2 wHL2 hown hgrow _; have HL2 := hide (((HL.out).alloc (.cells #[.int .i64 (2)] 3)).app hown hgrow); clear hown hgrow; obtain ⟨_, _, _, _, _, _, _, _⟩ := blk4 HL2.out.x))
      replace HL2 := hide (HL2.out.setH (-1))
      go_roundw
      case rel => exact ⟨k + 1, -1, by omega, by go_num, fun h => absurd h (by omega), fun _ => rfl, by rw [List.replicate_succ', ← List.append_assoc, ← Nat.add_assoc]; exact HL2⟩
      case measure => simp [intOf]; omega
    · obtain rfl : k = D := by omega
      obtain rfl : hk = -1 := Hk.out.2 hD0
      go_wp2_with (first
        | (at_builtin; refine wpList_append_own _ rfl (.tmp 72) (.tmp 73) _ rfl w.heap.size 3 i0 (.int .i64 0) 1 8 Try.underlying32 hi0 iz0 iz1 iz2 rfl (by decide) _ _ _ rfl ((HL.out).ow.alloc _) _ 1 1 [.int .i64 (3)] rfl rfl (cell_one_at _ _ _ _ (by simp)) (by intro u hu; simp at hu; subst hu; rfl) (by unfold maxLen; omega) (by omega) (by have hsz := (HL.out).be.size; (try simp at hsz); (try simp); omega) ?_; intro vHL3 wHL3 hown hgrow _; have HL3 := hide (((HL.out).alloc (.cells #[.int .i64 (3)] 3)).app hown hgrow); clear hown hgrow; obtain ⟨_, _, _, _, _, _, _, _⟩ := blk4 HL3.out.x)
        | (at_builtin; refine wpList_append_own _ rfl (.tmp 78) (.tmp 79) _ rfl w.heap.size 3 i0 (.int .i64 0) 1 8 Try.underlying32 hi0 iz0 iz1 iz2 rfl (by decide) _ _ _ rfl ((HL3.out).ow.alloc _) _ 1 1 [.int .i64 (4)] rfl rfl (cell_one_at _ _ _ _ (by simp)) (by intro u hu; simp at hu; subst hu; rfl) (by unfold maxLen; omega) (by omega) (by have hsz := (HL3.out).be.size; (try simp at hsz); (try simp); omega) ?_; intro vHL4 wHL4 hown hgrow _; have HL4 := hide (((HL3.out).alloc (.cells #[.int .i64 (4)] 3)).app hown hgrow); clear hown hgrow; obtain ⟨_, _, _, _, _, _, _, _⟩ := blk4 HL4.out.x))
      obtain ⟨Ar, cr, rfl, hret⟩ := HL4.out.ret (ordersC f (0) true y) (by
        have hD := HD.out
        have e2 : ¬ f = y := by omega
        have e3 : ¬ y = f := by omega
        have e4 : ¬ f < y := by omega
        have e5 : ¬ 0 < y - f := by omega
        have e6 : y - f ≤ 0 := by omega
        have e7 : 0 < f - y := by omega
        have e8 : ¬ f - y ≤ 0 := by omega
        have e9 : ¬ f ≤ y := by omega
        have e10 : y ≤ f := by omega
        simp [ordersC, hD, e2, e3, e4, e5, e6, e7, e8, e9, e10]
        try omega)
      go_ret
      exact hret

set_option maxHeartbeats 2000000 in
theorem OrdersTo_i_ze (f l : Int) (w : World) (f0 : 0 ≤ f) (f1 : f ≤ 15) (l0 : 0 ≤ l) (l1 : l < 5)  :
    Calls Try.prog 27 #[.agg #[.int .i64 f, .int .i64 (0), .int .i64 l, .bool false], .int .i64 f] w (RetI w (ordersC f (0) false f)) := by
  have hv : vC f (0) l false = true := by rw [vC_iff]; refine ⟨⟨by omega, by omega⟩, ⟨by omega, by omega⟩, ⟨by omega, by omega⟩, ?_⟩; first | exact .inl rfl | exact .inr rfl
  have hl5 : (l == 5) = false := by simp; omega
  have hin : inB f 0 15 = true := inB_iff.2 ⟨by omega, by omega⟩
  have Hv := hide hv
  have Hin := hide hin
  clear hv hin
  obtain ⟨i0, hi0, iz0, iz1, iz2⟩ := info_parts int_info
  go_enter Try.func27, Try.ntmps27
  go_wp2_with fail
  refine (ValidCar_i _ _ _ _ _).mono ?_
  rintro e w' ⟨rfl, rfl⟩
  rw [Hv.out]
  go_wp2_with fail
  refine (validFloor_any _ _).mono ?_
  rintro e w' ⟨rfl, rfl⟩
  rw [Hin.out]
  have HS := hide ((OS.start w f (0) l false).alloc (.cells #[.int .i64 f, .int .i64 (0), .int .i64 l, .bool false] 25))
  obtain ⟨_, _, _, _, _, _, _, _⟩ := blk4 HS.out.x
  go_wp2_with fail
  refine (distance_i f f 0 _ (by omega) (by omega) f0 f1 (by simp)).mono ?_
  rintro e w' ⟨rfl, rfl⟩
  go_wp2_with fail
  go_loopw [5, 60] (fun v i wr => i = .int .i64 0 ∧ Hid (OS w wr v 0 [] f 0 l false)) (fun _ i _ => 0)
  case atStart => exact ⟨rfl, HS⟩
  case round =>
    obtain ⟨rfl, HS5⟩ := hrel
    obtain ⟨_, _, _, _, _, _, _, _⟩ := blk4 HS5.out.x
    go_wp2_with (first
      | (at_builtin; refine wpList_append_own _ rfl (.tmp 78) (.tmp 79) _ rfl w.heap.size 3 i0 (.int .i64 0) 1 8 Try.underlying32 hi0 iz0 iz1 iz2 rfl (by decide) _ _ _ rfl ((HS5.out).ow.alloc _) _ 1 1 [.int .i64 (4)] rfl rfl (cell_one_at _ _ _ _ (by simp)) (by intro u hu; simp at hu; subst hu; rfl) (by unfold maxLen; omega) (by omega) (by have hsz := (HS5.out).be.size; (try simp at hsz); (try simp); omega) ?_; intro vHSz wHSz hown hgrow _; have HSz := hide (((HS5.out).alloc (.cells #[.int .i64 (4)] 3)).app hown hgrow); clear hown hgrow; obtain ⟨_, _, _, _, _, _, _, _⟩ := blk4 HSz.out.x))
    obtain ⟨Ar, cr, rfl, hret⟩ := HSz.out.ret (ordersC f (0) false f) (by simp [ordersC])
    go_ret
    exact hret

set_option maxHeartbeats 2000000 in
theorem OrdersTo_i_zu (f l y : Int) (w : World) (f0 : 0 ≤ f) (f1 : f ≤ 15) (l0 : 0 ≤ l) (l1 : l < 5) (hy : f < y) (y1 : y ≤ 15) :
    Calls Try.prog 27 #[.agg #[.int .i64 f, .int .i64 (0), .int .i64 l, .bool false], .int .i64 y] w (RetI w (ordersC f (0) false y)) := by
  have hv : vC f (0) l false = true := by rw [vC_iff]; refine ⟨⟨by omega, by omega⟩, ⟨by omega, by omega⟩, ⟨by omega, by omega⟩, ?_⟩; first | exact .inl rfl | exact .inr rfl
  have hl5 : (l == 5) = false := by simp; omega
  have hin : inB y 0 15 = true := inB_iff.2 ⟨by omega, by omega⟩
  have Hv := hide hv
  have Hin := hide hin
  clear hv hin
  obtain ⟨i0, hi0, iz0, iz1, iz2⟩ := info_parts int_info
  obtain ⟨D, hD⟩ : ∃ D, (y - f).natAbs = D := ⟨_, rfl⟩
  have HD := hide hD
  have hD0 : 0 < D := by omega
  have hD15 : D ≤ 15 := by omega
  have hfy : (f == y) = false := by simp; omega
  have hfy' : (f != y) = true := by simp; omega
  clear hD
  go_enter Try.func27, Try.ntmps27
  go_wp2_with fail
  refine (ValidCar_i _ _ _ _ _).mono ?_
  rintro e w' ⟨rfl, rfl⟩
  rw [Hv.out]
  go_wp2_with fail
  refine (validFloor_any _ _).mono ?_
  rintro e w' ⟨rfl, rfl⟩
  rw [Hin.out]
  have HS := hide ((OS.start w f (0) l false).alloc (.cells #[.int .i64 f, .int .i64 (0), .int .i64 l, .bool false] 25))
  obtain ⟨_, _, _, _, _, _, _, _⟩ := blk4 HS.out.x
  go_wp2_with fail
  refine (distance_i y f D _ (by omega) (by omega) f0 f1 HD.out).mono ?_
  rintro e w' ⟨rfl, rfl⟩
  go_wp2_with fail
  go_loopw [5, 60] (fun v i wr => ∃ (k : Nat) (hk : Int), k ≤ D ∧ i = .int .i64 k ∧ (k = 0 → hk = 0) ∧ (0 < k → hk = 1) ∧ Hid (OS w wr v (0 + k) ([] ++ List.replicate k 1) f hk l false)) (fun _ i _ => D - (intOf i).toNat)
  case atStart => exact ⟨0, 0, Nat.zero_le _, rfl, fun _ => rfl, fun h => absurd h (by omega), by simpa using HS⟩
  case round =>
    obtain ⟨k, hk, hkD, rfl, hk0, hk1, HL⟩ := hrel
    obtain ⟨_, _, _, _, _, _, _, _⟩ := blk4 HL.out.x
    have Hk := hide (And.intro hk0 hk1)
    clear hk0 hk1
    by_cases hlt : k < D
    · have hlt' : (k : Int) < (D : Int) := by omega
      go_wp2_with (first
        | (at_builtin; refine wpList_append_own _ rfl (.tmp 62) (.tmp 64) _ rfl w.heap.size 3 i0 (.int .i64 0) 1 8 Try.underlying32 hi0 iz0 iz1 iz2 rfl (by decide) _ _ _ rfl ((HL.out).ow.alloc _) _ 1 1 [.int .i64 (1)] rfl rfl (cell_one_at _ _ _ _ (by simp)) (by intro u hu; simp at hu; subst hu; rfl) (by unfold maxLen; omega) (by omega) (by have hsz := (HL.out).be.size; (try simp at hsz); (try simp); omega) ?_; intro vHL2 wHL2 hown hgrow _; have HL2 := hide (((HL.out).alloc (.cells #[.int .i64 (1)] 3)).app hown hgrow); clear hown hgrow; obtain ⟨_, _, _, _, _, _, _, _⟩ := blk4 HL2.out.x))
      replace HL2 := hide (HL2.out.setH (1))
      go_roundw
      case rel => exact ⟨k + 1, 1, by omega, by go_num, fun h => absurd h (by omega), fun _ => rfl, by rw [List.replicate_succ', ← List.append_assoc, ← Nat.add_assoc]; exact HL2⟩
      case measure => simp [intOf]; omega
    · obtain rfl : k = D := by omega
      obtain rfl : hk = 1 := Hk.out.2 hD0
      go_wp2_with (first
        | (at_builtin; refine wpList_append_own _ rfl (.tmp 72) (.tmp 73) _ rfl w.heap.size 3 i0 (.int .i64 0) 1 8 Try.underlying32 hi0 iz0 iz1 iz2 rfl (by decide) _ _ _ rfl ((HL.out).ow.alloc _) _ 1 1 [.int .i64 (3)] rfl rfl (cell_one_at _ _ _ _ (by simp)) (by intro u hu; simp at hu; subst hu; rfl) (by unfold maxLen; omega) (by omega) (by have hsz := (HL.out).be.size; (try simp at hsz); (try simp); omega) ?_; intro vHL3 wHL3 hown hgrow _; have HL3 := hide (((HL.out).alloc (.cells #[.int .i64 (3)] 3)).app hown hgrow); clear hown hgrow; obtain ⟨_, _, _, _, _, _, _, _⟩ := blk4 HL3.out.x)
        | (at_builtin; refine wpList_append_own _ rfl (.tmp 78) (.tmp 79) _ rfl w.heap.size 3 i0 (.int .i64 0) 1 8 Try.underlying32 hi0 iz0 iz1 iz2 rfl (by decide) _ _ _ rfl ((HL3.out).ow.alloc _) _ 1 1 [.int .i64 (4)] rfl rfl (cell_one_at _ _ _ _ (by simp)) (by intro u hu; simp at hu; subst hu; rfl) (by unfold maxLen; omega) (by omega) (by have hsz := (HL3.out).be.size; (try simp at hsz); (try simp); omega) ?_; intro vHL4 wHL4 hown hgrow _; have HL4 := hide (((HL3.out).alloc (.cells #[.int .i64 (4)] 3)).app hown hgrow); clear hown hgrow; obtain ⟨_, _, _, _, _, _, _, _⟩ := blk4 HL4.out.x))
      obtain ⟨Ar, cr, rfl, hret⟩ := HL4.out.ret (ordersC f (0) false y) (by
        have hD := HD.out
        have e2 : ¬ f = y := by omega
        have e3 : ¬ y = f := by omega
        have e4 : f < y := by omega
        have e5 : 0 < y - f := by omega
        have e6 : ¬ y - f ≤ 0 := by omega
        have e7 : ¬ 0 < f - y := by omega
        have e8 : f - y ≤ 0 := by omega
        have e9 : f ≤ y := by omega
        have e10 : ¬ y ≤ f := by omega
        simp [ordersC, hD, e2, e3, e4, e5, e6, e7, e8, e9, e10]
        try omega)
      go_ret
      exact hret

set_option maxHeartbeats 2000000 in
theorem OrdersTo_i_zd (f l y : Int) (w : World) (f0 : 0 ≤ f) (f1 : f ≤ 15) (l0 : 0 ≤ l) (l1 : l < 5) (hy : y < f) (y0 : 0 ≤ y) :
    Calls Try.prog 27 #[.agg #[.int .i64 f, .int .i64 (0), .int .i64 l, .bool false], .int .i64 y] w (RetI w (ordersC f (0) false y)) := by
  have hv : vC f (0) l false = true := by rw [vC_iff]; refine ⟨⟨by omega, by omega⟩, ⟨by omega, by omega⟩, ⟨by omega, by omega⟩, ?_⟩; first | exact .inl rfl | exact .inr rfl
  have hl5 : (l == 5) = false := by simp; omega
  have hin : inB y 0 15 = true := inB_iff.2 ⟨by omega, by omega⟩
  have Hv := hide hv
  have Hin := hide hin
  clear hv hin
  obtain ⟨i0, hi0, iz0, iz1, iz2⟩ := info_parts int_info
  obtain ⟨D, hD⟩ : ∃ D, (y - f).natAbs = D := ⟨_, rfl⟩
  have HD := hide hD
  have hD0 : 0 < D := by omega
  have hD15 : D ≤ 15 := by omega
  have hfy : (f == y) = false := by simp; omega
  have hfy' : (f != y) = true := by simp; omega
  clear hD
  go_enter Try.func27, Try.ntmps27
  go_wp2_with fail
  refine (ValidCar_i _ _ _ _ _).mono ?_
  rintro e w' ⟨rfl, rfl⟩
  rw [Hv.out]
  go_wp2_with fail
  refine (validFloor_any _ _).mono ?_
  rintro e w' ⟨rfl, rfl⟩
  rw [Hin.out]
  have HS := hide ((OS.start w f (0) l false).alloc (.cells #[.int .i64 f, .int .i64 (0), .int .i64 l, .bool false] 25))
  obtain ⟨_, _, _, _, _, _, _, _⟩ := blk4 HS.out.x
  go_wp2_with fail
  refine (distance_i y f D _ (by omega) (by omega) f0 f1 HD.out).mono ?_
  rintro e w' ⟨rfl, rfl⟩
  go_wp2_with fail
  go_loopw [5, 60] (fun v i wr => ∃ (k : Nat) (hk : Int), k ≤ D ∧ i = .int .i64 k ∧ (k = 0 → hk = 0) ∧ (0 < k → hk = -1) ∧ Hid (OS w wr v (0 + k) ([] ++ List.replicate k 2) f hk l false)) (fun _ i _ => D - (intOf i).toNat)
  case atStart => exact ⟨0, 0, Nat.zero_le _, rfl, fun _ => rfl, fun h => absurd h (by omega), by simpa using HS⟩
  case round =>
    obtain ⟨k, hk, hkD, rfl, hk0, hk1, HL⟩ := hrel
    obtain ⟨_, _, _, _, _, _, _, _⟩ := blk4 HL.out.x
    have Hk := hide (And.intro hk0 hk1)
    clear hk0 hk1
    by_cases hlt : k < D
    · have hlt' : (k : Int) < (D : Int) := by omega
      go_wp2_with (first
        | (at_builtin; refine wpList_append_own _ rfl (.tmp 62) (.tmp 64) _ rfl w.heap.size 3 i0 (.int .i64 0) 1 8 Try.underlying32 hi0 iz0 iz1 iz2 rfl (by decide) _ _ _ rfl ((HL.out).ow.alloc _) _ 1 1 [.int .i64 (2)] rfl rfl (cell_one_at _ _ _ _ (by simp)) (by intro u hu; simp at hu; subst hu; rfl) (by unfold maxLen; omega) (by omega) (by have hsz := (HL.out).be.size; (try simp at hsz); (try simp); omega) ?_; intro vHL2 wHL2 hown hgrow _; have HL2 := hide (((HL.out).alloc (.cells #[.int .i64 (2)] 3)).app hown hgrow); clear hown hgrow; obtain ⟨_, _, _, _, _, _, _, _⟩ := blk4 HL2.out.x))
      replace HL2 := hide (HL2.out.setH (-1))
      go_roundw
      case rel => exact ⟨k + 1, -1, by omega, by go_num, fun h => absurd h (by omega), fun _ => rfl, by rw [List.replicate_succ', ← List.append_assoc, ← Nat.add_assoc]; exact HL2⟩
      case measure => simp [intOf]; omega
    · obtain rfl : k = D := by omega
      obtain rfl : hk = -1 := Hk.out.2 hD0
      go_wp2_with (first
        | (at_builtin; refine wpList_append_own _ rfl (.tmp 72) (.tmp 73) _ rfl w.heap.size 3 i0 (.int .i64 0) 1 8 Try.underlying32 hi0 iz0 iz1 iz2 rfl (by decide) _ _ _ rfl ((HL.out).ow.alloc _) _ 1 1 [.int .i64 (3)] rfl rfl (cell_one_at _ _ _ _ (by simp)) (by intro u hu; simp at hu; subst hu; rfl) (by unfold maxLen; omega) (by omega) (by have hsz := (HL.out).be.size; (try simp at hsz); (try simp); omega) ?_; intro vHL3 wHL3 hown hgrow _; have HL3 := hide (((HL.out).alloc (.cells #[.int .i64 (3)] 3)).app hown hgrow); clear hown hgrow; obtain ⟨_, _, _, _, _, _, _, _⟩ := blk4 HL3.out.x)
        | (at_builtin; refine wpList_append_own _ rfl (.tmp 78) (.tmp 79) _ rfl w.heap.size 3 i0 (.int .i64 0) 1 8 Try.underlying32 hi0 iz0 iz1 iz2 rfl (by decide) _ _ _ rfl ((HL3.out).ow.alloc _) _ 1 1 [.int .i64 (4)] rfl rfl (cell_one_at _ _ _ _ (by simp)) (by intro u hu; simp at hu; subst hu; rfl) (by unfold maxLen; omega) (by omega) (by have hsz := (HL3.out).be.size; (try simp at hsz); (try simp); omega) ?_; intro vHL4 wHL4 hown hgrow _; have HL4 := hide (((HL3.out).alloc (.cells #[.int .i64 (4)] 3)).app hown hgrow); clear hown hgrow; obtain ⟨_, _, _, _, _, _, _, _⟩ := blk4 HL4.out.x))
      obtain ⟨Ar, cr, rfl, hret⟩ := HL4.out.ret (ordersC f (0) false y) (by
        have hD := HD.out
        have e2 : ¬ f = y := by omega
        have e3 : ¬ y = f := by omega
        have e4 : ¬ f < y := by omega
        have e5 : ¬ 0 < y - f := by omega
        have e6 : y - f ≤ 0 := by omega
        have e7 : 0 < f - y := by omega
        have e8 : ¬ f - y ≤ 0 := by omega
        have e9 : ¬ f ≤ y := by omega
        have e10 : y ≤ f := by omega
        simp [ordersC, hD, e2, e3, e4, e5, e6, e7, e8, e9, e10]
        try omega)
      go_ret
      exact hret

set_option maxHeartbeats 2000000 in
theorem OrdersTo_i_pe (f l : Int) (w : World) (f0 : 0 ≤ f) (f1 : f ≤ 15) (l0 : 0 ≤ l) (l1 : l < 5)  :
    Calls Try.prog 27 #[.agg #[.int .i64 f, .int .i64 (1), .int .i64 l, .bool false], .int .i64 f] w (RetI w (ordersC f (1) false f)) := by
  have hv : vC f (1) l false = true := by rw [vC_iff]; refine ⟨⟨by omega, by omega⟩, ⟨by omega, by omega⟩, ⟨by omega, by omega⟩, ?_⟩; first | exact .inl rfl | exact .inr rfl
  have hl5 : (l == 5) = false := by simp; omega
  have hin : inB f 0 15 = true := inB_iff.2 ⟨by omega, by omega⟩
  have Hv := hide hv
  have Hin := hide hin
  clear hv hin
  obtain ⟨i0, hi0, iz0, iz1, iz2⟩ := info_parts int_info
  go_enter Try.func27, Try.ntmps27
  go_wp2_with fail
  refine (ValidCar_i _ _ _ _ _).mono ?_
  rintro e w' ⟨rfl, rfl⟩
  rw [Hv.out]
  go_wp2_with fail
  refine (validFloor_any _ _).mono ?_
  rintro e w' ⟨rfl, rfl⟩
  rw [Hin.out]
  have HS := hide ((OS.start w f (1) l false).alloc (.cells #[.int .i64 f, .int .i64 (1), .int .i64 l, .bool false] 25))
  obtain ⟨_, _, _, _, _, _, _, _⟩ := blk4 HS.out.x
  go_wp2_with (first
    | (at_builtin; refine wpList_append_own _ rfl (.tmp 52) (.tmp 53) _ rfl w.heap.size 3 i0 (.int .i64 0) 1 8 Try.underlying32 hi0 iz0 iz1 iz2 rfl (by decide) _ _ _ rfl ((HS.out).ow.alloc _) _ 1 1 [.int .i64 (3)] rfl rfl (cell_one_at _ _ _ _ (by simp)) (by intro u hu; simp at hu; subst hu; rfl) (by unfold maxLen; omega) (by omega) (by have hsz := (HS.out).be.size; (try simp at hsz); (try simp); omega) ?_; intro vHS2 wHS2 hown hgrow _; have HS2 := hide (((HS.out).alloc (.cells #[.int .i64 (3)] 3)).app hown hgrow); clear hown hgrow; obtain ⟨_, _, _, _, _, _, _, _⟩ := blk4 HS2.out.x))
  have HSp := hide (HS2.out.setH 0)
  obtain ⟨_, _, _, _, _, _, _, _⟩ := blk4 HSp.out.x
  refine (distance_i f f 0 _ (by omega) (by omega) f0 f1 (by simp)).mono ?_
  rintro e w' ⟨rfl, rfl⟩
  go_wp2_with fail
  go_loopw [5, 60] (fun v i wr => i = .int .i64 0 ∧ Hid (OS w wr v 1 [3] f 0 l false)) (fun _ i _ => 0)
  case atStart => exact ⟨rfl, HSp⟩
  case round =>
    obtain ⟨rfl, HS5⟩ := hrel
    obtain ⟨_, _, _, _, _, _, _, _⟩ := blk4 HS5.out.x
    go_wp2_with (first
      | (at_builtin; refine wpList_append_own _ rfl (.tmp 78) (.tmp 79) _ rfl w.heap.size 3 i0 (.int .i64 0) 1 8 Try.underlying32 hi0 iz0 iz1 iz2 rfl (by decide) _ _ _ rfl ((HS5.out).ow.alloc _) _ 1 1 [.int .i64 (4)] rfl rfl (cell_one_at _ _ _ _ (by simp)) (by intro u hu; simp at hu; subst hu; rfl) (by unfold maxLen; omega) (by omega) (by have hsz := (HS5.out).be.size; (try simp at hsz); (try simp); omega) ?_; intro vHSz wHSz hown hgrow _; have HSz := hide (((HS5.out).alloc (.cells #[.int .i64 (4)] 3)).app hown hgrow); clear hown hgrow; obtain ⟨_, _, _, _, _, _, _, _⟩ := blk4 HSz.out.x))
    obtain ⟨Ar, cr, rfl, hret⟩ := HSz.out.ret (ordersC f (1) false f) (by simp [ordersC])
    go_ret
    exact hret

set_option maxHeartbeats 2000000 in
theorem OrdersTo_i_pu (f l y : Int) (w : World) (f0 : 0 ≤ f) (f1 : f ≤ 15) (l0 : 0 ≤ l) (l1 : l < 5) (hy : f < y) (y1 : y ≤ 15) :
    Calls Try.prog 27 #[.agg #[.int .i64 f, .int .i64 (1), .int .i64 l, .bool false], .int .i64 y] w (RetI w (ordersC f (1) false y)) := by
  have hv : vC f (1) l false = true := by rw [vC_iff]; refine ⟨⟨by omega, by omega⟩, ⟨by omega, by omega⟩, ⟨by omega, by omega⟩, ?_⟩; first | exact .inl rfl | exact .inr rfl
  have hl5 : (l == 5) = false := by simp; omega
  have hin : inB y 0 15 = true := inB_iff.2 ⟨by omega, by omega⟩
  have Hv := hide hv
  have Hin := hide hin
  clear hv hin
  obtain ⟨i0, hi0, iz0, iz1, iz2⟩ := info_parts int_info
  obtain ⟨D, hD⟩ : ∃ D, (y - f).natAbs = D := ⟨_, rfl⟩
  have HD := hide hD
  have hD0 : 0 < D := by omega
  have hD15 : D ≤ 15 := by omega
  have hfy : (f == y) = false := by simp; omega
  have hfy' : (f != y) = true := by simp; omega
  clear hD
  go_enter Try.func27, Try.ntmps27
  go_wp2_with fail
  refine (ValidCar_i _ _ _ _ _).mono ?_
  rintro e w' ⟨rfl, rfl⟩
  rw [Hv.out]
  go_wp2_with fail
  refine (validFloor_any _ _).mono ?_
  rintro e w' ⟨rfl, rfl⟩
  rw [Hin.out]
  have HS := hide ((OS.start w f (1) l false).alloc (.cells #[.int .i64 f, .int .i64 (1), .int .i64 l, .bool false] 25))
  obtain ⟨_, _, _, _, _, _, _, _⟩ := blk4 HS.out.x
  go_wp2_with fail
  refine (distance_i y f D _ (by omega) (by omega) f0 f1 HD.out).mono ?_
  rintro e w' ⟨rfl, rfl⟩
  go_wp2_with fail
  go_loopw [5, 60] (fun v i wr => ∃ (k : Nat) (hk : Int), k ≤ D ∧ i = .int .i64 k ∧ (k = 0 → hk = 1) ∧ (0 < k → hk = 1) ∧ Hid (OS w wr v (0 + k) ([] ++ List.replicate k 1) f hk l false)) (fun _ i _ => D - (intOf i).toNat)
  case atStart => exact ⟨0, 1, Nat.zero_le _, rfl, fun _ => rfl, fun h => absurd h (by omega), by simpa using HS⟩
  case round =>
    obtain ⟨k, hk, hkD, rfl, hk0, hk1, HL⟩ := hrel
    obtain ⟨_, _, _, _, _, _, _, _⟩ := blk4 HL.out.x
    have Hk := hide (And.intro hk0 hk1)
    clear hk0 hk1
    by_cases hlt : k < D
    · have hlt' : (k : Int) < (D : Int) := by omega
      go_wp2_with (first
        | (at_builtin; refine wpList_append_own _ rfl (.tmp 62) (.tmp 64) _ rfl w.heap.size 3 i0 (.int .i64 0) 1 8 Try.underlying32 hi0 iz0 iz1 iz2 rfl (by decide) _ _ _ rfl ((HL.out).ow.alloc _) _ 1 1 [.int .i64 (1)] rfl rfl (cell_one_at _ _ _ _ (by simp)) (by intro u hu; simp at hu; subst hu; rfl) (by unfold maxLen; omega) (by omega) (by have hsz := (HL.out).be.size; (try simp at hsz); (try simp); omega) ?_; intro vHL2 wHL2 hown hgrow _; have HL2 := hide (((HL.out).alloc (.cells #[.int .i64 (1)] 3)).app hown hgrow); clear hown hgrow; obtain ⟨_, _, _, _, _, _, _, _⟩ := blk4 HL2.out.x))
      replace HL2 := hide (HL2.out.setH (1))
      go_roundw
      case rel => exact ⟨k + 1, 1, by omega, by go_num, fun h => absurd h (by omega), fun _ => rfl, by rw [List.replicate_succ', ← List.append_assoc, ← Nat.add_assoc]; exact HL2⟩
      case measure => simp [intOf]; omega
    · obtain rfl : k = D := by omega
      obtain rfl : hk = 1 := Hk.out.2 hD0
      go_wp2_with (first
        | (at_builtin; refine wpList_append_own _ rfl (.tmp 72) (.tmp 73) _ rfl w.heap.size 3 i0 (.int .i64 0) 1 8 Try.underlying32 hi0 iz0 iz1 iz2 rfl (by decide) _ _ _ rfl ((HL.out).ow.alloc _) _ 1 1 [.int .i64 (3)] rfl rfl (cell_one_at _ _ _ _ (by simp)) (by intro u hu; simp at hu; subst hu; rfl) (by unfold maxLen; omega) (by omega) (by have hsz := (HL.out).be.size; (try simp at hsz); (try simp); omega) ?_; intro vHL3 wHL3 hown hgrow _; have HL3 := hide (((HL.out).alloc (.cells #[.int .i64 (3)] 3)).app hown hgrow); clear hown hgrow; obtain ⟨_, _, _, _, _, _, _, _⟩ := blk4 HL3.out.x)
        | (at_builtin; refine wpList_append_own _ rfl (.tmp 78) (.tmp 79) _ rfl w.heap.size 3 i0 (.int .i64 0) 1 8 Try.underlying32 hi0 iz0 iz1 iz2 rfl (by decide) _ _ _ rfl ((HL3.out).ow.alloc _) _ 1 1 [.int .i64 (4)] rfl rfl (cell_one_at _ _ _ _ (by simp)) (by intro u hu; simp at hu; subst hu; rfl) (by unfold maxLen; omega) (by omega) (by have hsz := (HL3.out).be.size; (try simp at hsz); (try simp); omega) ?_; intro vHL4 wHL4 hown hgrow _; have HL4 := hide (((HL3.out).alloc (.cells #[.int .i64 (4)] 3)).app hown hgrow); clear hown hgrow; obtain ⟨_, _, _, _, _, _, _, _⟩ := blk4 HL4.out.x))
      obtain ⟨Ar, cr, rfl, hret⟩ := HL4.out.ret (ordersC f (1) false y) (by
        have hD := HD.out
        have e2 : ¬ f = y := by omega
        have e3 : ¬ y = f := by omega
        have e4 : f < y := by omega
        have e5 : 0 < y - f := by omega
        have e6 : ¬ y - f ≤ 0 := by omega
        have e7 : ¬ 0 < f - y := by omega
        have e8 : f - y ≤ 0 := by omega
        have e9 : f ≤ y := by omega
        have e10 : ¬ y ≤ f := by omega
        simp [ordersC, hD, e2, e3, e4, e5, e6, e7, e8, e9, e10]
        try omega)
      go_ret
      exact hret

set_option maxHeartbeats 2000000 in
theorem OrdersTo_i_pd (f l y : Int) (w : World) (f0 : 0 ≤ f) (f1 : f ≤ 15) (l0 : 0 ≤ l) (l1 : l < 5) (hy : y < f) (y0 : 0 ≤ y) :
    Calls Try.prog 27 #[.agg #[.int .i64 f, .int .i64 (1), .int .i64 l, .bool false], .int .i64 y] w (RetI w (ordersC f (1) false y)) := by
  have hv : vC f (1) l false = true := by rw [vC_iff]; refine ⟨⟨by omega, by omega⟩, ⟨by omega, by omega⟩, ⟨by omega, by omega⟩, ?_⟩; first | exact .inl rfl | exact .inr rfl
  have hl5 : (l == 5) = false := by simp; omega
  have hin : inB y 0 15 = true := inB_iff.2 ⟨by omega, by omega⟩
  have Hv := hide hv
  have Hin := hide hin
  clear hv hin
  obtain ⟨i0, hi0, iz0, iz1, iz2⟩ := info_parts int_info
  obtain ⟨D, hD⟩ : ∃ D, (y - f).natAbs = D := ⟨_, rfl⟩
  have HD := hide hD
  have hD0 : 0 < D := by omega
  have hD15 : D ≤ 15 := by omega
  have hfy : (f == y) = false := by simp; omega
  have hfy' : (f != y) = true := by simp; omega
  clear hD
  go_enter Try.func27, Try.ntmps27
  go_wp2_with fail
  refine (ValidCar_i _ _ _ _ _).mono ?_
  rintro e w' ⟨rfl, rfl⟩
  rw [Hv.out]
  go_wp2_with fail
  refine (validFloor_any _ _).mono ?_
  rintro e w' ⟨rfl, rfl⟩
  rw [Hin.out]
  have HS := hide ((OS.start w f (1) l false).alloc (.cells #[.int .i64 f, .int .i64 (1), .int .i64 l, .bool false] 25))
  obtain ⟨_, _, _, _, _, _, _, _⟩ := blk4 HS.out.x
  go_wp2_with (first
    | (at_builtin; refine wpList_append_own _ rfl (.tmp 52) (.tmp 53) _ rfl w.heap.size 3 i0 (.int .i64 0) 1 8 Try.underlying32 hi0 iz0 iz1 iz2 rfl (by decide) _ _ _ rfl ((HS.out).ow.alloc _) _ 1 1 [.int .i64 (3)] rfl rfl (cell_one_at _ _ _ _ (by simp)) (by intro u hu; simp at hu; subst hu; rfl) (by unfold maxLen; omega) (by omega) (by have hsz := (HS.out).be.size; (try simp at hsz); (try simp); omega) ?_; intro vHS2 wHS2 hown hgrow _; have HS2 := hide (((HS.out).alloc (.cells #[.int .i64 (3)] 3)).app hown hgrow); clear hown hgrow; obtain ⟨_, _, _, _, _, _, _, _⟩ := blk4 HS2.out.x))
  have HSp := hide (HS2.out.setH 0)
  obtain ⟨_, _, _, _, _, _, _, _⟩ := blk4 HSp.out.x
  refine (distance_i y f D _ (by omega) (by omega) f0 f1 HD.out).mono ?_
  rintro e w' ⟨rfl, rfl⟩
  go_wp2_with fail
  go_loopw [5, 60] (fun v i wr => ∃ (k : Nat) (hk : Int), k ≤ D ∧ i = .int .i64 k ∧ (k = 0 → hk = 0) ∧ (0 < k → hk = -1) ∧ Hid (OS w wr v (1 + k) ([3] ++ List.replicate k 2) f hk l false)) (fun _ i _ => D - (intOf i).toNat)
  case atStart => exact ⟨0, 0, Nat.zero_le _, rfl, fun _ => rfl, fun h => absurd h (by omega), by simpa using HSp⟩
  case round =>
    obtain ⟨k, hk, hkD, rfl, hk0, hk1, HL⟩ := hrel
    obtain ⟨_, _, _, _, _, _, _, _⟩ := blk4 HL.out.x
    have Hk := hide (And.intro hk0 hk1)
    clear hk0 hk1
    by_cases hlt : k < D
    · have hlt' : (k : Int) < (D : Int) := by omega
      go_wp2_with (first
        | (at_builtin; refine wpList_append_own _ rfl (.tmp 62) (.tmp 64) _ rfl w.heap.size 3 i0 (.int .i64 0) 1 8 Try.underlying32 hi0 iz0 iz1 iz2 rfl (by decide) _ _ _ rfl ((HL.out).ow.alloc _) _ 1 1 [.int .i64 (2)] rfl rfl (cell_one_at _ _ _ _ (by simp)) (by intro u hu; simp at hu; subst hu; rfl) (by unfold maxLen; omega) (by omega) (by have hsz := (HL.out).be.size; (try simp at hsz); (try simp); omega) ?_; intro vHL2 wHL2 hown hgrow _; have HL2 := hide (((HL.out).alloc (.cells #[.int .i64 (2)] 3)).app hown hgrow); clear hown hgrow; obtain ⟨_, _, _, _, _, _, _, _⟩ := blk4 HL2.out.x))
      replace HL2 := hide (HL2.out.setH (-1))
      go_roundw
      case rel => exact ⟨k + 1, -1, by omega, by go_num, fun h => absurd h (by omega), fun _ => rfl, by rw [List.replicate_succ', ← List.append_assoc, ← Nat.add_assoc]; exact HL2⟩
      case measure => simp [intOf]; omega
    · obtain rfl : k = D := by omega
      obtain rfl : hk = -1 := Hk.out.2 hD0
      go_wp2_with (first
        | (at_builtin; refine wpList_append_own _ rfl (.tmp 72) (.tmp 73) _ rfl w.heap.size 3 i0 (.int .i64 0) 1 8 Try.underlying32 hi0 iz0 iz1 iz2 rfl (by decide) _ _ _ rfl ((HL.out).ow.alloc _) _ 1 1 [.int .i64 (3)] rfl rfl (cell_one_at _ _ _ _ (by simp)) (by intro u hu; simp at hu; subst hu; rfl) (by unfold maxLen; omega) (by omega) (by have hsz := (HL.out).be.size; (try simp at hsz); (try simp); omega) ?_; intro vHL3 wHL3 hown hgrow _; have HL3 := hide (((HL.out).alloc (.cells #[.int .i64 (3)] 3)).app hown hgrow); clear hown hgrow; obtain ⟨_, _, _, _, _, _, _, _⟩ := blk4 HL3.out.x)
        | (at_builtin; refine wpList_append_own _ rfl (.tmp 78) (.tmp 79) _ rfl w.heap.size 3 i0 (.int .i64 0) 1 8 Try.underlying32 hi0 iz0 iz1 iz2 rfl (by decide) _ _ _ rfl ((HL3.out).ow.alloc _) _ 1 1 [.int .i64 (4)] rfl rfl (cell_one_at _ _ _ _ (by simp)) (by intro u hu; simp at hu; subst hu; rfl) (by unfold maxLen; omega) (by omega) (by have hsz := (HL3.out).be.size; (try simp at hsz); (try simp); omega) ?_; intro vHL4 wHL4 hown hgrow _; have HL4 := hide (((HL3.out).alloc (.cells #[.int .i64 (4)] 3)).app hown hgrow); clear hown hgrow; obtain ⟨_, _, _, _, _, _, _, _⟩ := blk4 HL4.out.x))
      obtain ⟨Ar, cr, rfl, hret⟩ := HL4.out.ret (ordersC f (1) false y) (by
        have hD := HD.out
        have e2 : ¬ f = y := by omega
        have e3 : ¬ y = f := by omega
        have e4 : ¬ f < y := by omega
        have e5 : ¬ 0 < y - f := by omega
        have e6 : y - f ≤ 0 := by omega
        have e7 : 0 < f - y := by omega
        have e8 : ¬ f - y ≤ 0 := by omega
        have e9 : ¬ f ≤ y := by omega
        have e10 : y ≤ f := by omega
        simp [ordersC, hD, e2, e3, e4, e5, e6, e7, e8, e9, e10]
        try omega)
      go_ret
      exact hret

set_option maxHeartbeats 2000000 in
theorem OrdersTo_i_me (f l : Int) (w : World) (f0 : 0 ≤ f) (f1 : f ≤ 15) (l0 : 0 ≤ l) (l1 : l < 5)  :
    Calls Try.prog 27 #[.agg #[.int .i64 f, .int .i64 (-1), .int .i64 l, .bool false], .int .i64 f] w (RetI w (ordersC f (-1) false f)) := by
  have hv : vC f (-1) l false = true := by rw [vC_iff]; refine ⟨⟨by omega, by omega⟩, ⟨by omega, by omega⟩, ⟨by omega, by omega⟩, ?_⟩; first | exact .inl rfl | exact .inr rfl
  have hl5 : (l == 5) = false := by simp; omega
  have hin : inB f 0 15 = true := inB_iff.2 ⟨by omega, by omega⟩
  have Hv := hide hv
  have Hin := hide hin
  clear hv hin
  obtain ⟨i0, hi0, iz0, iz1, iz2⟩ := info_parts int_info
  go_enter Try.func27, Try.ntmps27
  go_wp2_with fail
  refine (ValidCar_i _ _ _ _ _).mono ?_
  rintro e w' ⟨rfl, rfl⟩
  rw [Hv.out]
  go_wp2_with fail
  refine (validFloor_any _ _).mono ?_
  rintro e w' ⟨rfl, rfl⟩
  rw [Hin.out]
  have HS := hide ((OS.start w f (-1) l false).alloc (.cells #[.int .i64 f, .int .i64 (-1), .int .i64 l, .bool false] 25))
  obtain ⟨_, _, _, _, _, _, _, _⟩ := blk4 HS.out.x
  go_wp2_with (first
    | (at_builtin; refine wpList_append_own _ rfl (.tmp 52) (.tmp 53) _ rfl w.heap.size 3 i0 (.int .i64 0) 1 8 Try.underlying32 hi0 iz0 iz1 iz2 rfl (by decide) _ _ _ rfl ((HS.out).ow.alloc _) _ 1 1 [.int .i64 (3)] rfl rfl (cell_one_at _ _ _ _ (by simp)) (by intro u hu; simp at hu; subst hu; rfl) (by unfold maxLen; omega) (by omega) (by have hsz := (HS.out).be.size; (try simp at hsz); (try simp); omega) ?_; intro vHS2 wHS2 hown hgrow _; have HS2 := hide (((HS.out).alloc (.cells #[.int .i64 (3)] 3)).app hown hgrow); clear hown hgrow; obtain ⟨_, _, _, _, _, _, _, _⟩ := blk4 HS2.out.x))
  have HSp := hide (HS2.out.setH 0)
  obtain ⟨_, _, _, _, _, _, _, _⟩ := blk4 HSp.out.x
  refine (distance_i f f 0 _ (by omega) (by omega) f0 f1 (by simp)).mono ?_
  rintro e w' ⟨rfl, rfl⟩
  go_wp2_with fail
  go_loopw [5, 60] (fun v i wr => i = .int .i64 0 ∧ Hid (OS w wr v 1 [3] f 0 l false)) (fun _ i _ => 0)
  case atStart => exact ⟨rfl, HSp⟩
  case round =>
    obtain ⟨rfl, HS5⟩ := hrel
    obtain ⟨_, _, _, _, _, _, _, _⟩ := blk4 HS5.out.x
    go_wp2_with (first
      | (at_builtin; refine wpList_append_own _ rfl (.tmp 78) (.tmp 79) _ rfl w.heap.size 3 i0 (.int .i64 0) 1 8 Try.underlying32 hi0 iz0 iz1 iz2 rfl (by decide) _ _ _ rfl ((HS5.out).ow.alloc _) _ 1 1 [.int .i64 (4)] rfl rfl (cell_one_at _ _ _ _ (by simp)) (by intro u hu; simp at hu; subst hu; rfl) (by unfold maxLen; omega) (by omega) (by have hsz := (HS5.out).be.size; (try simp at hsz); (try simp); omega) ?_; intro vHSz wHSz hown hgrow _; have HSz := hide (((HS5.out).alloc (.cells #[.int .i64 (4)] 3)).app hown hgrow); clear hown hgrow; obtain ⟨_, _, _, _, _, _, _, _⟩ := blk4 HSz.out.x))
    obtain ⟨Ar, cr, rfl, hret⟩ := HSz.out.ret (ordersC f (-1) false f) (by simp [ordersC])
    go_ret
    exact hret

set_option maxHeartbeats 2000000 in
theorem OrdersTo_i_mu (f l y : Int) (w : World) (f0 : 0 ≤ f) (f1 : f ≤ 15) (l0 : 0 ≤ l) (l1 : l < 5) (hy : f < y) (y1 : y ≤ 15) :
    Calls Try.prog 27 #[.agg #[.int .i64 f, .int .i64 (-1), .int .i64 l, .bool false], .int .i64 y] w (RetI w (ordersC f (-1) false y)) := by
  have hv : vC f (-1) l false = true := by rw [vC_iff]; refine ⟨⟨by omega, by omega⟩, ⟨by omega, by omega⟩, ⟨by omega, by omega⟩, ?_⟩; first | exact .inl rfl | exact .inr rfl
  have hl5 : (l == 5) = false := by simp; omega
  have hin : inB y 0 15 = true := inB_iff.2 ⟨by omega, by omega⟩
  have Hv := hide hv
  have Hin := hide hin
  clear hv hin
  obtain ⟨i0, hi0, iz0, iz1, iz2⟩ := info_parts int_info
  obtain ⟨D, hD⟩ : ∃ D, (y - f).natAbs = D := ⟨_, rfl⟩
  have HD := hide hD
  have hD0 : 0 < D := by omega
  have hD15 : D ≤ 15 := by omega
  have hfy : (f == y) = false := by simp; omega
  have hfy' : (f != y) = true := by simp; omega
  clear hD
  go_enter Try.func27, Try.ntmps27
  go_wp2_with fail
  refine (ValidCar_i _ _ _ _ _).mono ?_
  rintro e w' ⟨rfl, rfl⟩
  rw [Hv.out]
  go_wp2_with fail
  refine (validFloor_any _ _).mono ?_
  rintro e w' ⟨rfl, rfl⟩
  rw [Hin.out]
  have HS := hide ((OS.start w f (-1) l false).alloc (.cells #[.int .i64 f, .int .i64 (-1), .int .i64 l, .bool false] 25))
  obtain ⟨_, _, _, _, _, _, _, _⟩ := blk4 HS.out.x
  go_wp2_with (first
    | (at_builtin; refine wpList_append_own _ rfl (.tmp 52) (.tmp 53) _ rfl w.heap.size 3 i0 (.int .i64 0) 1 8 Try.underlying32 hi0 iz0 iz1 iz2 rfl (by decide) _ _ _ rfl ((HS.out).ow.alloc _) _ 1 1 [.int .i64 (3)] rfl rfl (cell_one_at _ _ _ _ (by simp)) (by intro u hu; simp at hu; subst hu; rfl) (by unfold maxLen; omega) (by omega) (by have hsz := (HS.out).be.size; (try simp at hsz); (try simp); omega) ?_; intro vHS2 wHS2 hown hgrow _; have HS2 := hide (((HS.out).alloc (.cells #[.int .i64 (3)] 3)).app hown hgrow); clear hown hgrow; obtain ⟨_, _, _, _, _, _, _, _⟩ := blk4 HS2.out.x))
  have HSp := hide (HS2.out.setH 0)
  obtain ⟨_, _, _, _, _, _, _, _⟩ := blk4 HSp.out.x
  refine (distance_i y f D _ (by omega) (by omega) f0 f1 HD.out).mono ?_
  rintro e w' ⟨rfl, rfl⟩
  go_wp2_with fail
  go_loopw [5, 60] (fun v i wr => ∃ (k : Nat) (hk : Int), k ≤ D ∧ i = .int .i64 k ∧ (k = 0 → hk = 0) ∧ (0 < k → hk = 1) ∧ Hid (OS w wr v (1 + k) ([3] ++ List.replicate k 1) f hk l false)) (fun _ i _ => D - (intOf i).toNat)
  case atStart => exact ⟨0, 0, Nat.zero_le _, rfl, fun _ => rfl, fun h => absurd h (by omega), by simpa using HSp⟩
  case round =>
    obtain ⟨k, hk, hkD, rfl, hk0, hk1, HL⟩ := hrel
    obtain ⟨_, _, _, _, _, _, _, _⟩ := blk4 HL.out.x
    have Hk := hide (And.intro hk0 hk1)
    clear hk0 hk1
    by_cases hlt : k < D
    · have hlt' : (k : Int) < (D : Int) := by omega
      go_wp2_with (first
        | (at_builtin; refine wpList_append_own _ rfl (.tmp 62) (.tmp 64) _ rfl w.heap.size 3 i0 (.int .i64 0) 1 8 Try.underlying32 hi0 iz0 iz1 iz2 rfl (by decide) _ _ _ rfl ((HL.out).ow.alloc _) _ 1 1 [.int .i64 (1)] rfl rfl (cell_one_at _ _ _ _ (by simp)) (by intro u hu; simp at hu; subst hu; rfl) (by unfold maxLen; omega) (by omega) (by have hsz := (HL.out).be.size; (try simp at hsz); (try simp); omega) ?_; intro vHL2 wHL2 hown hgrow _; have HL2 := hide (((HL.out).alloc (.cells #[.int .i64 (1)] 3)).app hown hgrow); clear hown hgrow; obtain ⟨_, _, _, _, _, _, _, _⟩ := blk4 HL2.out.x))
      replace HL2 := hide (HL2.out.setH (1))
      go_roundw
      case rel => exact ⟨k + 1, 1, by omega, by go_num, fun h => absurd h (by omega), fun _ => rfl, by rw [List.replicate_succ', ← List.append_assoc, ← Nat.add_assoc]; exact HL2⟩
      case measure => simp [intOf]; omega
    · obtain rfl : k = D := by omega
      obtain rfl : hk = 1 := Hk.out.2 hD0
      go_wp2_with (first
        | (at_builtin; refine wpList_append_own _ rfl (.tmp 72) (.tmp 73) _ rfl w.heap.size 3 i0 (.int .i64 0) 1 8 Try.underlying32 hi0 iz0 iz1 iz2 rfl (by decide) _ _ _ rfl ((HL.out).ow.alloc _) _ 1 1 [.int .i64 (3)] rfl rfl (cell_one_at _ _ _ _ (by simp)) (by intro u hu; simp at hu; subst hu; rfl) (by unfold maxLen; omega) (by omega) (by have hsz := (HL.out).be.size; (try simp at hsz); (try simp); omega) ?_; intro vHL3 wHL3 hown hgrow _; have HL3 := hide (((HL.out).alloc (.cells #[.int .i64 (3)] 3)).app hown hgrow); clear hown hgrow; obtain ⟨_, _, _, _, _, _, _, _⟩ := blk4 HL3.out.x)
        | (at_builtin; refine wpList_append_own _ rfl (.tmp 78) (.tmp 79) _ rfl w.heap.size 3 i0 (.int .i64 0) 1 8 Try.underlying32 hi0 iz0 iz1 iz2 rfl (by decide) _ _ _ rfl ((HL3.out).ow.alloc _) _ 1 1 [.int .i64 (4)] rfl rfl (cell_one_at _ _ _ _ (by simp)) (by intro u hu; simp at hu; subst hu; rfl) (by unfold maxLen; omega) (by omega) (by have hsz := (HL3.out).be.size; (try simp at hsz); (try simp); omega) ?_; intro vHL4 wHL4 hown hgrow _; have HL4 := hide (((HL3.out).alloc (.cells #[.int .i64 (4)] 3)).app hown hgrow); clear hown hgrow; obtain ⟨_, _, _, _, _, _, _, _⟩ := blk4 HL4.out.x))
      obtain ⟨Ar, cr, rfl, hret⟩ := HL4.out.ret (ordersC f (-1) false y) (by
        have hD := HD.out
        have e2 : ¬ f = y := by omega
        have e3 : ¬ y = f := by omega
        have e4 : f < y := by omega
        have e5 : 0 < y - f := by omega
        have e6 : ¬ y - f ≤ 0 := by omega
        have e7 : ¬ 0 < f - y := by omega
        have e8 : f - y ≤ 0 := by omega
        have e9 : f ≤ y := by omega
        have e10 : ¬ y ≤ f := by omega
        simp [ordersC, hD, e2, e3, e4, e5, e6, e7, e8, e9, e10]
        try omega)
      go_ret
      exact hret

set_option maxHeartbeats 2000000 in
theorem OrdersTo_i_md (f l y : Int) (w : World) (f0 : 0 ≤ f) (f1 : f ≤ 15) (l0 : 0 ≤ l) (l1 : l < 5) (hy : y < f) (y0 : 0 ≤ y) :
    Calls Try.prog 27 #[.agg #[.int .i64 f, .int .i64 (-1), .int .i64 l, .bool false], .int .i64 y] w (RetI w (ordersC f (-1) false y)) := by
  have hv : vC f (-1) l false = true := by rw [vC_iff]; refine ⟨⟨by omega, by omega⟩, ⟨by omega, by omega⟩, ⟨by omega, by omega⟩, ?_⟩; first | exact .inl rfl | exact .inr rfl
  have hl5 : (l == 5) = false := by simp; omega
  have hin : inB y 0 15 = true := inB_iff.2 ⟨by omega, by omega⟩
  have Hv := hide hv
  have Hin := hide hin
  clear hv hin
  obtain ⟨i0, hi0, iz0, iz1, iz2⟩ := info_parts int_info
  obtain ⟨D, hD⟩ : ∃ D, (y - f).natAbs = D := ⟨_, rfl⟩
  have HD := hide hD
  have hD0 : 0 < D := by omega
  have hD15 : D ≤ 15 := by omega
  have hfy : (f == y) = false := by simp; omega
  have hfy' : (f != y) = true := by simp; omega
  clear hD
  go_enter Try.func27, Try.ntmps27
  go_wp2_with fail
  refine (ValidCar_i _ _ _ _ _).mono ?_
  rintro e w' ⟨rfl, rfl⟩
  rw [Hv.out]
  go_wp2_with fail
  refine (validFloor_any _ _).mono ?_
  rintro e w' ⟨rfl, rfl⟩
  rw [Hin.out]
  have HS := hide ((OS.start w f (-1) l false).alloc (.cells #[.int .i64 f, .int .i64 (-1), .int .i64 l, .bool false] 25))
  obtain ⟨_, _, _, _, _, _, _, _⟩ := blk4 HS.out.x
  go_wp2_with fail
  refine (distance_i y f D _ (by omega) (by omega) f0 f1 HD.out).mono ?_
  rintro e w' ⟨rfl, rfl⟩
  go_wp2_with fail
  go_loopw [5, 60] (fun v i wr => ∃ (k : Nat) (hk : Int), k ≤ D ∧ i = .int .i64 k ∧ (k = 0 → hk = -1) ∧ (0 < k → hk = -1) ∧ Hid (OS w wr v (0 + k) ([] ++ List.replicate k 2) f hk l false)) (fun _ i _ => D - (intOf i).toNat)
  case atStart => exact ⟨0, -1, Nat.zero_le _, rfl, fun _ => rfl, fun h => absurd h (by omega), by simpa using HS⟩
  case round =>
    obtain ⟨k, hk, hkD, rfl, hk0, hk1, HL⟩ := hrel
    obtain ⟨_, _, _, _, _, _, _, _⟩ := blk4 HL.out.x
    have Hk := hide (And.intro hk0 hk1)
    clear hk0 hk1
    by_cases hlt : k < D
    · have hlt' : (k : Int) < (D : Int) := by omega
      go_wp2_with (first
        | (at_builtin; refine wpList_append_own _ rfl (.tmp 62) (.tmp 64) _ rfl w.heap.size 3 i0 (.int .i64 0) 1 8 Try.underlying32 hi0 iz0 iz1 iz2 rfl (by decide) _ _ _ rfl ((HL.out).ow.alloc _) _ 1 1 [.int .i64 (2)] rfl rfl (cell_one_at _ _ _ _ (by simp)) (by intro u hu; simp at hu; subst hu; rfl) (by unfold maxLen; omega) (by omega) (by have hsz := (HL.out).be.size; (try simp at hsz); (try simp); omega) ?_; intro vHL2 wHL2 hown hgrow _; have HL2 := hide (((HL.out).alloc (.cells #[.int .i64 (2)] 3)).app hown hgrow); clear hown hgrow; obtain ⟨_, _, _, _, _, _, _, _⟩ := blk4 HL2.out.x))
      replace HL2 := hide (HL2.out.setH (-1))
      go_roundw
      case rel => exact ⟨k + 1, -1, by omega, by go_num, fun h => absurd h (by omega), fun _ => rfl, by rw [List.replicate_succ', ← List.append_assoc, ← Nat.add_assoc]; exact HL2⟩
      case measure => simp [intOf]; omega
    · obtain rfl : k = D := by omega
      obtain rfl : hk = -1 := Hk.out.2 hD0
      go_wp2_with (first
        | (at_builtin; refine wpList_append_own _ rfl (.tmp 72) (.tmp 73) _ rfl w.heap.size 3 i0 (.int .i64 0) 1 8 Try.underlying32 hi0 iz0 iz1 iz2 rfl (by decide) _ _ _ rfl ((HL.out).ow.alloc _) _ 1 1 [.int .i64 (3)] rfl rfl (cell_one_at _ _ _ _ (by simp)) (by intro u hu; simp at hu; subst hu; rfl) (by unfold maxLen; omega) (by omega) (by have hsz := (HL.out).be.size; (try simp at hsz); (try simp); omega) ?_; intro vHL3 wHL3 hown hgrow _; have HL3 := hide (((HL.out).alloc (.cells #[.int .i64 (3)] 3)).app hown hgrow); clear hown hgrow; obtain ⟨_, _, _, _, _, _, _, _⟩ := blk4 HL3.out.x)
        | (at_builtin; refine wpList_append_own _ rfl (.tmp 78) (.tmp 79) _ rfl w.heap.size 3 i0 (.int .i64 0) 1 8 Try.underlying32 hi0 iz0 iz1 iz2 rfl (by decide) _ _ _ rfl ((HL3.out).ow.alloc _) _ 1 1 [.int .i64 (4)] rfl rfl (cell_one_at _ _ _ _ (by simp)) (by intro u hu; simp at hu; subst hu; rfl) (by unfold maxLen; omega) (by omega) (by have hsz := (HL3.out).be.size; (try simp at hsz); (try simp); omega) ?_; intro vHL4 wHL4 hown hgrow _; have HL4 := hide (((HL3.out).alloc (.cells #[.int .i64 (4)] 3)).app hown hgrow); clear hown hgrow; obtain ⟨_, _, _, _, _, _, _, _⟩ := blk4 HL4.out.x))
      obtain ⟨Ar, cr, rfl, hret⟩ := HL4.out.ret (ordersC f (-1) false y) (by
        have hD := HD.out
        have e2 : ¬ f = y := by omega
        have e3 : ¬ y = f := by omega
        have e4 : ¬ f < y := by omega
        have e5 : ¬ 0 < y - f := by omega
        have e6 : y - f ≤ 0 := by omega
        have e7 : 0 < f - y := by omega
        have e8 : ¬ f - y ≤ 0 := by omega
        have e9 : ¬ f ≤ y := by omega
        have e10 : y ≤ f := by omega
        simp [ordersC, hD, e2, e3, e4, e5, e6, e7, e8, e9, e10]
        try omega)
      go_ret
      exact hret

end Go.Proofs.Ytongbeecogjdlaa
