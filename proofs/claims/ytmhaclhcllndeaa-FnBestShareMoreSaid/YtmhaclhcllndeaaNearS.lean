/-
  The nearest car: the reference.
-/
import Derived.Test.YtmhaclhcllndeaaNear
namespace Go.Proofs.Ytmhaclhcllndeaa
open Go.RowKit
set_option linter.unusedSimpArgs false
set_option linter.unusedVariables false

theorem distance_sq (a : Int) (D : Nat) (w : World) (a0 : -15 ≤ a) (a1 : a ≤ 15) (hD : a.natAbs = D) :
    Calls Try.prog 38 #[.int .i64 a] w fun e w' => e = .returned (.int .i64 (D : Int)) ∧ w' = w :=
  (distance_s a D w a0 a1 hD).mono fun _ _ h => ⟨h.1, h.2.symm⟩
set_option maxHeartbeats 1000000 in
theorem NearestCar_s (A : Option Addr) (n c : Nat) (zs : List Int) (y m : Int) (w : World) (hn : n ≤ 1048576) (ha : RdI w .i64 A n zs) (hm : nearF zs y = m) :
    Calls Try.prog 13 #[.slice A n c, .int .i64 y] w fun e w' => e = .returned (.int .i64 m) ∧ ∃ q, w' = w.drewN q := by
  subst hm
  have Hl := hide ha.len
  have Ha := hide ha
  clear ha
  cases hv : vFl zs
  · have e1 := hide (show nearF zs y = -1 from if_neg (by rw [hv]; simp))
    have Hv := hide hv
    clear hv
    go_enter Try.func13, Try.ntmps13
    go_wp2_with fail
    refine (validFleet_any A n c zs _ hn Ha.out).mono ?_
    rintro e w' ⟨rfl, rfl⟩
    rw [Hv.out]
    go_wp2_with fail
    go_ret
    exact ⟨show Ending.returned (.int .i64 (-1)) = _ from by rw [e1.out], 0, rfl⟩
  · cases hi : inB y 0 15
    · have e1 := hide (show nearF zs y = -1 from if_neg (by rw [hi]; simp))
      have Hv := hide hv
      have Hi := hide hi
      clear hv hi
      go_enter Try.func13, Try.ntmps13
      go_wp2_with fail
      refine (validFleet_any A n c zs _ hn Ha.out).mono ?_
      rintro e w' ⟨rfl, rfl⟩
      rw [Hv.out]
      go_wp2_with fail
      refine (inRange_any _ _ _ _).mono ?_
      rintro e w' ⟨rfl, rfl⟩
      rw [Hi.out]
      go_wp2_with fail
      go_ret
      exact ⟨show Ending.returned (.int .i64 (-1)) = _ from by rw [e1.out], 0, rfl⟩
    · have e1 := hide (show nearF zs y = (nearN zs y n : Int) by unfold nearF; rw [if_pos ⟨hv, hi⟩, Hl.out])
      obtain ⟨y0, y1⟩ := inB_iff.1 hi
      obtain ⟨⟨v0, v1⟩, hall⟩ := vFl_iff.1 hv
      have hn0 : 1 ≤ n := by have := Hl.out; omega
      have hn3 : n ≤ 3 := by have := Hl.out; omega
      have Hall := hide hall
      have Hv := hide hv
      have Hi := hide hi
      clear hv hi v0 v1 hall
      go_enter Try.func13, Try.ntmps13
      go_wp2_with fail
      refine (validFleet_any A n c zs _ hn Ha.out).mono ?_
      rintro e w' ⟨rfl, rfl⟩
      rw [Hv.out]
      go_wp2_with fail
      refine (inRange_any _ _ _ _).mono ?_
      rintro e w' ⟨rfl, rfl⟩
      rw [Hi.out]
      go_wp2_with fail
      go_loopw [5, 6] (fun bv i wr => ∃ k : Nat, 1 ≤ k ∧ k ≤ n ∧ i = .int .i64 k ∧ bv = .int .i64 (nearN zs y k : Nat) ∧ ∃ q, wr = w.drewN q) (fun _ i _ => n - (intOf i).toNat)
      case atStart => exact ⟨1, Nat.le_refl _, by omega, rfl, int_eq (by simp [nearN]), 0, rfl⟩
      case round =>
        obtain ⟨k, hk1, hk, rfl, rfl, q, rfl⟩ := hrel
        by_cases hlt : k < n
        · have hbn : nearN zs y k < n := by
            rcases Nat.eq_zero_or_pos k with rfl | hp
            · simp [nearN]; omega
            · have := nearN_lt zs y k hp; omega
          have hsucc : nearN zs y (k + 1) = if dN zs y k < dN zs y (nearN zs y k) then k else nearN zs y k := rfl
          generalize hb : nearN zs y k = b at *
          obtain ⟨bk, ok, z, rfl, _, hz, hc1⟩ := RdI.at_ Ha.out hlt
          obtain ⟨bk', ok', z2, e1', _, hz2, hc2⟩ := RdI.at_ Ha.out hbn
          injection e1' with e1'
          injection e1' with e2 e3 _
          subst e2 e3
          obtain ⟨z0, z1⟩ := allB_mem Hall.out (List.mem_of_getElem? hz)
          obtain ⟨u0, u1⟩ := allB_mem Hall.out (List.mem_of_getElem? hz2)
          obtain ⟨D1, hD1⟩ : ∃ D, (z - y).natAbs = D := ⟨_, rfl⟩
          obtain ⟨D2, hD2⟩ : ∃ D, (z2 - y).natAbs = D := ⟨_, rfl⟩
          have q1 : dN zs y k = D1 := by unfold dN; rw [getD_of hz, hD1]
          have q2 : dN zs y b = D2 := by unfold dN; rw [getD_of hz2, hD2]
          rw [q1, q2] at hsucc
          have Hs := hide hsucc
          have HD1 := hide hD1
          have HD2 := hide hD2
          have Hb := hide hb
          clear hsucc hD1 hD2 q1 q2 hz hz2 hb
          have hlt' : (k : Int) < (n : Int) := by omega
          have hbn' : (b : Int) < (n : Int) := by omega
          go_wp2_with fail
          by_cases hd : D1 < D2
          · have hd' : (D1 : Int) < (D2 : Int) := by omega
            have J1 := hide (fun q' => distance_sq (z - y) D1 (w.drewN (q + q')) (by omega) (by omega) HD1.out)
            have J2 := hide (fun q' => distance_sq (z2 - y) D2 (w.drewN (q + q')) (by omega) (by omega) HD2.out)
            have hw1 : IntKind.i64.wrap (z - y) = z - y := IntWalk.i64_in _ (by omega)
            have hw2 : IntKind.i64.wrap (z2 - y) = z2 - y := IntWalk.i64_in _ (by omega)
            go_quiet ((go_at_call 38; first | (with_reducible exact quiet_add_same (J1.out _)) | (with_reducible exact quiet_add_same (J2.out _))))
            clear hw1 hw2
            go_wp2_with fail
            go_roundw
            case rel => exact ⟨k + 1, by omega, by omega, by go_num, int_eq (by rw [Hs.out, if_pos hd]), _, rfl⟩
            case measure => simp [intOf]; omega
          · have hd' : ¬ ((D1 : Int) < (D2 : Int)) := by omega
            have Hd := hide hd
            clear hd
            have J1 := hide (fun q' => distance_sq (z - y) D1 (w.drewN (q + q')) (by omega) (by omega) HD1.out)
            have J2 := hide (fun q' => distance_sq (z2 - y) D2 (w.drewN (q + q')) (by omega) (by omega) HD2.out)
            have hw1 : IntKind.i64.wrap (z - y) = z - y := IntWalk.i64_in _ (by omega)
            have hw2 : IntKind.i64.wrap (z2 - y) = z2 - y := IntWalk.i64_in _ (by omega)
            go_quiet ((go_at_call 38; first | (with_reducible exact quiet_add_same (J1.out _)) | (with_reducible exact quiet_add_same (J2.out _))))
            clear hw1 hw2
            go_wp2_with fail
            go_roundw
            case rel => exact ⟨k + 1, by omega, by omega, by go_num, int_eq (by rw [Hs.out, if_neg Hd.out]), _, rfl⟩
            case measure => simp [intOf]; omega
        · obtain rfl : k = n := by omega
          go_wp2_with fail
          go_ret
          exact ⟨ret_int (by rw [e1.out]), q, rfl⟩
end Go.Proofs.Ytmhaclhcllndeaa
