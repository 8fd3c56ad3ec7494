/-
  The nearest car: both functions, and what it is.
-/
import Derived.Test.YtmhaclhcllndeaaFloorsA
import Derived.Test.YtmhaclhcllndeaaLaw8
namespace Go.Proofs.Ytmhaclhcllndeaa
open Go.RowKit
set_option linter.unusedSimpArgs false
set_option linter.unusedVariables false

def vFl (zs : List Int) : Bool := inB (zs.length : Int) 1 3 && allB zs 0 15
theorem vFl_iff {zs : List Int} : vFl zs = true ↔ (1 ≤ zs.length ∧ zs.length ≤ 3) ∧ allB zs 0 15 = true := by
  simp [vFl, inB_iff]; omega
set_option maxHeartbeats 400000 in
theorem validCars_any (A : Option Addr) (n c : Nat) (zs : List Int) (w : World) (hn : n ≤ 1048576) (ha : RdI w .i64 A n zs) :
    Calls Try.prog 39 #[.slice A n c] w fun e w' => e = .returned (.bool (vFl zs)) ∧ w = w' := by
  have Hl := hide ha.len
  have Ha := hide ha
  clear ha
  cases hi : inB (n : Int) 1 3
  · have e1 := hide (show vFl zs = false by unfold vFl; rw [Hl.out, hi]; rfl)
    have Hi := hide hi
    clear hi
    go_enter Try.func39, Try.ntmps39
    go_wp2_with fail
    refine (within_any _ _ _ _).mono ?_
    rintro e w' ⟨rfl, rfl⟩
    rw [Hi.out]
    go_wp2_with fail
    go_ret
    exact ⟨show Ending.returned (.bool false) = _ from by rw [e1.out], rfl⟩
  · have e1 := hide (show vFl zs = allB zs 0 15 by unfold vFl; rw [Hl.out, hi]; rfl)
    have Hi := hide hi
    clear hi
    go_enter Try.func39, Try.ntmps39
    go_wp2_with fail
    refine (within_any _ _ _ _).mono ?_
    rintro e w' ⟨rfl, rfl⟩
    rw [Hi.out]
    go_wp2_with fail
    refine (validFloors_any A n c zs _ hn Ha.out).mono ?_
    rintro e w' ⟨rfl, rfl⟩
    go_wp2_with fail
    go_ret
    exact ⟨ret_bool (by rw [e1.out]), rfl⟩
set_option maxHeartbeats 400000 in
theorem validFleet_any (A : Option Addr) (n c : Nat) (zs : List Int) (w : World) (hn : n ≤ 1048576) (ha : RdI w .i64 A n zs) :
    Calls Try.prog 36 #[.slice A n c] w fun e w' => e = .returned (.bool (vFl zs)) ∧ w = w' := by
  have Hl := hide ha.len
  have Ha := hide ha
  clear ha
  cases hi : inB (n : Int) 1 3
  · have e1 := hide (show vFl zs = false by unfold vFl; rw [Hl.out, hi]; rfl)
    have Hi := hide hi
    clear hi
    go_enter Try.func36, Try.ntmps36
    go_wp2_with fail
    refine (inRange_any _ _ _ _).mono ?_
    rintro e w' ⟨rfl, rfl⟩
    rw [Hi.out]
    go_wp2_with fail
    go_ret
    exact ⟨show Ending.returned (.bool false) = _ from by rw [e1.out], rfl⟩
  · have e1 := hide (show vFl zs = allB zs 0 15 by unfold vFl; rw [Hl.out, hi]; rfl)
    have Hi := hide hi
    clear hi
    go_enter Try.func36, Try.ntmps36
    go_wp2_with fail
    refine (inRange_any _ _ _ _).mono ?_
    rintro e w' ⟨rfl, rfl⟩
    rw [Hi.out]
    go_wp2_with fail
    refine (allIn_any A n c zs 0 15 _ hn Ha.out).mono ?_
    rintro e w' ⟨rfl, rfl⟩
    go_wp2_with fail
    go_ret
    exact ⟨ret_bool (by rw [e1.out]), rfl⟩

def dN (zs : List Int) (y : Int) (j : Nat) : Nat := (zs.getD j 0 - y).natAbs
def nearN (zs : List Int) (y : Int) : Nat → Nat
  | 0 => 0
  | k + 1 => if dN zs y k < dN zs y (nearN zs y k) then k else nearN zs y k
def nearF (zs : List Int) (y : Int) : Int := if vFl zs = true ∧ inB y 0 15 = true then (nearN zs y zs.length : Int) else -1
theorem nearN_lt (zs : List Int) (y : Int) : ∀ k, 0 < k → nearN zs y k < k
  | 0, h => absurd h (by omega)
  | k + 1, _ => by
    unfold nearN
    split
    · omega
    · cases k with
      | zero => simp [nearN]
      | succ k => have := nearN_lt zs y (k + 1) (by omega); omega
theorem nearN_min (zs : List Int) (y : Int) : ∀ k j, j < k → dN zs y (nearN zs y k) ≤ dN zs y j ∧ (dN zs y j = dN zs y (nearN zs y k) → nearN zs y k ≤ j)
  | 0, j, h => absurd h (by omega)
  | k + 1, j, h => by
    unfold nearN
    rcases Nat.lt_or_ge j k with hj | hj
    · have ih := nearN_min zs y k j hj
      split
      · refine ⟨by omega, fun e => ?_⟩; omega
      · exact ih
    · obtain rfl : j = k := by omega
      split
      · exact ⟨Nat.le_refl _, fun _ => Nat.le_refl _⟩
      · rename_i hge
        refine ⟨by omega, fun e => ?_⟩
        cases j with
        | zero => simp [nearN]
        | succ j => have := nearN_lt zs y (j + 1) (by omega); omega
theorem getD_of {zs : List Int} {k : Nat} {z : Int} (h : zs[k]? = some z) : zs.getD k 0 = z := by simp [List.getD, h]

theorem quiet_add_same {P : Program} {f : FuncId} {args : Array Value} {w : World} {a n : Nat} {v : Value}
    (h : Calls P f args (w.drewN (a + n)) fun e w' => e = .returned v ∧ w' = w.drewN (a + n)) :
    Calls P f args (w.drewN (a + n)) fun e w'' => e = .returned v ∧ ∃ m, w'' = w.drewN (a + m) :=
  h.mono fun _ _ ⟨he, hm⟩ => ⟨he, n, hm⟩
theorem distance_q (a b : Int) (D : Nat) (w : World) (a0 : 0 ≤ a) (a1 : a ≤ 15) (b0 : 0 ≤ b) (b1 : b ≤ 15) (hD : (a - b).natAbs = D) :
    Calls Try.prog 41 #[.int .i64 a, .int .i64 b] w fun e w' => e = .returned (.int .i64 (D : Int)) ∧ w' = w :=
  (distance_i a b D w a0 a1 b0 b1 hD).mono fun _ _ h => ⟨h.1, h.2.symm⟩
set_option maxHeartbeats 1000000 in
theorem NearestCar_i (A : Option Addr) (n c : Nat) (zs : List Int) (y m : Int) (w : World) (hn : n ≤ 1048576) (ha : RdI w .i64 A n zs) (hm : nearF zs y = m) :
    Calls Try.prog 15 #[.slice A n c, .int .i64 y] w fun e w' => e = .returned (.int .i64 m) ∧ ∃ q, w' = w.drewN q := by
  subst hm
  have Hl := hide ha.len
  have Ha := hide ha
  clear ha
  cases hv : vFl zs
  · have e1 := hide (show nearF zs y = -1 from if_neg (by rw [hv]; simp))
    have Hv := hide hv
    clear hv
    go_enter Try.func15, Try.ntmps15
    go_wp2_with fail
    refine (validCars_any A n c zs _ hn Ha.out).mono ?_
    rintro e w' ⟨rfl, rfl⟩
    rw [Hv.out]
    go_wp2_with fail
    go_ret
    exact ⟨show Ending.returned (.int .i64 (-1)) = _ from by rw [e1.out], 0, rfl⟩
  · cases hi : inB y 0 15
    · have e1 := hide (show nearF zs y = -1 from if_neg (by rw [hi]; simp))
      have Hv := hide hv
      have Hi := hide hi
      clear hv hi
      go_enter Try.func15, Try.ntmps15
      go_wp2_with fail
      refine (validCars_any A n c zs _ hn Ha.out).mono ?_
      rintro e w' ⟨rfl, rfl⟩
      rw [Hv.out]
      go_wp2_with fail
      refine (validFloorF_any _ _).mono ?_
      rintro e w' ⟨rfl, rfl⟩
      rw [Hi.out]
      go_wp2_with fail
      go_ret
      exact ⟨show Ending.returned (.int .i64 (-1)) = _ from by rw [e1.out], 0, rfl⟩
    · have e1 := hide (show nearF zs y = (nearN zs y n : Int) by unfold nearF; rw [if_pos ⟨hv, hi⟩, Hl.out])
      obtain ⟨y0, y1⟩ := inB_iff.1 hi
      obtain ⟨⟨v0, v1⟩, hall⟩ := vFl_iff.1 hv
      have hn0 : 1 ≤ n := by have := Hl.out; omega
      have hn3 : n ≤ 3 := by have := Hl.out; omega
      have Hall := hide hall
      have Hv := hide hv
      have Hi := hide hi
      clear hv hi v0 v1 hall
      go_enter Try.func15, Try.ntmps15
      go_wp2_with fail
      refine (validCars_any A n c zs _ hn Ha.out).mono ?_
      rintro e w' ⟨rfl, rfl⟩
      rw [Hv.out]
      go_wp2_with fail
      refine (validFloorF_any _ _).mono ?_
      rintro e w' ⟨rfl, rfl⟩
      rw [Hi.out]
      go_wp2_with fail
      go_loopw [5, 18] (fun bv i wr => ∃ k : Nat, 0 ≤ k ∧ k ≤ n ∧ i = .int .i64 k ∧ bv = .int .i64 (nearN zs y k : Nat) ∧ ∃ q, wr = w.drewN q) (fun _ i _ => n - (intOf i).toNat)
      case atStart => exact ⟨0, Nat.le_refl _, by omega, rfl, int_eq (by simp [nearN]), 0, rfl⟩
      case round =>
        obtain ⟨k, hk1, hk, rfl, rfl, q, rfl⟩ := hrel
        by_cases hlt : k < n
        · have hbn : nearN zs y k < n := by
            rcases Nat.eq_zero_or_pos k with rfl | hp
            · simp [nearN]; omega
            · have := nearN_lt zs y k hp; omega
          have hsucc : nearN zs y (k + 1) = if dN zs y k < dN zs y (nearN zs y k) then k else nearN zs y k := rfl
          generalize hb : nearN zs y k = b at *
          obtain ⟨bk, ok, z, rfl, _, hz, hc1⟩ := RdI.at_ Ha.out hlt
          obtain ⟨bk', ok', z2, e1', _, hz2, hc2⟩ := RdI.at_ Ha.out hbn
          injection e1' with e1'
          injection e1' with e2 e3 _
          subst e2 e3
          obtain ⟨z0, z1⟩ := allB_mem Hall.out (List.mem_of_getElem? hz)
          obtain ⟨u0, u1⟩ := allB_mem Hall.out (List.mem_of_getElem? hz2)
          obtain ⟨D1, hD1⟩ : ∃ D, (z - y).natAbs = D := ⟨_, rfl⟩
          obtain ⟨D2, hD2⟩ : ∃ D, (z2 - y).natAbs = D := ⟨_, rfl⟩
          have q1 : dN zs y k = D1 := by unfold dN; rw [getD_of hz, hD1]
          have q2 : dN zs y b = D2 := by unfold dN; rw [getD_of hz2, hD2]
          rw [q1, q2] at hsucc
          have Hs := hide hsucc
          have HD1 := hide hD1
          have HD2 := hide hD2
          have Hb := hide hb
          clear hsucc hD1 hD2 q1 q2 hz hz2 hb
          have hlt' : (k : Int) < (n : Int) := by omega
          have hbn' : (b : Int) < (n : Int) := by omega
          go_wp2_with fail
          by_cases hd : D1 < D2
          · have hd' : (D1 : Int) < (D2 : Int) := by omega
            have K1 := hide (fun q' => distance_q z y D1 ((w.drewN q).drewN q') z0 z1 y0 y1 HD1.out)
            have K2 := hide (fun q' => distance_q z2 y D2 ((w.drewN q).drewN q') u0 u1 y0 y1 HD2.out)
            have J1 := hide (fun q' => distance_q z y D1 (w.drewN (q + q')) z0 z1 y0 y1 HD1.out)
            have J2 := hide (fun q' => distance_q z2 y D2 (w.drewN (q + q')) u0 u1 y0 y1 HD2.out)
            go_quiet ((go_at_call 41; first | (with_reducible exact quiet_add_same (J1.out _)) | (with_reducible exact quiet_add_same (J2.out _)) | (with_reducible exact Calls.quiet_of_same (K1.out _)) | (with_reducible exact Calls.quiet_of_same (K2.out _))))
            go_wp2_with fail
            go_roundw
            case rel => exact ⟨k + 1, by omega, by omega, by go_num, int_eq (by rw [Hs.out, if_pos hd]), _, rfl⟩
            case measure => simp [intOf]; omega
          · have hd' : ¬ ((D1 : Int) < (D2 : Int)) := by omega
            have Hd := hide hd
            clear hd
            have K1 := hide (fun q' => distance_q z y D1 ((w.drewN q).drewN q') z0 z1 y0 y1 HD1.out)
            have K2 := hide (fun q' => distance_q z2 y D2 ((w.drewN q).drewN q') u0 u1 y0 y1 HD2.out)
            have J1 := hide (fun q' => distance_q z y D1 (w.drewN (q + q')) z0 z1 y0 y1 HD1.out)
            have J2 := hide (fun q' => distance_q z2 y D2 (w.drewN (q + q')) u0 u1 y0 y1 HD2.out)
            go_quiet ((go_at_call 41; first | (with_reducible exact quiet_add_same (J1.out _)) | (with_reducible exact quiet_add_same (J2.out _)) | (with_reducible exact Calls.quiet_of_same (K1.out _)) | (with_reducible exact Calls.quiet_of_same (K2.out _))))
            go_wp2_with fail
            go_roundw
            case rel => exact ⟨k + 1, by omega, by omega, by go_num, int_eq (by rw [Hs.out, if_neg Hd.out]), _, rfl⟩
            case measure => simp [intOf]; omega
        · obtain rfl : k = n := by omega
          go_wp2_with fail
          go_ret
          exact ⟨ret_int (by rw [e1.out]), q, rfl⟩
end Go.Proofs.Ytmhaclhcllndeaa
