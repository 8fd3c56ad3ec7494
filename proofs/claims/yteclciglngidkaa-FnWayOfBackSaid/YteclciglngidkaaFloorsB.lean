/-
  The program's own WayOf.
-/
import Derived.Test.YteclciglngidkaaFloorsA
namespace Go.Proofs.Yteclciglngidkaa
open Go.RowKit
set_option linter.unusedSimpArgs false
set_option linter.unusedVariables false

set_option maxHeartbeats 1000000 in
theorem WayOf_i (A : Option Addr) (n c : Nat) (zs : List Int) (a : Int) (w : World) (hn : n ≤ 1048576) (ha : RdI w .i64 A n zs) :
    Calls Try.prog 6 #[.slice A n c, .int .i64 a] w fun e w' => e = .returned (.int .i64 (wayF zs a)) ∧ w = w' := by
  have hl := ha.len
  have Ha := hide ha
  have Hl := hide hl
  clear ha hl
  by_cases h24 : n ≤ 24
  · have h24' : (n : Int) ≤ 24 := by omega
    cases hv : allB zs 0 15
    · have e1 := hide (show wayF zs a = -1 from if_neg (by rw [hv]; simp))
      have Hv := hide hv
      clear hv
      go_enter Try.func6, Try.ntmps6
      go_wp2_with fail
      refine (validFloors_any A n c zs _ (by omega) Ha.out).mono ?_
      rintro e w' ⟨rfl, rfl⟩
      rw [Hv.out]
      go_wp2_with fail
      go_ret
      exact ⟨show Ending.returned (.int .i64 (-1)) = _ from by rw [e1.out], rfl⟩
    · have Hv := hide hv
      clear hv
      cases hi : inB a 0 15
      · have e1 := hide (show wayF zs a = -1 from if_neg (by rw [hi]; simp))
        have Hi := hide hi
        clear hi
        go_enter Try.func6, Try.ntmps6
        go_wp2_with fail
        refine (validFloors_any A n c zs _ (by omega) Ha.out).mono ?_
        rintro e w' ⟨rfl, rfl⟩
        rw [Hv.out]
        go_wp2_with fail
        refine (validFloorF_any _ _).mono ?_
        rintro e w' ⟨rfl, rfl⟩
        rw [Hi.out]
        go_wp2_with fail
        go_ret
        exact ⟨show Ending.returned (.int .i64 (-1)) = _ from by rw [e1.out], rfl⟩
      · have e1 := hide (show wayF zs a = (wayL a zs : Int) from if_pos ⟨by have := Hl.out; omega, Hv.out, hi⟩)
        obtain ⟨a0, a1⟩ := inB_iff.1 hi
        have Hi := hide hi
        clear hi
        go_enter Try.func6, Try.ntmps6
        go_wp2_with fail
        refine (validFloors_any A n c zs _ (by omega) Ha.out).mono ?_
        rintro e w' ⟨rfl, rfl⟩
        rw [Hv.out]
        go_wp2_with fail
        refine (validFloorF_any _ _).mono ?_
        rintro e w' ⟨rfl, rfl⟩
        rw [Hi.out]
        go_wp2_with fail
        go_loop [1, 5, 23] (fun av mv i => ∃ (k m : Nat) (b : Int), k ≤ n ∧ i = .int .i64 k ∧ av = .int .i64 b ∧ mv = .int .i64 (m : Int) ∧ 0 ≤ b ∧ b ≤ 15 ∧ m ≤ 15 * k ∧ Hid (wayL a zs = m + wayL b (zs.drop k))) (fun _ _ i => n - (intOf i).toNat)
        case atStart => exact ⟨0, 0, a, Nat.zero_le _, rfl, rfl, rfl, a0, a1, by omega, hide (by simp)⟩
        case round =>
          obtain ⟨k, m, b, hk, rfl, rfl, rfl, b0, b1, hm, HW⟩ := hrel
          by_cases hlt : k < n
          · obtain ⟨bk, ok, z, rfl, _, hz, hc1⟩ := RdI.at_ Ha.out hlt
            have hzz := allB_mem Hv.out (List.mem_of_getElem? hz)
            obtain ⟨z0, z1⟩ := hzz
            have Hz := hide hz
            clear hz
            have hlt' : (k : Int) < (n : Int) := by omega
            have hw := HW.out
            rw [drop_consI Hz.out] at hw
            simp only [wayL] at hw
            obtain ⟨D, hD⟩ : ∃ D, (b - z).natAbs = D := ⟨_, rfl⟩
            rw [hD] at hw
            have hD15 : D ≤ 15 := by omega
            have HW2 := hide hw
            have HD := hide hD
            clear hw hD
            go_wp2_with fail
            refine (distance_i b z D _ b0 b1 z0 z1 HD.out).mono ?_
            rintro e w' ⟨rfl, rfl⟩
            go_wp2_with fail
            go_round
            case rel => exact ⟨k + 1, m + D, z, by omega, by go_num, rfl, int_eq (by omega), z0, z1, by omega, hide (by rw [HW2.out]; omega)⟩
            case measure => simp [intOf]; omega
          · obtain rfl : k = n := by omega
            have hw := HW.out
            rw [List.drop_eq_nil_of_le (by have := Hl.out; omega)] at hw
            simp only [wayL, Nat.add_zero] at hw
            have HW2 := hide hw
            clear hw
            go_wp2_with fail
            go_ret
            exact ⟨ret_int (by rw [e1.out, HW2.out]), rfl⟩
  · have e1 := hide (show wayF zs a = -1 from if_neg (by rw [Hl.out]; omega))
    have h24' : (24 : Int) < (n : Int) := by omega
    go_enter Try.func6, Try.ntmps6
    go_wp2_with fail
    go_ret
    exact ⟨show Ending.returned (.int .i64 (-1)) = _ from by rw [e1.out], rfl⟩
end Go.Proofs.Yteclciglngidkaa
