/-
  Lists of floors: whether all are in a range; distances; ways.
-/
import Derived.Test.YteclciglngidkaaInts
import Derived.Test.YteclciglngidkaaRdl
namespace Go.Proofs.Yteclciglngidkaa
open Go.RowKit
set_option linter.unusedSimpArgs false
set_option linter.unusedVariables false

def allB (zs : List Int) (l h : Int) : Bool := zs.all fun x => inB x l h
theorem allB_take_succ {zs : List Int} {k : Nat} {x l h : Int} (hz : zs[k]? = some x) : allB (zs.take (k + 1)) l h = (allB (zs.take k) l h && inB x l h) := by
  unfold allB
  rw [take_snoc _ _ _ hz, List.all_append]; simp
theorem allB_false {zs : List Int} {k : Nat} {x l h : Int} (hz : zs[k]? = some x) (hv : inB x l h = false) : allB zs l h = false := by
  unfold allB
  rw [List.all_eq_false]
  exact ⟨x, List.mem_of_getElem? hz, by simp [hv]⟩
theorem allB_mem {zs : List Int} {l h x : Int} (ha : allB zs l h = true) (hx : x ∈ zs) : l ≤ x ∧ x ≤ h := by
  unfold allB at ha
  exact inB_iff.1 (List.all_eq_true.1 ha x hx)
theorem allB_iff {zs : List Int} {l h : Int} : allB zs l h = true ↔ ∀ x ∈ zs, l ≤ x ∧ x ≤ h := by
  unfold allB
  rw [List.all_eq_true]
  exact ⟨fun H x hx => inB_iff.1 (H x hx), fun H x hx => inB_iff.2 (H x hx)⟩

set_option maxHeartbeats 400000 in
theorem allWithin_any (A : Option Addr) (n c : Nat) (zs : List Int) (l h : Int) (w : World) (hn : n ≤ 1048576) (ha : RdI w .i64 A n zs) :
    Calls Try.prog 29 #[.slice A n c, .int .i64 l, .int .i64 h] w fun e w' => e = .returned (.bool (allB zs l h)) ∧ w = w' := by
  have hl := ha.len
  have Ha := hide ha
  have Hl := hide hl
  clear ha hl
  go_enter Try.func29, Try.ntmps29
  go_wp2_with fail
  go_loop [11] (fun i => ∃ k : Nat, k ≤ n ∧ i = .int .i64 k ∧ Hid (allB (zs.take k) l h = true)) (fun i => n - (intOf i).toNat)
  case atStart => exact ⟨0, Nat.zero_le _, rfl, hide (by simp [allB])⟩
  case round =>
    obtain ⟨k, hk, rfl, HA⟩ := hrel
    by_cases hlt : k < n
    · obtain ⟨b1, o1, z, rfl, _, hz, hc1⟩ := RdI.at_ Ha.out hlt
      have Hz := hide hz
      clear hz
      have hlt' : (k : Int) < (n : Int) := by omega
      cases hv : inB z l h
      all_goals
        have Hv := hide hv
        clear hv
        go_wp2_with fail
        refine (within_any z l h _).mono ?_
        rintro e w' ⟨rfl, rfl⟩
        rw [Hv.out]
        go_wp2_with fail
      · go_ret
        exact ⟨show Ending.returned (.bool false) = .returned (.bool (allB zs l h)) from by rw [allB_false Hz.out Hv.out], rfl⟩
      · go_round
        case rel => exact ⟨k + 1, by omega, by go_num, hide (by rw [allB_take_succ Hz.out, HA.out, Hv.out]; rfl)⟩
        case measure => simp [intOf]; omega
    · obtain rfl : k = n := by omega
      have e1 := hide (show allB zs l h = true by
        have h := HA.out
        rw [List.take_of_length_le (by have := Hl.out; omega)] at h
        exact h)
      go_wp2_with fail
      go_ret
      exact ⟨show Ending.returned (.bool true) = .returned (.bool (allB zs l h)) from by rw [e1.out], rfl⟩
set_option maxHeartbeats 400000 in
theorem allIn_any (A : Option Addr) (n c : Nat) (zs : List Int) (l h : Int) (w : World) (hn : n ≤ 1048576) (ha : RdI w .i64 A n zs) :
    Calls Try.prog 17 #[.slice A n c, .int .i64 l, .int .i64 h] w fun e w' => e = .returned (.bool (allB zs l h)) ∧ w = w' := by
  have hl := ha.len
  have Ha := hide ha
  have Hl := hide hl
  clear ha hl
  go_enter Try.func17, Try.ntmps17
  go_wp2_with fail
  go_loop [7] (fun i => ∃ k : Nat, k ≤ n ∧ i = .int .i64 k ∧ Hid (allB (zs.take k) l h = true)) (fun i => n - (intOf i).toNat)
  case atStart => exact ⟨0, Nat.zero_le _, rfl, hide (by simp [allB])⟩
  case round =>
    obtain ⟨k, hk, rfl, HA⟩ := hrel
    by_cases hlt : k < n
    · obtain ⟨b1, o1, z, rfl, _, hz, hc1⟩ := RdI.at_ Ha.out hlt
      have Hz := hide hz
      clear hz
      have hlt' : (k : Int) < (n : Int) := by omega
      cases hv : inB z l h
      all_goals
        have Hv := hide hv
        clear hv
        go_wp2_with fail
        refine (inRange_any z l h _).mono ?_
        rintro e w' ⟨rfl, rfl⟩
        rw [Hv.out]
        go_wp2_with fail
      · go_ret
        exact ⟨show Ending.returned (.bool false) = .returned (.bool (allB zs l h)) from by rw [allB_false Hz.out Hv.out], rfl⟩
      · go_round
        case rel => exact ⟨k + 1, by omega, by go_num, hide (by rw [allB_take_succ Hz.out, HA.out, Hv.out]; rfl)⟩
        case measure => simp [intOf]; omega
    · obtain rfl : k = n := by omega
      have e1 := hide (show allB zs l h = true by
        have h := HA.out
        rw [List.take_of_length_le (by have := Hl.out; omega)] at h
        exact h)
      go_wp2_with fail
      go_ret
      exact ⟨show Ending.returned (.bool true) = .returned (.bool (allB zs l h)) from by rw [e1.out], rfl⟩
set_option maxHeartbeats 400000 in
theorem validFloors_any (A : Option Addr) (n c : Nat) (zs : List Int) (w : World) (hn : n ≤ 1048576) (ha : RdI w .i64 A n zs) :
    Calls Try.prog 14 #[.slice A n c] w fun e w' => e = .returned (.bool (allB zs 0 15)) ∧ w = w' := by
  have Ha := hide ha
  clear ha
  go_enter Try.func14, Try.ntmps14
  go_wp2_with fail
  refine (allWithin_any A n c zs 0 15 _ hn Ha.out).mono ?_
  rintro e w' ⟨rfl, rfl⟩
  go_wp2_with fail
  go_ret
  exact ⟨rfl, rfl⟩
set_option maxHeartbeats 400000 in
theorem validFloorF_any (x : Int) (w : World) :
    Calls Try.prog 15 #[.int .i64 x] w fun e w' => e = .returned (.bool (inB x 0 15)) ∧ w = w' := by
  go_enter Try.func15, Try.ntmps15
  go_wp2_with fail
  refine (within_any _ _ _ _).mono ?_
  rintro e w' ⟨rfl, rfl⟩
  go_wp2_with fail
  go_ret
  exact ⟨rfl, rfl⟩
set_option maxHeartbeats 400000 in
theorem distance_i (a b : Int) (D : Nat) (w : World) (a0 : 0 ≤ a) (a1 : a ≤ 15) (b0 : 0 ≤ b) (b1 : b ≤ 15) (hD : (a - b).natAbs = D) :
    Calls Try.prog 16 #[.int .i64 a, .int .i64 b] w fun e w' => e = .returned (.int .i64 (D : Int)) ∧ w = w' := by
  have HD := hide hD
  clear hD
  rcases Int.lt_or_le a b with h | h
  all_goals
    go_enter Try.func16, Try.ntmps16
    go_wp2
    all_goals
      go_ret
      refine ⟨ret_int ?_, rfl⟩
      have hD := HD.out
      go_light
      first | omega | (simp at *; omega)
set_option maxHeartbeats 400000 in
theorem distance_s (a : Int) (D : Nat) (w : World) (a0 : -15 ≤ a) (a1 : a ≤ 15) (hD : a.natAbs = D) :
    Calls Try.prog 31 #[.int .i64 a] w fun e w' => e = .returned (.int .i64 (D : Int)) ∧ w = w' := by
  have HD := hide hD
  clear hD
  go_enter Try.func31, Try.ntmps31
  go_wp2
  all_goals
    go_ret
    refine ⟨ret_int ?_, rfl⟩
    have hD := HD.out
    go_light
    first | omega | (simp at *; omega)

/-- The way through stops. -/
def wayL : Int → List Int → Nat
  | _, [] => 0
  | a, z :: zs => (a - z).natAbs + wayL z zs
theorem drop_consI {zs : List Int} {k : Nat} {z : Int} (h : zs[k]? = some z) : zs.drop k = z :: zs.drop (k + 1) := by
  obtain ⟨hlt, e⟩ := List.getElem?_eq_some_iff.1 h
  rw [List.drop_eq_getElem_cons hlt, e]
theorem wayL_le : ∀ (zs : List Int) (a : Int), 0 ≤ a → a ≤ 15 → allB zs 0 15 = true → wayL a zs ≤ 15 * zs.length
  | [], _, _, _, _ => Nat.le_refl _
  | z :: zs, a, a0, a1, h => by
    have hz := allB_mem h (List.mem_cons_self ..)
    have ht : allB zs 0 15 = true := allB_iff.2 fun x hx => allB_mem h (List.mem_cons_of_mem _ hx)
    have := wayL_le zs z hz.1 hz.2 ht
    simp only [wayL, List.length_cons]
    omega
/-- What WayOf hands back. -/
def wayF (zs : List Int) (a : Int) : Int := if zs.length ≤ 24 ∧ allB zs 0 15 = true ∧ inB a 0 15 = true then (wayL a zs : Int) else -1

set_option maxHeartbeats 1000000 in
theorem wayOf_s (A : Option Addr) (n c : Nat) (zs : List Int) (a : Int) (w : World) (hn : n ≤ 24) (ha : RdI w .i64 A n zs) (hv : allB zs 0 15 = true) (a0 : 0 ≤ a) (a1 : a ≤ 15) :
    Calls Try.prog 19 #[.slice A n c, .int .i64 a] w fun e w' => e = .returned (.int .i64 (wayL a zs : Nat)) ∧ w = w' := by
  have hl := ha.len
  have Ha := hide ha
  have Hl := hide hl
  have Hv := hide hv
  clear ha hl hv
  go_enter Try.func19, Try.ntmps19
  go_wp2_with fail
  go_loop [1, 5, 6] (fun av mv i => ∃ (k m : Nat) (b : Int), k ≤ n ∧ i = .int .i64 k ∧ av = .int .i64 b ∧ mv = .int .i64 (m : Int) ∧ 0 ≤ b ∧ b ≤ 15 ∧ m ≤ 15 * k ∧ Hid (wayL a zs = m + wayL b (zs.drop k))) (fun _ _ i => n - (intOf i).toNat)
  case atStart => exact ⟨0, 0, a, Nat.zero_le _, rfl, rfl, rfl, a0, a1, by omega, hide (by simp)⟩
  case round =>
    obtain ⟨k, m, b, hk, rfl, rfl, rfl, b0, b1, hm, HW⟩ := hrel
    by_cases hlt : k < n
    · obtain ⟨bk, ok, z, rfl, _, hz, hc1⟩ := RdI.at_ Ha.out hlt
      have hzz := allB_mem Hv.out (List.mem_of_getElem? hz)
      obtain ⟨z0, z1⟩ := hzz
      have Hz := hide hz
      clear hz
      have hlt' : (k : Int) < (n : Int) := by omega
      have hw := HW.out
      rw [drop_consI Hz.out] at hw
      simp only [wayL] at hw
      obtain ⟨D, hD⟩ : ∃ D, (z - b).natAbs = D := ⟨_, rfl⟩
      rw [show (b - z).natAbs = D by omega] at hw
      have hD15 : D ≤ 15 := by omega
      have HW2 := hide hw
      have HD := hide hD
      clear hw hD
      go_wp2_with fail
      refine (distance_s (z - b) D _ (by omega) (by omega) HD.out).mono ?_
      rintro e w' ⟨rfl, rfl⟩
      go_wp2_with fail
      go_round
      case rel => exact ⟨k + 1, m + D, z, by omega, by go_num, rfl, int_eq (by omega), z0, z1, by omega, hide (by rw [HW2.out]; omega)⟩
      case measure => simp [intOf]; omega
    · obtain rfl : k = n := by omega
      have hw := HW.out
      rw [List.drop_eq_nil_of_le (by have := Hl.out; omega)] at hw
      simp only [wayL, Nat.add_zero] at hw
      have HW2 := hide hw
      clear hw
      go_wp2_with fail
      go_ret
      exact ⟨ret_int (by rw [HW2.out]), rfl⟩
set_option maxHeartbeats 1000000 in
theorem WayOf_s (A : Option Addr) (n c : Nat) (zs : List Int) (a : Int) (w : World) (hn : n ≤ 1048576) (ha : RdI w .i64 A n zs) :
    Calls Try.prog 7 #[.slice A n c, .int .i64 a] w fun e w' => e = .returned (.int .i64 (wayF zs a)) ∧ w = w' := by
  have hl := ha.len
  have Ha := hide ha
  have Hl := hide hl
  clear ha hl
  by_cases h24 : n ≤ 24
  · have h24' : (n : Int) ≤ 24 := by omega
    cases hv : allB zs 0 15
    · have e1 := hide (show wayF zs a = -1 from if_neg (by rw [hv]; simp))
      have Hv := hide hv
      clear hv
      go_enter Try.func7, Try.ntmps7
      go_wp2_with fail
      refine (allIn_any A n c zs 0 15 _ (by omega) Ha.out).mono ?_
      rintro e w' ⟨rfl, rfl⟩
      rw [Hv.out]
      go_wp2_with fail
      go_ret
      exact ⟨show Ending.returned (.int .i64 (-1)) = _ from by rw [e1.out], rfl⟩
    · have Hv := hide hv
      clear hv
      cases hi : inB a 0 15
      · have e1 := hide (show wayF zs a = -1 from if_neg (by rw [hi]; simp))
        have Hi := hide hi
        clear hi
        go_enter Try.func7, Try.ntmps7
        go_wp2_with fail
        refine (allIn_any A n c zs 0 15 _ (by omega) Ha.out).mono ?_
        rintro e w' ⟨rfl, rfl⟩
        rw [Hv.out]
        go_wp2_with fail
        refine (inRange_any _ _ _ _).mono ?_
        rintro e w' ⟨rfl, rfl⟩
        rw [Hi.out]
        go_wp2_with fail
        go_ret
        exact ⟨show Ending.returned (.int .i64 (-1)) = _ from by rw [e1.out], rfl⟩
      · have e1 := hide (show wayF zs a = (wayL a zs : Int) from if_pos ⟨by have := Hl.out; omega, Hv.out, hi⟩)
        obtain ⟨a0, a1⟩ := inB_iff.1 hi
        have Hi := hide hi
        clear hi
        go_enter Try.func7, Try.ntmps7
        go_wp2_with fail
        refine (allIn_any A n c zs 0 15 _ (by omega) Ha.out).mono ?_
        rintro e w' ⟨rfl, rfl⟩
        rw [Hv.out]
        go_wp2_with fail
        refine (inRange_any _ _ _ _).mono ?_
        rintro e w' ⟨rfl, rfl⟩
        rw [Hi.out]
        go_wp2_with fail
        refine (wayOf_s A n c zs a _ (by omega) Ha.out Hv.out a0 a1).mono ?_
        rintro e w' ⟨rfl, rfl⟩
        go_wp2_with fail
        go_ret
        exact ⟨ret_int (by rw [e1.out]), rfl⟩
  · have e1 := hide (show wayF zs a = -1 from if_neg (by rw [Hl.out]; omega))
    have h24' : (24 : Int) < (n : Int) := by omega
    go_enter Try.func7, Try.ntmps7
    go_wp2_with fail
    go_ret
    exact ⟨show Ending.returned (.int .i64 (-1)) = _ from by rw [e1.out], rfl⟩
end Go.Proofs.Yteclciglngidkaa
