/-
  Lists of floors: whether all are in a range; distances; ways.
-/
import Derived.Test.YtmhaclhcllndeaaInts
import Derived.Test.YtmhaclhcllndeaaRdl
namespace Go.Proofs.Ytmhaclhcllndeaa
open Go.RowKit
set_option linter.unusedSimpArgs false
set_option linter.unusedVariables false

def allB (zs : List Int) (l h : Int) : Bool := zs.all fun x => inB x l h
theorem allB_take_succ {zs : List Int} {k : Nat} {x l h : Int} (hz : zs[k]? = some x) : allB (zs.take (k + 1)) l h = (allB (zs.take k) l h && inB x l h) := by
  unfold allB
  rw [take_snoc _ _ _ hz, List.all_append]; simp
theorem allB_false {zs : List Int} {k : Nat} {x l h : Int} (hz : zs[k]? = some x) (hv : inB x l h = false) : allB zs l h = false := by
  unfold allB
  rw [List.all_eq_false]
  exact ⟨x, List.mem_of_getElem? hz, by simp [hv]⟩
theorem allB_mem {zs : List Int} {l h x : Int} (ha : allB zs l h = true) (hx : x ∈ zs) : l ≤ x ∧ x ≤ h := by
  unfold allB at ha
  exact inB_iff.1 (List.all_eq_true.1 ha x hx)
theorem allB_iff {zs : List Int} {l h : Int} : allB zs l h = true ↔ ∀ x ∈ zs, l ≤ x ∧ x ≤ h := by
  unfold allB
  rw [List.all_eq_true]
  exact ⟨fun H x hx => inB_iff.1 (H x hx), fun H x hx => inB_iff.2 (H x hx)⟩

set_option maxHeartbeats 400000 in
theorem allWithin_any (A : Option Addr) (n c : Nat) (zs : List Int) (l h : Int) (w : World) (hn : n ≤ 1048576) (ha : RdI w .i64 A n zs) :
    Calls Try.prog 46 #[.slice A n c, .int .i64 l, .int .i64 h] w fun e w' => e = .returned (.bool (allB zs l h)) ∧ w = w' := by
  have hl := ha.len
  have Ha := hide ha
  have Hl := hide hl
  clear ha hl
  go_enter Try.func46, Try.ntmps46
  go_wp2_with fail
  go_loop [11] (fun i => ∃ k : Nat, k ≤ n ∧ i = .int .i64 k ∧ Hid (allB (zs.take k) l h = true)) (fun i => n - (intOf i).toNat)
  case atStart => exact ⟨0, Nat.zero_le _, rfl, hide (by simp [allB])⟩
  case round =>
    obtain ⟨k, hk, rfl, HA⟩ := hrel
    by_cases hlt : k < n
    · obtain ⟨b1, o1, z, rfl, _, hz, hc1⟩ := RdI.at_ Ha.out hlt
      have Hz := hide hz
      clear hz
      have hlt' : (k : Int) < (n : Int) := by omega
      cases hv : inB z l h
      all_goals
        have Hv := hide hv
        clear hv
        go_wp2_with fail
        refine (within_any z l h _).mono ?_
        rintro e w' ⟨rfl, rfl⟩
        rw [Hv.out]
        go_wp2_with fail
      · go_ret
        exact ⟨show Ending.returned (.bool false) = .returned (.bool (allB zs l h)) from by rw [allB_false Hz.out Hv.out], rfl⟩
      · go_round
        case rel => exact ⟨k + 1, by omega, by go_num, hide (by rw [allB_take_succ Hz.out, HA.out, Hv.out]; rfl)⟩
        case measure => simp [intOf]; omega
    · obtain rfl : k = n := by omega
      have e1 := hide (show allB zs l h = true by
        have h := HA.out
        rw [List.take_of_length_le (by have := Hl.out; omega)] at h
        exact h)
      go_wp2_with fail
      go_ret
      exact ⟨show Ending.returned (.bool true) = .returned (.bool (allB zs l h)) from by rw [e1.out], rfl⟩
set_option maxHeartbeats 400000 in
theorem allIn_any (A : Option Addr) (n c : Nat) (zs : List Int) (l h : Int) (w : World) (hn : n ≤ 1048576) (ha : RdI w .i64 A n zs) :
    Calls Try.prog 62 #[.slice A n c, .int .i64 l, .int .i64 h] w fun e w' => e = .returned (.bool (allB zs l h)) ∧ w = w' := by
  have hl := ha.len
  have Ha := hide ha
  have Hl := hide hl
  clear ha hl
  go_enter Try.func62, Try.ntmps62
  go_wp2_with fail
  go_loop [7] (fun i => ∃ k : Nat, k ≤ n ∧ i = .int .i64 k ∧ Hid (allB (zs.take k) l h = true)) (fun i => n - (intOf i).toNat)
  case atStart => exact ⟨0, Nat.zero_le _, rfl, hide (by simp [allB])⟩
  case round =>
    obtain ⟨k, hk, rfl, HA⟩ := hrel
    by_cases hlt : k < n
    · obtain ⟨b1, o1, z, rfl, _, hz, hc1⟩ := RdI.at_ Ha.out hlt
      have Hz := hide hz
      clear hz
      have hlt' : (k : Int) < (n : Int) := by omega
      cases hv : inB z l h
      all_goals
        have Hv := hide hv
        clear hv
        go_wp2_with fail
        refine (inRange_any z l h _).mono ?_
        rintro e w' ⟨rfl, rfl⟩
        rw [Hv.out]
        go_wp2_with fail
      · go_ret
        exact ⟨show Ending.returned (.bool false) = .returned (.bool (allB zs l h)) from by rw [allB_false Hz.out Hv.out], rfl⟩
      · go_round
        case rel => exact ⟨k + 1, by omega, by go_num, hide (by rw [allB_take_succ Hz.out, HA.out, Hv.out]; rfl)⟩
        case measure => simp [intOf]; omega
    · obtain rfl : k = n := by omega
      have e1 := hide (show allB zs l h = true by
        have h := HA.out
        rw [List.take_of_length_le (by have := Hl.out; omega)] at h
        exact h)
      go_wp2_with fail
      go_ret
      exact ⟨show Ending.returned (.bool true) = .returned (.bool (allB zs l h)) from by rw [e1.out], rfl⟩
set_option maxHeartbeats 400000 in
theorem validFloors_any (A : Option Addr) (n c : Nat) (zs : List Int) (w : World) (hn : n ≤ 1048576) (ha : RdI w .i64 A n zs) :
    Calls Try.prog 61 #[.slice A n c] w fun e w' => e = .returned (.bool (allB zs 0 15)) ∧ w = w' := by
  have Ha := hide ha
  clear ha
  go_enter Try.func61, Try.ntmps61
  go_wp2_with fail
  refine (allWithin_any A n c zs 0 15 _ hn Ha.out).mono ?_
  rintro e w' ⟨rfl, rfl⟩
  go_wp2_with fail
  go_ret
  exact ⟨rfl, rfl⟩
set_option maxHeartbeats 400000 in
theorem validFloorF_any (x : Int) (w : World) :
    Calls Try.prog 40 #[.int .i64 x] w fun e w' => e = .returned (.bool (inB x 0 15)) ∧ w = w' := by
  go_enter Try.func40, Try.ntmps40
  go_wp2_with fail
  refine (within_any _ _ _ _).mono ?_
  rintro e w' ⟨rfl, rfl⟩
  go_wp2_with fail
  go_ret
  exact ⟨rfl, rfl⟩
set_option maxHeartbeats 400000 in
theorem distance_i (a b : Int) (D : Nat) (w : World) (a0 : 0 ≤ a) (a1 : a ≤ 15) (b0 : 0 ≤ b) (b1 : b ≤ 15) (hD : (a - b).natAbs = D) :
    Calls Try.prog 41 #[.int .i64 a, .int .i64 b] w fun e w' => e = .returned (.int .i64 (D : Int)) ∧ w = w' := by
  have HD := hide hD
  clear hD
  rcases Int.lt_or_le a b with h | h
  all_goals
    go_enter Try.func41, Try.ntmps41
    go_wp2
    all_goals
      go_ret
      refine ⟨ret_int ?_, rfl⟩
      have hD := HD.out
      go_light
      first | omega | (simp at *; omega)
set_option maxHeartbeats 400000 in
theorem distance_s (a : Int) (D : Nat) (w : World) (a0 : -15 ≤ a) (a1 : a ≤ 15) (hD : a.natAbs = D) :
    Calls Try.prog 38 #[.int .i64 a] w fun e w' => e = .returned (.int .i64 (D : Int)) ∧ w = w' := by
  have HD := hide hD
  clear hD
  go_enter Try.func38, Try.ntmps38
  go_wp2
  all_goals
    go_ret
    refine ⟨ret_int ?_, rfl⟩
    have hD := HD.out
    go_light
    first | omega | (simp at *; omega)

/-- The way through stops. -/
def wayL : Int → List Int → Nat
  | _, [] => 0
  | a, z :: zs => (a - z).natAbs + wayL z zs
theorem drop_consI {zs : List Int} {k : Nat} {z : Int} (h : zs[k]? = some z) : zs.drop k = z :: zs.drop (k + 1) := by
  obtain ⟨hlt, e⟩ := List.getElem?_eq_some_iff.1 h
  rw [List.drop_eq_getElem_cons hlt, e]
theorem wayL_le : ∀ (zs : List Int) (a : Int), 0 ≤ a → a ≤ 15 → allB zs 0 15 = true → wayL a zs ≤ 15 * zs.length
  | [], _, _, _, _ => Nat.le_refl _
  | z :: zs, a, a0, a1, h => by
    have hz := allB_mem h (List.mem_cons_self ..)
    have ht : allB zs 0 15 = true := allB_iff.2 fun x hx => allB_mem h (List.mem_cons_of_mem _ hx)
    have := wayL_le zs z hz.1 hz.2 ht
    simp only [wayL, List.length_cons]
    omega
/-- What WayOf hands back. -/
def wayF (zs : List Int) (a : Int) : Int := if zs.length ≤ 24 ∧ allB zs 0 15 = true ∧ inB a 0 15 = true then (wayL a zs : Int) else -1

end Go.Proofs.Ytmhaclhcllndeaa
