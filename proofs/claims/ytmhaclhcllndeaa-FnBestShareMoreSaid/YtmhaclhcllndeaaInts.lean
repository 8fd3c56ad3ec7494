/-
  Contracts of the small functions over slices: comparing, marking, copying.
-/
import Derived.Test.YtmhaclhcllndeaaBase
namespace Go.Proofs.Ytmhaclhcllndeaa
open Go.RowKit

set_option maxHeartbeats 400000 in
theorem within_any (x l h : Int) (w : World) :
    Calls Try.prog 63 #[.int .i64 x, .int .i64 l, .int .i64 h] w fun e w' => e = .returned (.bool (inB x l h)) ∧ w = w' := by
  go_enter Try.func63, Try.ntmps63
  go_wp2
  all_goals
    go_ret
    exact ⟨ret_bool (by first | exact inB_1 (by assumption) | exact inB_2 (by assumption)), rfl⟩
set_option maxHeartbeats 400000 in
theorem inRange_any (x l h : Int) (w : World) :
    Calls Try.prog 37 #[.int .i64 x, .int .i64 l, .int .i64 h] w fun e w' => e = .returned (.bool (inB x l h)) ∧ w = w' := by
  go_enter Try.func37, Try.ntmps37
  go_wp2
  all_goals
    go_ret
    exact ⟨ret_bool (by first | exact inB_1 (by assumption) | exact inB_2 (by assumption)), rfl⟩

set_option maxHeartbeats 400000 in
theorem eqIntS_same (A B : Option Addr) (n c m d : Nat) (zs : List Int) (w : World) (hn : n ≤ 1048576) (ha : RdI w .i64 A n zs) (hb : RdI w .i64 B m zs) :
    Calls Try.prog 16 #[.slice A n c, .slice B m d] w fun e w' => e = .returned (.bool true) ∧ ∃ k, w' = w.drewN k := by
  obtain rfl : n = m := by rw [← RdI.len ha, ← RdI.len hb]
  have Ha := hide ha
  have Hb := hide hb
  clear ha hb
  go_enter Try.func16, Try.ntmps16
  go_wp2_with fail
  go_loopw [5] (fun i wr => ∃ k : Nat, k ≤ n ∧ i = .int .i64 k ∧ ∃ q, wr = w.drewN q) (fun i _ => n - (intOf i).toNat)
  case atStart => exact ⟨0, Nat.zero_le _, rfl, 0, rfl⟩
  case round =>
    obtain ⟨k, hk, rfl, q, rfl⟩ := hrel
    by_cases hlt : k < n
    · obtain ⟨b1, o1, z, rfl, _, hz, hc1⟩ := RdI.at_ Ha.out hlt
      obtain ⟨b2, o2, z2, rfl, _, hz2, hc2⟩ := RdI.at_ Hb.out hlt
      obtain rfl : z = z2 := by rw [hz] at hz2; exact Option.some.inj hz2
      clear hz hz2
      have hlt' : (k : Int) < (n : Int) := by omega
      go_wp2_with fail
      go_quiet (fail)
      go_wp2_with fail
      go_roundw
      case rel => exact ⟨k + 1, by omega, by go_num, _, rfl⟩
      case measure => simp [intOf]; omega
    · go_wp2_with fail
      go_ret
      exact ⟨rfl, q, rfl⟩
set_option maxHeartbeats 400000 in
theorem equalInts_same (A B : Option Addr) (n c m d : Nat) (zs : List Int) (w : World) (hn : n ≤ 1048576) (ha : RdI w .i64 A n zs) (hb : RdI w .i64 B m zs) :
    Calls Try.prog 34 #[.slice A n c, .slice B m d] w fun e w' => e = .returned (.bool true) ∧ ∃ k, w' = w.drewN k := by
  obtain rfl : n = m := by rw [← RdI.len ha, ← RdI.len hb]
  have Ha := hide ha
  have Hb := hide hb
  clear ha hb
  go_enter Try.func34, Try.ntmps34
  go_wp2_with fail
  go_loopw [5] (fun i wr => ∃ k : Nat, k ≤ n ∧ i = .int .i64 k ∧ ∃ q, wr = w.drewN q) (fun i _ => n - (intOf i).toNat)
  case atStart => exact ⟨0, Nat.zero_le _, rfl, 0, rfl⟩
  case round =>
    obtain ⟨k, hk, rfl, q, rfl⟩ := hrel
    by_cases hlt : k < n
    · obtain ⟨b1, o1, z, rfl, _, hz, hc1⟩ := RdI.at_ Ha.out hlt
      obtain ⟨b2, o2, z2, rfl, _, hz2, hc2⟩ := RdI.at_ Hb.out hlt
      obtain rfl : z = z2 := by rw [hz] at hz2; exact Option.some.inj hz2
      clear hz hz2
      have hlt' : (k : Int) < (n : Int) := by omega
      go_wp2_with fail
      go_quiet (fail)
      go_wp2_with fail
      go_roundw
      case rel => exact ⟨k + 1, by omega, by go_num, _, rfl⟩
      case measure => simp [intOf]; omega
    · go_wp2_with fail
      go_ret
      exact ⟨rfl, q, rfl⟩


def marksI (k0 : Int) (k : Nat) : List Int := (List.range k).map fun (j : Nat) => k0 + (j : Int)
theorem marksI_len (k0 : Int) (k : Nat) : (marksI k0 k).length = k := by simp [marksI]
theorem marksI_succ (k0 : Int) (k : Nat) : marksI k0 (k + 1) = marksI k0 k ++ [k0 + (k : Int)] := by simp [marksI, List.range_succ]
theorem marksI_at (k0 : Int) (n k : Nat) (h : k < n) : (marksI k0 n)[k]? = some (k0 + (k : Int)) := by simp [marksI, h]
theorem set_mid {α : Type} (l r : List α) (k : Nat) (u : α) (hl : l.length = k) (hk : k < r.length) : (l ++ r.drop k).set k u = l ++ [u] ++ r.drop (k + 1) := by
  subst hl
  rw [List.set_append_right _ _ (Nat.le_refl _), Nat.sub_self, List.drop_eq_getElem_cons hk]
  simp only [List.set_cons_zero, List.append_assoc, List.singleton_append]

set_option maxHeartbeats 400000 in
theorem markIntS_any (B0 : Nat) (A : Option Addr) (n c : Nat) (k0 : Int) (xs : List Value) (w : World) (hn : n ≤ 1048576) (h0 : 0 ≤ k0) (h1 : k0 ≤ 1073741824) (ho : w.ownsRow B0 3 1 (.slice A n c) n xs) :
    Calls Try.prog 24 #[.slice A n c, .int .i64 k0] w fun e w' => e = .returned (.int .i64 (k0 + n)) ∧ w'.ownsRow B0 3 1 (.slice A n c) n ((marksI k0 n).map (Value.int .i64)) ∧ w.grownBy w' (Value.slice A n c).ownBlock := by
  have Ho := hide ho
  clear ho
  go_enter Try.func24, Try.ntmps24
  go_wp2_with fail
  go_loopw [1, 5] (fun kk i wr => ∃ k : Nat, k ≤ n ∧ i = .int .i64 k ∧ kk = .int .i64 (k0 + k) ∧ Hid (wr.ownsRow B0 3 1 (.slice A n c) n ((marksI k0 k).map (Value.int .i64) ++ xs.drop k) ∧ w.grownBy wr (Value.slice A n c).ownBlock)) (fun _ i _ => n - (intOf i).toNat)
  case atStart => exact ⟨0, Nat.zero_le _, rfl, int_eq (by simp), by simpa [marksI] using Ho.out, World.grownBy.refl _ _⟩
  case round =>
    obtain ⟨k, hk, rfl, rfl, hr⟩ := hrel
    by_cases hlt : k < n
    · have hxl : xs.length = n := by simpa using Ho.out.1
      obtain ⟨g, cap, cur, hv, hbg, hgc, _, _, _, _⟩ : ∃ g cap cur, Value.slice A n c = .slice (some ⟨g, 0, none⟩) n cap ∧ B0 ≤ g ∧ wr.heap[g]? = some (.cells cur 3 (0, 0)) ∧ n ≤ cap ∧ cap ≤ maxLen ∧ cur.size = cap * 1 ∧ cur.toList.take (n * 1) = (marksI k0 k).map (Value.int .i64) ++ xs.drop k := by
        rcases hr.out.1.2 with ⟨_, h0⟩ | h
        · omega
        · exact h
      obtain rfl : A = some ⟨g, 0, none⟩ := by injection hv
      obtain rfl : cap = c := by injection hv with _ _ h; exact h.symm
      have hs := hr.out.1.stored k (.int .i64 (k0 + (k : Int)))
      rw [set_mid _ _ _ _ (by simp [marksI_len]) (by omega)] at hs
      have hcell := hr.out.1.cellAt k (by omega)
      have hu : ∃ u, ((marksI k0 k).map (Value.int .i64) ++ xs.drop k)[k]? = some u := ⟨_, List.getElem?_eq_getElem (by simp [marksI_len]; omega)⟩
      obtain ⟨u, hu⟩ := hu
      rw [hu] at hcell
      have hfr := hr.out.1.frozenAt k
      have Hs := hide (And.intro hs hr.out.2)
      clear hs hr hu hgc hv
      have hlt' : (k : Int) < (n : Int) := by omega
      go_wp2_with fail
      go_roundw
      case rel =>
        refine ⟨k + 1, by omega, by go_num, int_eq (by omega), ?_, ?_⟩
        · rw [marksI_succ]; simpa using Hs.out.1.1
        · exact only_trans Hs.out.2 Hs.out.1.2
      case measure => simp [intOf]; omega
    · obtain rfl : k = n := by omega
      have Hr := hr.out
      clear hr
      have hxl : xs.drop k = [] := List.drop_eq_nil_of_le (by have := Ho.out.1; omega)
      rw [hxl, List.append_nil] at Hr
      have HH := hide Hr
      clear Hr hxl
      go_wp2_with fail
      go_ret
      exact ⟨rfl, HH.out.1, HH.out.2⟩


set_option maxHeartbeats 400000 in
theorem heldIntS_ok (A : Option Addr) (n c : Nat) (k0 : Int) (w : World) (hn : n ≤ 1048576) (h0 : 0 ≤ k0) (h1 : k0 ≤ 1073741824) (ha : RdI w .i64 A n (marksI k0 n)) :
    Calls Try.prog 26 #[.slice A n c, .int .i64 k0] w fun e w' => e = .returned (.int .i64 (k0 + n)) ∧ ∃ q, w' = w.drewN q := by
  have Ha := hide ha
  clear ha
  go_enter Try.func26, Try.ntmps26
  go_wp2_with fail
  go_loopw [1, 5] (fun kk i wr => ∃ k : Nat, k ≤ n ∧ i = .int .i64 k ∧ kk = .int .i64 (k0 + k) ∧ ∃ q, wr = w.drewN q) (fun _ i _ => n - (intOf i).toNat)
  case atStart => exact ⟨0, Nat.zero_le _, rfl, int_eq (by simp), 0, rfl⟩
  case round =>
    obtain ⟨k, hk, rfl, rfl, q, rfl⟩ := hrel
    by_cases hlt : k < n
    · obtain ⟨b1, o1, z, rfl, _, hz, hc1⟩ := RdI.at_ Ha.out hlt
      rw [marksI_at _ _ _ hlt] at hz
      obtain rfl := Option.some.inj hz
      clear hz
      have hlt' : (k : Int) < (n : Int) := by omega
      go_wp2_with fail
      try go_quiet (fail)
      go_wp2_with fail
      go_roundw
      case rel => exact ⟨k + 1, by omega, by go_num, int_eq (by omega), _, rfl⟩
      case measure => simp [intOf]; omega
    · obtain rfl : k = n := by omega
      go_wp2_with fail
      go_ret
      exact ⟨rfl, q, rfl⟩

end Go.Proofs.Ytmhaclhcllndeaa
