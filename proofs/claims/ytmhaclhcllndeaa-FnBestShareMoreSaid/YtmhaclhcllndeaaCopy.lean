/-
  Contracts of the functions that copy a slice into memory of their own, and of those over slices of truth values.
-/
import Derived.Test.YtmhaclhcllndeaaInts
namespace Go.Proofs.Ytmhaclhcllndeaa
open Go.RowKit

set_option maxHeartbeats 400000 in
theorem toIntS_any (A : Option Addr) (n c : Nat) (zs : List Int) (w : World) (hn : n ≤ 1048576) (ha : RdI w .i64 A n zs) :
    Calls Try.prog 14 #[.slice A n c] w (RetI w zs) := by
  have hl := RdI.len ha
  have Ha := hide ha
  clear ha
  obtain ⟨i0, hi0, hz0, hz1, hz2⟩ := info_parts int_info
  go_enter Try.func14, Try.ntmps14
  go_wp2_with (at_make; refine wpList_make_full _ rfl _ _ 22 rfl w.heap.size 3 i0 (.int .i64 0) 1 Try.underlying22 hi0 hz0 hz1 _ _ _ _ n rfl rfl rfl rfl (by rw [hz2]; omega) (by unfold maxLen; omega) (Nat.le_refl _) ?_; intro w1 hown1 hgrow1)
  have hb1 := below_of_only hgrow1 (Nat.le_refl _) (by intro k hk; cases hk)
  have e1 : (madeCells (Value.cells (.int .i64 0)) (n * 1)).toList = List.replicate n (.int .i64 0) := by rw [Nat.mul_one]; exact toList_madeCells_one _ _
  rw [e1] at hown1
  have H1 := hide (And.intro hown1 hb1)
  clear hown1 hgrow1 hb1 e1
  go_loopw [4] (fun i wr => ∃ k : Nat, k ≤ n ∧ i = .int .i64 k ∧ Hid (wr.ownsRow w.heap.size 3 1 (.slice (some ⟨w.heap.size, 0, none⟩) n n) n ((zs.take k).map (Value.int .i64) ++ (List.replicate n (.int .i64 0)).drop k) ∧ Below w.heap.size w wr)) (fun i _ => n - (intOf i).toNat)
  case atStart => exact ⟨0, Nat.zero_le _, rfl, by simpa using H1.out.1, H1.out.2⟩
  case round =>
    obtain ⟨k, hk, rfl, hr⟩ := hrel
    by_cases hlt : k < n
    · obtain ⟨b1, o1, z, rfl, hb1, hz, hc1⟩ := RdI.at_ Ha.out hlt
      have hc := (hr.out.2.cell (p := ⟨b1, o1 + k, none⟩) hb1).trans hc1
      have hs := hr.out.1.stored k (Value.int .i64 z)
      rw [set_mid _ _ _ _ (by simp; omega) (by simp; omega)] at hs
      have hcell := hr.out.1.cellAt k (by omega)
      obtain ⟨u, hu⟩ : ∃ u, ((zs.take k).map (Value.int .i64) ++ (List.replicate n (.int .i64 0)).drop k)[k]? = some u := ⟨_, List.getElem?_eq_getElem (by simp; omega)⟩
      rw [hu] at hcell
      have hfr := hr.out.1.frozenAt k
      have Hs := hide (And.intro hs (And.intro hr.out.2 hz))
      clear hs hr hu hz hc1 hb1 hl
      have hlt' : (k : Int) < (n : Int) := by omega
      go_wp2_with fail
      go_roundw
      case rel =>
        refine ⟨k + 1, by omega, by go_num, ?_, ?_⟩
        · rw [take_snoc _ _ _ Hs.out.2.2]; simpa using Hs.out.1.1
        · exact Hs.out.2.1.grown Hs.out.1.2 Hs.out.2.1.size (by intro j hj; cases hj; exact Nat.le_refl _)
      case measure => simp [intOf]; omega
    · obtain rfl : k = n := by omega
      have Hr := hr.out
      clear hr
      rw [List.drop_eq_nil_of_le (by simp), List.append_nil, List.take_of_length_le (by omega)] at Hr
      have HH := hide Hr
      clear Hr hl
      go_wp2_with fail
      go_ret
      exact ⟨_, _, _, rfl, HH.out.1, HH.out.2⟩
end Go.Proofs.Ytmhaclhcllndeaa
