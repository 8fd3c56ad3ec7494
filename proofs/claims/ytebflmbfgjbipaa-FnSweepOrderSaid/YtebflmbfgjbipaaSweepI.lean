/-
  The program's sweep: the library's Clone, Sort, Compact, BinarySearch by the shelf's contracts; appendReversed.
-/
import Derived.Test.YtebflmbfgjbipaaSweepS
import Derived.Test.YtebflmbfgjbipaaLays
import Derived.Lib.OwnBridge
import Derived.Sort.OwnSortedInts
import Derived.ArgAppend
namespace Go.Proofs.Ytebflmbfgjbipaa
open Go.Shelf Go.RowKit Go.Lib Go.Sort
set_option linter.unusedSimpArgs false
set_option linter.unusedVariables false

abbrev OwnI (w : World) (base : Nat) (g n cap : Nat) (zs : List Int) : Prop := w.ownsRow base 3 1 (.slice (some ⟨g, 0, none⟩) n cap) n (zs.map (Value.int .i64))
theorem CloneI_some (b off n c : Nat) (zs : List Int) (w : World) (hn : n ≤ 1048576) (ha : RdI w .i64 (some ⟨b, off, none⟩) n zs) :
    Calls Try.prog 43 #[.slice (some ⟨b, off, none⟩) n c] w fun e w' => ∃ g cap, e = .returned (.slice (some ⟨g, 0, none⟩) n cap) ∧ w.heap.size ≤ g ∧ OwnI w' w.heap.size g n cap zs ∧ Below w.heap.size w w' := by
  have hl := ha.len
  have hc : ∀ j, j < zs.length → w.cell? ⟨b, off + j, none⟩ = some (.int .i64 (zs.getD j 0)) := by
    intro j hj
    obtain ⟨b', off', z, e, _, hz, hc'⟩ := RdI.at_ ha (show j < n by omega)
    cases e
    rw [hc', List.getD_eq_getElem?_getD, hz]
    rfl
  have hcon := AnyG.slices_Clone_int layCloneI b off n c zs w (by omega) (by omega) hc
  refine Calls.mono hcon ?_
  rintro e w' ⟨v', rfl, ho, hv, hB⟩
  rw [List.take_of_length_le (by omega)] at ho
  have ho' := ho
  rcases ho with ⟨hl2, ⟨hv0, hn0⟩ | ⟨g, cap, cur, hv1, hg, hrest⟩⟩
  · exact absurd hv0 hv
  · subst hv1
    exact ⟨g, cap, rfl, hg, ho', hB⟩
theorem CloneI_nil (n c : Nat) (w : World) :
    Calls Try.prog 43 #[.slice none n c] w fun e w' => e = .returned (.slice none 0 0) ∧ w' = w := AnyG.slices_Clone_int_nil layCloneI n c w
theorem SortI_some (base g n cap : Nat) (zs : List Int) (w : World) (hn : n ≤ 1048576) (ho : OwnI w base g n cap zs) :
    Calls Try.prog 44 #[.slice (some ⟨g, 0, none⟩) n cap] w fun e w' => e = .returned (.tuple #[]) ∧ OwnI w' base g n cap (zs.mergeSort fun x y => decide (x ≤ y)) ∧ w.grownBy w' (some g) := by
  obtain ⟨g', cap', e0, hb, hlt, h1, h2, h3, hH⟩ := holds_of_ownsRow (enc := Value.int .i64) ho (by intro h; cases h)
  cases e0
  have hcon := AnyG.slices_Sort_int laySort g 0 cap zs w hH hlt (by omega)
  rw [h3] at hcon
  refine Calls.mono hcon ?_
  rintro e w' ⟨rfl, m, os, rfl⟩
  refine ⟨rfl, ?_, grownBy_sortedI _⟩
  rcases ho.2 with ⟨e0, _⟩ | ⟨g', cap', cur, e0, hb', hg, hn', hm, hs, ht⟩
  · cases e0
  · cases e0
    subst h3
    exact ownsRow_sortedI (by simp) hb hg h1 h2 hs
theorem SortI_nil (c : Nat) (w : World) :
    Calls Try.prog 44 #[.slice none 0 c] w fun e w' => e = .returned (.tuple #[]) ∧ w' = w := AnyG.slices_Sort_int_none laySort none c w
theorem CompactI_some (base g n cap : Nat) (zs : List Int) (w : World) (hn : n ≤ 1048576) (ho : OwnI w base g n cap zs) :
    Calls Try.prog 45 #[.slice (some ⟨g, 0, none⟩) n cap] w fun e w' => e = .returned (.slice (some ⟨g, 0, none⟩) (Lib.compact zs).length cap) ∧ OwnI w' base g (Lib.compact zs).length cap (Lib.compact zs) ∧ w.grownBy w' (some g) := by
  obtain ⟨g', cap', e0, hb, hlt, h1, h2, h3, hH⟩ := holds_of_ownsRow (enc := Value.int .i64) ho (by intro h; cases h)
  cases e0
  have hcon := AnyG.slices_Compact_int layCompact g 0 cap zs w hH (by omega) (by omega)
  rw [h3] at hcon
  refine Calls.mono hcon ?_
  rintro e w' ⟨rfl, q, rfl⟩
  have hlen : (Lib.compact zs).length ≤ n := by
    have h := List.length_filter_le (Lib.keeps zs.toArray) (List.range zs.length)
    unfold Lib.compact Lib.compactUpTo
    rw [List.length_map]
    simp at h
    omega
  refine ⟨rfl, ?_, ?_⟩
  · have := ownsRow_putRow (q := q) (k := (Lib.compact zs).length) (ys := Lib.compact zs ++ List.replicate (n - (Lib.compact zs).length) 0) ho (by simp; omega) hlen
    rw [List.take_left'] at this
    · exact this
    · rfl
  · have h := grownBy_sortedI (w := w) (g := g) (n := q) (os := #[]) (Lib.compact zs ++ List.replicate (n - (Lib.compact zs).length) 0).toArray
    rw [grow_empty] at h
    exact h
theorem CompactI_nil (c : Nat) (w : World) :
    Calls Try.prog 45 #[.slice none 0 c] w fun e w' => e = .returned (.slice none 0 c) ∧ w' = w := AnyG.slices_Compact_int_empty layCompact none c w
theorem SearchI_some (base g n cap : Nat) (zs : List Int) (x : Int) (w : World) (hn : n ≤ 1048576) (ho : OwnI w base g n cap zs) (hs : zs.Pairwise (· < ·)) :
    Calls Try.prog 46 #[.slice (some ⟨g, 0, none⟩) n cap, .int .i64 x] w fun e w' => ∃ b : Bool, e = .returned (.tuple #[.int .i64 ((zs.countP fun y => decide (y < x) : Nat) : Int), .bool b]) ∧ ∃ q, w' = w.drewN q := by
  have hr : RdI w .i64 (some ⟨g, 0, none⟩) n zs := Rd.of_own ho
  have hl := hr.len
  have hc : ∀ j, j < zs.length → w.cell? ⟨g, 0 + j, none⟩ = some (.int .i64 (zs.getD j 0)) := by
    intro j hj
    obtain ⟨b', off', z, e, _, hz, hc'⟩ := RdI.at_ hr (show j < n by omega)
    cases e
    rw [hc', List.getD_eq_getElem?_getD, hz]
    rfl
  have hs2 : (zs.take n).Pairwise (· ≤ ·) := by
    rw [List.take_of_length_le (by omega)]
    exact List.pairwise_iff_getElem.2 fun i j hi hj hij => Int.le_of_lt (List.pairwise_iff_getElem.1 hs i j hi hj hij)
  have hcon := AnyG.slices_BinarySearch_int laySearch g 0 n cap zs x w (by omega) (by omega) hc hs2
  rw [List.take_of_length_le (by omega)] at hcon
  refine Calls.mono hcon ?_
  rintro e w' ⟨rfl, q, rfl⟩
  exact ⟨_, rfl, q, rfl⟩
set_option maxHeartbeats 400000 in
theorem SearchI_nil (c : Nat) (x : Int) (w : World) :
    Calls Try.prog 46 #[.slice none 0 c, .int .i64 x] w fun e w' => e = .returned (.tuple #[.int .i64 0, .bool false]) ∧ ∃ q, w' = w.drewN q := by
  go_enter Try.func46, Try.ntmps46
  go_wp2_with fail
  go_loopw [7, 8] (fun a b wr => a = .int .i64 0 ∧ b = .int .i64 0 ∧ wr = w) (fun _ _ _ => 0)
  case atStart => exact ⟨rfl, rfl, rfl⟩
  case round =>
    obtain ⟨rfl, rfl, hw⟩ := hrel
    have hw2 := hw.symm
    clear hw
    subst hw2
    go_wp2_with fail
    go_ret2
    exact ⟨rfl, 0, rfl⟩

set_option maxHeartbeats 1000000 in
theorem appendReversed_any (base : Nat) (A B : Option Addr) (n c m d : Nat) (L M : List Int) (w : World) (hn : n + m ≤ 100000) (hb : base ≤ w.heap.size)
    (ho : w.ownsRow base 3 1 (.slice A n c) n (L.map (Value.int .i64))) (hM : RdI w .i64 B m M) (hold : 0 < m → ∀ b off, B = some ⟨b, off, none⟩ → b < base) :
    Calls Try.prog 47 #[.slice A n c, .slice B m d] w fun e w' => ∃ A' c', e = .returned (.slice A' (n + m) c') ∧ w'.ownsRow base 3 1 (.slice A' (n + m) c') (n + m) ((L ++ M.reverse).map (Value.int .i64)) ∧ Below base w w' := by
  obtain ⟨i0, hi0, iz0, iz1, iz2⟩ := info_parts int_info
  have hlM : M.length = m := hM.len
  have hlL : L.length = n := by have := ho.1; simpa using this
  have HM := hide hM
  have HO := hide ho
  have HLD := hide hold
  have HL := hide (And.intro hlL hlM)
  clear hM ho hold hlL hlM
  go_enter Try.func47, Try.ntmps47
  go_wp2_with fail
  go_loopw [0, 5] (fun v i wr => ∃ k : Nat, k ≤ m ∧ i = .int .i64 ((m : Int) - (k : Int) - 1) ∧ Hid (wr.ownsRow base 3 1 v (n + k) ((L ++ (M.drop (m - k)).reverse).map (Value.int .i64)) ∧ Below base w wr)) (fun _ i _ => (intOf i + 1).toNat)
  case atStart => exact ⟨0, Nat.zero_le _, int_eq (by omega), hide ⟨by have := HO.out; rw [List.drop_of_length_le (by have := HL.out.2; omega)]; simpa using this, Below.refl _ _⟩⟩
  case round =>
    obtain ⟨k, hk, rfl, hr⟩ := hrel
    have hzr := hr.out.2.size
    by_cases hlt : k < m
    · obtain ⟨j, hj, hj2⟩ : ∃ j, m ≤ k + 1 + j ∧ k + 1 + j ≤ m := ⟨m - (k + 1), by omega, by omega⟩
      have e1 : (m : Int) - (k : Int) - 1 = (j : Int) := by omega
      rw [e1]
      obtain ⟨b1, o1, z, hB, hb1, hz, c1⟩ := RdI.at_ HM.out (show j < m by omega)
      have hbb := HLD.out (by omega) b1 o1 hB
      have d1 := (hr.out.2.cell (p := ⟨b1, o1 + j, none⟩) hbb).trans c1
      subst hB
      have hdr : M.drop j = z :: M.drop (j + 1) := drop_consI hz
      have Hdr := hide hdr
      have jm : (j : Int) < (m : Int) := by omega
      clear hz c1 hdr e1
      go_wp2_with (at_builtin; refine wpList_append_own _ rfl (.tmp 13) (.tmp 18) _ rfl base 3 i0 (.int .i64 0) 1 8 Try.underlying22 hi0 iz0 iz1 iz2 rfl (by decide) _ _ _ rfl (hr.out.1.alloc _) _ 1 1 [.int .i64 z] rfl rfl (cell_one_at _ _ _ _ (by simp)) (by intro u hu; simp at hu; subst hu; rfl) (by unfold maxLen; omega) (by omega) (by (try simp); omega) ?_; intro v5 w5 hown hgrow _)
      have HR3 := hide (show w5.ownsRow base 3 1 v5 (n + (k + 1)) ((L ++ (M.drop (m - (k + 1))).reverse).map (Value.int .i64)) ∧ Below base w w5 from by
        refine ⟨?_, Below.grown (hr.out.2.alloc (by omega) _) hgrow (by simp; omega) (fun j hj => (hr.out.1.lt j hj).1)⟩
        rw [show m - (k + 1) = j by omega, Hdr.out, show j + 1 = m - k by omega]
        have h4 := hown
        simp only [List.reverse_cons, List.map_append, List.map_cons, List.map_nil, ← List.append_assoc] at h4 ⊢
        exact h4)
      clear hown hgrow hr
      go_wp2_with fail
      go_roundw
      case rel => exact ⟨k + 1, by omega, int_eq (by omega), HR3⟩
      case measure => simp [intOf]
    · obtain rfl : k = m := by omega
      have hr2 := hr.out
      rw [Nat.sub_self, List.drop_zero] at hr2
      obtain ⟨Av, cv, rfl⟩ := own_form hr2.1
      have Hr2 := hide hr2
      clear hr2 hr
      go_wp2_with fail
      go_ret
      exact ⟨_, _, rfl, Hr2.out.1, Hr2.out.2⟩
end Go.Proofs.Ytebflmbfgjbipaa
