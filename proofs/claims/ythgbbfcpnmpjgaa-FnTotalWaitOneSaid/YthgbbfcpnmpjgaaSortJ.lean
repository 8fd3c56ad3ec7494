/-
  The specification's sort of calls: the same insertion sort.
-/
import Derived.Test.YthgbbfcpnmpjgaaSortI
import Derived.Test.YthgbbfcpnmpjgaaCallsC
namespace Go.Proofs.Ythgbbfcpnmpjgaa
open Go.RowKit
set_option linter.unusedSimpArgs false
set_option linter.unusedVariables false

theorem cells_set3 (l : List CallQ) (k : Nat) (c : CallQ) : (((cellsC l).set (k * 3) (.int .i64 c.1)).set (k * 3 + 1) (.int .i64 c.2.1)).set (k * 3 + 2) (.int .i64 c.2.2) = cellsC (l.set k c) := by
  induction l generalizing k with
  | nil => simp [cellsC]
  | cons x l ih =>
    have e : cellsC (x :: l) = .int .i64 x.1 :: .int .i64 x.2.1 :: .int .i64 x.2.2 :: cellsC l := rfl
    cases k with
    | zero =>
      rw [e]
      rfl
    | succ k =>
      have e2 : cellsC ((x :: l).set (k + 1) c) = .int .i64 x.1 :: .int .i64 x.2.1 :: .int .i64 x.2.2 :: cellsC (l.set k c) := rfl
      rw [e, e2, ← ih k]
      rw [show (k + 1) * 3 = k * 3 + 1 + 1 + 1 by omega, show k * 3 + 1 + 1 + 1 + 1 = k * 3 + 1 + 1 + 1 + 1 from rfl]
      simp only [List.set_cons_succ]
theorem swp_list (d : Array CallQ) (i j : Nat) (hi : i < d.size) (hj : j < d.size) (x y : CallQ) (hx : d.toList[i]? = some x) (hy : d.toList[j]? = some y) : (Sort.swp d i j).toList = (d.toList.set i y).set j x := by
  have e1 : d[i]! = x := by
    rw [Array.getElem?_toList] at hx
    simp [getElem!_def, hx]
  have e2 : d[j]! = y := by
    rw [Array.getElem?_toList] at hy
    simp [getElem!_def, hy]
  unfold Sort.swp
  rw [e1, e2, Array.toList_setIfInBounds, Array.toList_setIfInBounds]
/-- Two calls of a row are exchanged: six stores. -/
theorem set_swap {B0 : Nat} {w : World} {g n c i j : Nat} {d : Array CallQ} {f t x f' t' x' : Int} (hi : i < d.size) (hj : j < d.size) (hx : d.toList[i]? = some (f, t, x)) (hy : d.toList[j]? = some (f', t', x'))
    (ho : w.ownsRow B0 40 3 (.slice (some ⟨g, 0, none⟩) n c) n (cellsC d.toList)) :
    ((((((w.setCell ⟨g, i * 3, none⟩ (.int .i64 f')).setCell ⟨g, i * 3 + 1, none⟩ (.int .i64 t')).setCell ⟨g, i * 3 + 2, none⟩ (.int .i64 x')).setCell ⟨g, j * 3, none⟩ (.int .i64 f)).setCell ⟨g, j * 3 + 1, none⟩ (.int .i64 t)).setCell ⟨g, j * 3 + 2, none⟩ (.int .i64 x)).ownsRow B0 40 3 (.slice (some ⟨g, 0, none⟩) n c) n (cellsC (Sort.swp d i j).toList) ∧
    w.grownBy ((((((w.setCell ⟨g, i * 3, none⟩ (.int .i64 f')).setCell ⟨g, i * 3 + 1, none⟩ (.int .i64 t')).setCell ⟨g, i * 3 + 2, none⟩ (.int .i64 x')).setCell ⟨g, j * 3, none⟩ (.int .i64 f)).setCell ⟨g, j * 3 + 1, none⟩ (.int .i64 t)).setCell ⟨g, j * 3 + 2, none⟩ (.int .i64 x)) (Value.slice (some ⟨g, 0, none⟩) n c).ownBlock := by
  have s1 := ho.stored (i * 3) (.int .i64 f')
  have s2 := s1.1.stored (i * 3 + 1) (.int .i64 t')
  have s3 := s2.1.stored (i * 3 + 2) (.int .i64 x')
  have h3 := s3.1
  rw [cells_set3 d.toList i (f', t', x')] at h3
  have s4 := h3.stored (j * 3) (.int .i64 f)
  have s5 := s4.1.stored (j * 3 + 1) (.int .i64 t)
  have s6 := s5.1.stored (j * 3 + 2) (.int .i64 x)
  have h6 := s6.1
  rw [cells_set3 (d.toList.set i (f', t', x')) j (f, t, x)] at h6
  rw [swp_list d i j hi hj (f, t, x) (f', t', x') hx hy]
  exact ⟨h6, only_trans (only_trans (only_trans (only_trans (only_trans s1.2 s2.2) s3.2) s4.2) s5.2) s6.2⟩

set_option maxHeartbeats 2000000 in
theorem sortCalls_s (A : Option Addr) (n c : Nat) (cs : List CallQ) (w : World) (hn : n ≤ 1048576) (hA : A = none ∨ ∃ b off, A = some ⟨b, off, none⟩) (ha : RdC w A n cs) (h0 : A = none → n = 0) :
    Calls Try.prog 29 #[.slice A n c] w (RetCs w (insL cs)) := by
  obtain ⟨i0, hi0, iz0, iz1, iz2⟩ := info_parts call_info
  have hl : cs.length = n := ha.len
  have hlit := World.ownsRow_lit (e := 40) (size := 3) (base := w.heap.size) w #[] 0 (Nat.le_refl _) (by unfold maxLen; omega) rfl
  have Hlit := hide hlit
  clear hlit
  rcases hA with rfl | ⟨b, off, rfl⟩
  · have hz := h0 rfl
    subst hz
    have hc : cs = [] := List.eq_nil_of_length_eq_zero hl
    subst hc
    have e0 : insL [] = [] := List.eq_nil_of_length_eq_zero (insL_len [])
    have E0 := hide e0
    clear e0 ha h0 hl
    go_enter Try.func29, Try.ntmps29
    go_wp2_with (at_builtin; refine wpList_append_own_none rfl (.tmp 7) (.tmp 8) _ rfl w.heap.size 40 i0 3 Try.underlying25 hi0 _ _ _ rfl Hlit.out rfl ?_)
    go_loopw [4] (fun a wr => a = .int .i64 1 ∧ wr = w.alloc (.cells #[] 40)) (fun _ _ => 0)
    case atStart => exact ⟨rfl, rfl⟩
    case round =>
      obtain ⟨rfl, hw⟩ := hrel
      have hw2 := hw.symm
      clear hw
      subst hw2
      go_wp2
      go_ret
      exact ⟨_, _, _, rfl, by rw [E0.out]; simpa [cellsC] using Hlit.out, (by repeat (first | (with_reducible exact Below.refl _ _) | (with_reducible refine Below.drew ?_) | (with_reducible refine below_drewN ?_ _) | ((with_reducible refine Below.alloc ?_ ?_ _); rotate_left; (focus (first | (simp; done) | (simp; omega) | omega))) | ((with_reducible refine Below.setCell ?_ ?_ _); rotate_left; (focus (first | (simp; done) | (simp; omega) | omega))) | ((with_reducible refine Below.trans ?_ (Below.mono Hb.out ?_)); rotate_left; (focus (first | (simp; done) | (simp; omega) | omega))) | ((with_reducible refine Below.trans ?_ (Below.mono Hb16.out ?_)); rotate_left; (focus (first | (simp; done) | (simp; omega) | omega))) | ((with_reducible refine Below.trans ?_ (Below.mono Hb15.out ?_)); rotate_left; (focus (first | (simp; done) | (simp; omega) | omega))) | ((with_reducible refine Below.trans ?_ (Below.mono Hb14.out ?_)); rotate_left; (focus (first | (simp; done) | (simp; omega) | omega))) | ((with_reducible refine Below.trans ?_ (Below.mono Hb13.out ?_)); rotate_left; (focus (first | (simp; done) | (simp; omega) | omega))) | ((with_reducible refine Below.trans ?_ (Below.mono Hb12.out ?_)); rotate_left; (focus (first | (simp; done) | (simp; omega) | omega))) | ((with_reducible refine Below.trans ?_ (Below.mono Hb11.out ?_)); rotate_left; (focus (first | (simp; done) | (simp; omega) | omega))) | ((with_reducible refine Below.trans ?_ (Below.mono Hb10.out ?_)); rotate_left; (focus (first | (simp; done) | (simp; omega) | omega))) | ((with_reducible refine Below.trans ?_ (Below.mono Hb9.out ?_)); rotate_left; (focus (first | (simp; done) | (simp; omega) | omega))) | ((with_reducible refine Below.trans ?_ (Below.mono Hb8.out ?_)); rotate_left; (focus (first | (simp; done) | (simp; omega) | omega))) | ((with_reducible refine Below.trans ?_ (Below.mono Hb7.out ?_)); rotate_left; (focus (first | (simp; done) | (simp; omega) | omega))) | ((with_reducible refine Below.trans ?_ (Below.mono Hb6.out ?_)); rotate_left; (focus (first | (simp; done) | (simp; omega) | omega))) | ((with_reducible refine Below.trans ?_ (Below.mono Hb5.out ?_)); rotate_left; (focus (first | (simp; done) | (simp; omega) | omega))) | ((with_reducible refine Below.trans ?_ (Below.mono Hb4.out ?_)); rotate_left; (focus (first | (simp; done) | (simp; omega) | omega))) | ((with_reducible refine Below.trans ?_ (Below.mono Hb3.out ?_)); rotate_left; (focus (first | (simp; done) | (simp; omega) | omega))) | ((with_reducible refine Below.trans ?_ (Below.mono Hb2.out ?_)); rotate_left; (focus (first | (simp; done) | (simp; omega) | omega))) | ((with_reducible refine Below.trans ?_ (Below.mono Hb1.out ?_)); rotate_left; (focus (first | (simp; done) | (simp; omega) | omega))) | ((with_reducible refine Below.trans ?_ (below_of_only Hg16.out ?_ ?_)); rotate_left; (focus (first | (simp; done) | (simp; omega) | omega)); (intro k hk; cases hk; omega)) | ((with_reducible refine Below.trans ?_ (below_of_only Hg15.out ?_ ?_)); rotate_left; (focus (first | (simp; done) | (simp; omega) | omega)); (intro k hk; cases hk; omega)) | ((with_reducible refine Below.trans ?_ (below_of_only Hg14.out ?_ ?_)); rotate_left; (focus (first | (simp; done) | (simp; omega) | omega)); (intro k hk; cases hk; omega)) | ((with_reducible refine Below.trans ?_ (below_of_only Hg13.out ?_ ?_)); rotate_left; (focus (first | (simp; done) | (simp; omega) | omega)); (intro k hk; cases hk; omega)) | ((with_reducible refine Below.trans ?_ (below_of_only Hg12.out ?_ ?_)); rotate_left; (focus (first | (simp; done) | (simp; omega) | omega)); (intro k hk; cases hk; omega)) | ((with_reducible refine Below.trans ?_ (below_of_only Hg11.out ?_ ?_)); rotate_left; (focus (first | (simp; done) | (simp; omega) | omega)); (intro k hk; cases hk; omega)) | ((with_reducible refine Below.trans ?_ (below_of_only Hg10.out ?_ ?_)); rotate_left; (focus (first | (simp; done) | (simp; omega) | omega)); (intro k hk; cases hk; omega)) | ((with_reducible refine Below.trans ?_ (below_of_only Hg9.out ?_ ?_)); rotate_left; (focus (first | (simp; done) | (simp; omega) | omega)); (intro k hk; cases hk; omega)) | ((with_reducible refine Below.trans ?_ (below_of_only Hg8.out ?_ ?_)); rotate_left; (focus (first | (simp; done) | (simp; omega) | omega)); (intro k hk; cases hk; omega)) | ((with_reducible refine Below.trans ?_ (below_of_only Hg7.out ?_ ?_)); rotate_left; (focus (first | (simp; done) | (simp; omega) | omega)); (intro k hk; cases hk; omega)) | ((with_reducible refine Below.trans ?_ (below_of_only Hg6.out ?_ ?_)); rotate_left; (focus (first | (simp; done) | (simp; omega) | omega)); (intro k hk; cases hk; omega)) | ((with_reducible refine Below.trans ?_ (below_of_only Hg5.out ?_ ?_)); rotate_left; (focus (first | (simp; done) | (simp; omega) | omega)); (intro k hk; cases hk; omega)) | ((with_reducible refine Below.trans ?_ (below_of_only Hg4.out ?_ ?_)); rotate_left; (focus (first | (simp; done) | (simp; omega) | omega)); (intro k hk; cases hk; omega)) | ((with_reducible refine Below.trans ?_ (below_of_only Hg3.out ?_ ?_)); rotate_left; (focus (first | (simp; done) | (simp; omega) | omega)); (intro k hk; cases hk; omega)) | ((with_reducible refine Below.trans ?_ (below_of_only Hg2.out ?_ ?_)); rotate_left; (focus (first | (simp; done) | (simp; omega) | omega)); (intro k hk; cases hk; omega)) | ((with_reducible refine Below.trans ?_ (below_of_only Hg1.out ?_ ?_)); rotate_left; (focus (first | (simp; done) | (simp; omega) | omega)); (intro k hk; cases hk; omega))))⟩
  · have hcells : ∀ j u, (cellsC cs)[j]? = some u → w.cell? ⟨b, off + j, none⟩ = some u ∧ b < w.heap.size := by
      intro j u hu
      obtain ⟨hlt, _⟩ := List.getElem?_eq_some_iff.1 hu
      have hlen := Rd.len ha
      obtain ⟨b', off', e, hb, hc'⟩ := Rd.at_ ha (by omega)
      cases e
      exact ⟨hc' j u hu, hb⟩
    have Hc := hide (And.intro (Rd.len ha) hcells)
    have Hl := hide hl
    clear ha h0 hcells hl
    go_enter Try.func29, Try.ntmps29
    go_wp2_with (at_builtin; refine wpList_append_own _ rfl (.tmp 7) (.tmp 8) _ rfl w.heap.size 40 i0 (.agg #[.int .i64 0, .int .i64 0, .int .i64 0]) 3 24 Try.underlying25 hi0 iz0 iz1 iz2 rfl (by decide) _ _ _ rfl Hlit.out _ n c (cellsC cs) rfl Hc.out.1 (fun j u hu => by have h := Hc.out.2 j u hu; rw [Addr.add_lit, World.cell?_alloc_past _ _ _ h.2]; exact h.1) (oneCell_cellsC cs) (by unfold maxLen; omega) (by omega) (by simp) ?_; intro v1 w1 hown hgrow hiff)
    have hb1 := Below.grown (B := w.heap.size) ((Below.refl _ _).alloc (Nat.le_refl _) _) hgrow (by simp) (fun k hk => by cases hk; exact Nat.le_refl _)
    obtain ⟨A1, c1, rfl⟩ := own_form hown
    have H1 := hide (show w1.ownsRow w.heap.size 40 3 (.slice A1 n c1) n (cellsC cs.toArray.toList) ∧ Below w.heap.size w w1 from ⟨by simpa using hown, hb1⟩)
    clear hown hgrow hb1 hiff
    have e0 : (0 + n : Nat) = n := by omega
    rw [e0]
    clear e0
    go_wp2_with fail
    go_loopg [4] n (fun g1 vi wr => ∃ (i : Nat) (d : Array CallQ), vi = .int .i64 i ∧ 1 ≤ i ∧ n - i ≤ g1 ∧ d.size = n ∧ Hid (wr.ownsRow w.heap.size 40 3 (.slice A1 n c1) n (cellsC d.toList) ∧ Below w.heap.size w wr) ∧ Hid (Sort.insOuter (ltOf cfK) 0 n i d = insK cs.toArray))
    case atStart => exact ⟨1, cs.toArray, rfl, Nat.le_refl _, by omega, by simpa using Hl.out, H1, hide (by unfold insK Sort.insertionSort; rw [show cs.toArray.size = n by simpa using Hl.out])⟩
    case round =>
      obtain ⟨i, d, rfl, hi1, hg1, hsk, HS, HO⟩ := hrel
      by_cases hlt : i < n
      · have hltz : (i : Int) < (n : Int) := by omega
        go_wp2_with fail
        go_loopg [5] i (fun g2 vj wr2 => ∃ (j : Nat) (dj : Array CallQ), vj = .int .i64 j ∧ j ≤ i ∧ j ≤ g2 ∧ dj.size = n ∧ Hid (wr2.ownsRow w.heap.size 40 3 (.slice A1 n c1) n (cellsC dj.toList) ∧ Below w.heap.size w wr2) ∧ Hid (Sort.insInner (ltOf cfK) 0 j dj = Sort.insInner (ltOf cfK) 0 i d))
        case atStart => exact ⟨i, d, rfl, Nat.le_refl _, Nat.le_refl _, hsk, HS, rfl⟩
        case round =>
          obtain ⟨j, dj, rfl, hji, hg2, hsj, HS2, HI⟩ := hrel
          have OUT : Hid ((j ≤ 0 ∨ ltOf cfK dj[j]! dj[j - 1]! = false) → Hid (Sort.insOuter (ltOf cfK) 0 n (i + 1) dj = insK cs.toArray)) := hide fun hs => hide (by
            rw [← HO.out, Proofs.insOuter_go _ _ _ _ _ hlt, ← HI.out, Proofs.insInner_stop _ _ _ _ hs])
          by_cases hj0 : 0 < j
          · obtain ⟨jp, rfl⟩ : ∃ jp, j = jp + 1 := ⟨j - 1, by omega⟩
            obtain ⟨g, rfl, hgb, hgl⟩ := sizeC_cur HS2.out.1 (by omega)
            obtain ⟨x, hx⟩ : ∃ x, dj.toList[jp + 1]? = some x := ⟨_, List.getElem?_eq_getElem (by simpa using (by omega : jp + 1 < dj.size))⟩
            obtain ⟨y, hy⟩ : ∃ y, dj.toList[jp]? = some y := ⟨_, List.getElem?_eq_getElem (by simpa using (by omega : jp < dj.size))⟩
            obtain ⟨f, t, x⟩ := x
            obtain ⟨f', t', x'⟩ := y
            have ex : dj[jp + 1]! = (f, t, x) := by rw [Array.getElem?_toList] at hx; simp [getElem!_def, hx]
            have ey : dj[jp]! = (f', t', x') := by rw [Array.getElem?_toList] at hy; simp [getElem!_def, hy]
            obtain ⟨a0, a1, a2⟩ := cellsC_at _ _ _ hx
            obtain ⟨b0, b1, b2⟩ := cellsC_at _ _ _ hy
            have d0 := HS2.out.1.cellAt ((jp + 1) * 3) (by omega)
            have d1 := HS2.out.1.cellAt ((jp + 1) * 3 + 1) (by omega)
            have d2 := HS2.out.1.cellAt ((jp + 1) * 3 + 2) (by omega)
            have d3 := HS2.out.1.cellAt (jp * 3) (by omega)
            have d4 := HS2.out.1.cellAt (jp * 3 + 1) (by omega)
            have d5 := HS2.out.1.cellAt (jp * 3 + 2) (by omega)
            rw [a0] at d0; rw [a1] at d1; rw [a2] at d2; rw [b0] at d3; rw [b1] at d4; rw [b2] at d5
            have f0 := HS2.out.1.frozenAt ((jp + 1) * 3)
            have f1 := HS2.out.1.frozenAt ((jp + 1) * 3 + 1)
            have f2 := HS2.out.1.frozenAt ((jp + 1) * 3 + 2)
            have f3 := HS2.out.1.frozenAt (jp * 3)
            have f4 := HS2.out.1.frozenAt (jp * 3 + 1)
            have f5 := HS2.out.1.frozenAt (jp * 3 + 2)
            have HXY := hide (And.intro hx hy)
            have EX := hide (And.intro ex ey)
            clear ex ey hx hy a0 a1 a2 b0 b1 b2
            have j1 : (jp : Int) + 1 < (n : Int) := by omega
            have j2 : (jp : Int) < (n : Int) := by omega
            have j3 : (0 : Int) < (jp : Int) + 1 := by omega
            have j4 : ((jp : Int) + 1).toNat = jp + 1 := by omega
            have j5 : (0 : Int) ≤ (jp : Int) + 1 := by omega
            by_cases hlv : x < x'
            · go_wp2_with fail
              go_quiet (fail)
              obtain ⟨wq, hwq⟩ : ∃ wq, wr.drewN nq = wq := ⟨_, rfl⟩
              have HSQ := hide (show wq.ownsRow w.heap.size 40 3 (.slice (some ⟨g, 0, none⟩) n c1) n (cellsC dj.toList) ∧ Below w.heap.size w wq from by rw [← hwq]; exact ⟨own_drewN HS2.out.1 _, below_drewN HS2.out.2 _⟩)
              have hgq : g < wq.heap.size := by rw [← hwq]; exact hgl
              clear d0 d1 d2 d3 d4 d5 f0 f1 f2 f3 f4 f5 hgl HS2
              rw [hwq]
              clear hwq
              have hgs := sz hgq
              obtain ⟨_, _, _, _, _, _, _, _⟩ := hgs
              obtain ⟨a0, a1, a2⟩ := cellsC_at _ _ _ HXY.out.1
              obtain ⟨b0, b1, b2⟩ := cellsC_at _ _ _ HXY.out.2
              have d0 := HSQ.out.1.cellAt ((jp + 1) * 3) (by omega)
              have d1 := HSQ.out.1.cellAt ((jp + 1) * 3 + 1) (by omega)
              have d2 := HSQ.out.1.cellAt ((jp + 1) * 3 + 2) (by omega)
              have d3 := HSQ.out.1.cellAt (jp * 3) (by omega)
              have d4 := HSQ.out.1.cellAt (jp * 3 + 1) (by omega)
              have d5 := HSQ.out.1.cellAt (jp * 3 + 2) (by omega)
              rw [a0] at d0; rw [a1] at d1; rw [a2] at d2; rw [b0] at d3; rw [b1] at d4; rw [b2] at d5
              have f0 := HSQ.out.1.frozenAt ((jp + 1) * 3)
              have f1 := HSQ.out.1.frozenAt ((jp + 1) * 3 + 1)
              have f2 := HSQ.out.1.frozenAt ((jp + 1) * 3 + 2)
              have f3 := HSQ.out.1.frozenAt (jp * 3)
              have f4 := HSQ.out.1.frozenAt (jp * 3 + 1)
              have f5 := HSQ.out.1.frozenAt (jp * 3 + 2)
              clear a0 a1 a2 b0 b1 b2
              have SW := hide (set_swap (i := jp + 1) (j := jp) (by omega) (by omega) HXY.out.1 HXY.out.2 HSQ.out.1)
              go_wp2_with fail
              go_roundg jp
              case measure => omega
              case rel =>
                refine ⟨jp, Sort.swp dj (jp + 1) jp, by first | rfl | go_num, by omega, Nat.le_refl _, by rw [Sort.size_swp]; exact hsj, hide ⟨?_, ?_⟩, hide ?_⟩
                · repeat (first | (with_reducible exact SW.out.1) | (with_reducible refine World.ownsRow.alloc ?_ _) | (with_reducible refine World.ownsRow.drew ?_) | (with_reducible refine own_drewN ?_ _))
                · have hsw := HSQ.out.2.grown SW.out.2 HSQ.out.2.size (fun k hk => by cases hk; exact hgb)
                  repeat (first | (with_reducible exact hsw) | (with_reducible refine Below.drew ?_) | (with_reducible refine below_drewN ?_ _) | ((with_reducible refine Below.alloc ?_ ?_ _); rotate_left; (focus (first | (simp; done) | (simp; omega) | omega | (have := HSQ.out.2.size; simp; omega)))))
                · have := Proofs.insInner_go (ltOf cfK) 0 (jp + 1) dj hj0 (by simp only [Nat.add_sub_cancel]; rw [EX.out.1, EX.out.2, lt_cfK]; exact decide_eq_true (by show x < x'; omega))
                  simp only [Nat.add_sub_cancel] at this
                  rw [← HI.out, this]
            · go_wp2_with fail
              go_quiet (fail)
              go_wp2_with fail
              go_roundg (n - (i + 1))
              case measure => omega
              case rel => exact ⟨i + 1, dj, by go_num, by omega, by omega, hsj, hide ⟨own_drewN HS2.out.1 _, below_drewN HS2.out.2 _⟩, OUT.out (Or.inr (by simp only [Nat.add_sub_cancel]; rw [EX.out.1, EX.out.2, lt_cfK]; exact decide_eq_false (by show ¬ x < x'; omega)))⟩
          · obtain rfl : j = 0 := by omega
            go_wp2_with fail
            go_quiet (fail)
            go_wp2_with fail
            go_roundg (n - (i + 1))
            case measure => omega
            case rel => exact ⟨i + 1, dj, by go_num, by omega, by omega, hsj, hide ⟨own_drewN HS2.out.1 _, below_drewN HS2.out.2 _⟩, OUT.out (Or.inl (by omega))⟩
      · have hltz : ¬ (i : Int) < (n : Int) := by omega
        have HF := hide (show insK cs.toArray = d by rw [← HO.out, Proofs.insOuter_stop _ _ _ _ _ hlt])
        go_wp2_with fail
        go_ret
        exact ⟨_, _, _, rfl, by unfold insL; rw [HF.out]; exact HS.out.1, HS.out.2⟩
end Go.Proofs.Ythgbbfcpnmpjgaa
