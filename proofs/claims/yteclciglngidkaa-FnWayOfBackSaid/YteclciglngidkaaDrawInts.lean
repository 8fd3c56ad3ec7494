/-
  Drawing lists of floors.
-/
import Derived.Test.YteclciglngidkaaDr
import Derived.Test.YteclciglngidkaaRdl
import Derived.ArgAppend
namespace Go.Proofs.Yteclciglngidkaa
open Go.RowKit
set_option linter.unusedSimpArgs false
set_option linter.unusedVariables false

/-- A slice in memory from 'base' on whose whole block is known to be plain cells: it reads as zs. -/
def SlB (w : World) (base : Nat) (A : Option Addr) (n c : Nat) (zs : List Int) : Prop :=
  zs.length = n ∧ ∃ b off cs, A = some ⟨b, off, none⟩ ∧ base ≤ b ∧ Blk w b 3 cs ∧ n ≤ c ∧ c ≤ maxLen ∧ off + c ≤ cs.size ∧ (cs.toList.drop off).take n = zs.map (Value.int .i64)
theorem SlB.of_own {w : World} {base n c : Nat} {A : Option Addr} {zs : List Int} (h : w.ownsRow base 3 1 (.slice A n c) n (zs.map (Value.int .i64))) (hA : A ≠ none) : SlB w base A n c zs := by
  have hl := h.1
  simp only [List.length_map, Nat.mul_one] at hl
  refine ⟨hl, ?_⟩
  rcases h.2 with ⟨h1, h2⟩ | ⟨g, cap, cur, hv, hb, hg, h1, h2, h3, h4⟩
  · injection h1 with a b d
    exact absurd a hA
  · injection hv with a b d
    subst d
    exact ⟨g, 0, cur, a, hb, hg, h1, h2, by omega, by simpa using h4⟩
theorem SlB.base {w : World} {base base' n c : Nat} {A : Option Addr} {zs : List Int} (h : SlB w base A n c zs) (hb : base' ≤ base) : SlB w base' A n c zs := by
  obtain ⟨hl, h⟩ := h
  obtain ⟨b, off, cs, h1, h2, h3⟩ := h
  exact ⟨hl, b, off, cs, h1, by omega, h3⟩
theorem SlB.rd {w : World} {base n c : Nat} {A : Option Addr} {zs : List Int} (h : SlB w base A n c zs) : RdI w .i64 A n zs := by
  obtain ⟨hl, h⟩ := h
  refine ⟨by simpa using hl, fun hn => ?_⟩
  obtain ⟨b, off, cs, rfl, _, hb, h1, h2, h3, h4⟩ := h
  refine ⟨b, off, rfl, hb.lt, fun j u hu => ?_⟩
  rw [hb.cell]
  rw [← h4, List.getElem?_take] at hu
  split at hu
  · rw [List.getElem?_drop] at hu
    simpa using hu
  · cases hu
theorem SlB.below {w w' : World} {B base n c : Nat} {A : Option Addr} {zs : List Int} (h : SlB w base A n c zs) (hb : Below B w w') (hB : w.heap.size ≤ B) : SlB w' base A n c zs := by
  obtain ⟨hl, h⟩ := h
  obtain ⟨b, off, cs, h1, h2, h3, h4⟩ := h
  exact ⟨hl, b, off, cs, h1, h2, h3.below hb (by have := h3.lt; omega), h4⟩
theorem SlB.grown {w w' : World} {base n c : Nat} {A : Option Addr} {zs : List Int} {row : Option Nat} (h : SlB w base A n c zs) (hg : w.grownBy w' row) (hr : ∀ b, row = some b → ∀ cs, ¬ Blk w b 3 cs) : SlB w' base A n c zs := by
  obtain ⟨hl, h⟩ := h
  obtain ⟨b, off, cs, h1, h2, h3, h4⟩ := h
  exact ⟨hl, b, off, cs, h1, h2, h3.grown hg (fun e => hr b e.symm cs h3), h4⟩
theorem SlB.tail {w : World} {base b off n c : Nat} {zs : List Int} (h : SlB w base (some ⟨b, off, none⟩) n c zs) (hn : 0 < n) : SlB w base (some ⟨b, off + 1, none⟩) (n - 1) (c - 1) zs.tail := by
  obtain ⟨hl, h⟩ := h
  obtain ⟨b', off', cs, h1, h2, h3, h4, h5, h6, h7⟩ := h
  injection h1 with h1
  injection h1 with e1 e2 _
  subst e1 e2
  refine ⟨by simp [hl], b, off + 1, cs, rfl, h2, h3, by omega, by omega, by omega, ?_⟩
  rw [List.map_tail, ← h7]
  obtain ⟨k, rfl⟩ : ∃ k, n = k + 1 := ⟨n - 1, by omega⟩
  have hd : cs.toList.drop off = (cs.toList.drop off).head (by intro e; have := congrArg List.length e; simp at this; omega) :: cs.toList.drop (off + 1) := by
    rw [← List.tail_drop]; exact (List.cons_head_tail _).symm
  rw [hd]
  simp
theorem SlB.none_ {w : World} {base b n c : Nat} {zs : List Int} {off : Nat} (h : SlB w base (some ⟨b, off, none⟩) n c zs) : SlB w base (some ⟨b, off, none⟩) 0 0 [] := by
  obtain ⟨hl, h⟩ := h
  obtain ⟨b', off', cs, h1, h2, h3, h4, h5, h6, h7⟩ := h
  exact ⟨rfl, b', off', cs, h1, h2, h3, Nat.le_refl _, Nat.zero_le _, by omega, by simp⟩

theorem own_cur0 {w : World} {base : Nat} {e : TypeId} {size n cap : Nat} {A : Option Addr} {xs : List Value} (h : w.ownsRow base e size (.slice A n cap) n xs) (h0 : 0 < n) : ∃ g, A = some ⟨g, 0, none⟩ ∧ base ≤ g ∧ g < w.heap.size := by
  rcases h.2 with ⟨_, h1⟩ | ⟨g, cap', cur, hv, hb, hg, _⟩
  · omega
  · injection hv with hv
    exact ⟨g, hv, hb, (Array.getElem?_eq_some_iff.1 hg).1⟩
/-- Drawn numbers, at most m of them, in new memory. -/
def DrawnIs (m B g p : Nat) (w : World) (e : Ending) (w' : World) : Prop :=
  ∃ (A : Option Addr) (n c : Nat) (zs : List Int), e = .returned (.slice A n c) ∧ n ≤ m ∧ SlB w' w.heap.size A n c zs ∧ RdU w' B g p ∧ w.grownBy w' (some g)

/-- A slice of integers in memory of its own, and not nil. -/
def RetJ (w : World) (zs : List Int) (en : Ending) (w' : World) : Prop :=
  ∃ (A : Option Addr) (n c : Nat), en = .returned (.slice A n c) ∧ A ≠ none ∧ w'.ownsRow w.heap.size 3 1 (.slice A n c) n (zs.map (Value.int .i64)) ∧ Below w.heap.size w w'
set_option maxHeartbeats 400000 in
theorem copyInts_own (base : Nat) (A : Option Addr) (n c : Nat) (zs : List Int) (w : World) (hn : n ≤ 1048576) (ho : w.ownsRow base 3 1 (.slice A n c) n (zs.map (Value.int .i64))) :
    Calls Try.prog 34 #[.slice A n c] w (RetJ w zs) := by
  obtain ⟨i0, hi0, iz0, iz1, iz2⟩ := info_parts int_info
  have hl := ho.1
  have hlit := World.ownsRow_lit (e := 3) (size := 1) (base := w.heap.size) w #[] 0 (Nat.le_refl _) (by unfold maxLen; omega) rfl
  have Hlit := hide hlit
  clear hlit
  rcases ho.2 with ⟨hv, h0⟩ | ⟨g, cap, cur, hv, hb, hg, h1, h2, h3, h4⟩
  · injection hv with a b d
    subst a d h0
    have hz : zs = [] := by simpa using hl
    subst hz
    clear hl ho
    go_enter Try.func34, Try.ntmps34
    go_wp2_with (at_builtin; refine wpList_append_own_none rfl (.tmp 3) (.tmp 4) _ rfl w.heap.size 3 i0 1 Try.underlying23 hi0 _ _ _ rfl Hlit.out rfl ?_)
    go_ret
    exact ⟨_, _, _, rfl, by simp, by simpa using Hlit.out, (by repeat (first | (with_reducible exact Below.refl _ _) | (with_reducible refine Below.drew ?_) | (with_reducible refine below_drewN ?_ _) | ((with_reducible refine Below.alloc ?_ ?_ _); rotate_left; (focus (first | (simp; done) | (simp; omega) | omega))) | ((with_reducible refine Below.setCell ?_ ?_ _); rotate_left; (focus (first | (simp; done) | (simp; omega) | omega))) | ((with_reducible refine Below.trans ?_ (Below.mono Hb.out ?_)); rotate_left; (focus (first | (simp; done) | (simp; omega) | omega))) | ((with_reducible refine Below.trans ?_ (Below.mono Hb16.out ?_)); rotate_left; (focus (first | (simp; done) | (simp; omega) | omega))) | ((with_reducible refine Below.trans ?_ (Below.mono Hb15.out ?_)); rotate_left; (focus (first | (simp; done) | (simp; omega) | omega))) | ((with_reducible refine Below.trans ?_ (Below.mono Hb14.out ?_)); rotate_left; (focus (first | (simp; done) | (simp; omega) | omega))) | ((with_reducible refine Below.trans ?_ (Below.mono Hb13.out ?_)); rotate_left; (focus (first | (simp; done) | (simp; omega) | omega))) | ((with_reducible refine Below.trans ?_ (Below.mono Hb12.out ?_)); rotate_left; (focus (first | (simp; done) | (simp; omega) | omega))) | ((with_reducible refine Below.trans ?_ (Below.mono Hb11.out ?_)); rotate_left; (focus (first | (simp; done) | (simp; omega) | omega))) | ((with_reducible refine Below.trans ?_ (Below.mono Hb10.out ?_)); rotate_left; (focus (first | (simp; done) | (simp; omega) | omega))) | ((with_reducible refine Below.trans ?_ (Below.mono Hb9.out ?_)); rotate_left; (focus (first | (simp; done) | (simp; omega) | omega))) | ((with_reducible refine Below.trans ?_ (Below.mono Hb8.out ?_)); rotate_left; (focus (first | (simp; done) | (simp; omega) | omega))) | ((with_reducible refine Below.trans ?_ (Below.mono Hb7.out ?_)); rotate_left; (focus (first | (simp; done) | (simp; omega) | omega))) | ((with_reducible refine Below.trans ?_ (Below.mono Hb6.out ?_)); rotate_left; (focus (first | (simp; done) | (simp; omega) | omega))) | ((with_reducible refine Below.trans ?_ (Below.mono Hb5.out ?_)); rotate_left; (focus (first | (simp; done) | (simp; omega) | omega))) | ((with_reducible refine Below.trans ?_ (Below.mono Hb4.out ?_)); rotate_left; (focus (first | (simp; done) | (simp; omega) | omega))) | ((with_reducible refine Below.trans ?_ (Below.mono Hb3.out ?_)); rotate_left; (focus (first | (simp; done) | (simp; omega) | omega))) | ((with_reducible refine Below.trans ?_ (Below.mono Hb2.out ?_)); rotate_left; (focus (first | (simp; done) | (simp; omega) | omega))) | ((with_reducible refine Below.trans ?_ (Below.mono Hb1.out ?_)); rotate_left; (focus (first | (simp; done) | (simp; omega) | omega))) | ((with_reducible refine Below.trans ?_ (below_of_only Hg16.out ?_ ?_)); rotate_left; (focus (first | (simp; done) | (simp; omega) | omega)); (intro k hk; cases hk; omega)) | ((with_reducible refine Below.trans ?_ (below_of_only Hg15.out ?_ ?_)); rotate_left; (focus (first | (simp; done) | (simp; omega) | omega)); (intro k hk; cases hk; omega)) | ((with_reducible refine Below.trans ?_ (below_of_only Hg14.out ?_ ?_)); rotate_left; (focus (first | (simp; done) | (simp; omega) | omega)); (intro k hk; cases hk; omega)) | ((with_reducible refine Below.trans ?_ (below_of_only Hg13.out ?_ ?_)); rotate_left; (focus (first | (simp; done) | (simp; omega) | omega)); (intro k hk; cases hk; omega)) | ((with_reducible refine Below.trans ?_ (below_of_only Hg12.out ?_ ?_)); rotate_left; (focus (first | (simp; done) | (simp; omega) | omega)); (intro k hk; cases hk; omega)) | ((with_reducible refine Below.trans ?_ (below_of_only Hg11.out ?_ ?_)); rotate_left; (focus (first | (simp; done) | (simp; omega) | omega)); (intro k hk; cases hk; omega)) | ((with_reducible refine Below.trans ?_ (below_of_only Hg10.out ?_ ?_)); rotate_left; (focus (first | (simp; done) | (simp; omega) | omega)); (intro k hk; cases hk; omega)) | ((with_reducible refine Below.trans ?_ (below_of_only Hg9.out ?_ ?_)); rotate_left; (focus (first | (simp; done) | (simp; omega) | omega)); (intro k hk; cases hk; omega)) | ((with_reducible refine Below.trans ?_ (below_of_only Hg8.out ?_ ?_)); rotate_left; (focus (first | (simp; done) | (simp; omega) | omega)); (intro k hk; cases hk; omega)) | ((with_reducible refine Below.trans ?_ (below_of_only Hg7.out ?_ ?_)); rotate_left; (focus (first | (simp; done) | (simp; omega) | omega)); (intro k hk; cases hk; omega)) | ((with_reducible refine Below.trans ?_ (below_of_only Hg6.out ?_ ?_)); rotate_left; (focus (first | (simp; done) | (simp; omega) | omega)); (intro k hk; cases hk; omega)) | ((with_reducible refine Below.trans ?_ (below_of_only Hg5.out ?_ ?_)); rotate_left; (focus (first | (simp; done) | (simp; omega) | omega)); (intro k hk; cases hk; omega)) | ((with_reducible refine Below.trans ?_ (below_of_only Hg4.out ?_ ?_)); rotate_left; (focus (first | (simp; done) | (simp; omega) | omega)); (intro k hk; cases hk; omega)) | ((with_reducible refine Below.trans ?_ (below_of_only Hg3.out ?_ ?_)); rotate_left; (focus (first | (simp; done) | (simp; omega) | omega)); (intro k hk; cases hk; omega)) | ((with_reducible refine Below.trans ?_ (below_of_only Hg2.out ?_ ?_)); rotate_left; (focus (first | (simp; done) | (simp; omega) | omega)); (intro k hk; cases hk; omega)) | ((with_reducible refine Below.trans ?_ (below_of_only Hg1.out ?_ ?_)); rotate_left; (focus (first | (simp; done) | (simp; omega) | omega)); (intro k hk; cases hk; omega))))⟩
  · injection hv with a b d
    subst a
    have hc := ho.cells (g := g) rfl
    have Hc := hide (And.intro hl (And.intro hc (Array.getElem?_eq_some_iff.1 hg).1))
    clear hl hc ho hg h1 h2 h3 h4
    go_enter Try.func34, Try.ntmps34
    go_wp2_with (at_builtin; refine wpList_append_own _ rfl (.tmp 3) (.tmp 4) _ rfl w.heap.size 3 i0 (.int .i64 0) 1 8 Try.underlying23 hi0 iz0 iz1 iz2 rfl (by decide) _ _ _ rfl Hlit.out _ n c (zs.map (Value.int .i64)) rfl Hc.out.1 (fun j u hu => by have h := Hc.out.2.1 j u hu; rw [Addr.add_lit] at h ⊢; rw [World.cell?_alloc_past _ _ _ Hc.out.2.2]; exact h) (by intro u hu; obtain ⟨z, _, rfl⟩ := List.mem_map.1 hu; rfl) (by unfold maxLen; omega) (by omega) (by simp) ?_; intro v1 w1 hown hgrow hiff)
    have hb1 := Below.grown (B := w.heap.size) ((Below.refl _ _).alloc (Nat.le_refl _) _) hgrow (by simp) (fun k hk => by cases hk; exact Nat.le_refl _)
    obtain ⟨A1, c1, rfl⟩ := own_form hown
    have hA1 : A1 ≠ none := by
      rintro rfl
      rcases hown.2 with ⟨h, h0⟩ | ⟨_, _, _, h, _⟩
      · exact absurd (hiff.1 (by rw [h])).1 (by intro e; injection e with e; cases e)
      · cases h
    have HH := hide (And.intro hA1 (And.intro hown hb1))
    clear hown hgrow hb1 hA1 hiff
    go_wp2_with fail
    go_ret
    exact ⟨A1, _, c1, rfl, HH.out.1, by simpa using HH.out.2.1, HH.out.2.2⟩

set_option maxHeartbeats 2000000 in
theorem spoil_own (B g p base : Nat) (A : Option Addr) (n c : Nat) (zs : List Int) (m : Int) (w : World) (hp : p ≤ 1000) (hn : n ≤ 1000) (hr : RdU w B g p) (ho : w.ownsRow base 3 1 (.slice A n c) n (zs.map (Value.int .i64))) :
    Calls Try.prog 28 #[.pointer (some ⟨g, 0, none⟩), .slice A n c, .int .i64 m] w (DrawnIs (n + 1) B g (p + 3) w) := by
  have g1 := hr.lt
  have g2 := hr.ge
  obtain ⟨i0, hi0, iz0, iz1, iz2⟩ := info_parts int_info
  have Ho := hide ho
  have hzl : zs.length = n := by simpa using ho.1
  have Hzl := hide hzl
  clear ho hzl
  go_enter Try.func28, Try.ntmps28
  go_wp2_with fail
  refine (copyInts_own base A n c zs _ (by omega) Ho.out).mono ?_
  rintro e w1 ⟨A1, n1, c1, rfl, hA1, ho, hb⟩
  have HA1 := hide hA1
  clear hA1
  have H1 := hide (DR.got (B0 := B) (w0 := w) (by omega) (by decide) (World.grownBy.refl _ _) ho (hr.below hb (Nat.le_refl _)) (only_of_below hb (some g)))
  have hn1 : n1 = n := by have h := ho.1; have := Hzl.out; simp at h; omega
  subst hn1
  have hr1 := H1.out.rd
  clear ho hb
  go_wp2_with fail
  refine (pick_u B g p _ _ (by omega) hr1).mono ?_
  rintro e w2 ⟨x2, rfl, x2a, x2b, hr2, hg⟩
  have H2 := hide (H1.out.pick hr2 hg)
  clear hg hr1 H1
  by_cases h0 : x2 = 0
  · subst h0
    go_wp2_with (at_builtin; refine wpList_append_own _ rfl (.tmp 14) (.tmp 16) _ rfl w.heap.size 3 i0 (.int .i64 0) 1 8 Try.underlying23 hi0 iz0 iz1 iz2 rfl (by decide) _ _ _ rfl (H2.out.o.alloc _) _ 1 1 [.int .i64 m] rfl rfl (cell_one_at _ _ _ _ (by simp)) (by intro u hu; simp at hu; subst hu; rfl) (by unfold maxLen; omega) (by omega) (by have hsz := H2.out.size; (try simp at hsz); (try simp); omega) ?_; intro v3 w3 hown hgrow _)
    have H3 := hide ((H2.out.alloc (.cells #[.int .i64 m] 3)).app (xs' := (zs ++ [m]).map (Value.int .i64)) (by simpa using hown) hgrow)
    clear hown hgrow H2
    obtain ⟨A3, c3, rfl⟩ := own_form H3.out.o
    go_wp2_with fail
    go_ret
    exact ⟨_, _, _, _, rfl, Nat.le_refl _, SlB.of_own H3.out.o (by rintro rfl; obtain ⟨_, h, _⟩ := own_cur0 H3.out.o (by omega); cases h), H3.out.rd.mono (by omega), H3.out.gr⟩
  have h0' : (x2 == 0) = false := by simpa using h0
  clear h0
  have hlast : ∀ W, DR 3 1 B g w W (.slice A1 n1 c1) n1 (zs.map (Value.int .i64)) (p + 1) → DrawnIs (n1 + 1) B g (p + 3) w (.returned (.slice A1 n1 c1)) W := fun W h =>
    ⟨_, _, _, _, rfl, Nat.le_succ _, SlB.of_own h.o HA1.out, h.rd.mono (by omega), h.gr⟩
  have Hlast := hide hlast
  clear hlast
  by_cases h1 : x2 = 1
  · subst h1
    by_cases hn0 : n1 = 0
    · subst hn0
      go_wp2_with fail
      go_ret
      exact Hlast.out _ H2.out
    · have hpos : (0 : Int) < (n1 : Int) := by omega
      have Hn0 := hide hn0
      clear hn0
      have hs2 : ∃ b, A1 = some ⟨b, 0, none⟩ ∧ n1 ≤ c1 := by
        rcases own_formA H2.out.o with ⟨_, h, _⟩ | ⟨b, e, h, _⟩
        · omega
        · exact ⟨b, e, h⟩
      obtain ⟨b, rfl, hnc⟩ := hs2
      have hcc : (1 : Int) ≤ (c1 : Int) := by omega
      have hcc2 : (n1 : Int) ≤ (c1 : Int) := by omega
      have hn1i : (1 : Int) ≤ (n1 : Int) := by omega
      by_cases hc1 : c1 = 1
      · subst hc1
        obtain rfl : n1 = 1 := by omega
        have hfin : DrawnIs (1 + 1) B g (p + 3) w (.returned (.slice (some ⟨b, 0, none⟩) 0 0)) w2 := ⟨_, 0, 0, [], rfl, by omega, SlB.none_ (SlB.of_own H2.out.o (by simp)), H2.out.rd.mono (by omega), H2.out.gr⟩
        have Hfin := hide hfin
        clear hfin
        go_wp2_with fail
        go_ret
        exact Hfin.out
      · have hc1' : ¬ (c1 = 1) := hc1
        have hfin : DrawnIs (n1 + 1) B g (p + 3) w (.returned (.slice (some ⟨b, 0 + 1, none⟩) (n1 - 1) (c1 - 1))) w2 := ⟨_, n1 - 1, c1 - 1, zs.tail, rfl, by omega, SlB.tail (SlB.of_own H2.out.o (by simp)) (by omega), H2.out.rd.mono (by omega), H2.out.gr⟩
        have Hfin := hide hfin
        clear hfin
        have w1' : ((1 : Int) < (c1 : Int)) := by omega
        go_wp2_with fail
        go_ret
        exact Hfin.out
  have h1' : (x2 == 1) = false := by simpa using h1
  clear h1
  by_cases h2 : x2 = 2
  · subst h2
    by_cases hn0 : n1 = 0
    · subst hn0
      go_wp2_with fail
      go_ret
      exact Hlast.out _ H2.out
    · have hpos : (0 : Int) < (n1 : Int) := by omega
      have Hn0 := hide hn0
      clear hn0
      go_wp2_with fail
      refine (pick_u B g (p + 1) _ _ (by omega) hr2).mono ?_
      rintro e w3 ⟨x3, rfl, x3a, x3b, hr3, hg⟩
      have H3 := hide (H2.out.pick hr3 hg)
      obtain ⟨j3, rfl⟩ := Int.eq_ofNat_of_zero_le x3a
      have hj3 : j3 < n1 := by have := x3b (by omega); omega
      have hj3' : (j3 : Int) < (n1 : Int) := by omega
      clear hg H2 x3b
      go_wp2_with fail
      refine (one_lit B g (p + 2) _ _ _ _ [-1, m, 0, 1] _ (by simp) rfl rfl (Nat.succ_pos _) (by omega) hr3).mono ?_
      rintro e w4 ⟨x4, rfl, x4a, hr4, hg⟩
      have H4 := hide ((H3.out.alloc _).pick hr4 hg)
      clear hg H3
      obtain ⟨b, rfl, _, _⟩ := (show ∃ b, A1 = some ⟨b, 0, none⟩ ∧ True ∧ True from by
        rcases own_formA H4.out.o with ⟨_, h, _⟩ | ⟨b, e, h, _⟩
        · omega
        · exact ⟨b, e, trivial, trivial⟩)
      have e0 := H4.out.o.cellAt j3 (by omega)
      have hlen := H4.out.o.1
      rw [List.getElem?_eq_getElem (by omega)] at e0
      have f0 := H4.out.o.frozenAt j3
      have hs := H4.out.o.stored j3 (.int .i64 x4)
      have H5 := hide (H4.out.app (xs' := (zs.set j3 x4).map (Value.int .i64)) (by rw [List.map_set]; exact hs.1) hs.2)
      clear hs H4
      go_wp2_with fail
      go_ret
      exact ⟨_, _, _, _, rfl, Nat.le_succ _, SlB.of_own H5.out.o (by simp), H5.out.rd.mono (by omega), H5.out.gr⟩
  have h2' : (x2 == 2) = false := by simpa using h2
  clear h2
  go_wp2_with fail
  go_ret
  exact Hlast.out _ H2.out

set_option maxHeartbeats 1000000 in
theorem anyFloors_any (B g p : Nat) (w : World) (hp : p ≤ 900) (hr : RdU w B g p) :
    Calls Try.prog 12 #[.pointer (some ⟨g, 0, none⟩)] w (DrawnIs 14 B g (p + 17) w) := by
  have g1 := hr.lt
  have g2 := hr.ge
  obtain ⟨i0, hi0, iz0, iz1, iz2⟩ := info_parts int_info
  have H0 := hide (DR.lit (e := 3) (sz := 1) (B0 := B) (g := g) (w0 := w) (W := w) (by omega) (by decide) hr (World.grownBy.refl _ _) rfl)
  go_enter Try.func12, Try.ntmps12
  go_wp2_with fail
  refine (one_lit B g p _ _ _ _ [3, 4, 5, 2, 1, 0, 8, 12, 13] _ (by simp) rfl rfl (by decide) (by omega) (by repeat (first | ((with_reducible refine RdU.mono hr16 ?_); omega) | ((with_reducible refine RdU.mono hr15 ?_); omega) | ((with_reducible refine RdU.mono hr14 ?_); omega) | ((with_reducible refine RdU.mono hr13 ?_); omega) | ((with_reducible refine RdU.mono hr12 ?_); omega) | ((with_reducible refine RdU.mono hr11 ?_); omega) | ((with_reducible refine RdU.mono hr10 ?_); omega) | ((with_reducible refine RdU.mono hr9 ?_); omega) | ((with_reducible refine RdU.mono hr8 ?_); omega) | ((with_reducible refine RdU.mono hr7 ?_); omega) | ((with_reducible refine RdU.mono hr6 ?_); omega) | ((with_reducible refine RdU.mono hr5 ?_); omega) | ((with_reducible refine RdU.mono hr4 ?_); omega) | ((with_reducible refine RdU.mono hr3 ?_); omega) | ((with_reducible refine RdU.mono hr2 ?_); omega) | ((with_reducible refine RdU.mono hr1 ?_); omega) | ((with_reducible refine RdU.mono hr ?_); omega) | (with_reducible refine RdU.drew ?_) | (with_reducible refine RdU.drewN ?_ _) | (with_reducible refine RdU.alloc ?_ _) | ((with_reducible refine RdU.setCell ?_ ?_ ?_ _); rotate_left; (focus (first | (simp; done) | (simp; omega) | omega)); (focus (first | (simp; done) | (simp; omega) | omega)))))).mono ?_
  rintro e w1 ⟨x1, rfl, x1a, hr1, hg⟩
  have H1 := hide ((H0.out.alloc _).pick hr1 hg)
  have hj : ∃ j : Nat, j ≤ 13 ∧ x1 = (j : Int) := by
    simp at x1a
    exact ⟨x1.toNat, by omega, by omega⟩
  obtain ⟨j0, hj0, rfl⟩ := hj
  clear x1a hg hr1 H0
  go_wp2_with fail
  go_loopw [3, 4] (fun v i wr => ∃ (j q : Nat) (zs : List Int), j ≤ 13 ∧ zs.length + j ≤ 13 ∧ i = .int .i64 j ∧ q + j ≤ p + 14 ∧ Hid (DR 3 1 B g w wr v zs.length (zs.map (Value.int .i64)) q)) (fun _ i _ => (intOf i).toNat)
  case atStart => exact ⟨j0, p + 1, [], by omega, by simp; omega, rfl, by omega, hide (by simpa using H1.out)⟩
  case round =>
    obtain ⟨j, q, zs, h1, h2, rfl, h4, Hs⟩ := hrel
    obtain ⟨Av, cv, rfl⟩ := own_form Hs.out.o
    by_cases hj0' : 0 < j
    · have hj1 : (0 : Int) < (j : Int) := by omega
      have hr4 := Hs.out.rd
      go_wp2_with fail
      refine (pick_u B g q _ _ (by omega) hr4).mono ?_
      rintro e w4 ⟨x, rfl, _, _, hr5, hg⟩
      have Hs4 := hide (Hs.out.pick hr5 hg)
      clear hr5 hg hr4 Hs
      go_wp2_with (at_builtin; refine wpList_append_own _ rfl (.tmp 13) (.tmp 16) _ rfl w.heap.size 3 i0 (.int .i64 0) 1 8 Try.underlying23 hi0 iz0 iz1 iz2 rfl (by decide) _ _ _ rfl (Hs4.out.o.alloc _) _ 1 1 [.int .i64 x] rfl rfl (cell_one_at _ _ _ _ (by simp)) (by intro u hu; simp at hu; subst hu; rfl) (by unfold maxLen; omega) (by omega) (by have hsz := Hs4.out.size; (try simp at hsz); (try simp); omega) ?_; intro v5 w5 hown hgrow _)
      have Hs5 := hide ((Hs4.out.alloc (.cells #[.int .i64 x] 3)).app (n' := (zs ++ [x]).length) (xs' := (zs ++ [x]).map (Value.int .i64)) (by simpa using hown) hgrow)
      clear hown hgrow Hs4
      go_wp2_with fail
      go_roundw
      case rel => exact ⟨j - 1, q + 1, zs ++ [x], by omega, by simp; omega, int_eq (by omega), by omega, Hs5⟩
      case measure => simp [intOf]; omega
    · obtain rfl : j = 0 := by omega
      have hr4 := Hs.out.rd
      go_wp2_with fail
      refine (spoil_own B g q w.heap.size Av zs.length cv zs 16 _ (by omega) (by omega) hr4 Hs.out.o).mono ?_
      rintro e w4 ⟨A4, n4, c4, zs4, rfl, hn4, hs4, hr5, hg⟩
      have HF := hide (And.intro (SlB.base hs4 Hs.out.size) (And.intro (hr5.mono (p' := p + 17) (by omega)) (only_trans Hs.out.gr hg)))
      clear hs4 hr5 hg
      go_wp2_with fail
      go_ret
      exact ⟨_, _, _, _, rfl, by omega, HF.out.1, HF.out.2.1, HF.out.2.2⟩


set_option maxHeartbeats 400000 in
theorem anyFloor_any (B g p : Nat) (w : World) (hp : p ≤ 1000) (hr : RdU w B g p) :
    Calls Try.prog 13 #[.pointer (some ⟨g, 0, none⟩)] w fun e w' => ∃ x : Int, e = .returned (.int .i64 x) ∧ -1 ≤ x ∧ x ≤ 16 ∧ RdU w' B g (p + 1) ∧ w.grownBy w' (some g) := by
  have g1 := hr.lt
  go_enter Try.func13, Try.ntmps13
  go_wp2_with fail
  refine (one_lit B g p _ _ _ _ [0, 3, 7, 8, 12, 15, 16, -1, 5] _ (by simp) rfl rfl (by decide) (by omega) (by repeat (first | ((with_reducible refine RdU.mono hr16 ?_); omega) | ((with_reducible refine RdU.mono hr15 ?_); omega) | ((with_reducible refine RdU.mono hr14 ?_); omega) | ((with_reducible refine RdU.mono hr13 ?_); omega) | ((with_reducible refine RdU.mono hr12 ?_); omega) | ((with_reducible refine RdU.mono hr11 ?_); omega) | ((with_reducible refine RdU.mono hr10 ?_); omega) | ((with_reducible refine RdU.mono hr9 ?_); omega) | ((with_reducible refine RdU.mono hr8 ?_); omega) | ((with_reducible refine RdU.mono hr7 ?_); omega) | ((with_reducible refine RdU.mono hr6 ?_); omega) | ((with_reducible refine RdU.mono hr5 ?_); omega) | ((with_reducible refine RdU.mono hr4 ?_); omega) | ((with_reducible refine RdU.mono hr3 ?_); omega) | ((with_reducible refine RdU.mono hr2 ?_); omega) | ((with_reducible refine RdU.mono hr1 ?_); omega) | ((with_reducible refine RdU.mono hr ?_); omega) | (with_reducible refine RdU.drew ?_) | (with_reducible refine RdU.drewN ?_ _) | (with_reducible refine RdU.alloc ?_ _) | ((with_reducible refine RdU.setCell ?_ ?_ ?_ _); rotate_left; (focus (first | (simp; done) | (simp; omega) | omega)); (focus (first | (simp; done) | (simp; omega) | omega)))))).mono ?_
  rintro e w1 ⟨x1, rfl, x1a, hr1, hg⟩
  have hx : -1 ≤ x1 ∧ x1 ≤ 16 := by simp at x1a; omega
  have HH := hide (And.intro hr1 (only_trans (only_alloc (World.grownBy.refl _ _) _) hg))
  clear x1a hr1 hg
  go_wp2_with fail
  go_ret
  exact ⟨x1, rfl, hx.1, hx.2, HH.out.1, HH.out.2⟩

end Go.Proofs.Yteclciglngidkaa
