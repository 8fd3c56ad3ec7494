/-
  Drawing calls.
-/
import Derived.Test.YthgbbfcpnmpjgaaCallsC
import Derived.Deep.RegionHeld3
namespace Go.Proofs.Ythgbbfcpnmpjgaa
open Go.RowKit
set_option linter.unusedSimpArgs false
set_option linter.unusedVariables false

/-- A drawn call: whatever numbers; the reader has gone on; nothing else has turned. -/
def DrawnK (B g p : Nat) (w : World) (e : Ending) (w' : World) : Prop :=
  ∃ f t c : Int, e = .returned (.agg #[.int .i64 f, .int .i64 t, .int .i64 c]) ∧ RdU w' B g p ∧ w.grownBy w' (some g)
/-- Drawn calls, at most m of them, in new memory. -/
def DrawnKs (m B g p : Nat) (w : World) (e : Ending) (w' : World) : Prop :=
  ∃ (A : Option Addr) (n c : Nat) (cs : List CallQ), e = .returned (.slice A n c) ∧ n ≤ m ∧ w'.ownsRow w.heap.size 40 3 (.slice A n c) n (cellsC cs) ∧ RdU w' B g p ∧ w.grownBy w' (some g)

set_option maxHeartbeats 1000000 in
theorem randomCall_any (B g p : Nat) (w : World) (hp : p ≤ 1000) (hr : RdU w B g p) :
    Calls Try.prog 59 #[.pointer (some ⟨g, 0, none⟩)] w (DrawnK B g (p + 3) w) := by
  have g1 := hr.lt
  have g2 := hr.ge
  have ne0 : ¬ w.heap.size = g := by omega
  go_enter Try.func59, Try.ntmps59
  go_wp2_with fail
  refine (pick_u B g p _ _ (by omega) (by repeat (first | ((with_reducible refine RdU.mono hr16 ?_); omega) | ((with_reducible refine RdU.mono hr15 ?_); omega) | ((with_reducible refine RdU.mono hr14 ?_); omega) | ((with_reducible refine RdU.mono hr13 ?_); omega) | ((with_reducible refine RdU.mono hr12 ?_); omega) | ((with_reducible refine RdU.mono hr11 ?_); omega) | ((with_reducible refine RdU.mono hr10 ?_); omega) | ((with_reducible refine RdU.mono hr9 ?_); omega) | ((with_reducible refine RdU.mono hr8 ?_); omega) | ((with_reducible refine RdU.mono hr7 ?_); omega) | ((with_reducible refine RdU.mono hr6 ?_); omega) | ((with_reducible refine RdU.mono hr5 ?_); omega) | ((with_reducible refine RdU.mono hr4 ?_); omega) | ((with_reducible refine RdU.mono hr3 ?_); omega) | ((with_reducible refine RdU.mono hr2 ?_); omega) | ((with_reducible refine RdU.mono hr1 ?_); omega) | ((with_reducible refine RdU.mono hr ?_); omega) | (with_reducible refine RdU.drew ?_) | (with_reducible refine RdU.drewN ?_ _) | (with_reducible refine RdU.alloc ?_ _) | ((with_reducible refine RdU.setCell ?_ ?_ ?_ _); rotate_left; (focus (first | (simp; done) | (simp; omega) | omega)); (focus (first | (simp; done) | (simp; omega) | omega)))))).mono ?_
  rintro e w1 ⟨x1, rfl, x1a, x1b, hr1, hg⟩
  have hz1 := hg.size
  try simp at hz1
  obtain ⟨_, _, _, _, _, _, _, _⟩ := sz (show w.heap.size < w1.heap.size from by omega)
  have hx : Blk _ (w.heap.size) 40 #[.int .i64 0, .int .i64 0, .int .i64 0] := Blk.grown (by repeat (first | (with_reducible assumption) | (with_reducible exact Blk.new _ _ _) | ((with_reducible refine Blk.new_at ?_); (first | (simp; done) | (simp; omega))) | (with_reducible refine Blk.drew ?_) | (with_reducible refine Blk.drewN ?_ _) | (with_reducible refine Blk.alloc ?_ _) | ((with_reducible refine Blk.far ?_ ?_ _); rotate_left; (focus (first | (simp; done) | (simp; omega) | omega))))) hg (by intro e; have := Option.some.inj e; omega)
  obtain ⟨_, _, _, _, _, _⟩ := blk3 hx
  have Hg1 := hide hg
  clear hg
  have x1c := x1b (by omega)
  clear x1b
  go_wp2_with fail
  refine (pick_u B g (p + 1) _ _ (by omega) (by repeat (first | ((with_reducible refine RdU.mono hr16 ?_); omega) | ((with_reducible refine RdU.mono hr15 ?_); omega) | ((with_reducible refine RdU.mono hr14 ?_); omega) | ((with_reducible refine RdU.mono hr13 ?_); omega) | ((with_reducible refine RdU.mono hr12 ?_); omega) | ((with_reducible refine RdU.mono hr11 ?_); omega) | ((with_reducible refine RdU.mono hr10 ?_); omega) | ((with_reducible refine RdU.mono hr9 ?_); omega) | ((with_reducible refine RdU.mono hr8 ?_); omega) | ((with_reducible refine RdU.mono hr7 ?_); omega) | ((with_reducible refine RdU.mono hr6 ?_); omega) | ((with_reducible refine RdU.mono hr5 ?_); omega) | ((with_reducible refine RdU.mono hr4 ?_); omega) | ((with_reducible refine RdU.mono hr3 ?_); omega) | ((with_reducible refine RdU.mono hr2 ?_); omega) | ((with_reducible refine RdU.mono hr1 ?_); omega) | ((with_reducible refine RdU.mono hr ?_); omega) | (with_reducible refine RdU.drew ?_) | (with_reducible refine RdU.drewN ?_ _) | (with_reducible refine RdU.alloc ?_ _) | ((with_reducible refine RdU.setCell ?_ ?_ ?_ _); rotate_left; (focus (first | (simp; done) | (simp; omega) | omega)); (focus (first | (simp; done) | (simp; omega) | omega)))))).mono ?_
  rintro e w2 ⟨x2, rfl, x2a, x2b, hr2, hg⟩
  have hz2 := hg.size
  try simp at hz2
  obtain ⟨_, _, _, _, _, _, _, _⟩ := sz (show w.heap.size < w2.heap.size from by omega)
  have hx : Blk _ (w.heap.size) 40 #[.int .i64 0, .int .i64 0, .int .i64 0] := Blk.grown (by repeat (first | (with_reducible assumption) | (with_reducible exact Blk.new _ _ _) | ((with_reducible refine Blk.new_at ?_); (first | (simp; done) | (simp; omega))) | (with_reducible refine Blk.drew ?_) | (with_reducible refine Blk.drewN ?_ _) | (with_reducible refine Blk.alloc ?_ _) | ((with_reducible refine Blk.far ?_ ?_ _); rotate_left; (focus (first | (simp; done) | (simp; omega) | omega))))) hg (by intro e; have := Option.some.inj e; omega)
  obtain ⟨_, _, _, _, _, _⟩ := blk3 hx
  have Hg2 := hide hg
  clear hg
  have x2c := x2b (by omega)
  clear x2b
  go_wp2_with fail
  refine (pick_u B g (p + 2) _ _ (by omega) (by repeat (first | ((with_reducible refine RdU.mono hr16 ?_); omega) | ((with_reducible refine RdU.mono hr15 ?_); omega) | ((with_reducible refine RdU.mono hr14 ?_); omega) | ((with_reducible refine RdU.mono hr13 ?_); omega) | ((with_reducible refine RdU.mono hr12 ?_); omega) | ((with_reducible refine RdU.mono hr11 ?_); omega) | ((with_reducible refine RdU.mono hr10 ?_); omega) | ((with_reducible refine RdU.mono hr9 ?_); omega) | ((with_reducible refine RdU.mono hr8 ?_); omega) | ((with_reducible refine RdU.mono hr7 ?_); omega) | ((with_reducible refine RdU.mono hr6 ?_); omega) | ((with_reducible refine RdU.mono hr5 ?_); omega) | ((with_reducible refine RdU.mono hr4 ?_); omega) | ((with_reducible refine RdU.mono hr3 ?_); omega) | ((with_reducible refine RdU.mono hr2 ?_); omega) | ((with_reducible refine RdU.mono hr1 ?_); omega) | ((with_reducible refine RdU.mono hr ?_); omega) | (with_reducible refine RdU.drew ?_) | (with_reducible refine RdU.drewN ?_ _) | (with_reducible refine RdU.alloc ?_ _) | ((with_reducible refine RdU.setCell ?_ ?_ ?_ _); rotate_left; (focus (first | (simp; done) | (simp; omega) | omega)); (focus (first | (simp; done) | (simp; omega) | omega)))))).mono ?_
  rintro e w3 ⟨x3, rfl, x3a, x3b, hr3, hg⟩
  have hz3 := hg.size
  try simp at hz3
  obtain ⟨_, _, _, _, _, _, _, _⟩ := sz (show w.heap.size < w3.heap.size from by omega)
  have hx : Blk _ (w.heap.size) 40 #[.int .i64 0, .int .i64 0, .int .i64 0] := Blk.grown (by repeat (first | (with_reducible assumption) | (with_reducible exact Blk.new _ _ _) | ((with_reducible refine Blk.new_at ?_); (first | (simp; done) | (simp; omega))) | (with_reducible refine Blk.drew ?_) | (with_reducible refine Blk.drewN ?_ _) | (with_reducible refine Blk.alloc ?_ _) | ((with_reducible refine Blk.far ?_ ?_ _); rotate_left; (focus (first | (simp; done) | (simp; omega) | omega))))) hg (by intro e; have := Option.some.inj e; omega)
  obtain ⟨_, _, _, _, _, _⟩ := blk3 hx
  have Hg3 := hide hg
  clear hg
  go_wp2_with fail
  refine bodyPost_ret ?_ rfl ⟨x1, (x1 + 1 + x2) % 9, x3, rfl, ?_, (by repeat (first | (with_reducible exact World.grownBy.refl _ _) | (with_reducible refine only_drew ?_) | (with_reducible refine only_drewN ?_ _) | (with_reducible refine only_alloc ?_ _) | ((with_reducible refine only_setNew ?_ ?_ _); rotate_left; (focus (first | (simp; done) | (simp; omega) | omega))) | (with_reducible refine only_trans ?_ Hg16.out) | (with_reducible refine only_trans ?_ Hg15.out) | (with_reducible refine only_trans ?_ Hg14.out) | (with_reducible refine only_trans ?_ Hg13.out) | (with_reducible refine only_trans ?_ Hg12.out) | (with_reducible refine only_trans ?_ Hg11.out) | (with_reducible refine only_trans ?_ Hg10.out) | (with_reducible refine only_trans ?_ Hg9.out) | (with_reducible refine only_trans ?_ Hg8.out) | (with_reducible refine only_trans ?_ Hg7.out) | (with_reducible refine only_trans ?_ Hg6.out) | (with_reducible refine only_trans ?_ Hg5.out) | (with_reducible refine only_trans ?_ Hg4.out) | (with_reducible refine only_trans ?_ Hg3.out) | (with_reducible refine only_trans ?_ Hg2.out) | (with_reducible refine only_trans ?_ Hg1.out) | (with_reducible refine only_below ?_ Hb16.out) | (with_reducible refine only_below ?_ Hb15.out) | (with_reducible refine only_below ?_ Hb14.out) | (with_reducible refine only_below ?_ Hb13.out) | (with_reducible refine only_below ?_ Hb12.out) | (with_reducible refine only_below ?_ Hb11.out) | (with_reducible refine only_below ?_ Hb10.out) | (with_reducible refine only_below ?_ Hb9.out) | (with_reducible refine only_below ?_ Hb8.out) | (with_reducible refine only_below ?_ Hb7.out) | (with_reducible refine only_below ?_ Hb6.out) | (with_reducible refine only_below ?_ Hb5.out) | (with_reducible refine only_below ?_ Hb4.out) | (with_reducible refine only_below ?_ Hb3.out) | (with_reducible refine only_below ?_ Hb2.out) | (with_reducible refine only_below ?_ Hb1.out)))⟩
  · simp [results, Try.results59, go_sem, *]
  · exact (by repeat (first | ((with_reducible refine RdU.mono hr16 ?_); omega) | ((with_reducible refine RdU.mono hr15 ?_); omega) | ((with_reducible refine RdU.mono hr14 ?_); omega) | ((with_reducible refine RdU.mono hr13 ?_); omega) | ((with_reducible refine RdU.mono hr12 ?_); omega) | ((with_reducible refine RdU.mono hr11 ?_); omega) | ((with_reducible refine RdU.mono hr10 ?_); omega) | ((with_reducible refine RdU.mono hr9 ?_); omega) | ((with_reducible refine RdU.mono hr8 ?_); omega) | ((with_reducible refine RdU.mono hr7 ?_); omega) | ((with_reducible refine RdU.mono hr6 ?_); omega) | ((with_reducible refine RdU.mono hr5 ?_); omega) | ((with_reducible refine RdU.mono hr4 ?_); omega) | ((with_reducible refine RdU.mono hr3 ?_); omega) | ((with_reducible refine RdU.mono hr2 ?_); omega) | ((with_reducible refine RdU.mono hr1 ?_); omega) | ((with_reducible refine RdU.mono hr ?_); omega) | (with_reducible refine RdU.drew ?_) | (with_reducible refine RdU.drewN ?_ _) | (with_reducible refine RdU.alloc ?_ _) | ((with_reducible refine RdU.setCell ?_ ?_ ?_ _); rotate_left; (focus (first | (simp; done) | (simp; omega) | omega)); (focus (first | (simp; done) | (simp; omega) | omega)))))

theorem ks_app {w' : World} {base n : Nat} {v : Value} {cs : List CallQ} {f t x : Int} (h : w'.ownsRow base 40 3 v (n + 1) (cellsC cs ++ [.int .i64 f, .int .i64 t, .int .i64 x])) : w'.ownsRow base 40 3 v (n + 1) (cellsC (cs ++ [(f, t, x)])) := by
  rw [cellsC_append]; exact h
set_option maxHeartbeats 1000000 in
theorem randomCalls_any (B g p : Nat) (w : World) (hp : p ≤ 900) (hr : RdU w B g p) :
    Calls Try.prog 56 #[.pointer (some ⟨g, 0, none⟩)] w (DrawnKs 12 B g (p + 37) w) := by
  have g1 := hr.lt
  have g2 := hr.ge
  obtain ⟨i0, hi0, iz0, iz1, iz2⟩ := info_parts call_info
  have ne0 : ¬ w.heap.size = g := by omega
  have H0 := hide (DR.lit (e := 40) (sz := 3) (B0 := B) (g := g) (w0 := w) (W := w) (by omega) (by decide) hr (World.grownBy.refl _ _) rfl)
  go_enter Try.func56, Try.ntmps56
  go_wp2_with fail
  refine (one_lit B g p _ _ _ _ [3, 4, 5, 2, 1, 0, 7, 12] _ (by simp) rfl rfl (by decide) (by omega) (by repeat (first | ((with_reducible refine RdU.mono hr16 ?_); omega) | ((with_reducible refine RdU.mono hr15 ?_); omega) | ((with_reducible refine RdU.mono hr14 ?_); omega) | ((with_reducible refine RdU.mono hr13 ?_); omega) | ((with_reducible refine RdU.mono hr12 ?_); omega) | ((with_reducible refine RdU.mono hr11 ?_); omega) | ((with_reducible refine RdU.mono hr10 ?_); omega) | ((with_reducible refine RdU.mono hr9 ?_); omega) | ((with_reducible refine RdU.mono hr8 ?_); omega) | ((with_reducible refine RdU.mono hr7 ?_); omega) | ((with_reducible refine RdU.mono hr6 ?_); omega) | ((with_reducible refine RdU.mono hr5 ?_); omega) | ((with_reducible refine RdU.mono hr4 ?_); omega) | ((with_reducible refine RdU.mono hr3 ?_); omega) | ((with_reducible refine RdU.mono hr2 ?_); omega) | ((with_reducible refine RdU.mono hr1 ?_); omega) | ((with_reducible refine RdU.mono hr ?_); omega) | (with_reducible refine RdU.drew ?_) | (with_reducible refine RdU.drewN ?_ _) | (with_reducible refine RdU.alloc ?_ _) | ((with_reducible refine RdU.setCell ?_ ?_ ?_ _); rotate_left; (focus (first | (simp; done) | (simp; omega) | omega)); (focus (first | (simp; done) | (simp; omega) | omega)))))).mono ?_
  rintro e w1 ⟨x1, rfl, x1a, hr1, hg⟩
  have H1 := hide ((H0.out.alloc _).pick hr1 hg)
  have hj : ∃ j : Nat, j ≤ 12 ∧ x1 = (j : Int) := by
    simp at x1a
    exact ⟨x1.toNat, by omega, by omega⟩
  obtain ⟨j0, hj0, rfl⟩ := hj
  clear x1a hg hr1 H0
  go_wp2_with fail
  go_loopw [3, 4] (fun v i wr => ∃ (j q : Nat) (cs : List CallQ), j ≤ 12 ∧ cs.length + j ≤ 12 ∧ i = .int .i64 j ∧ q + 3 * j ≤ p + 37 ∧ Hid (DR 40 3 B g w wr v cs.length (cellsC cs) q)) (fun _ i _ => (intOf i).toNat)
  case atStart => exact ⟨j0, p + 1, [], by omega, by simp; omega, rfl, by omega, hide (by simpa [cellsC] using H1.out)⟩
  case round =>
    obtain ⟨j, q, cs, h1, h2, rfl, h4, Hs⟩ := hrel
    obtain ⟨Av, cv, rfl⟩ := own_form Hs.out.o
    by_cases hj0' : 0 < j
    · have hj1 : (0 : Int) < (j : Int) := by omega
      have hr4 := Hs.out.rd
      go_wp2_with fail
      refine (randomCall_any B g q _ (by omega) hr4).mono ?_
      rintro e w4 ⟨f, t, x, rfl, hr5, hg⟩
      have Hs4 := hide (Hs.out.pick hr5 hg)
      clear hr5 hg hr4 Hs
      go_wp2_with (at_builtin; refine wpList_append_own _ rfl (.tmp 13) (.tmp 16) _ rfl w.heap.size 40 i0 (.agg #[.int .i64 0, .int .i64 0, .int .i64 0]) 3 24 Try.underlying25 hi0 iz0 iz1 iz2 rfl (by decide) _ _ _ rfl (Hs4.out.o.alloc _) _ 1 1 [.int .i64 f, .int .i64 t, .int .i64 x] rfl rfl (cells_new_at _ #[.int .i64 f, .int .i64 t, .int .i64 x] _ _ (by simp)) (one3 _ _ _) (by unfold maxLen; omega) (by omega) (by have hsz := Hs4.out.size; (try simp at hsz); (try simp); omega) ?_; intro v5 w5 hown hgrow _)
      have Hs5 := hide ((Hs4.out.alloc (.cells #[.int .i64 f, .int .i64 t, .int .i64 x] 40)).app (ks_app hown) hgrow)
      clear hown hgrow Hs4
      go_wp2_with fail
      go_roundw
      case rel => exact ⟨j - 1, q + 3, cs ++ [(f, t, x)], by omega, by simp; omega, int_eq (by omega), by omega, hide (by simpa using Hs5.out)⟩
      case measure => simp [intOf]; omega
    · obtain rfl : j = 0 := by omega
      go_wp2_with fail
      go_ret
      exact ⟨_, _, _, cs, rfl, by omega, Hs.out.o, Hs.out.rd.mono (by omega), Hs.out.gr⟩

def lenV : Value → Nat
  | .slice _ n _ => n
  | _ => 0
set_option maxHeartbeats 2000000 in
theorem anyCalls_any (B g p : Nat) (w : World) (hp : p ≤ 800) (hr : RdU w B g p) :
    Calls Try.prog 40 #[.pointer (some ⟨g, 0, none⟩)] w (DrawnKs 13 B g (p + 100) w) := by
  have g1 := hr.lt
  have g2 := hr.ge
  obtain ⟨i0, hi0, iz0, iz1, iz2⟩ := info_parts call_info
  go_enter Try.func40, Try.ntmps40
  go_wp2_with fail
  refine (randomCalls_any B g p _ (by omega) hr).mono ?_
  rintro e w1 ⟨A1, n1, c1, cs, rfl, hn1, ho, hr1, hg⟩
  have H1 := hide (DR.got (B0 := B) (w0 := w) (by omega) (by decide) (World.grownBy.refl _ _) ho hr1 hg)
  have hl1 : cs.length = n1 := RdC.len (Rd.of_own ho)
  have Hl1 := hide hl1
  clear ho hg hl1
  go_wp2_with fail
  refine (pick_u B g (p + 37) _ _ (by omega) hr1).mono ?_
  rintro e w2 ⟨x2, rfl, x2a, x2b, hr2, hg⟩
  have H2 := hide (H1.out.pick hr2 hg)
  clear hg hr1 H1
  by_cases h0 : x2 = 0
  · subst h0
    go_wp2_with fail
    refine (one_lit B g (p + 38) _ _ _ _ [-1, 0, 15, 16] _ (by simp) rfl rfl (by decide) (by omega) (by repeat (first | ((with_reducible refine RdU.mono hr16 ?_); omega) | ((with_reducible refine RdU.mono hr15 ?_); omega) | ((with_reducible refine RdU.mono hr14 ?_); omega) | ((with_reducible refine RdU.mono hr13 ?_); omega) | ((with_reducible refine RdU.mono hr12 ?_); omega) | ((with_reducible refine RdU.mono hr11 ?_); omega) | ((with_reducible refine RdU.mono hr10 ?_); omega) | ((with_reducible refine RdU.mono hr9 ?_); omega) | ((with_reducible refine RdU.mono hr8 ?_); omega) | ((with_reducible refine RdU.mono hr7 ?_); omega) | ((with_reducible refine RdU.mono hr6 ?_); omega) | ((with_reducible refine RdU.mono hr5 ?_); omega) | ((with_reducible refine RdU.mono hr4 ?_); omega) | ((with_reducible refine RdU.mono hr3 ?_); omega) | ((with_reducible refine RdU.mono hr2 ?_); omega) | ((with_reducible refine RdU.mono hr1 ?_); omega) | ((with_reducible refine RdU.mono hr ?_); omega) | (with_reducible refine RdU.drew ?_) | (with_reducible refine RdU.drewN ?_ _) | (with_reducible refine RdU.alloc ?_ _) | ((with_reducible refine RdU.setCell ?_ ?_ ?_ _); rotate_left; (focus (first | (simp; done) | (simp; omega) | omega)); (focus (first | (simp; done) | (simp; omega) | omega)))))).mono ?_
    rintro e w3 ⟨x3, rfl, x3a, hr3, hg⟩
    have H3 := hide ((H2.out.alloc _).pick hr3 hg)
    clear hg
    go_wp2_with fail
    refine (one_lit B g (p + 39) _ _ _ _ [0, 15, 16, 3] _ (by simp) rfl rfl (by decide) (by omega) (by repeat (first | ((with_reducible refine RdU.mono hr16 ?_); omega) | ((with_reducible refine RdU.mono hr15 ?_); omega) | ((with_reducible refine RdU.mono hr14 ?_); omega) | ((with_reducible refine RdU.mono hr13 ?_); omega) | ((with_reducible refine RdU.mono hr12 ?_); omega) | ((with_reducible refine RdU.mono hr11 ?_); omega) | ((with_reducible refine RdU.mono hr10 ?_); omega) | ((with_reducible refine RdU.mono hr9 ?_); omega) | ((with_reducible refine RdU.mono hr8 ?_); omega) | ((with_reducible refine RdU.mono hr7 ?_); omega) | ((with_reducible refine RdU.mono hr6 ?_); omega) | ((with_reducible refine RdU.mono hr5 ?_); omega) | ((with_reducible refine RdU.mono hr4 ?_); omega) | ((with_reducible refine RdU.mono hr3 ?_); omega) | ((with_reducible refine RdU.mono hr2 ?_); omega) | ((with_reducible refine RdU.mono hr1 ?_); omega) | ((with_reducible refine RdU.mono hr ?_); omega) | (with_reducible refine RdU.drew ?_) | (with_reducible refine RdU.drewN ?_ _) | (with_reducible refine RdU.alloc ?_ _) | ((with_reducible refine RdU.setCell ?_ ?_ ?_ _); rotate_left; (focus (first | (simp; done) | (simp; omega) | omega)); (focus (first | (simp; done) | (simp; omega) | omega)))))).mono ?_
    rintro e w4 ⟨x4, rfl, x4a, hr4, hg⟩
    have H4 := hide ((H3.out.alloc _).pick hr4 hg)
    clear hg
    go_wp2_with fail
    refine (one_lit B g (p + 40) _ _ _ _ [-1, 0, 200, 201] _ (by simp) rfl rfl (by decide) (by omega) (by repeat (first | ((with_reducible refine RdU.mono hr16 ?_); omega) | ((with_reducible refine RdU.mono hr15 ?_); omega) | ((with_reducible refine RdU.mono hr14 ?_); omega) | ((with_reducible refine RdU.mono hr13 ?_); omega) | ((with_reducible refine RdU.mono hr12 ?_); omega) | ((with_reducible refine RdU.mono hr11 ?_); omega) | ((with_reducible refine RdU.mono hr10 ?_); omega) | ((with_reducible refine RdU.mono hr9 ?_); omega) | ((with_reducible refine RdU.mono hr8 ?_); omega) | ((with_reducible refine RdU.mono hr7 ?_); omega) | ((with_reducible refine RdU.mono hr6 ?_); omega) | ((with_reducible refine RdU.mono hr5 ?_); omega) | ((with_reducible refine RdU.mono hr4 ?_); omega) | ((with_reducible refine RdU.mono hr3 ?_); omega) | ((with_reducible refine RdU.mono hr2 ?_); omega) | ((with_reducible refine RdU.mono hr1 ?_); omega) | ((with_reducible refine RdU.mono hr ?_); omega) | (with_reducible refine RdU.drew ?_) | (with_reducible refine RdU.drewN ?_ _) | (with_reducible refine RdU.alloc ?_ _) | ((with_reducible refine RdU.setCell ?_ ?_ ?_ _); rotate_left; (focus (first | (simp; done) | (simp; omega) | omega)); (focus (first | (simp; done) | (simp; omega) | omega)))))).mono ?_
    rintro e w5 ⟨x5, rfl, x5a, hr5, hg⟩
    have H5 := hide ((H4.out.alloc _).pick hr5 hg)
    clear hg H4 H3 H2
    go_wp2_with (at_builtin; refine wpList_append_own _ rfl (.tmp 10) (.tmp 21) _ rfl w.heap.size 40 i0 (.agg #[.int .i64 0, .int .i64 0, .int .i64 0]) 3 24 Try.underlying25 hi0 iz0 iz1 iz2 rfl (by decide) _ _ _ rfl (H5.out.o.alloc _) _ 1 1 [.int .i64 x3, .int .i64 x4, .int .i64 x5] rfl rfl (cells_new_at _ #[.int .i64 x3, .int .i64 x4, .int .i64 x5] _ _ (by simp)) (one3 _ _ _) (by unfold maxLen; omega) (by omega) (by have hsz := H5.out.size; (try simp at hsz); (try simp); omega) ?_; intro v6 w6 hown hgrow _)
    have H6 := hide ((H5.out.alloc (.cells #[.int .i64 x3, .int .i64 x4, .int .i64 x5] 40)).app (ks_app hown) hgrow)
    clear hown hgrow H5
    obtain ⟨Av, cv, rfl⟩ := own_form H6.out.o
    go_wp2_with fail
    go_ret
    exact ⟨_, _, _, _, rfl, by omega, H6.out.o, H6.out.rd.mono (by omega), H6.out.gr⟩
  have h0' : (x2 == 0) = false := by simpa using h0
  clear h0
  by_cases h1 : x2 = 1
  · subst h1
    go_wp2_with fail
    go_loopw [3] (fun v wr => ∃ (q n : Nat) (cs : List CallQ), n ≤ 13 ∧ q + 4 * (13 - n) ≤ p + 95 ∧ lenV v = n ∧ Hid (DR 40 3 B g w wr v n (cellsC cs) q)) (fun v _ => 13 - lenV v)
    case atStart => exact ⟨p + 38, n1, cs, by omega, by omega, rfl, H2⟩
    case round =>
      obtain ⟨q, n, cs, h1, h2, h3, Hs⟩ := hrel
      obtain ⟨Av, cv, rfl⟩ := own_form Hs.out.o
      clear h3
      have hr4 := Hs.out.rd
      go_wp2_with fail
      refine (pick_u B g q _ _ (by omega) hr4).mono ?_
      rintro e w4 ⟨x4, rfl, x4a, x4b, hr5, hg⟩
      have x4c := x4b (by omega)
      have Hs4 := hide (Hs.out.pick hr5 hg)
      clear hg hr4 Hs x4b
      by_cases hlt : (n : Int) < 12 + x4
      · go_wp2_with fail
        refine (randomCall_any B g (q + 1) _ (by omega) hr5).mono ?_
        rintro e w6 ⟨f, t, x, rfl, hr6, hg⟩
        have Hs6 := hide (Hs4.out.pick hr6 hg)
        clear hg hr5 hr6 Hs4
        go_wp2_with (at_builtin; refine wpList_append_own _ rfl (.tmp 31) (.tmp 34) _ rfl w.heap.size 40 i0 (.agg #[.int .i64 0, .int .i64 0, .int .i64 0]) 3 24 Try.underlying25 hi0 iz0 iz1 iz2 rfl (by decide) _ _ _ rfl (Hs6.out.o.alloc _) _ 1 1 [.int .i64 f, .int .i64 t, .int .i64 x] rfl rfl (cells_new_at _ #[.int .i64 f, .int .i64 t, .int .i64 x] _ _ (by simp)) (one3 _ _ _) (by unfold maxLen; omega) (by omega) (by have hsz := Hs6.out.size; (try simp at hsz); (try simp); omega) ?_; intro v5 w5 hown hgrow _)
        have Hs5 := hide ((Hs6.out.alloc (.cells #[.int .i64 f, .int .i64 t, .int .i64 x] 40)).app (ks_app hown) hgrow)
        clear hown hgrow Hs6
        obtain ⟨Aw, cw, rfl⟩ := own_form Hs5.out.o
        go_wp2_with fail
        go_roundw
        case rel => exact ⟨q + 4, n + 1, _, by omega, by omega, rfl, Hs5⟩
        case measure => simp [lenV]; omega
      · go_wp2_with fail
        go_ret
        exact ⟨_, _, _, cs, rfl, by omega, Hs4.out.o, Hs4.out.rd.mono (by omega), Hs4.out.gr⟩
  have h1' : (x2 == 1) = false := by simpa using h1
  clear h1
  go_wp2_with fail
  go_ret
  exact ⟨_, _, _, cs, rfl, by omega, H2.out.o, H2.out.rd.mono (by omega), H2.out.gr⟩

/-- Calls that were drawn for a law: at most 13, in new memory. -/
def DrawnCs (w : World) (e : Ending) (w' : World) : Prop :=
  ∃ (A : Option Addr) (n c : Nat) (cs : List CallQ), e = .returned (.slice A n c) ∧ n ≤ 13 ∧ OwnA A n c ∧ RdC w' A n cs ∧ Below w.heap.size w w'



end Go.Proofs.Ythgbbfcpnmpjgaa
