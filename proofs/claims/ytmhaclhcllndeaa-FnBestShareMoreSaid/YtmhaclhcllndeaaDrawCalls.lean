/-
  Drawing calls.
-/
import Derived.Test.YtmhaclhcllndeaaCallsC
import Derived.Deep.RegionHeld3
namespace Go.Proofs.Ytmhaclhcllndeaa
open Go.RowKit
set_option linter.unusedSimpArgs false
set_option linter.unusedVariables false

/-- A drawn call: whatever numbers; the reader has gone on; nothing else has turned. -/
def DrawnK (B g p : Nat) (w : World) (e : Ending) (w' : World) : Prop :=
  ∃ f t c : Int, e = .returned (.agg #[.int .i64 f, .int .i64 t, .int .i64 c]) ∧ RdU w' B g p ∧ w.grownBy w' (some g)
/-- Drawn calls, at most m of them, in new memory. -/
def DrawnKs (m B g p : Nat) (w : World) (e : Ending) (w' : World) : Prop :=
  ∃ (A : Option Addr) (n c : Nat) (cs : List CallQ), e = .returned (.slice A n c) ∧ n ≤ m ∧ w'.ownsRow w.heap.size 45 3 (.slice A n c) n (cellsC cs) ∧ RdU w' B g p ∧ w.grownBy w' (some g)

set_option maxHeartbeats 1000000 in
theorem randomCall_any (B g p : Nat) (w : World) (hp : p ≤ 1000) (hr : RdU w B g p) :
    Calls Try.prog 68 #[.pointer (some ⟨g, 0, none⟩)] w (DrawnK B g (p + 3) w) := by
  have g1 := hr.lt
  have g2 := hr.ge
  have ne0 : ¬ w.heap.size = g := by omega
  go_enter Try.func68, Try.ntmps68
  go_wp2_with fail
  refine (pick_u B g p _ _ (by omega) (by repeat (first | ((with_reducible refine RdU.mono hr16 ?_); omega) | ((with_reducible refine RdU.mono hr15 ?_); omega) | ((with_reducible refine RdU.mono hr14 ?_); omega) | ((with_reducible refine RdU.mono hr13 ?_); omega) | ((with_reducible refine RdU.mono hr12 ?_); omega) | ((with_reducible refine RdU.mono hr11 ?_); omega) | ((with_reducible refine RdU.mono hr10 ?_); omega) | ((with_reducible refine RdU.mono hr9 ?_); omega) | ((with_reducible refine RdU.mono hr8 ?_); omega) | ((with_reducible refine RdU.mono hr7 ?_); omega) | ((with_reducible refine RdU.mono hr6 ?_); omega) | ((with_reducible refine RdU.mono hr5 ?_); omega) | ((with_reducible refine RdU.mono hr4 ?_); omega) | ((with_reducible refine RdU.mono hr3 ?_); omega) | ((with_reducible refine RdU.mono hr2 ?_); omega) | ((with_reducible refine RdU.mono hr1 ?_); omega) | ((with_reducible refine RdU.mono hr ?_); omega) | (with_reducible refine RdU.drew ?_) | (with_reducible refine RdU.drewN ?_ _) | (with_reducible refine RdU.alloc ?_ _) | ((with_reducible refine RdU.setCell ?_ ?_ ?_ _); rotate_left; (focus (first | (simp; done) | (simp; omega) | omega)); (focus (first | (simp; done) | (simp; omega) | omega)))))).mono ?_
  rintro e w1 ⟨x1, rfl, x1a, x1b, hr1, hg⟩
  have hz1 := hg.size
  try simp at hz1
  obtain ⟨_, _, _, _, _, _, _, _⟩ := sz (show w.heap.size < w1.heap.size from by omega)
  have hx : Blk _ (w.heap.size) 45 #[.int .i64 0, .int .i64 0, .int .i64 0] := Blk.grown (by repeat (first | (with_reducible assumption) | (with_reducible exact Blk.new _ _ _) | ((with_reducible refine Blk.new_at ?_); (first | (simp; done) | (simp; omega))) | (with_reducible refine Blk.drew ?_) | (with_reducible refine Blk.drewN ?_ _) | (with_reducible refine Blk.alloc ?_ _) | ((with_reducible refine Blk.far ?_ ?_ _); rotate_left; (focus (first | (simp; done) | (simp; omega) | omega))))) hg (by intro e; have := Option.some.inj e; omega)
  obtain ⟨_, _, _, _, _, _⟩ := blk3 hx
  have Hg1 := hide hg
  clear hg
  have x1c := x1b (by omega)
  clear x1b
  go_wp2_with fail
  refine (pick_u B g (p + 1) _ _ (by omega) (by repeat (first | ((with_reducible refine RdU.mono hr16 ?_); omega) | ((with_reducible refine RdU.mono hr15 ?_); omega) | ((with_reducible refine RdU.mono hr14 ?_); omega) | ((with_reducible refine RdU.mono hr13 ?_); omega) | ((with_reducible refine RdU.mono hr12 ?_); omega) | ((with_reducible refine RdU.mono hr11 ?_); omega) | ((with_reducible refine RdU.mono hr10 ?_); omega) | ((with_reducible refine RdU.mono hr9 ?_); omega) | ((with_reducible refine RdU.mono hr8 ?_); omega) | ((with_reducible refine RdU.mono hr7 ?_); omega) | ((with_reducible refine RdU.mono hr6 ?_); omega) | ((with_reducible refine RdU.mono hr5 ?_); omega) | ((with_reducible refine RdU.mono hr4 ?_); omega) | ((with_reducible refine RdU.mono hr3 ?_); omega) | ((with_reducible refine RdU.mono hr2 ?_); omega) | ((with_reducible refine RdU.mono hr1 ?_); omega) | ((with_reducible refine RdU.mono hr ?_); omega) | (with_reducible refine RdU.drew ?_) | (with_reducible refine RdU.drewN ?_ _) | (with_reducible refine RdU.alloc ?_ _) | ((with_reducible refine RdU.setCell ?_ ?_ ?_ _); rotate_left; (focus (first | (simp; done) | (simp; omega) | omega)); (focus (first | (simp; done) | (simp; omega) | omega)))))).mono ?_
  rintro e w2 ⟨x2, rfl, x2a, x2b, hr2, hg⟩
  have hz2 := hg.size
  try simp at hz2
  obtain ⟨_, _, _, _, _, _, _, _⟩ := sz (show w.heap.size < w2.heap.size from by omega)
  have hx : Blk _ (w.heap.size) 45 #[.int .i64 0, .int .i64 0, .int .i64 0] := Blk.grown (by repeat (first | (with_reducible assumption) | (with_reducible exact Blk.new _ _ _) | ((with_reducible refine Blk.new_at ?_); (first | (simp; done) | (simp; omega))) | (with_reducible refine Blk.drew ?_) | (with_reducible refine Blk.drewN ?_ _) | (with_reducible refine Blk.alloc ?_ _) | ((with_reducible refine Blk.far ?_ ?_ _); rotate_left; (focus (first | (simp; done) | (simp; omega) | omega))))) hg (by intro e; have := Option.some.inj e; omega)
  obtain ⟨_, _, _, _, _, _⟩ := blk3 hx
  have Hg2 := hide hg
  clear hg
  have x2c := x2b (by omega)
  clear x2b
  go_wp2_with fail
  refine (pick_u B g (p + 2) _ _ (by omega) (by repeat (first | ((with_reducible refine RdU.mono hr16 ?_); omega) | ((with_reducible refine RdU.mono hr15 ?_); omega) | ((with_reducible refine RdU.mono hr14 ?_); omega) | ((with_reducible refine RdU.mono hr13 ?_); omega) | ((with_reducible refine RdU.mono hr12 ?_); omega) | ((with_reducible refine RdU.mono hr11 ?_); omega) | ((with_reducible refine RdU.mono hr10 ?_); omega) | ((with_reducible refine RdU.mono hr9 ?_); omega) | ((with_reducible refine RdU.mono hr8 ?_); omega) | ((with_reducible refine RdU.mono hr7 ?_); omega) | ((with_reducible refine RdU.mono hr6 ?_); omega) | ((with_reducible refine RdU.mono hr5 ?_); omega) | ((with_reducible refine RdU.mono hr4 ?_); omega) | ((with_reducible refine RdU.mono hr3 ?_); omega) | ((with_reducible refine RdU.mono hr2 ?_); omega) | ((with_reducible refine RdU.mono hr1 ?_); omega) | ((with_reducible refine RdU.mono hr ?_); omega) | (with_reducible refine RdU.drew ?_) | (with_reducible refine RdU.drewN ?_ _) | (with_reducible refine RdU.alloc ?_ _) | ((with_reducible refine RdU.setCell ?_ ?_ ?_ _); rotate_left; (focus (first | (simp; done) | (simp; omega) | omega)); (focus (first | (simp; done) | (simp; omega) | omega)))))).mono ?_
  rintro e w3 ⟨x3, rfl, x3a, x3b, hr3, hg⟩
  have hz3 := hg.size
  try simp at hz3
  obtain ⟨_, _, _, _, _, _, _, _⟩ := sz (show w.heap.size < w3.heap.size from by omega)
  have hx : Blk _ (w.heap.size) 45 #[.int .i64 0, .int .i64 0, .int .i64 0] := Blk.grown (by repeat (first | (with_reducible assumption) | (with_reducible exact Blk.new _ _ _) | ((with_reducible refine Blk.new_at ?_); (first | (simp; done) | (simp; omega))) | (with_reducible refine Blk.drew ?_) | (with_reducible refine Blk.drewN ?_ _) | (with_reducible refine Blk.alloc ?_ _) | ((with_reducible refine Blk.far ?_ ?_ _); rotate_left; (focus (first | (simp; done) | (simp; omega) | omega))))) hg (by intro e; have := Option.some.inj e; omega)
  obtain ⟨_, _, _, _, _, _⟩ := blk3 hx
  have Hg3 := hide hg
  clear hg
  go_wp2_with fail
  refine bodyPost_ret ?_ rfl ⟨x1, (x1 + 1 + x2) % 9, x3, rfl, ?_, (by repeat (first | (with_reducible exact World.grownBy.refl _ _) | (with_reducible refine only_drew ?_) | (with_reducible refine only_drewN ?_ _) | (with_reducible refine only_alloc ?_ _) | ((with_reducible refine only_setNew ?_ ?_ _); rotate_left; (focus (first | (simp; done) | (simp; omega) | omega))) | (with_reducible refine only_trans ?_ Hg16.out) | (with_reducible refine only_trans ?_ Hg15.out) | (with_reducible refine only_trans ?_ Hg14.out) | (with_reducible refine only_trans ?_ Hg13.out) | (with_reducible refine only_trans ?_ Hg12.out) | (with_reducible refine only_trans ?_ Hg11.out) | (with_reducible refine only_trans ?_ Hg10.out) | (with_reducible refine only_trans ?_ Hg9.out) | (with_reducible refine only_trans ?_ Hg8.out) | (with_reducible refine only_trans ?_ Hg7.out) | (with_reducible refine only_trans ?_ Hg6.out) | (with_reducible refine only_trans ?_ Hg5.out) | (with_reducible refine only_trans ?_ Hg4.out) | (with_reducible refine only_trans ?_ Hg3.out) | (with_reducible refine only_trans ?_ Hg2.out) | (with_reducible refine only_trans ?_ Hg1.out) | (with_reducible refine only_below ?_ Hb16.out) | (with_reducible refine only_below ?_ Hb15.out) | (with_reducible refine only_below ?_ Hb14.out) | (with_reducible refine only_below ?_ Hb13.out) | (with_reducible refine only_below ?_ Hb12.out) | (with_reducible refine only_below ?_ Hb11.out) | (with_reducible refine only_below ?_ Hb10.out) | (with_reducible refine only_below ?_ Hb9.out) | (with_reducible refine only_below ?_ Hb8.out) | (with_reducible refine only_below ?_ Hb7.out) | (with_reducible refine only_below ?_ Hb6.out) | (with_reducible refine only_below ?_ Hb5.out) | (with_reducible refine only_below ?_ Hb4.out) | (with_reducible refine only_below ?_ Hb3.out) | (with_reducible refine only_below ?_ Hb2.out) | (with_reducible refine only_below ?_ Hb1.out)))⟩
  · simp [results, Try.results68, go_sem, *]
  · exact (by repeat (first | ((with_reducible refine RdU.mono hr16 ?_); omega) | ((with_reducible refine RdU.mono hr15 ?_); omega) | ((with_reducible refine RdU.mono hr14 ?_); omega) | ((with_reducible refine RdU.mono hr13 ?_); omega) | ((with_reducible refine RdU.mono hr12 ?_); omega) | ((with_reducible refine RdU.mono hr11 ?_); omega) | ((with_reducible refine RdU.mono hr10 ?_); omega) | ((with_reducible refine RdU.mono hr9 ?_); omega) | ((with_reducible refine RdU.mono hr8 ?_); omega) | ((with_reducible refine RdU.mono hr7 ?_); omega) | ((with_reducible refine RdU.mono hr6 ?_); omega) | ((with_reducible refine RdU.mono hr5 ?_); omega) | ((with_reducible refine RdU.mono hr4 ?_); omega) | ((with_reducible refine RdU.mono hr3 ?_); omega) | ((with_reducible refine RdU.mono hr2 ?_); omega) | ((with_reducible refine RdU.mono hr1 ?_); omega) | ((with_reducible refine RdU.mono hr ?_); omega) | (with_reducible refine RdU.drew ?_) | (with_reducible refine RdU.drewN ?_ _) | (with_reducible refine RdU.alloc ?_ _) | ((with_reducible refine RdU.setCell ?_ ?_ ?_ _); rotate_left; (focus (first | (simp; done) | (simp; omega) | omega)); (focus (first | (simp; done) | (simp; omega) | omega)))))

theorem ks_app {w' : World} {base n : Nat} {v : Value} {cs : List CallQ} {f t x : Int} (h : w'.ownsRow base 45 3 v (n + 1) (cellsC cs ++ [.int .i64 f, .int .i64 t, .int .i64 x])) : w'.ownsRow base 45 3 v (n + 1) (cellsC (cs ++ [(f, t, x)])) := by
  rw [cellsC_append]; exact h

def lenV : Value → Nat
  | .slice _ n _ => n
  | _ => 0

/-- Calls that were drawn for a law: at most 13, in new memory. -/
def DrawnCs (w : World) (e : Ending) (w' : World) : Prop :=
  ∃ (A : Option Addr) (n c : Nat) (cs : List CallQ), e = .returned (.slice A n c) ∧ n ≤ 13 ∧ OwnA A n c ∧ RdC w' A n cs ∧ Below w.heap.size w w'



end Go.Proofs.Ytmhaclhcllndeaa
