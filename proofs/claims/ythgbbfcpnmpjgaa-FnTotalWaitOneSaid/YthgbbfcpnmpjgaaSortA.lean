/-
  The sort of calls: the closure that compares, cmp.Compare, the insertion sort by the shelf's contract, stableCmpFunc and SortStableFunc at twelve calls or fewer.
-/
import Derived.Test.YthgbbfcpnmpjgaaCallsA
import Derived.Shelf.SlSortCmp.InsertionK
import Derived.Shelf.SlicesG.Cmp
import Derived.Ground.SlsfProg
import Derived.Ground.SlgcProg
import Derived.Test.YthgbbfcpnmpjgaaLays
set_option linter.unusedSimpArgs false
set_option linter.unusedVariables false
namespace Go.Proofs.Ythgbbfcpnmpjgaa
open Go.Shelf Go.RowKit Go.Lib Go.Sort
/-- How the closure compares two calls. -/
def cfK (x y : CallQ) : Int := Lib.compareInt x.2.2 y.2.2
theorem closure_cmp (x y : CallQ) (W : World) : Calls Try.prog 44 #[.agg (cellsK x).toArray, .agg (cellsK y).toArray] W fun e w' => e = .returned (.int .i64 (cfK x y)) ∧ ∃ q os', w' = grow (W.drewN q) os' := by
  have hcon := fun W' => AnyG.cmp_Compare_int layCmp x.2.2 y.2.2 W'
  change ∀ W', Calls Try.prog 45 _ _ _ at hcon
  unfold cfK
  generalize Lib.compareInt x.2.2 y.2.2 = r at hcon ⊢
  obtain ⟨x0, x1, x2⟩ := x
  obtain ⟨y0, y1, y2⟩ := y
  dsimp only at hcon
  unfold cellsK
  go_enter Try.func44, Try.ntmps44
  go_wp2_with (go_at_call 45; refine (hcon _).mono ?_; rintro e w' ⟨rfl, rfl⟩)
  go_ret
  exact ⟨rfl, 0, _, by rw [alloc_eq_grow, alloc_eq_grow, grow_grow]; rfl⟩
theorem cmpLays_K (blk off size : Nat) (w : World) : CmpLays Try.prog 44 #[] cellsK 3 cfK blk off size w :=
  fun _ _ _ _ x y => closure_cmp x y _
def insK (d : Array CallQ) : Array CallQ := Sort.insertionSort (ltOf cfK) d 0 d.size
theorem stable_K (blk off cap : Nat) (d : Array CallQ) (w : World) (hH : HoldsK cellsK 3 w blk off d) (hblk : blk < w.heap.size) (h12 : d.size ≤ 12) :
    Calls Try.prog 60 #[.slice (some ⟨blk, off, none⟩) d.size cap, .int .i64 d.size, .func (.func 44) #[] #[]] w fun e w' => e = .returned (.tuple #[]) ∧ ∃ n os, w' = sortWorldK cellsK 3 w blk off n (insK d) os := by
  have eg : ∀ args w, (callFunc 44 args).run Try.prog w = .ok (.enter 44 args) w := enters_of Try.func44 (by kernel_rfl) rfl
  have hcon := AnyQ.insertionSortCmpFunc layIns 3 Try.isAgg40 Try.sizeOf40 cellsK (fun _ => rfl) (fun x v hv => by simp [cellsK] at hv; rcases hv with rfl | rfl | rfl <;> rfl) cfK 44 #[] blk off cap 0 d.size d w eg (cmpLays_K blk off d.size w) hH hblk (Nat.zero_le _) (Nat.le_refl _) (by omega)
  change Calls Try.prog 66 _ _ _ at hcon
  have hcon2 : Calls Try.prog 66 #[.slice (some ⟨blk, off, none⟩) d.size cap, .int .i64 0, .int .i64 d.size, .func (.func 44) #[] #[]] w fun e w' => e = .returned (.tuple #[]) ∧ ∃ n os, w' = sortWorldK cellsK 3 w blk off n (insK d) os := hcon
  clear hcon hH
  generalize insK d = r at hcon2 ⊢
  have e20 : decide ((20 : Int) ≤ (d.size : Int)) = false := by simp; omega
  have e21 : decide ((20 : Int) < (d.size : Int)) = false := by simp; omega
  generalize d.size = n at hcon2 e20 e21 h12 ⊢
  go_enter Try.func60, Try.ntmps60
  go_wp2
  go_loopw [7, 8] (fun a b wr => a = .int .i64 0 ∧ b = .int .i64 20 ∧ wr = w) (fun _ _ _ => 0)
  case atStart => exact ⟨rfl, rfl, rfl⟩
  case round =>
    obtain ⟨rfl, rfl, hw⟩ := hrel
    have hw2 := hw.symm
    clear hw
    subst hw2
    go_wp2_with (go_at_call 66; refine hcon2.mono ?_; rintro e w' ⟨rfl, m, os, rfl⟩)
    go_loopw [6] (fun k wr => k = .int .i64 20 ∧ wr = sortWorldK cellsK 3 w blk off m r os) (fun _ _ => 0)
    case atStart => exact ⟨rfl, rfl⟩
    case round =>
      obtain ⟨rfl, rfl⟩ := hrel
      go_wp2
      go_end0
      exact ⟨rfl, m, os, rfl⟩
theorem sortStable_K (blk off cap : Nat) (d : Array CallQ) (w : World) (hH : HoldsK cellsK 3 w blk off d) (hblk : blk < w.heap.size) (h12 : d.size ≤ 12) :
    Calls Try.prog 43 #[.slice (some ⟨blk, off, none⟩) d.size cap, .func (.func 44) #[] #[]] w fun e w' => e = .returned (.tuple #[]) ∧ ∃ n os, w' = sortWorldK cellsK 3 w blk off n (insK d) os := by
  have hcon := stable_K blk off cap d w hH hblk h12
  clear hH
  generalize insK d = r at hcon ⊢
  go_enter Try.func43, Try.ntmps43
  go_wp2_with (go_at_call 60; refine hcon.mono ?_; rintro e w' ⟨rfl, n, os, rfl⟩)
  go_end0
  exact ⟨rfl, n, os, rfl⟩
end Go.Proofs.Ythgbbfcpnmpjgaa
