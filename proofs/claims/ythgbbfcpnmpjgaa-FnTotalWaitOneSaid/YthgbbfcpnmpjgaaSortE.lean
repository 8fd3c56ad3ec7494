/-
  The sort's world grows; the sort at a nil slice.
-/
import Derived.Test.YthgbbfcpnmpjgaaSortD
import Derived.Sort.OwnSortedInts
namespace Go.Proofs.Ythgbbfcpnmpjgaa
open Go.Shelf Go.RowKit Go.Lib Go.Sort
theorem grown_sort {w : World} {g : Nat} (d : List CallQ) (m : Nat) (os : Array Obj) : w.grownBy (sortWorldK cellsK 3 w g 0 m d.toArray os) (some g) := by
  refine ⟨rfl, rfl, rfl, by simp [sortWorldK, putRowK], fun k hk hne => ?_⟩
  unfold sortWorldK putRowK
  rw [heap_grow_old _ _ (by simpa using hk)]
  have : g ≠ k := fun e => hne (by rw [e])
  simp [putRow, mapBlock, Sort.ahead, Array.getElem?_modify, this]
/-- The insertion sort at no element. -/
theorem ins_none (fv : Value) (c : Nat) (w : World) :
    Calls Try.prog 66 #[.slice none 0 c, .int .i64 0, .int .i64 0, fv] w fun e w' => e = .returned (.tuple #[]) ∧ w' = w := by
  go_enter Try.func66, Try.ntmps66
  go_wp2
  go_loopw [8] (fun a wr => a = .int .i64 1 ∧ wr = w) (fun _ _ => 0)
  case atStart => exact ⟨rfl, rfl⟩
  case round =>
    obtain ⟨rfl, hw⟩ := hrel
    have hw2 := hw.symm
    clear hw
    subst hw2
    go_wp2
    go_end0
    exact ⟨rfl, rfl⟩
theorem stable_none (fv : Value) (c : Nat) (w : World) :
    Calls Try.prog 60 #[.slice none 0 c, .int .i64 0, fv] w fun e w' => e = .returned (.tuple #[]) ∧ w' = w := by
  have hcon2 := ins_none fv c w
  go_enter Try.func60, Try.ntmps60
  go_wp2
  go_loopw [7, 8] (fun a b wr => a = .int .i64 0 ∧ b = .int .i64 20 ∧ wr = w) (fun _ _ _ => 0)
  case atStart => exact ⟨rfl, rfl, rfl⟩
  case round =>
    obtain ⟨rfl, rfl, hw⟩ := hrel
    have hw2 := hw.symm
    clear hw
    subst hw2
    go_wp2_with (go_at_call 66; refine hcon2.mono ?_; rintro e w' ⟨rfl, rfl⟩)
    go_loopw [6] (fun k wr' => k = .int .i64 20 ∧ wr' = w') (fun _ _ => 0)
    case atStart => exact ⟨rfl, rfl⟩
    case round =>
      obtain ⟨rfl, hw⟩ := hrel
      have hw2 := hw.symm
      clear hw
      subst hw2
      go_wp2
      go_end0
      exact ⟨rfl, rfl⟩
theorem sortStable_none (fv : Value) (c : Nat) (w : World) :
    Calls Try.prog 43 #[.slice none 0 c, fv] w fun e w' => e = .returned (.tuple #[]) ∧ w' = w := by
  have hcon := stable_none fv c w
  go_enter Try.func43, Try.ntmps43
  go_wp2_with (go_at_call 60; refine hcon.mono ?_; rintro e w' ⟨rfl, rfl⟩)
  go_end0
  exact ⟨rfl, rfl⟩
end Go.Proofs.Ythgbbfcpnmpjgaa
