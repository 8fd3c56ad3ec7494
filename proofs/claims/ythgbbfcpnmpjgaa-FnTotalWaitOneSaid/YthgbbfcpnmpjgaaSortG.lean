/-
  What the insertion sort answers: a permutation, ascending.
-/
import Derived.Test.YthgbbfcpnmpjgaaSortF
namespace Go.Proofs.Ythgbbfcpnmpjgaa
open Go.Shelf Go.RowKit Go.Lib Go.Sort
theorem lt_cfK (x y : CallQ) : ltOf cfK x y = decide (x.2.2 < y.2.2) := by
  unfold ltOf cfK Lib.compareInt
  (repeat' split) <;> simp <;> omega
theorem swo_K : SWO (ltOf cfK) := by
  refine ⟨?_, ?_, ?_⟩ <;> (intros; simp [lt_cfK] at *; try omega)
theorem insK_ok (cs : List CallQ) : (insK cs.toArray).toList.length = cs.length ∧ (insK cs.toArray).toList.Perm cs ∧ SortedIn (ltOf cfK) 0 cs.length (insK cs.toArray) := by
  obtain ⟨⟨hs, _, hp⟩, hq⟩ := insertionSort_holds (lt := ltOf cfK) swo_K cs.toArray 0 cs.toArray.size (Nat.zero_le _) (Nat.le_refl _)
  have hz : (insK cs.toArray).size = cs.length := by unfold insK; rw [hs]; simp
  refine ⟨by simpa using hz, ?_, by simpa [insK] using hq⟩
  change (insK cs.toArray).size = cs.toArray.size at hs
  change ((insK cs.toArray).extract 0 cs.toArray.size).toList.Perm _ at hp
  rw [← hs, Array.extract_size, hs] at hp
  simpa using hp
end Go.Proofs.Ythgbbfcpnmpjgaa
