/-
  slices.Clone at calls, by the shelf's contract.
-/
import Derived.Test.YthgbbfcpnmpjgaaSortA
import Derived.Shelf.SlicesE.Clone
import Derived.Ground.SlgnProg
set_option linter.unusedVariables false
namespace Go.Proofs.Ythgbbfcpnmpjgaa
open Go.Shelf Go.RowKit Go.Lib Go.Sort
theorem oneCell_cellsC (cs : List CallQ) : ∀ u ∈ cellsC cs, u.oneCell' = true := by
  intro u hu
  simp only [cellsC, List.mem_flatMap, cellsK] at hu
  obtain ⟨c, _, h⟩ := hu
  simp at h
  rcases h with rfl | rfl | rfl <;> rfl
theorem Clone_some (b off n c : Nat) (cs : List CallQ) (w : World) (hn : n ≤ 1048576) (ha : RdC w (some ⟨b, off, none⟩) n cs) :
    Calls Try.prog 42 #[.slice (some ⟨b, off, none⟩) n c] w fun e w' => ∃ g cap, e = .returned (.slice (some ⟨g, 0, none⟩) n cap) ∧ w.heap.size ≤ g ∧ w'.ownsRow w.heap.size 40 3 (.slice (some ⟨g, 0, none⟩) n cap) n (cellsC cs) ∧ Below w.heap.size w w' := by
  have hi := call_info
  rcases hq : Try.prog.info? 40 with _ | i0
  · rw [hq] at hi; simp at hi
  rw [hq] at hi
  simp at hi
  obtain ⟨hz, hs, hb⟩ := hi
  have hc : ∀ j u, (cellsC cs)[j]? = some u → w.cell? ⟨b, off + j, none⟩ = some u := by
    intro j u hu
    have hl := List.getElem?_eq_some_iff.1 hu
    obtain ⟨hlt, _⟩ := hl
    have hlen := Rd.len ha
    obtain ⟨b', off', e, _, hc'⟩ := Rd.at_ ha (by omega)
    cases e
    exact hc' j u hu
  have hcon := AnyE.slices_Clone layClone i0 _ 3 24 hq hz hs hb rfl (by decide) Try.sizeOf40 b off n c (cellsC cs) w (Rd.len ha) (by simp [maxLen]; omega) (by omega) hc (oneCell_cellsC cs)
  refine Calls.mono hcon ?_
  rintro e w' ⟨v', rfl, ho, hv, hB⟩
  have ho' := ho
  rcases ho with ⟨hl, ⟨hv0, hn0⟩ | ⟨g, cap, cur, hv1, hg, hrest⟩⟩
  · exact absurd hv0 hv
  · subst hv1
    exact ⟨g, cap, rfl, hg, ho', hB⟩
theorem Clone_nil (n c : Nat) (w : World) :
    Calls Try.prog 42 #[.slice none n c] w fun e w' => e = .returned (.slice none 0 0) ∧ w' = w := AnyE.slices_Clone_nil layClone n c w
end Go.Proofs.Ythgbbfcpnmpjgaa
