/-
  Behind the sort: the same slice owns the sorted calls.
-/
import Derived.Test.YthgbbfcpnmpjgaaSortC
import Derived.Sort.OwnSortedInts
namespace Go.Proofs.Ythgbbfcpnmpjgaa
open Go.Shelf Go.RowKit Go.Lib Go.Sort
theorem take_putCells_id (cur : Array Value) (F : List Value) (h : F.length ≤ cur.size) : (putCells id 0 F.toArray cur).toList.take F.length = F := by
  apply List.ext_getElem?
  intro j
  by_cases hj : j < F.length
  · rw [List.getElem?_take_of_lt hj, Array.getElem?_toList]
    simp [putCells, hj, show j < cur.size by omega]
  · rw [List.getElem?_take_eq_none (by omega), List.getElem?_eq_none (by omega)]
theorem own_of_sort {w : World} {base g n cap : Nat} {cs : List CallQ} (d : List CallQ) (m : Nat) (os : Array Obj) (hd : d.length = n)
    (h : w.ownsRow base 40 3 (.slice (some ⟨g, 0, none⟩) n cap) n (cellsC cs)) :
    (sortWorldK cellsK 3 w g 0 m d.toArray os).ownsRow base 40 3 (.slice (some ⟨g, 0, none⟩) n cap) n (cellsC d) := by
  obtain ⟨hl, ⟨hv, _⟩ | ⟨g', cap', cur, hv, hg, hh, hn, hcap, hcur, htake⟩⟩ := h
  · cases hv
  cases hv
  have hsz : g < w.heap.size := (Array.getElem?_eq_some_iff.1 hh).1
  refine ⟨by rw [cellsC_len, hd], .inr ⟨g, cap, putCells id 0 (cellsC d).toArray cur, rfl, hg, ?_, hn, hcap, by simp [putCells, hcur], ?_⟩⟩
  · unfold sortWorldK putRowK
    rw [flatK_cells, heap_grow_old _ _ (by simpa using hsz)]
    simp [putRow, mapBlock, Sort.ahead, Array.getElem?_modify, hh, onCells]
  · have hlen : (cellsC d).length = n * 3 := by rw [cellsC_len, hd]
    rw [← hlen]
    exact take_putCells_id cur _ (by rw [hlen, hcur]; exact Nat.mul_le_mul_right 3 hn)
end Go.Proofs.Ythgbbfcpnmpjgaa
