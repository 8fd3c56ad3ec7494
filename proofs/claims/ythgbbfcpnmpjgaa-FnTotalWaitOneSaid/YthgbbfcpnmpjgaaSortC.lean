/-
  A row of calls as the sort's row kit tells it.
-/
import Derived.Test.YthgbbfcpnmpjgaaSortB
namespace Go.Proofs.Ythgbbfcpnmpjgaa
open Go.Shelf Go.RowKit Go.Lib Go.Sort
theorem flatK_cells (cs : List CallQ) : flatK cellsK 3 cs.toArray = (cellsC cs).toArray := by
  refine ext_get! (by simp [cellsC_len]) fun t ht => ?_
  have ht' : t < cs.length * 3 := by simpa using ht
  rw [get_flatK _ _ _ _ (by simpa using ht')]
  have hlt : t / 3 < cs.length := by omega
  obtain ⟨a0, a1, a2⟩ := cellsC_at cs (t / 3) _ (List.getElem?_eq_getElem hlt)
  have e : cs.toArray[t / 3]! = cs[t / 3] := by simp [hlt]
  rw [e]
  have get : ∀ v, (cellsC cs)[t]? = some v → (cellsC cs).toArray[t]! = v := by
    intro v hv
    have h1 : (cellsC cs).toArray[t]! = (cellsC cs)[t]?.getD default := by simp
    rw [h1, hv]; rfl
  have hm : t % 3 = 0 ∨ t % 3 = 1 ∨ t % 3 = 2 := by omega
  rcases hm with hm | hm | hm
  · have ht3 : t / 3 * 3 = t := by omega
    rw [ht3] at a0
    rw [hm, get _ a0]; rfl
  · have ht3 : t / 3 * 3 + 1 = t := by omega
    rw [ht3] at a1
    rw [hm, get _ a1]; rfl
  · have ht3 : t / 3 * 3 + 2 = t := by omega
    rw [ht3] at a2
    rw [hm, get _ a2]; rfl
/-- A row that the call owns, as the sort's kit tells it. -/
theorem holds_of_own {w : World} {base g n cap : Nat} {cs : List CallQ} (h : w.ownsRow base 40 3 (.slice (some ⟨g, 0, none⟩) n cap) n (cellsC cs)) : HoldsK cellsK 3 w g 0 cs.toArray ∧ g < w.heap.size ∧ cs.toArray.size = n := by
  obtain ⟨hl, ⟨hv, _⟩ | ⟨g', cap', cur, hv, hg, hh, hn, hcap, hcur, htake⟩⟩ := h
  · cases hv
  cases hv
  have hsz : g < w.heap.size := (Array.getElem?_eq_some_iff.1 hh).1
  have hlen : cs.length = n := by rw [cellsC_len] at hl; omega
  refine ⟨?_, hsz, by simpa using hlen⟩
  unfold HoldsK
  rw [flatK_cells]
  intro j hj
  have hj' : j < (cellsC cs).length := by simpa using hj
  have hjc : j < cur.size := by rw [hcur]; have := Nat.mul_le_mul_right 3 hn; omega
  have hx : cur[j]? = some (cellsC cs)[j] := by
    have h2 := congrArg (fun l => l[j]?) htake
    simp only [List.getElem?_take] at h2
    rw [if_pos (by omega), List.getElem?_eq_getElem hj'] at h2
    rw [← Array.getElem?_toList]; exact h2
  constructor
  · simp [World.cell?, hh, hx, hj']
  · simp [World.frozen?, hh]
end Go.Proofs.Ythgbbfcpnmpjgaa
