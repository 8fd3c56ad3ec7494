/-
  The sort of calls, plainly: it is a permutation, it ascends, it leaves a sorted list as it is, and the calls up to a time are its first ones.
-/
import Derived.Test.YthgbbfcpnmpjgaaSortH
import Derived.Sort.WalkA
namespace Go.Proofs.Ythgbbfcpnmpjgaa
open Go.Shelf Go.RowKit Go.Lib Go.Sort
set_option linter.unusedVariables false
/-- The calls in order. -/
def insL (cs : List CallQ) : List CallQ := (insK cs.toArray).toList
theorem insL_len (cs : List CallQ) : (insL cs).length = cs.length := (insK_ok cs).1
theorem insL_perm (cs : List CallQ) : (insL cs).Perm cs := (insK_ok cs).2.1
def ascK (cs : List CallQ) : Prop := cs.Pairwise (fun x y => x.2.2 ≤ y.2.2)
theorem insL_asc (cs : List CallQ) : ascK (insL cs) := by
  have h := (insK_ok cs).2.2
  have hl := insL_len cs
  unfold ascK
  rw [List.pairwise_iff_getElem]
  intro i j hi hj hij
  have := h i j (Nat.zero_le _) hij (by rw [← hl]; exact hj)
  rw [lt_cfK] at this
  have hs : (insK cs.toArray).size = (insL cs).length := by simp [insL]
  have e : ∀ k (hk : k < (insL cs).length), (insK cs.toArray)[k]! = (insL cs)[k] := by
    intro k hk
    have : k < (insK cs.toArray).size := by omega
    simp [insL, this]
  rw [e _ hj, e _ hi] at this
  simpa using this
theorem insOuter_id (d : Array CallQ) (b : Nat) (hb : b ≤ d.size) (h : ∀ i j, i < j → j < b → ltOf cfK d[j]! d[i]! = false) : ∀ (m i : Nat), b - i = m → insOuter (ltOf cfK) 0 b i d = d := by
  intro m
  induction m with
  | zero => intro i hi; rw [insOuter_stop _ _ _ _ _ (by omega)]
  | succ m ih =>
    intro i hi
    rw [insOuter_go _ _ _ _ _ (by omega)]
    have e : insInner (ltOf cfK) 0 i d = d := by
      apply insInner_stop
      by_cases h0 : i = 0
      · exact .inl (by omega)
      · exact .inr (h (i - 1) i (by omega) (by omega))
    rw [e]
    exact ih (i + 1) (by omega)
theorem insL_id (cs : List CallQ) (h : ascK cs) : insL cs = cs := by
  unfold insL insK Sort.insertionSort
  rw [insOuter_id cs.toArray _ (Nat.le_refl _) ?_ _ _ rfl]
  intro i j hij hj
  rw [lt_cfK]
  have hj' : j < cs.length := by simpa using hj
  have := List.pairwise_iff_getElem.1 h i j (by omega) hj' hij
  have e : ∀ k (hk : k < cs.length), cs.toArray[k]! = cs[k] := by intro k hk; simp [hk]
  rw [e _ hj', e _ (by omega)]
  simpa using this
theorem vCs_perm {a b : List CallQ} (h : a.Perm b) : vCs a = vCs b := by
  unfold vCs
  rw [h.length_eq]
  congr 1
  rw [Bool.eq_iff_iff]
  simp only [List.all_eq_true]
  exact ⟨fun q x hx => q x (h.mem_iff.2 hx), fun q x hx => q x (h.mem_iff.1 hx)⟩
theorem vCs_insL (cs : List CallQ) : vCs (insL cs) = vCs cs := vCs_perm (insL_perm cs)
theorem sortedK_eq (cs : List CallQ) : sortedK cs = if vCs cs then insL cs else [] := rfl
theorem sortedK_len (cs : List CallQ) : (sortedK cs).length ≤ 12 := by
  unfold sortedK
  split
  · rename_i h
    have h2 : cs.length ≤ 12 := by unfold vCs at h; simp at h; exact h.1
    have := insL_len cs
    unfold insL at this
    omega
  · simp
theorem filter_take_asc (t : Int) : ∀ l : List CallQ, ascK l → l.filter (fun c => decide (c.2.2 ≤ t)) = l.take (l.filter (fun c => decide (c.2.2 ≤ t))).length
  | [], _ => rfl
  | x :: l, h => by
    obtain ⟨h1, h2⟩ := List.pairwise_cons.1 h
    by_cases hx : x.2.2 ≤ t
    · rw [List.filter_cons_of_pos (by simpa using hx), List.length_cons, List.take_succ_cons, ← filter_take_asc t l h2]
    · rw [List.filter_cons_of_neg (by simpa using hx)]
      have e : l.filter (fun c => decide (c.2.2 ≤ t)) = [] := by
        rw [List.filter_eq_nil_iff]
        intro y hy
        have := h1 y hy
        simp; omega
      rw [e]; rfl
end Go.Proofs.Ythgbbfcpnmpjgaa
