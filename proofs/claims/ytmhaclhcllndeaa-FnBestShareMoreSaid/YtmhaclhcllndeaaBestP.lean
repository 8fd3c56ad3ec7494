/-
  The best share, in plain Lean: all shares in order, the search that cuts off, and that both find the first of the cheapest.
-/
import Derived.Test.YtmhaclhcllndeaaGreedyP
namespace Go.Proofs.Ytmhaclhcllndeaa
set_option linter.unusedSimpArgs false
set_option linter.unusedVariables false

/-- The digits of i to the base k, m of them. -/
def dg (k : Nat) : Nat → Nat → List Int
  | 0, _ => []
  | m + 1, i => dg k m (i / k) ++ [((i % k : Nat) : Int)]
/-- All shares of m calls among k cars, in order. -/
def allS (k : Nat) : Nat → List (List Int)
  | 0 => [[]]
  | m + 1 => (allS k m).flatMap fun s => (List.range k).map fun (r : Nat) => s ++ [(r : Int)]
theorem dg_len (k : Nat) : ∀ m i, (dg k m i).length = m
  | 0, _ => rfl
  | m + 1, i => by simp [dg, dg_len k m]
theorem dg_in (k : Nat) (hk : 0 < k) : ∀ m i, ∀ s ∈ dg k m i, 0 ≤ s ∧ s < k
  | 0, _ => by simp [dg]
  | m + 1, i => by
    intro s hs
    simp only [dg, List.mem_append, List.mem_singleton] at hs
    rcases hs with hs | rfl
    · exact dg_in k hk m _ s hs
    · have := Nat.mod_lt i hk
      omega
theorem range_mul (a k : Nat) : List.range (a * k) = (List.range a).flatMap fun q => (List.range k).map fun r => q * k + r := by
  induction a with
  | zero => simp
  | succ a ih =>
    rw [Nat.succ_mul, List.range_add, ih, List.range_succ, List.flatMap_append]
    simp
theorem allS_dg (k : Nat) (hk : 0 < k) : ∀ m, allS k m = (List.range (k ^ m)).map (dg k m)
  | 0 => by simp [allS, dg]
  | m + 1 => by
    rw [Nat.pow_succ, range_mul, allS, allS_dg k hk m, List.map_flatMap, List.flatMap_map]
    congr 1
    funext q
    rw [List.map_map]
    apply List.map_congr_left
    intro r hr
    have hr' := List.mem_range.1 hr
    have h1 : (q * k + r) / k = q := by
      rw [Nat.add_comm, Nat.add_mul_div_right _ _ hk, Nat.div_eq_of_lt hr', Nat.zero_add]
    have h2 : (q * k + r) % k = r := by
      rw [Nat.add_comm, Nat.add_mul_mod_self_right, Nat.mod_eq_of_lt hr']
    simp only [Function.comp, dg, h1, h2]
theorem allS_cons (k : Nat) : ∀ m, allS k (m + 1) = (List.range k).flatMap fun (r : Nat) => (allS k m).map fun s => (r : Int) :: s
  | 0 => by
    simp only [allS, List.flatMap_cons, List.flatMap_nil, List.append_nil, List.map_cons, List.map_nil, List.nil_append]
    induction List.range k with
    | nil => rfl
    | cons x xs ih => simp [ih]
  | m + 1 => by
    have e := allS_cons k m
    have g1 : (allS k (m + 1)).flatMap (fun s => (List.range k).map fun (r : Nat) => s ++ [(r : Int)]) = (List.range k).flatMap fun (r : Nat) => ((allS k m).map fun s => (r : Int) :: s).flatMap (fun s => (List.range k).map fun (r : Nat) => s ++ [(r : Int)]) := by
      rw [e, List.flatMap_assoc]
    refine g1.trans ?_
    congr 1
    funext r
    rw [List.flatMap_map]
    show _ = ((allS k m).flatMap fun s => (List.range k).map fun (r : Nat) => s ++ [(r : Int)]).map _
    rw [List.map_flatMap]
    congr 1
    funext s
    rw [List.map_map]
    rfl
/-- The search: what is known so far is the least cost (below 0: nothing yet) and the share. -/
def srch (n : Nat) : List CallQ → Ft → List Int → Int × List Int → Int × List Int
  | [], f, pre, st => if 0 ≤ st.1 ∧ st.1 ≤ cst f then st else (cst f, pre)
  | c :: cs, f, pre, st => if 0 ≤ st.1 ∧ st.1 ≤ cst f then st else (List.range n).foldl (fun s (r : Nat) => srch n cs (srv f r c) (pre ++ [(r : Int)]) s) st
def stp1 (f : Ft) (cs : List CallQ) (pre : List Int) (st : Int × List Int) (s : List Int) : Int × List Int :=
  if 0 ≤ st.1 ∧ st.1 ≤ cst (srvs f cs s) then st else (cst (srvs f cs s), pre ++ s)
theorem foldl_skip {α β : Type} (g : α → β → α) (a : α) : ∀ l : List β, (∀ b ∈ l, g a b = a) → l.foldl g a = a
  | [], _ => rfl
  | b :: l, h => by
    rw [List.foldl_cons, h b (by simp)]
    exact foldl_skip g a l fun x hx => h x (List.mem_cons_of_mem _ hx)
theorem foldl_congr_mem {α β : Type} {g h : α → β → α} : ∀ (l : List β) (a : α), (∀ a, ∀ b ∈ l, g a b = h a b) → l.foldl g a = l.foldl h a
  | [], a, _ => rfl
  | b :: l, a, e => by
    rw [List.foldl_cons, List.foldl_cons, e a b (by simp)]
    exact foldl_congr_mem l _ fun a x hx => e a x (List.mem_cons_of_mem _ hx)
theorem allS_in (k : Nat) (hk : 0 < k) (m : Nat) : ∀ s ∈ allS k m, s.length = m ∧ ∀ x ∈ s, 0 ≤ x ∧ x < k := by
  intro s hs
  rw [allS_dg k hk] at hs
  obtain ⟨i, _, rfl⟩ := List.mem_map.1 hs
  exact ⟨dg_len k m i, dg_in k hk m i⟩
theorem srch_eq (n : Nat) (hn : 0 < n) (h3 : n ≤ 3) : ∀ (cs : List CallQ) (f : Ft) (pre : List Int) (st : Int × List Int), srch n cs f pre st = (allS n cs.length).foldl (stp1 f cs pre) st
  | [], f, pre, st => by simp [srch, allS, stp1, srvs]
  | c :: cs, f, pre, st => by
    unfold srch
    rw [List.length_cons]
    by_cases h : 0 ≤ st.1 ∧ st.1 ≤ cst f
    · rw [if_pos h]
      refine (foldl_skip _ _ _ fun s hs => ?_).symm
      have hin := (allS_in n hn _ s hs).2
      have := cst_srvs (c :: cs) s f fun x hx => by have := hin x hx; omega
      unfold stp1
      rw [if_pos ⟨h.1, by omega⟩]
    · rw [if_neg h, allS_cons, List.foldl_flatMap]
      apply foldl_congr_mem
      intro a r hr
      rw [srch_eq n hn h3 cs, List.foldl_map]
      apply foldl_congr_mem
      intro a s hs
      have e : srvs f (c :: cs) ((r : Int) :: s) = srvs (srv f r c) cs s := by simp [srvs]
      unfold stp1
      rw [e, List.append_assoc]
      rfl
/-- The first of the cheapest of the first j shares. -/
def bmin (cost : List Int → Int) (k m : Nat) : Nat → List Int
  | 0 => dg k m 0
  | j + 1 => if cost (dg k m j) < cost (bmin cost k m j) then dg k m j else bmin cost k m j
theorem bmin_one (cost : List Int → Int) (k m : Nat) : bmin cost k m 1 = dg k m 0 := by simp [bmin]
theorem bmin_ex (cost : List Int → Int) (k m : Nat) : ∀ j, ∃ i, bmin cost k m j = dg k m i
  | 0 => ⟨0, rfl⟩
  | j + 1 => by
    unfold bmin
    split
    · exact ⟨j, rfl⟩
    · exact bmin_ex cost k m j
theorem bmin_le (cost : List Int → Int) (k m : Nat) : ∀ j i, i < j → cost (bmin cost k m j) ≤ cost (dg k m i)
  | 0, i, h => absurd h (by omega)
  | j + 1, i, h => by
    unfold bmin
    rcases Nat.lt_or_ge i j with hj | hj
    · have ih := bmin_le cost k m j i hj
      split <;> omega
    · obtain rfl : i = j := by omega
      split <;> omega
theorem fold_bmin (f : Ft) (cs : List CallQ) (k : Nat) (hc : ∀ s, 0 ≤ cst (srvs f cs s)) : ∀ j, 0 < j →
    ((List.range j).map (dg k cs.length)).foldl (stp1 f cs []) (-1, []) = (cst (srvs f cs (bmin (fun s => cst (srvs f cs s)) k cs.length j)), bmin (fun s => cst (srvs f cs s)) k cs.length j)
  | 0, h => absurd h (by omega)
  | 1, _ => by simp [stp1, bmin]
  | j + 2, _ => by
    have ih := fold_bmin f cs k hc (j + 1) (by omega)
    rw [List.range_succ, List.map_append, List.foldl_append, ih]
    have h0 := hc (bmin (fun s => cst (srvs f cs s)) k cs.length (j + 1))
    have e : bmin (fun s => cst (srvs f cs s)) k cs.length (j + 2) = if cst (srvs f cs (dg k cs.length (j + 1))) < cst (srvs f cs (bmin (fun s => cst (srvs f cs s)) k cs.length (j + 1))) then dg k cs.length (j + 1) else bmin (fun s => cst (srvs f cs s)) k cs.length (j + 1) := rfl
    rw [e]
    simp only [List.map_cons, List.map_nil, List.foldl_cons, List.foldl_nil, stp1, List.nil_append]
    by_cases h : cst (srvs f cs (dg k cs.length (j + 1))) < cst (srvs f cs (bmin (fun s => cst (srvs f cs s)) k cs.length (j + 1)))
    · rw [if_neg (by omega), if_pos h]
    · rw [if_pos ⟨h0, by omega⟩, if_neg h]
/-- What BestShare hands back. -/
def bestK (zs : List Int) (cs : List CallQ) : List Int := if vSh zs cs = true then bmin (fun s => gre zs cs s) zs.length cs.length (zs.length ^ cs.length) else []
theorem bmin_congr {c1 c2 : List Int → Int} {k m : Nat} (h : ∀ i, c1 (dg k m i) = c2 (dg k m i)) : ∀ j, bmin c1 k m j = bmin c2 k m j
  | 0 => rfl
  | j + 1 => by
    have ih := bmin_congr h j
    obtain ⟨i, hi⟩ := bmin_ex c2 k m j
    unfold bmin
    rw [ih, h j, hi, h i]
theorem bestK_srch {zs : List Int} {cs : List CallQ} (hv : vSh zs cs = true) : bestK zs cs = (srch zs.length cs (newF zs) [] (-1, [])).2 := by
  obtain ⟨h1, h2, h3⟩ := vSh_iff.1 hv
  obtain ⟨⟨m1, m2⟩, hall⟩ := vFl_iff.1 h1
  have hp : 0 < zs.length ^ cs.length := Nat.pow_pos m1
  have hc : ∀ s, 0 ≤ cst (srvs (newF zs) cs s) := fun s => by
    have := (cst_in (srvs_ok cs s (newF zs) 0 (newF_ok fun z hz => allB_mem hall hz) fun c hc => vCs_mem h3 hc)).1
    exact this
  rw [srch_eq _ m1 m2, allS_dg _ m1, fold_bmin _ _ _ hc _ hp]
  unfold bestK
  rw [if_pos hv]
  apply bmin_congr
  intro i
  exact (gre_eq zs cs _ m1 m2 (dg_in _ m1 _ _)).symm
theorem mem_allS (k : Nat) : ∀ (m : Nat) (s : List Int), s.length = m → (∀ x ∈ s, 0 ≤ x ∧ x < k) → s ∈ allS k m
  | 0, s, hl, _ => by
    have := List.eq_nil_of_length_eq_zero hl
    subst this
    simp [allS]
  | m + 1, [], hl, _ => by simp at hl
  | m + 1, x :: s, hl, h => by
    have hx := h x (by simp)
    rw [allS_cons]
    refine List.mem_flatMap.2 ⟨x.toNat, List.mem_range.2 (by omega), List.mem_map.2 ⟨s, mem_allS k m s (by simpa using hl) fun y hy => h y (List.mem_cons_of_mem _ hy), ?_⟩⟩
    rw [Int.toNat_of_nonneg hx.1]
theorem dg_of {k : Nat} (hk : 0 < k) (m : Nat) {s : List Int} (hl : s.length = m) (hs : ∀ x ∈ s, 0 ≤ x ∧ x < k) : ∃ i, i < k ^ m ∧ dg k m i = s := by
  have := mem_allS k m s hl hs
  rw [allS_dg k hk] at this
  obtain ⟨i, hi, e⟩ := List.mem_map.1 this
  exact ⟨i, List.mem_range.1 hi, e⟩
end Go.Proofs.Ytmhaclhcllndeaa
