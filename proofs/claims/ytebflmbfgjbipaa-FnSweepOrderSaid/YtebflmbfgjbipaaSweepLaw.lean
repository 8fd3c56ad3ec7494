/-
  The plain law of sweeps: the order of a sweep, and what follows for it. No program here.
-/
import Derived.Test.YtebflmbfgjbipaaFloorsA
import Derived.Lib.SlicesCompact
namespace Go.Proofs.Ytebflmbfgjbipaa
set_option linter.unusedSimpArgs false
set_option linter.unusedVariables false

def D16 : List Int := (List.range 16).map Int.ofNat
theorem mem_D16 {x : Int} : x ∈ D16 ↔ 0 ≤ x ∧ x ≤ 15 := by
  unfold D16
  simp only [List.mem_map, List.mem_range]
  constructor
  · rintro ⟨n, hn, rfl⟩
    have : Int.ofNat n = (n : Int) := rfl
    omega
  · intro h
    exact ⟨x.toNat, by omega, by have : Int.ofNat x.toNat = (x.toNat : Int) := rfl; omega⟩
def path1 (a h : Int) : List Int := if h = 1 then D16.filter (fun f => decide (a ≤ f)) else (D16.filter (fun f => decide (f ≤ a))).reverse
def path2 (a h : Int) : List Int := if h = 1 then (D16.filter (fun f => decide (f < a))).reverse else D16.filter (fun f => decide (a < f))
def path (a h : Int) : List Int := path1 a h ++ path2 a h
/-- The floors of a list, each once, in order. -/
def flo (zs : List Int) : List Int := D16.filter fun f => zs.contains f
def sweepL (zs : List Int) (a h : Int) : List Int := (path a h).filter fun f => zs.contains f
def vSw (zs : List Int) (a h : Int) : Bool := decide (zs.length ≤ 12) && allB zs 0 15 && inB a 0 15 && decide (h = 1 ∨ h = -1)
def sweepK (zs : List Int) (a h : Int) : List Int := if vSw zs a h then sweepL zs a h else []

theorem asc_ext : ∀ (l m : List Int), l.Pairwise (· < ·) → m.Pairwise (· < ·) → (∀ x, x ∈ l ↔ x ∈ m) → l = m
  | [], [], _, _, _ => rfl
  | [], y :: m, _, _, h => absurd ((h y).2 (by simp)) (by simp)
  | x :: l, [], _, _, h => absurd ((h x).1 (by simp)) (by simp)
  | x :: l, y :: m, hl, hm, h => by
    obtain ⟨hl1, hl2⟩ := List.pairwise_cons.1 hl
    obtain ⟨hm1, hm2⟩ := List.pairwise_cons.1 hm
    have hxy : x = y := by
      have h1 := (h x).1 (by simp)
      have h2 := (h y).2 (by simp)
      rcases List.mem_cons.1 h1 with h1 | h1
      · exact h1
      · rcases List.mem_cons.1 h2 with h2 | h2
        · exact h2.symm
        · have := hl1 y h2
          have := hm1 x h1
          omega
    subst hxy
    congr 1
    refine asc_ext l m hl2 hm2 fun z => ?_
    constructor
    · intro hz
      have h3 := (h z).1 (List.mem_cons_of_mem _ hz)
      rcases List.mem_cons.1 h3 with h3 | h3
      · have := hl1 z hz; omega
      · exact h3
    · intro hz
      have h3 := (h z).2 (List.mem_cons_of_mem _ hz)
      rcases List.mem_cons.1 h3 with h3 | h3
      · have := hm1 z hz; omega
      · exact h3
theorem asc_D16 : D16.Pairwise (· < ·) := by decide
theorem asc_flo (zs : List Int) : (flo zs).Pairwise (· < ·) := asc_D16.filter _
theorem mem_flo {zs : List Int} {x : Int} : x ∈ flo zs ↔ (0 ≤ x ∧ x ≤ 15) ∧ x ∈ zs := by
  unfold flo
  rw [List.mem_filter, mem_D16]
  simp

/-! What slices.Compact leaves of an ascending list. -/
theorem compact_ok (s : List Int) (hs : s.Pairwise (· ≤ ·)) : (Lib.compact s).Pairwise (· < ·) ∧ (∀ x, x ∈ Lib.compact s ↔ x ∈ s) ∧ (Lib.compact s).length ≤ s.length := by
  have at_ : ∀ i (hi : i < s.length), s.toArray[i]! = s[i] := by intro i hi; simp [hi]
  have le_ : ∀ i j, i ≤ j → j < s.length → s.toArray[i]! ≤ s.toArray[j]! := by
    intro i j hij hj
    rcases Nat.lt_or_ge i j with h | h
    · rw [at_ _ hj, at_ _ (by omega)]
      exact List.pairwise_iff_getElem.1 hs i j (by omega) hj h
    · obtain rfl : i = j := by omega
      exact Int.le_refl _
  have key : ∀ m, m ≤ s.length → (Lib.compactUpTo s.toArray m).Pairwise (· < ·) ∧ (∀ x, x ∈ Lib.compactUpTo s.toArray m ↔ ∃ i, i < m ∧ s.toArray[i]! = x) ∧ (Lib.compactUpTo s.toArray m).length ≤ m := by
    intro m
    induction m with
    | zero => intro _; refine ⟨by simp [Lib.compactUpTo], by simp [Lib.compactUpTo], by simp [Lib.compactUpTo]⟩
    | succ m ih =>
      intro hm
      obtain ⟨h1, h2, h3⟩ := ih (by omega)
      rw [Lib.compactUpTo_succ]
      by_cases hk : Lib.keeps s.toArray m = true
      · rw [if_pos hk]
        refine ⟨?_, ?_, by simp; omega⟩
        · rw [List.pairwise_append]
          refine ⟨h1, by simp, ?_⟩
          intro x hx y hy
          have hy' := List.mem_singleton.1 hy
          subst hy'
          obtain ⟨i, hi, rfl⟩ := (h2 x).1 hx
          have h0 : m ≠ 0 := by omega
          have hne : s.toArray[m]! ≠ s.toArray[m - 1]! := by
            have hk' := of_decide_eq_true hk
            rcases hk' with hk' | hk'
            · omega
            · exact hk'
          have a1 := le_ i (m - 1) (by omega) (by omega)
          have a2 := le_ (m - 1) m (by omega) (by omega)
          omega
        · intro x
          rw [List.mem_append, h2]
          constructor
          · rintro (⟨i, hi, e⟩ | hx)
            · exact ⟨i, by omega, e⟩
            · exact ⟨m, by omega, (List.mem_singleton.1 hx).symm⟩
          · rintro ⟨i, hi, e⟩
            by_cases him : i = m
            · subst him; right; simp [e]
            · exact .inl ⟨i, by omega, e⟩
      · rw [if_neg hk, List.append_nil]
        refine ⟨h1, ?_, by omega⟩
        intro x
        rw [h2]
        constructor
        · rintro ⟨i, hi, e⟩
          exact ⟨i, by omega, e⟩
        · rintro ⟨i, hi, e⟩
          by_cases him : i = m
          · subst him
            have hk2 : ¬ (i = 0 ∨ s.toArray[i]! ≠ s.toArray[i - 1]!) := fun h => hk (decide_eq_true h)
            have h0 : i ≠ 0 := fun h => hk2 (.inl h)
            have he : s.toArray[i]! = s.toArray[i - 1]! := Classical.byContradiction fun h => hk2 (.inr h)
            exact ⟨i - 1, by omega, by rw [← he]; exact e⟩
          · exact ⟨i, by omega, e⟩
  obtain ⟨h1, h2, h3⟩ := key s.length (Nat.le_refl _)
  refine ⟨h1, fun x => ?_, h3⟩
  unfold Lib.compact
  rw [h2]
  constructor
  · rintro ⟨i, hi, rfl⟩
    rw [at_ _ hi]; exact List.getElem_mem _
  · intro hx
    obtain ⟨i, hi, e⟩ := List.mem_iff_getElem.1 hx
    exact ⟨i, hi, by rw [at_ _ hi]; exact e⟩
/-- Sorted and compacted: the floors of the list. -/
theorem compact_flo (zs s : List Int) (hp : s.Perm zs) (hs : s.Pairwise (· ≤ ·)) (hv : allB zs 0 15 = true) : Lib.compact s = flo zs := by
  obtain ⟨h1, h2, _⟩ := compact_ok s hs
  refine asc_ext _ _ h1 (asc_flo zs) fun x => ?_
  rw [h2, mem_flo, hp.mem_iff]
  exact ⟨fun h => ⟨allB_mem hv h, h⟩, fun h => h.2⟩

/-! An ascending list, cut where it passes a number. -/
theorem asc_cut (a : Int) : ∀ l : List Int, l.Pairwise (· < ·) → l.take (l.countP (fun x => decide (x < a))) = l.filter (fun x => decide (x < a)) ∧ l.drop (l.countP (fun x => decide (x < a))) = l.filter (fun x => decide (a ≤ x))
  | [], _ => ⟨rfl, rfl⟩
  | x :: l, h => by
    obtain ⟨h1, h2⟩ := List.pairwise_cons.1 h
    obtain ⟨i1, i2⟩ := asc_cut a l h2
    by_cases hx : x < a
    · have hx' : ¬ a ≤ x := by omega
      rw [List.countP_cons_of_pos (by simpa using hx), List.filter_cons_of_pos (by simpa using hx), List.filter_cons_of_neg (by simpa using hx'), List.take_succ_cons, List.drop_succ_cons, i1, i2]
      exact ⟨rfl, rfl⟩
    · have hx' : a ≤ x := by omega
      have hall : ∀ y ∈ x :: l, ¬ y < a := by
        intro y hy
        rcases List.mem_cons.1 hy with rfl | hy
        · exact hx
        · have := h1 y hy; omega
      have c0 : (x :: l).countP (fun x => decide (x < a)) = 0 := by
        rw [List.countP_eq_zero]
        intro y hy
        simpa using hall y hy
      rw [c0]
      refine ⟨?_, ?_⟩
      · symm
        rw [List.take_zero, List.filter_eq_nil_iff]
        intro y hy
        simpa using hall y hy
      · symm
        rw [List.drop_zero, List.filter_eq_self]
        intro y hy
        have := hall y hy
        simp; omega
theorem sweepL_up (zs : List Int) (a : Int) : sweepL zs a 1 = (flo zs).filter (fun x => decide (a ≤ x)) ++ ((flo zs).filter (fun x => decide (x < a))).reverse := by
  unfold sweepL path path1 path2 flo
  rw [if_pos rfl, if_pos rfl, List.filter_append, List.filter_reverse, List.filter_filter, List.filter_filter, List.filter_filter, List.filter_filter]
  congr 1
  · congr 1; funext x; rw [Bool.and_comm]
  · congr 2; funext x; rw [Bool.and_comm]
theorem sweepL_down (zs : List Int) (a : Int) : sweepL zs a (-1) = ((flo zs).filter (fun x => decide (x < a + 1))).reverse ++ (flo zs).filter (fun x => decide (a + 1 ≤ x)) := by
  unfold sweepL path path1 path2 flo
  rw [if_neg (by decide), if_neg (by decide), List.filter_append, List.filter_reverse, List.filter_filter, List.filter_filter, List.filter_filter, List.filter_filter]
  congr 1
  · congr 2; funext x; rw [Bool.and_comm]; congr 1
    rw [Bool.eq_iff_iff]; simp; omega
  · congr 1; funext x; rw [Bool.and_comm]; congr 1

/-! The sixteen floors and two headings, each looked at. -/
theorem at16 {p : Int → Int → Prop} (hu : ∀ k : Fin 16, p (k.val : Int) 1) (hd : ∀ k : Fin 16, p (k.val : Int) (-1)) (a h : Int) (ha : 0 ≤ a ∧ a ≤ 15) (hh : h = 1 ∨ h = -1) : p a h := by
  obtain ⟨n, rfl⟩ : ∃ n : Nat, a = (n : Int) := ⟨a.toNat, by omega⟩
  have hn : n < 16 := by omega
  rcases hh with rfl | rfl
  · exact hu ⟨n, hn⟩
  · exact hd ⟨n, hn⟩
theorem mem_path {a h x : Int} (ha : 0 ≤ a ∧ a ≤ 15) (hh : h = 1 ∨ h = -1) : x ∈ path a h ↔ 0 ≤ x ∧ x ≤ 15 := by
  have : (path a h).Perm D16 := at16 (p := fun a h => (path a h).Perm D16) (by decide +kernel) (by decide +kernel) a h ha hh
  rw [this.mem_iff, mem_D16]
theorem nodup_path {a h : Int} (ha : 0 ≤ a ∧ a ≤ 15) (hh : h = 1 ∨ h = -1) : (path a h).Nodup :=
  at16 (p := fun a h => (path a h).Nodup) (by decide +kernel) (by decide +kernel) a h ha hh
theorem mem_sweepL {zs : List Int} {a h x : Int} (ha : 0 ≤ a ∧ a ≤ 15) (hh : h = 1 ∨ h = -1) : x ∈ sweepL zs a h ↔ (0 ≤ x ∧ x ≤ 15) ∧ x ∈ zs := by
  unfold sweepL
  rw [List.mem_filter, mem_path ha hh]
  simp
theorem nodup_len : ∀ (l zs : List Int), l.Nodup → (∀ x ∈ l, x ∈ zs) → l.length ≤ zs.length
  | [], zs, _, _ => Nat.zero_le _
  | x :: l, zs, h, hs => by
    obtain ⟨h1, h2⟩ := List.nodup_cons.1 h
    have hx := hs x (by simp)
    have := nodup_len l (zs.erase x) h2 fun y hy => by
      rw [List.mem_erase_of_ne (by rintro rfl; exact h1 hy)]
      exact hs y (by simp [hy])
    rw [List.length_erase_of_mem hx] at this
    have := List.length_pos_of_mem hx
    simp; omega
theorem sweepL_len {zs : List Int} {a h : Int} (ha : 0 ≤ a ∧ a ≤ 15) (hh : h = 1 ∨ h = -1) : (sweepL zs a h).length ≤ zs.length :=
  nodup_len _ _ ((nodup_path ha hh).filter _) fun x hx => ((mem_sweepL ha hh).1 hx).2
theorem vSw_iff {zs : List Int} {a h : Int} : vSw zs a h = true ↔ zs.length ≤ 12 ∧ (∀ x ∈ zs, 0 ≤ x ∧ x ≤ 15) ∧ (0 ≤ a ∧ a ≤ 15) ∧ (h = 1 ∨ h = -1) := by
  unfold vSw
  simp only [Bool.and_eq_true, decide_eq_true_eq, allB_iff, inB_iff]
  exact ⟨fun ⟨⟨⟨a, b⟩, c⟩, d⟩ => ⟨a, b, c, d⟩, fun ⟨a, b, c, d⟩ => ⟨⟨⟨a, b⟩, c⟩, d⟩⟩
theorem sweepK_pos {zs : List Int} {a h : Int} (hv : vSw zs a h = true) : sweepK zs a h = sweepL zs a h := if_pos hv
theorem sweepK_neg {zs : List Int} {a h : Int} (hv : vSw zs a h = false) : sweepK zs a h = [] := if_neg (by rw [hv]; simp)
theorem sweepK_len (zs : List Int) (a h : Int) : (sweepK zs a h).length ≤ 12 := by
  cases hv : vSw zs a h
  · rw [sweepK_neg hv]; simp
  · rw [sweepK_pos hv]
    obtain ⟨h1, _, h3, h4⟩ := vSw_iff.1 hv
    exact Nat.le_trans (sweepL_len h3 h4) h1
theorem sweepK_mem {zs : List Int} {a h x : Int} (hx : x ∈ sweepK zs a h) : 0 ≤ x ∧ x ≤ 15 := by
  cases hv : vSw zs a h
  · rw [sweepK_neg hv] at hx; cases hx
  · rw [sweepK_pos hv] at hx
    obtain ⟨_, _, h3, h4⟩ := vSw_iff.1 hv
    exact ((mem_sweepL h3 h4).1 hx).1

/-! Again. -/
theorem sweepK_again (zs : List Int) (a h : Int) (hv : vSw zs a h = true) : sweepK (sweepK zs a h) a h = sweepK zs a h := by
  obtain ⟨h1, h2, h3, h4⟩ := vSw_iff.1 hv
  have hv2 : vSw (sweepK zs a h) a h = true := vSw_iff.2 ⟨sweepK_len _ _ _, fun x hx => sweepK_mem hx, h3, h4⟩
  rw [sweepK_pos hv2, sweepK_pos hv]
  have e : ∀ x ∈ path a h, (sweepL zs a h).contains x = zs.contains x := by
    intro x hx
    have hx' := (mem_path h3 h4).1 hx
    rw [Bool.eq_iff_iff]
    simp only [List.contains_iff_mem]
    rw [mem_sweepL h3 h4]
    exact ⟨fun h => h.2, fun h => ⟨hx', h⟩⟩
  conv => lhs; unfold sweepL
  exact List.filter_congr e
/-! The mirror. -/
theorem path_mirror {a h : Int} (ha : 0 ≤ a ∧ a ≤ 15) (hh : h = 1 ∨ h = -1) : path (15 - a) (-h) = (path a h).map (fun x => 15 - x) :=
  at16 (p := fun a h => path (15 - a) (-h) = (path a h).map (fun x => 15 - x)) (by decide +kernel) (by decide +kernel) a h ha hh
theorem vSw_mirror {zs : List Int} {a h : Int} (hv : vSw zs a h = true) : vSw (zs.map (fun x => 15 - x)) (15 - a) (-h) = true := by
  obtain ⟨h1, h2, h3, h4⟩ := vSw_iff.1 hv
  refine vSw_iff.2 ⟨by simpa using h1, ?_, by omega, by omega⟩
  intro x hx
  obtain ⟨y, hy, rfl⟩ := List.mem_map.1 hx
  have := h2 y hy
  omega
theorem sweepK_mirror (zs : List Int) (a h : Int) (hv : vSw zs a h = true) : sweepK (zs.map (fun x => 15 - x)) (15 - a) (-h) = (sweepK zs a h).map (fun x => 15 - x) := by
  obtain ⟨h1, h2, h3, h4⟩ := vSw_iff.1 hv
  rw [sweepK_pos hv, sweepK_pos (vSw_mirror hv)]
  unfold sweepL
  rw [path_mirror h3 h4, List.filter_map]
  congr 1
  apply List.filter_congr
  intro x _
  rw [Bool.eq_iff_iff]
  simp only [List.contains_iff_mem, Function.comp]
  constructor
  · intro hx
    obtain ⟨y, hy, e⟩ := List.mem_map.1 hx
    obtain rfl : y = x := by omega
    exact hy
  · intro hx
    exact List.mem_map.2 ⟨x, hx, rfl⟩
/-! The next stop. -/
theorem path_first {a h : Int} (ha : 0 ≤ a ∧ a ≤ 15) (hh : h = 1 ∨ h = -1) : (path a h).Pairwise fun x y => ¬ (min a x ≤ y ∧ y ≤ max a x) :=
  at16 (p := fun a h => (path a h).Pairwise fun x y => ¬ (min a x ≤ y ∧ y ≤ max a x)) (by decide +kernel) (by decide +kernel) a h ha hh
theorem sweep_first {zs : List Int} {a h f : Int} {r : List Int} (hv : vSw zs a h = true) (hr : sweepK zs a h = f :: r) : f ∈ zs ∧ ∀ y ∈ zs, min a f ≤ y → y ≤ max a f → y = f := by
  obtain ⟨h1, h2, h3, h4⟩ := vSw_iff.1 hv
  rw [sweepK_pos hv] at hr
  have hf : f ∈ sweepL zs a h := by rw [hr]; simp
  refine ⟨((mem_sweepL h3 h4).1 hf).2, fun y hy y1 y2 => ?_⟩
  have hy2 : y ∈ sweepL zs a h := (mem_sweepL h3 h4).2 ⟨h2 y hy, hy⟩
  rw [hr] at hy2
  rcases List.mem_cons.1 hy2 with e | hyr
  · exact e
  · have hp : (sweepL zs a h).Pairwise fun x y => ¬ (min a x ≤ y ∧ y ≤ max a x) := (path_first h3 h4).filter _
    rw [hr] at hp
    exact absurd ⟨y1, y2⟩ ((List.pairwise_cons.1 hp).1 y hyr)
/-! The turns. -/
def sw1 (zs : List Int) (a h : Int) : List Int := (path1 a h).filter fun f => zs.contains f
def sw2 (zs : List Int) (a h : Int) : List Int := (path2 a h).filter fun f => zs.contains f
theorem sweepL_parts (zs : List Int) (a h : Int) : sweepL zs a h = sw1 zs a h ++ sw2 zs a h := by
  unfold sweepL path sw1 sw2; rw [List.filter_append]
theorem sw1_asc (zs : List Int) {a h : Int} (ha : 0 ≤ a ∧ a ≤ 15) (hh : h = 1 ∨ h = -1) : (sw1 zs a h).Pairwise (fun x y => 0 < (y - x) * h) ∧ (∀ x ∈ sw1 zs a h, 0 ≤ (x - a) * h) ∧ (∀ x ∈ sw1 zs a h, 0 ≤ x ∧ x ≤ 15) := by
  have p : (path1 a h).Pairwise (fun x y => 0 < (y - x) * h) ∧ (∀ x ∈ path1 a h, 0 ≤ (x - a) * h) ∧ (∀ x ∈ path1 a h, 0 ≤ x ∧ x ≤ 15) :=
    at16 (p := fun a h => (path1 a h).Pairwise (fun x y => 0 < (y - x) * h) ∧ (∀ x ∈ path1 a h, 0 ≤ (x - a) * h) ∧ (∀ x ∈ path1 a h, 0 ≤ x ∧ x ≤ 15)) (by decide +kernel) (by decide +kernel) a h ha hh
  exact ⟨p.1.filter _, fun x hx => p.2.1 x (List.mem_filter.1 hx).1, fun x hx => p.2.2 x (List.mem_filter.1 hx).1⟩
theorem sw2_asc (zs : List Int) {a h : Int} (ha : 0 ≤ a ∧ a ≤ 15) (hh : h = 1 ∨ h = -1) : (sw2 zs a h).Pairwise (fun x y => (y - x) * h < 0) ∧ (∀ x ∈ sw2 zs a h, (x - a) * h < 0) ∧ (∀ x ∈ sw2 zs a h, 0 ≤ x ∧ x ≤ 15) := by
  have p : (path2 a h).Pairwise (fun x y => (y - x) * h < 0) ∧ (∀ x ∈ path2 a h, (x - a) * h < 0) ∧ (∀ x ∈ path2 a h, 0 ≤ x ∧ x ≤ 15) :=
    at16 (p := fun a h => (path2 a h).Pairwise (fun x y => (y - x) * h < 0) ∧ (∀ x ∈ path2 a h, (x - a) * h < 0) ∧ (∀ x ∈ path2 a h, 0 ≤ x ∧ x ≤ 15)) (by decide +kernel) (by decide +kernel) a h ha hh
  exact ⟨p.1.filter _, fun x hx => p.2.1 x (List.mem_filter.1 hx).1, fun x hx => p.2.2 x (List.mem_filter.1 hx).1⟩
/-- The floor before the k-th one of a sweep, and the k-th. -/
theorem sweep_step {zs : List Int} {a h : Int} (hv : vSw zs a h = true) {k : Nat} {p x : Int} (hp : (a :: sweepK zs a h)[k]? = some p) (hx : (sweepK zs a h)[k]? = some x) :
    (k < (sw1 zs a h).length → 0 ≤ (x - p) * h ∧ (0 < k → 0 < (x - p) * h)) ∧ (k = (sw1 zs a h).length → (x - p) * h < 0) ∧ ((sw1 zs a h).length < k → (x - p) * h < 0) := by
  obtain ⟨h1, h2, h3, h4⟩ := vSw_iff.1 hv
  rw [sweepK_pos hv, sweepL_parts] at hp hx
  obtain ⟨p1, p2, _⟩ := sw1_asc zs h3 h4
  obtain ⟨q1, q2, _⟩ := sw2_asc zs h3 h4
  generalize sw1 zs a h = A at *
  generalize sw2 zs a h = B at *
  have pw : ∀ {l : List Int} {R : Int → Int → Prop}, l.Pairwise R → ∀ i u v, l[i]? = some u → l[i + 1]? = some v → R u v := by
    intro l R hl i u v hu hv
    obtain ⟨i1, rfl⟩ := List.getElem?_eq_some_iff.1 hu
    obtain ⟨i2, rfl⟩ := List.getElem?_eq_some_iff.1 hv
    exact List.pairwise_iff_getElem.1 hl i (i + 1) i1 i2 (Nat.lt_succ_self _)
  refine ⟨fun hk => ?_, fun hk => ?_, fun hk => ?_⟩
  · rw [List.getElem?_append_left hk] at hx
    cases k with
    | zero =>
      obtain rfl : a = p := by simpa using hp
      exact ⟨p2 x (List.mem_of_getElem? hx), fun h => absurd h (by omega)⟩
    | succ k =>
      rw [List.getElem?_cons_succ, List.getElem?_append_left (by omega)] at hp
      have := pw p1 k p x hp hx
      exact ⟨by omega, fun _ => this⟩
  · subst hk
    rw [List.getElem?_append_right (Nat.le_refl _)] at hx
    have hxB := q2 x (List.mem_of_getElem? hx)
    cases hA : A.length with
    | zero =>
      rw [hA] at hp
      obtain rfl : a = p := by simpa using hp
      exact hxB
    | succ k =>
      rw [hA, List.getElem?_cons_succ, List.getElem?_append_left (by omega)] at hp
      have hpA := p2 p (List.mem_of_getElem? hp)
      have e : (x - p) * h = (x - a) * h - (p - a) * h := by rw [← Int.sub_mul]; congr 1; omega
      rw [e]; omega
  · rw [List.getElem?_append_right (by omega)] at hx
    obtain ⟨k, rfl⟩ : ∃ j, k = j + 1 := ⟨k - 1, by omega⟩
    rw [List.getElem?_cons_succ, List.getElem?_append_right (by omega)] at hp
    exact pw q1 (k - A.length) p x hp (by rw [← hx]; congr 1; omega)
/-! The ends. -/
theorem sweep_up0 (zs : List Int) : sweepL zs 0 1 = flo zs := by
  have e : path 0 1 = D16 := by decide
  unfold sweepL flo; rw [e]
theorem sweep_down15 (zs : List Int) : sweepL zs 15 (-1) = (flo zs).reverse := by
  have e : path 15 (-1) = D16.reverse := by decide
  unfold sweepL flo; rw [e, List.filter_reverse]
/-! The way. -/
theorem glc (a x : Int) (l : List Int) : (a :: x :: l).getLast (by simp) = (x :: l).getLast (by simp) := rfl
theorem wayL_append : ∀ (l m : List Int) (a : Int), wayL a (l ++ m) = wayL a l + wayL ((a :: l).getLast (by simp)) m
  | [], m, a => by simp [wayL]
  | x :: l, m, a => by
    have := wayL_append l m x
    simp only [List.cons_append, wayL, this]
    rw [glc a x l]
    omega
theorem wayL_mono (h : Int) (hh : h = 1 ∨ h = -1) : ∀ (l : List Int) (a : Int), l.Pairwise (fun x y => 0 < (y - x) * h) → (∀ x ∈ l, 0 ≤ (x - a) * h) → (wayL a l : Int) = ((a :: l).getLast (by simp) - a) * h
  | [], a, _, _ => by simp [wayL]
  | x :: l, a, hp, ha => by
    obtain ⟨hp1, hp2⟩ := List.pairwise_cons.1 hp
    have ih := wayL_mono h hh l x hp2 (fun y hy => by have := hp1 y hy; omega)
    have hx := ha x (by simp)
    simp only [wayL]
    rw [glc a x l, Int.natCast_add, ih]
    generalize (x :: l).getLast (by simp) = z
    rcases hh with rfl | rfl <;> omega
theorem wayL_far : ∀ (l : List Int) (a x : Int), x ∈ a :: l → (x - a).natAbs ≤ wayL a l
  | l, a, x, hx => by
    induction l generalizing a with
    | nil => simp at hx; subst hx; simp
    | cons y l ih =>
      rcases List.mem_cons.1 hx with rfl | hx
      · simp
      · have := ih y hx
        simp only [wayL]
        omega
theorem wayL_two : ∀ (l : List Int) (a x y : Int), x ∈ l → y ∈ l → (x - y).natAbs ≤ wayL a l := by
  intro l
  induction l with
  | nil => intro a x y hx; cases hx
  | cons z l ih =>
    intro a x y hx hy
    simp only [wayL]
    rcases List.mem_cons.1 hx with rfl | hx2
    · have := wayL_far l x y hy; omega
    · rcases List.mem_cons.1 hy with rfl | hy2
      · have := wayL_far l y x hx; omega
      · have := ih z x y hx2 hy2; omega
theorem sweep_short {zs : List Int} {a h : Int} (hv : vSw zs a h = true) : wayL a (sweepK zs a h) ≤ 30 ∧ ∀ x ∈ zs, ∀ y ∈ zs, (x - y : Int) ≤ (wayL a (sweepK zs a h) : Int) := by
  obtain ⟨h1, h2, h3, h4⟩ := vSw_iff.1 hv
  refine ⟨?_, ?_⟩
  · rw [sweepK_pos hv, sweepL_parts, wayL_append]
    obtain ⟨p1, p2, p3⟩ := sw1_asc zs h3 h4
    obtain ⟨q1, q2, q3⟩ := sw2_asc zs h3 h4
    have e1 := wayL_mono h h4 (sw1 zs a h) a p1 p2
    have hm1 : (a :: sw1 zs a h).getLast (by simp) ∈ a :: sw1 zs a h := List.getLast_mem _
    generalize hq1 : (a :: sw1 zs a h).getLast (by simp) = x1 at e1 hm1 ⊢
    have hb1 : 0 ≤ x1 ∧ x1 ≤ 15 := by
      rcases List.mem_cons.1 hm1 with rfl | hm
      · exact h3
      · exact p3 _ hm
    have hb0 : 0 ≤ (x1 - a) * h := by
      rcases List.mem_cons.1 hm1 with rfl | hm
      · simp
      · exact p2 _ hm
    have q1' : (sw2 zs a h).Pairwise (fun x y => 0 < (y - x) * (-h)) := List.pairwise_iff_getElem.2 fun i j hi hj hij => by have := List.pairwise_iff_getElem.1 q1 i j hi hj hij; rw [Int.mul_neg]; omega
    have q2' : ∀ x ∈ sw2 zs a h, 0 ≤ (x - x1) * (-h) := by
      intro x hx
      have hq := q2 x hx
      have e : (x - x1) * (-h) = (x1 - a) * h - (x - a) * h := by
        rw [Int.mul_neg, ← Int.sub_mul, ← Int.neg_mul]; congr 1; omega
      rw [e]; omega
    have e2 := wayL_mono (-h) (by omega) (sw2 zs a h) x1 q1' q2'
    have hm2 : (x1 :: sw2 zs a h).getLast (by simp) ∈ x1 :: sw2 zs a h := List.getLast_mem _
    generalize hq2 : (x1 :: sw2 zs a h).getLast (by simp) = x2 at e2 hm2
    have hb2 : 0 ≤ x2 ∧ x2 ≤ 15 := by
      rcases List.mem_cons.1 hm2 with rfl | hm
      · exact hb1
      · exact q3 _ hm
    rcases h4 with rfl | rfl <;> omega
  · intro x hx y hy
    have hx2 : x ∈ sweepK zs a h := by rw [sweepK_pos hv]; exact (mem_sweepL h3 h4).2 ⟨h2 x hx, hx⟩
    have hy2 : y ∈ sweepK zs a h := by rw [sweepK_pos hv]; exact (mem_sweepL h3 h4).2 ⟨h2 y hy, hy⟩
    have := wayL_two _ a x y hx2 hy2
    omega
end Go.Proofs.Ytebflmbfgjbipaa
