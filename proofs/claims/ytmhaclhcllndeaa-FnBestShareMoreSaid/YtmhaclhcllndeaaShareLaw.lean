/-
  Cars that share calls, in plain Lean: where they are, how far they have gone, what a share costs.
-/
import Derived.Test.YtmhaclhcllndeaaCallsA
import Derived.Test.YtmhaclhcllndeaaFloorsA
namespace Go.Proofs.Ytmhaclhcllndeaa
set_option linter.unusedSimpArgs false
set_option linter.unusedVariables false

/-- Three cars: where they are, and how many floors they have passed. -/
structure Ft where
  a0 : Int
  a1 : Int
  a2 : Int
  w0 : Int
  w1 : Int
  w2 : Int
def dI (a b : Int) : Int := ((a - b).natAbs : Int)
def Ft.at_ (f : Ft) (car : Nat) : Int := if car = 0 then f.a0 else if car = 1 then f.a1 else f.a2
def Ft.way (f : Ft) (car : Nat) : Int := if car = 0 then f.w0 else if car = 1 then f.w1 else f.w2
def Ft.put (f : Ft) (car : Nat) (a w : Int) : Ft := if car = 0 then { f with a0 := a, w0 := w } else if car = 1 then { f with a1 := a, w1 := w } else { f with a2 := a, w2 := w }
def srv (f : Ft) (car : Nat) (c : CallQ) : Ft := f.put car c.2.1 (f.way car + (dI (f.at_ car) c.1 + dI c.1 c.2.1))
def cst (f : Ft) : Int := max (max f.w0 f.w1) f.w2
def srvs : Ft → List CallQ → List Int → Ft
  | f, c :: cs, s :: ss => srvs (srv f s.toNat c) cs ss
  | f, _, _ => f
/-- The way of one car. -/
def trp (car : Int) : Int → List CallQ → List Int → Int
  | a, c :: cs, s :: ss => if s = car then dI c.1 a + dI c.2.1 c.1 + trp car c.2.1 cs ss else trp car a cs ss
  | _, _, _ => 0
theorem trp_cons (car a : Int) (c : CallQ) (cs : List CallQ) (s : Int) (ss : List Int) : trp car a (c :: cs) (s :: ss) = if s = car then dI c.1 a + dI c.2.1 c.1 + trp car c.2.1 cs ss else trp car a cs ss := rfl
theorem dI_comm (a b : Int) : dI a b = dI b a := by unfold dI; omega
theorem dI_nonneg (a b : Int) : 0 ≤ dI a b := by unfold dI; omega
theorem put_way (f : Ft) (car : Nat) (a w : Int) (k : Nat) (hk : k < 3) (hc : car < 3) : (f.put car a w).way k = if car = k then w else f.way k := by
  unfold Ft.put Ft.way
  rcases (by omega : car = 0 ∨ car = 1 ∨ car = 2) with rfl | rfl | rfl <;> rcases (by omega : k = 0 ∨ k = 1 ∨ k = 2) with rfl | rfl | rfl <;> simp
theorem put_at (f : Ft) (car : Nat) (a w : Int) (k : Nat) (hk : k < 3) (hc : car < 3) : (f.put car a w).at_ k = if car = k then a else f.at_ k := by
  unfold Ft.put Ft.at_
  rcases (by omega : car = 0 ∨ car = 1 ∨ car = 2) with rfl | rfl | rfl <;> rcases (by omega : k = 0 ∨ k = 1 ∨ k = 2) with rfl | rfl | rfl <;> simp
theorem srvs_way : ∀ (cs : List CallQ) (ss : List Int) (f : Ft) (k : Nat), k < 3 → (∀ s ∈ ss, 0 ≤ s ∧ s < 3) → (srvs f cs ss).way k = f.way k + trp k (f.at_ k) cs ss
  | [], ss, f, k, hk, hs => by simp [srvs, trp]
  | c :: cs, [], f, k, hk, hs => by simp [srvs, trp]
  | c :: cs, s :: ss, f, k, hk, hs => by
    obtain ⟨s0, s3⟩ := hs s (by simp)
    have ht := fun x hx => hs x (List.mem_cons_of_mem _ hx)
    have hw := put_way f s.toNat c.2.1 (f.way s.toNat + (dI (f.at_ s.toNat) c.1 + dI c.1 c.2.1)) k hk (by omega)
    have ha := put_at f s.toNat c.2.1 (f.way s.toNat + (dI (f.at_ s.toNat) c.1 + dI c.1 c.2.1)) k hk (by omega)
    have ih := srvs_way cs ss (srv f s.toNat c) k hk ht
    unfold srvs
    rw [ih]
    unfold srv
    rw [hw, ha, trp_cons]
    by_cases h : s.toNat = k
    · rw [if_pos h, if_pos h, if_pos (by omega), h, dI_comm (f.at_ k) c.1, dI_comm c.1 c.2.1]
      omega
    · rw [if_neg h, if_neg h, if_neg (by omega)]
theorem cst_way (f : Ft) : cst f = max (max (f.way 0) (f.way 1)) (f.way 2) := rfl
/-- Cars that have not moved. -/
def newF (zs : List Int) : Ft := ⟨zs.getD 0 0, zs.getD 1 0, zs.getD 2 0, 0, 0, 0⟩
/-- The greatest way of the first k cars. -/
def greK (zs : List Int) (cs : List CallQ) (ss : List Int) : Nat → Int
  | 0 => 0
  | k + 1 => max (greK zs cs ss k) (trp k (zs.getD k 0) cs ss)
def gre (zs : List Int) (cs : List CallQ) (ss : List Int) : Int := greK zs cs ss zs.length
theorem trp_nonneg (car : Int) : ∀ (cs : List CallQ) (ss : List Int) (a : Int), 0 ≤ trp car a cs ss
  | [], ss, a => by simp [trp]
  | c :: cs, [], a => by simp [trp]
  | c :: cs, s :: ss, a => by
    unfold trp
    have h1 := trp_nonneg car cs ss c.2.1
    have h2 := trp_nonneg car cs ss a
    have h3 := dI_nonneg c.1 a
    have h4 := dI_nonneg c.2.1 c.1
    split <;> omega
theorem trp_none (car : Int) : ∀ (cs : List CallQ) (ss : List Int) (a : Int), (∀ s ∈ ss, s ≠ car) → trp car a cs ss = 0
  | [], ss, a, h => by simp [trp]
  | c :: cs, [], a, h => by simp [trp]
  | c :: cs, s :: ss, a, h => by
    unfold trp
    rw [if_neg (h s (by simp)), trp_none car cs ss a fun x hx => h x (List.mem_cons_of_mem _ hx)]
theorem trp_le (car : Int) : ∀ (cs : List CallQ) (ss : List Int) (a : Int), 0 ≤ a → a ≤ 15 → (∀ c ∈ cs, vK c.1 c.2.1 c.2.2 = true) → trp car a cs ss ≤ 30 * cs.length
  | [], ss, a, _, _, _ => by simp [trp]
  | c :: cs, [], a, _, _, _ => by simp [trp]; omega
  | c :: cs, s :: ss, a, a0, a1, h => by
    have hv := vK_iff.1 (h c (by simp))
    have ht := fun x hx => h x (List.mem_cons_of_mem _ hx)
    unfold trp
    have h1 := trp_le car cs ss c.2.1 (by omega) (by omega) ht
    have h2 := trp_le car cs ss a a0 a1 ht
    have h3 : dI c.1 a ≤ 15 := by unfold dI; omega
    have h4 : dI c.2.1 c.1 ≤ 15 := by unfold dI; omega
    simp only [List.length_cons]
    split <;> omega
theorem gre_eq (zs : List Int) (cs : List CallQ) (ss : List Int) (h1 : 1 ≤ zs.length) (h3 : zs.length ≤ 3) (hs : ∀ s ∈ ss, 0 ≤ s ∧ s < zs.length) :
    cst (srvs (newF zs) cs ss) = gre zs cs ss := by
  have hs3 : ∀ s ∈ ss, 0 ≤ s ∧ s < 3 := fun s h => by have := hs s h; omega
  rw [cst_way, srvs_way _ _ _ 0 (by omega) hs3, srvs_way _ _ _ 1 (by omega) hs3, srvs_way _ _ _ 2 (by omega) hs3]
  have n0 := trp_nonneg 0 cs ss (zs.getD 0 0)
  have n1 := trp_nonneg 1 cs ss (zs.getD 1 0)
  have n2 := trp_nonneg 2 cs ss (zs.getD 2 0)
  have z1 : zs.length ≤ 1 → trp 1 (zs.getD 1 0) cs ss = 0 := fun h => trp_none _ _ _ _ fun s hx => by have := hs s hx; omega
  have z2 : zs.length ≤ 2 → trp 2 (zs.getD 2 0) cs ss = 0 := fun h => trp_none _ _ _ _ fun s hx => by have := hs s hx; omega
  unfold gre
  rcases (by omega : zs.length = 1 ∨ zs.length = 2 ∨ zs.length = 3) with e | e | e
  all_goals
    rw [e]
    have y1 := z1
    have y2 := z2
    rw [e] at y1 y2
    simp only [greK, newF, Ft.way, Ft.at_] at *
    simp at *
    omega
theorem srvs_app (f : Ft) : ∀ (cs cs2 : List CallQ) (ss ss2 : List Int), cs.length = ss.length → srvs f (cs ++ cs2) (ss ++ ss2) = srvs (srvs f cs ss) cs2 ss2 := by
  intro cs
  induction cs generalizing f with
  | nil => intro cs2 ss ss2 h; cases ss with
    | nil => rfl
    | cons s ss => simp at h
  | cons c cs ih => intro cs2 ss ss2 h; cases ss with
    | nil => simp at h
    | cons s ss => exact ih _ cs2 ss ss2 (by simpa using h)
/-- The ways never shrink. -/
theorem cst_srv (f : Ft) (car : Nat) (c : CallQ) (hc : car < 3) : cst f ≤ cst (srv f car c) := by
  have h1 := dI_nonneg (f.at_ car) c.1
  have h2 := dI_nonneg c.1 c.2.1
  rw [cst_way, cst_way]
  unfold srv
  rw [put_way _ _ _ _ 0 (by omega) hc, put_way _ _ _ _ 1 (by omega) hc, put_way _ _ _ _ 2 (by omega) hc]
  rcases (by omega : car = 0 ∨ car = 1 ∨ car = 2) with rfl | rfl | rfl <;> simp <;> omega
theorem cst_srvs : ∀ (cs : List CallQ) (ss : List Int) (f : Ft), (∀ s ∈ ss, 0 ≤ s ∧ s < 3) → cst f ≤ cst (srvs f cs ss)
  | [], ss, f, h => by simp [srvs]
  | c :: cs, [], f, h => by simp [srvs]
  | c :: cs, s :: ss, f, h => by
    have := h s (by simp)
    exact Int.le_trans (cst_srv f s.toNat c (by omega)) (cst_srvs cs ss _ fun x hx => h x (List.mem_cons_of_mem _ hx))
/-- All cars are at floors, and have gone at most M floors. -/
structure Ft.ok (f : Ft) (M : Int) : Prop where
  a0 : 0 ≤ f.a0 ∧ f.a0 ≤ 15
  a1 : 0 ≤ f.a1 ∧ f.a1 ≤ 15
  a2 : 0 ≤ f.a2 ∧ f.a2 ≤ 15
  w0 : 0 ≤ f.w0 ∧ f.w0 ≤ M
  w1 : 0 ≤ f.w1 ∧ f.w1 ≤ M
  w2 : 0 ≤ f.w2 ∧ f.w2 ≤ M
theorem Ft.ok.srv {f : Ft} {M : Int} (h : f.ok M) (car : Nat) {c : CallQ} (hc : vK c.1 c.2.1 c.2.2 = true) : (srv f car c).ok (M + 30) := by
  have hv := vK_iff.1 hc
  obtain ⟨a0, a1, a2, w0, w1, w2⟩ := h
  unfold Go.Proofs.Ytmhaclhcllndeaa.srv Ft.put Ft.way Ft.at_ dI
  split
  · exact ⟨by simp only; omega, by simp only; omega, by simp only; omega, by simp only; omega, by simp only; omega, by simp only; omega⟩
  · split
    · exact ⟨by simp only; omega, by simp only; omega, by simp only; omega, by simp only; omega, by simp only; omega, by simp only; omega⟩
    · exact ⟨by simp only; omega, by simp only; omega, by simp only; omega, by simp only; omega, by simp only; omega, by simp only; omega⟩
theorem newF_ok {zs : List Int} (h : ∀ z ∈ zs, 0 ≤ z ∧ z ≤ 15) : (newF zs).ok 0 := by
  have g : ∀ k, 0 ≤ zs.getD k 0 ∧ zs.getD k 0 ≤ 15 := by
    intro k
    rw [List.getD_eq_getElem?_getD]
    cases e : zs[k]? with
    | none => simp
    | some z => exact h z (List.mem_of_getElem? e)
  exact ⟨g 0, g 1, g 2, by simp [newF], by simp [newF], by simp [newF]⟩
theorem cst_in {f : Ft} {M : Int} (h : f.ok M) : 0 ≤ cst f ∧ cst f ≤ M := by
  obtain ⟨a0, a1, a2, w0, w1, w2⟩ := h
  unfold cst
  omega
end Go.Proofs.Ytmhaclhcllndeaa
