/-
  Cars, in plain Lean: what a step is, what a run of orders is, the orders to a floor; the laws of these.
-/
import Derived.Test.YteclciglngidkaaCarA
namespace Go.Proofs.Yteclciglngidkaa
open Go.RowKit

abbrev CarQ := Int × Int × Int × Bool
def stepC (f h l : Int) (o : Bool) (k : Int) : Option CarQ :=
  if k = 1 then (if o = false ∧ l < 5 ∧ h ≠ -1 ∧ f < 15 then some (f + 1, 1, l, false) else none)
  else if k = 2 then (if o = false ∧ l < 5 ∧ h ≠ 1 ∧ 0 < f then some (f - 1, -1, l, false) else none)
  else if k = 3 then (if o = false then some (f, 0, l, false) else none)
  else if k = 4 then (if o = false ∧ h = 0 then some (f, 0, l, true) else none)
  else if k = 5 then (if o = true then some (f, 0, l, false) else none)
  else if k = 6 then (if o = true ∧ l < 5 then some (f, 0, l + 1, true) else none)
  else if k = 7 then (if o = true ∧ 0 < l then some (f, 0, l - 1, true) else none)
  else none
/-- What StepCar hands back. -/
def cStep (f h l : Int) (o : Bool) (k : Int) : Option CarQ := if vC f h l o = true then stepC f h l o k else none
theorem cStep_v {f h l : Int} {o : Bool} {k : Int} (hv : vC f h l o = true) : cStep f h l o k = stepC f h l o k := if_pos hv
theorem cStep_nv {f h l : Int} {o : Bool} {k : Int} (hv : vC f h l o = false) : cStep f h l o k = none := if_neg (by simp [hv])

theorem stepC_cases {f h l : Int} {o : Bool} {k : Int} {q : CarQ} (hq : stepC f h l o k = some q) :
    (k = 1 ∧ o = false ∧ l < 5 ∧ h ≠ -1 ∧ f < 15 ∧ q = (f + 1, 1, l, false)) ∨ (k = 2 ∧ o = false ∧ l < 5 ∧ h ≠ 1 ∧ 0 < f ∧ q = (f - 1, -1, l, false)) ∨
    (k = 3 ∧ o = false ∧ q = (f, 0, l, false)) ∨ (k = 4 ∧ o = false ∧ h = 0 ∧ q = (f, 0, l, true)) ∨ (k = 5 ∧ o = true ∧ q = (f, 0, l, false)) ∨
    (k = 6 ∧ o = true ∧ l < 5 ∧ q = (f, 0, l + 1, true)) ∨ (k = 7 ∧ o = true ∧ 0 < l ∧ q = (f, 0, l - 1, true)) := by
  unfold stepC at hq
  repeat' split at hq
  all_goals first
    | (cases hq; done)
    | (have hq' := (Option.some.inj hq).symm; simp_all)
theorem cStep_some {f h l : Int} {o : Bool} {k : Int} {q : CarQ} (hq : cStep f h l o k = some q) : vC f h l o = true ∧ stepC f h l o k = some q := by
  unfold cStep at hq
  split at hq
  · exact ⟨by assumption, hq⟩
  · cases hq
/-- Cars stay valid. -/
theorem cStep_valid {f h l : Int} {o : Bool} {k : Int} {q : CarQ} (hq : cStep f h l o k = some q) : vC q.1 q.2.1 q.2.2.1 q.2.2.2 = true := by
  obtain ⟨hv, hs⟩ := cStep_some hq
  rw [vC_iff] at hv ⊢
  rcases stepC_cases hs with ⟨_, _, _, _, _, rfl⟩ | ⟨_, _, _, _, _, rfl⟩ | ⟨_, _, rfl⟩ | ⟨_, _, _, rfl⟩ | ⟨_, _, rfl⟩ | ⟨_, _, _, rfl⟩ | ⟨_, _, _, rfl⟩ <;> simp <;> omega
/-- Boarding, opening and closing can be undone. -/
theorem cStep_back6 {f h l : Int} {o : Bool} {q : CarQ} (hq : cStep f h l o 6 = some q) : cStep q.1 q.2.1 q.2.2.1 q.2.2.2 7 = some (f, h, l, o) := by
  have hv' := cStep_valid hq
  obtain ⟨hv, hs⟩ := cStep_some hq
  rw [cStep_v hv']
  rw [vC_iff] at hv
  rcases stepC_cases hs with ⟨_, _⟩ | ⟨_, _⟩ | ⟨_, _⟩ | ⟨_, _⟩ | ⟨_, _⟩ | ⟨_, _, _, rfl⟩ | ⟨_, _⟩ <;> first | omega | skip
  have : h = 0 := by simp_all
  subst this
  simp_all [stepC]
  omega
theorem cStep_back4 {f h l : Int} {o : Bool} {q : CarQ} (hq : cStep f h l o 4 = some q) : cStep q.1 q.2.1 q.2.2.1 q.2.2.2 5 = some (f, h, l, o) := by
  have hv' := cStep_valid hq
  obtain ⟨hv, hs⟩ := cStep_some hq
  rw [cStep_v hv']
  rcases stepC_cases hs with ⟨_, _⟩ | ⟨_, _⟩ | ⟨_, _⟩ | ⟨_, _, _, rfl⟩ | ⟨_, _⟩ | ⟨_, _⟩ | ⟨_, _⟩ <;> first | omega | skip
  simp_all [stepC]
theorem cStep_back5 {f h l : Int} {o : Bool} {q : CarQ} (hq : cStep f h l o 5 = some q) : cStep q.1 q.2.1 q.2.2.1 q.2.2.2 4 = some (f, h, l, o) := by
  have hv' := cStep_valid hq
  obtain ⟨hv, hs⟩ := cStep_some hq
  rw [cStep_v hv']
  rw [vC_iff] at hv
  rcases stepC_cases hs with ⟨_, _⟩ | ⟨_, _⟩ | ⟨_, _⟩ | ⟨_, _⟩ | ⟨_, _, rfl⟩ | ⟨_, _⟩ | ⟨_, _⟩ <;> first | omega | skip
  have : h = 0 := by simp_all
  simp_all [stepC]
/-- Cars do not move with open doors. -/
theorem cStep_safe {f h l : Int} {o : Bool} {k : Int} {q : CarQ} (hq : cStep f h l o k = some q) (hf : q.1 ≠ f) :
    o = false ∧ q.2.2.2 = false ∧ l < 5 ∧ q.2.1 = q.1 - f ∧ h ≠ -q.2.1 ∧ q.2.2.1 = l := by
  obtain ⟨hv, hs⟩ := cStep_some hq
  rcases stepC_cases hs with ⟨_, h1, h2, h3, _, rfl⟩ | ⟨_, h1, h2, h3, _, rfl⟩ | ⟨_, _, rfl⟩ | ⟨_, _, _, rfl⟩ | ⟨_, _, rfl⟩ | ⟨_, _, _, rfl⟩ | ⟨_, _, _, rfl⟩ <;> first | (exact absurd rfl hf) | skip
  · refine ⟨h1, rfl, h2, by simp only; omega, by simpa using h3, rfl⟩
  · refine ⟨h1, rfl, h2, by simp only; omega, by simpa using h3, rfl⟩
/-- Persons change only with open doors. -/
theorem cStep_door {f h l : Int} {o : Bool} {k : Int} {q : CarQ} (hq : cStep f h l o k = some q) (hf : q.2.2.1 ≠ l) :
    o = true ∧ q.2.2.2 = true ∧ q.1 = f ∧ (q.2.2.1 - l = 1 ∨ q.2.2.1 - l = -1) := by
  obtain ⟨hv, hs⟩ := cStep_some hq
  rcases stepC_cases hs with ⟨_, _, _, _, _, rfl⟩ | ⟨_, _, _, _, _, rfl⟩ | ⟨_, _, rfl⟩ | ⟨_, _, _, rfl⟩ | ⟨_, _, rfl⟩ | ⟨_, h1, _, rfl⟩ | ⟨_, h1, _, rfl⟩ <;> first | (exact absurd rfl hf) | skip
  · exact ⟨h1, rfl, rfl, by simp only; omega⟩
  · exact ⟨h1, rfl, rfl, by simp only; omega⟩

/-! Runs. -/
def cSt (q : CarQ) (k : Int) : Option CarQ := cStep q.1 q.2.1 q.2.2.1 q.2.2.2 k
def runC : CarQ → List Int → CarQ × Nat
  | q, [] => (q, 0)
  | q, k :: ks => match cSt q k with
    | none => (q, 0)
    | some q' => ((runC q' ks).1, (runC q' ks).2 + 1)
theorem runC_no {q : CarQ} {k : Int} {ks : List Int} (h : cSt q k = none) : runC q (k :: ks) = (q, 0) := by simp [runC, h]
theorem runC_yes {q q' : CarQ} {k : Int} {ks : List Int} (h : cSt q k = some q') : runC q (k :: ks) = ((runC q' ks).1, (runC q' ks).2 + 1) := by simp [runC, h]
theorem runC_le : ∀ (ks : List Int) (q : CarQ), (runC q ks).2 ≤ ks.length
  | [], _ => Nat.le_refl _
  | k :: ks, q => by
    cases h : cSt q k with
    | none => rw [runC_no h]; exact Nat.zero_le _
    | some q' => rw [runC_yes h]; have := runC_le ks q'; simp; omega
theorem runC_append : ∀ (a b : List Int) (q : CarQ), (runC q a).2 = a.length → runC q (a ++ b) = ((runC (runC q a).1 b).1, (runC (runC q a).1 b).2 + a.length)
  | [], b, q, _ => by simp [runC]
  | k :: a, b, q, h => by
    cases hk : cSt q k with
    | none => rw [runC_no hk] at h; simp at h
    | some q' =>
      rw [runC_yes hk] at h
      have h' : (runC q' a).2 = a.length := by simpa using h
      rw [List.cons_append, runC_yes hk, runC_yes hk, runC_append a b q' h']
      simp [Nat.add_assoc]
/-- The run so far, at the k-th order. -/
structure At (q : CarQ) (zs : List Int) (k : Nat) (x : CarQ) : Prop where
  v : vC x.1 x.2.1 x.2.2.1 x.2.2.2 = true
  r : runC q zs = ((runC x (zs.drop k)).1, (runC x (zs.drop k)).2 + k)
theorem At.zero {q : CarQ} {zs : List Int} (hv : vC q.1 q.2.1 q.2.2.1 q.2.2.2 = true) : At q zs 0 q := ⟨hv, by simp⟩
theorem drop_cons {zs : List Int} {k : Nat} {z : Int} (h : zs[k]? = some z) : zs.drop k = z :: zs.drop (k + 1) := by
  obtain ⟨hlt, e⟩ := List.getElem?_eq_some_iff.1 h
  rw [List.drop_eq_getElem_cons hlt, e]
theorem At.no {q x : CarQ} {zs : List Int} {k : Nat} {z : Int} (h : At q zs k x) (hz : zs[k]? = some z) (hn : cSt x z = none) : runC q zs = (x, k) := by
  have := h.r
  rw [drop_cons hz, runC_no hn] at this
  simpa using this
theorem At.yes {q x x' : CarQ} {zs : List Int} {k : Nat} {z : Int} (h : At q zs k x) (hz : zs[k]? = some z) (hn : cSt x z = some x') : At q zs (k + 1) x' := by
  refine ⟨cStep_valid (q := x') hn, ?_⟩
  have := h.r
  rw [drop_cons hz, runC_yes hn] at this
  rw [this]
  simp only [Prod.mk.injEq, true_and]
  omega
theorem At.end_ {q x : CarQ} {zs : List Int} {k : Nat} (h : At q zs k x) (hk : zs.length ≤ k) : runC q zs = (x, k) := by
  have := h.r
  rw [List.drop_eq_nil_of_le hk] at this
  simpa [runC] using this
/-- What RunCar hands back: the car, the number of orders. -/
def cRun (f h l : Int) (o : Bool) (zs : List Int) : CarQ × Int := if vC f h l o = true ∧ zs.length ≤ 40 then ((runC (f, h, l, o) zs).1, ((runC (f, h, l, o) zs).2 : Int)) else ((0, 0, 0, false), -1)

/-- Persons are counted. -/
def board (z : Int) : Int := if z = 6 then 1 else if z = 7 then -1 else 0
def boards : List Int → Nat → Int
  | _, 0 => 0
  | [], _ => 0
  | z :: zs, n + 1 => board z + boards zs n
theorem cSt_load {q q' : CarQ} {z : Int} (h : cSt q z = some q') : q'.2.2.1 = q.2.2.1 + board z := by
  obtain ⟨hv, hs⟩ := cStep_some h
  rcases stepC_cases hs with ⟨rfl, _, _, _, _, rfl⟩ | ⟨rfl, _, _, _, _, rfl⟩ | ⟨rfl, _, rfl⟩ | ⟨rfl, _, _, rfl⟩ | ⟨rfl, _, rfl⟩ | ⟨rfl, _, _, rfl⟩ | ⟨rfl, _, _, rfl⟩ <;> simp [board] <;> omega
theorem runC_load : ∀ (zs : List Int) (q : CarQ), (runC q zs).1.2.2.1 = q.2.2.1 + boards zs (runC q zs).2
  | [], q => by simp [runC, boards]
  | z :: zs, q => by
    cases h : cSt q z with
    | none => rw [runC_no h]; simp [boards]
    | some q' =>
      rw [runC_yes h]
      simp only [boards]
      rw [runC_load zs q', cSt_load h]
      omega
theorem boards_succ : ∀ (zs : List Int) (n : Nat) (z : Int), zs[n]? = some z → boards zs (n + 1) = boards zs n + board z
  | [], n, z, h => by simp at h
  | x :: zs, 0, z, h => by
    have : x = z := by simpa using h
    subst this
    cases zs <;> simp [boards]
  | x :: zs, n + 1, z, h => by
    have h' : zs[n]? = some z := by simpa using h
    simp only [boards]
    rw [boards_succ zs n z h']
    omega

/-! The orders to a floor. -/
def ordersC (f h : Int) (o : Bool) (y : Int) : List Int :=
  if o = true ∧ f = y then []
  else (if o = true then [5] else []) ++ (if h ≠ 0 ∧ h * (y - f) ≤ 0 then [3] else []) ++ List.replicate (y - f).natAbs (if f < y then 1 else 2) ++ (if (h ≠ 0 ∧ 0 < h * (y - f)) ∨ y ≠ f then [3] else []) ++ [4]
/-- What OrdersTo hands back. -/
def cOrders (f h l : Int) (o : Bool) (y : Int) : List Int := if vC f h l o = true ∧ l < 5 ∧ 0 ≤ y ∧ y ≤ 15 then ordersC f h o y else []

end Go.Proofs.Yteclciglngidkaa
