/-
  Greedy shares, in plain Lean.
-/
import Derived.Test.YtmhaclhcllndeaaShareLaw2
namespace Go.Proofs.Ytmhaclhcllndeaa
set_option linter.unusedSimpArgs false
set_option linter.unusedVariables false

/-- The car of the first k for which the cost is smallest, of several the first one. -/
def pickK (f : Ft) (c : CallQ) : Nat → Nat
  | 0 => 0
  | k + 1 => if cst (srv f k c) < cst (srv f (pickK f c k) c) then k else pickK f c k
theorem pickK_lt (f : Ft) (c : CallQ) : ∀ k, 0 < k → pickK f c k < k
  | 0, h => absurd h (by omega)
  | k + 1, _ => by
    unfold pickK
    split
    · omega
    · cases k with
      | zero => simp [pickK]
      | succ k => have := pickK_lt f c (k + 1) (by omega); omega
theorem pickK_le (f : Ft) (c : CallQ) (k : Nat) : pickK f c k ≤ k := by
  cases k with
  | zero => simp [pickK]
  | succ k => have := pickK_lt f c (k + 1) (by omega); omega
theorem pickK_one (f : Ft) (c : CallQ) : pickK f c 1 = 0 := by simp [pickK]
def grd (n : Nat) : Ft → List CallQ → List Int
  | _, [] => []
  | f, c :: cs => (pickK f c n : Int) :: grd n (srv f (pickK f c n) c) cs
theorem grd_len (n : Nat) : ∀ (cs : List CallQ) (f : Ft), (grd n f cs).length = cs.length
  | [], f => rfl
  | c :: cs, f => by simp only [grd, List.length_cons]; rw [grd_len n cs]
theorem grd_in (n : Nat) (hn : 0 < n) : ∀ (cs : List CallQ) (f : Ft), ∀ s ∈ grd n f cs, 0 ≤ s ∧ s < n
  | [], f => by simp [grd]
  | c :: cs, f => by
    intro s hs
    simp only [grd, List.mem_cons] at hs
    rcases hs with rfl | hs
    · have := pickK_lt f c n hn; omega
    · exact grd_in n hn cs _ s hs
theorem grd_snoc (n : Nat) : ∀ (cs : List CallQ) (f : Ft) (c : CallQ), grd n f (cs ++ [c]) = grd n f cs ++ [(pickK (srvs f cs (grd n f cs)) c n : Int)]
  | [], f, c => by simp [grd, srvs]
  | d :: cs, f, c => by
    have ih := grd_snoc n cs (srv f (pickK f d n) d) c
    simp only [List.cons_append, grd, ih, srvs, Int.toNat_natCast]
theorem grd_take (n : Nat) : ∀ (cs : List CallQ) (f : Ft) (k : Nat), grd n f (cs.take k) = (grd n f cs).take k
  | [], f, k => by simp [grd]
  | c :: cs, f, 0 => by simp [grd]
  | c :: cs, f, k + 1 => by simp only [List.take_succ_cons, grd, grd_take n cs]
theorem grd_succ {n : Nat} {f g : Ft} {cs : List CallQ} {k : Nat} {c : CallQ} {sh : List Int} (hc : cs[k]? = some c) (hs : grd n f (cs.take k) = sh) (hg : srvs f (cs.take k) sh = g) :
    grd n f (cs.take (k + 1)) = sh ++ [(pickK g c n : Int)] ∧ srvs f (cs.take (k + 1)) (sh ++ [(pickK g c n : Int)]) = srv g (pickK g c n) c := by
  rw [take_snoc _ _ _ hc, grd_snoc, hs, hg, srvs_app _ _ _ _ _ (by rw [← hs, grd_len]), hg]
  exact ⟨rfl, by simp [srvs]⟩
/-- What GreedyShare hands back. -/
def grdK (zs : List Int) (cs : List CallQ) : List Int := if vSh zs cs = true then grd zs.length (newF zs) cs else []
/-- The cost of a share that is one call longer. -/
theorem gre_snoc {zs : List Int} {cs : List CallQ} {k : Nat} {c : CallQ} {sh : List Int} {g : Ft} {car : Nat} (h1 : 1 ≤ zs.length) (h3 : zs.length ≤ 3) (hc : cs[k]? = some c) (hl : sh.length = k) (hs : ∀ s ∈ sh, 0 ≤ s ∧ s < zs.length) (hcar : car < zs.length)
    (hg : srvs (newF zs) (cs.take k) sh = g) : gre zs (cs.take (k + 1)) (sh ++ [(car : Int)]) = cst (srv g car c) := by
  rw [← gre_eq zs _ _ h1 h3 (by
    intro s hs2
    rcases List.mem_append.1 hs2 with h | h
    · exact hs s h
    · simp at h; omega), take_snoc _ _ _ hc, srvs_app _ _ _ _ _ (by rw [List.length_take, hl]; have := (List.getElem?_eq_some_iff.1 hc).1; omega), hg]
  simp [srvs]
end Go.Proofs.Ytmhaclhcllndeaa
