/-
  Stops of a car, in plain Lean: the way through them is what the car's calls cost; shares cut short cost no more.
-/
import Derived.Test.YtmhaclhcllndeaaFleetS
import Derived.Test.YtmhaclhcllndeaaFloorsB
namespace Go.Proofs.Ytmhaclhcllndeaa
set_option linter.unusedSimpArgs false
set_option linter.unusedVariables false

/-- The stops of one car. -/
def stp (car : Int) : List CallQ → List Int → List Int
  | c :: cs, s :: ss => if s = car then c.1 :: c.2.1 :: stp car cs ss else stp car cs ss
  | _, _ => []
theorem stp_cons (car : Int) (c : CallQ) (cs : List CallQ) (s : Int) (ss : List Int) : stp car (c :: cs) (s :: ss) = if s = car then c.1 :: c.2.1 :: stp car cs ss else stp car cs ss := rfl
theorem stp_way (car : Int) : ∀ (cs : List CallQ) (ss : List Int) (a : Int), (wayL a (stp car cs ss) : Int) = trp car a cs ss
  | [], ss, a => by simp [stp, trp, wayL]
  | c :: cs, [], a => by simp [stp, trp, wayL]
  | c :: cs, s :: ss, a => by
    rw [stp_cons, trp_cons]
    have h1 := stp_way car cs ss c.2.1
    have h2 := stp_way car cs ss a
    split
    · simp only [wayL]
      rw [← h1]
      unfold dI
      omega
    · exact h2
theorem stp_in (car : Int) : ∀ (cs : List CallQ) (ss : List Int), (∀ c ∈ cs, vK c.1 c.2.1 c.2.2 = true) → ∀ x ∈ stp car cs ss, 0 ≤ x ∧ x ≤ 15
  | [], ss, h => by simp [stp]
  | c :: cs, [], h => by simp [stp]
  | c :: cs, s :: ss, h => by
    have hv := vK_iff.1 (h c (by simp))
    have ih := stp_in car cs ss fun x hx => h x (List.mem_cons_of_mem _ hx)
    rw [stp_cons]
    intro x hx
    split at hx
    · simp only [List.mem_cons] at hx
      rcases hx with rfl | rfl | hx
      · exact hv.1
      · exact hv.2.1
      · exact ih x hx
    · exact ih x hx
theorem stp_len (car : Int) : ∀ (cs : List CallQ) (ss : List Int), (stp car cs ss).length ≤ 2 * cs.length
  | [], ss => by simp [stp]
  | c :: cs, [] => by simp [stp]
  | c :: cs, s :: ss => by
    have ih := stp_len car cs ss
    rw [stp_cons]
    split
    · simp only [List.length_cons]; omega
    · simp only [List.length_cons]; omega
theorem stp_app (car : Int) : ∀ (cs cs2 : List CallQ) (ss ss2 : List Int), cs.length = ss.length → stp car (cs ++ cs2) (ss ++ ss2) = stp car cs ss ++ stp car cs2 ss2
  | [], cs2, [], ss2, _ => by simp [stp]
  | [], _, _ :: _, _, h => by simp at h
  | _ :: _, _, [], _, h => by simp at h
  | c :: cs, cs2, s :: ss, ss2, h => by
    have ih := stp_app car cs cs2 ss ss2 (by simpa using h)
    rw [List.cons_append, List.cons_append, stp_cons, stp_cons, ih]
    split <;> simp
theorem stp_snoc {car : Int} {cs : List CallQ} {ss : List Int} {k : Nat} {c : CallQ} {s : Int} (hc : cs[k]? = some c) (hs : ss[k]? = some s) : stp car (cs.take (k + 1)) (ss.take (k + 1)) = stp car (cs.take k) (ss.take k) ++ if s = car then [c.1, c.2.1] else [] := by
  have h1 := (List.getElem?_eq_some_iff.1 hc).1
  have h2 := (List.getElem?_eq_some_iff.1 hs).1
  rw [take_snoc _ _ _ hc, take_snoc _ _ _ hs, stp_app _ _ _ _ _ (by simp; omega)]
  rfl
theorem shareF_ok {zs : List Int} {cs : List CallQ} {ss : List Int} (h : ¬ shareF zs cs ss < 0) : vShare zs cs ss = true ∧ shareF zs cs ss = gre zs cs ss := by
  unfold shareF at h ⊢
  split at h
  · rename_i hv
    exact ⟨hv, by rw [if_pos hv]⟩
  · omega
theorem wayF_stp {car : Int} {cs : List CallQ} {ss : List Int} {a : Int} (hn : cs.length ≤ 6) (h : ∀ c ∈ cs, vK c.1 c.2.1 c.2.2 = true) (a0 : 0 ≤ a) (a1 : a ≤ 15) : wayF (stp car cs ss) a = trp car a cs ss := by
  rw [← stp_way]
  exact if_pos ⟨by have := stp_len car cs ss; omega, allB_iff.2 (stp_in car cs ss h), inB_iff.2 ⟨a0, a1⟩⟩
end Go.Proofs.Ytmhaclhcllndeaa
