/-
  impl.SortCalls.
-/
import Derived.Test.YthgbbfcpnmpjgaaSortE
namespace Go.Proofs.Ythgbbfcpnmpjgaa
open Go.Shelf Go.RowKit Go.Lib Go.Sort
theorem SortCalls_some (b off n c : Nat) (cs : List CallQ) (w : World) (hn : n ≤ 1048576) (ha : RdC w (some ⟨b, off, none⟩) n cs) (hv : vCs cs = true) (hd : (insK cs.toArray).toList.length = n) :
    Calls Try.prog 23 #[.slice (some ⟨b, off, none⟩) n c] w fun e w' => RetCs w (insK cs.toArray).toList e w' := by
  have hl := ha.len
  have h12 : n ≤ 12 := by
    have : decide (cs.length ≤ 12) = true := by unfold vCs at hv; exact (Bool.and_eq_true_iff.1 hv).1
    have := of_decide_eq_true this
    omega
  have c1 := ValidCalls_i (some ⟨b, off, none⟩) n c cs w hn ha
  rw [hv] at c1
  have K : Hid (∀ w1, Below w.heap.size w w1 → Calls Try.prog 42 #[.slice (some ⟨b, off, none⟩) n c] w1 fun e w' => ∃ g cap, e = .returned (.slice (some ⟨g, 0, none⟩) n cap) ∧ w1.heap.size ≤ g ∧ w'.ownsRow w1.heap.size 40 3 (.slice (some ⟨g, 0, none⟩) n cap) n (cellsC cs) ∧ Below w1.heap.size w1 w') :=
    hide fun w1 hb => Clone_some b off n c cs w1 hn (Rd.below ha hb (Nat.le_refl _))
  have K2 : Hid (∀ w2 base g cap, w2.ownsRow base 40 3 (.slice (some ⟨g, 0, none⟩) n cap) n (cellsC cs) → Calls Try.prog 43 #[.slice (some ⟨g, 0, none⟩) n cap, .func (.func 44) #[] #[]] w2 fun e w' => e = .returned (.tuple #[]) ∧ ∃ m os, w' = sortWorldK cellsK 3 w2 g 0 m (insK cs.toArray).toList.toArray os) := hide fun w2 base g cap ho => by
    obtain ⟨hH, hg, hs⟩ := holds_of_own ho
    have := sortStable_K g 0 cap cs.toArray w2 hH hg (by omega)
    rw [hs] at this
    simpa using this
  clear ha
  go_enter Try.func23, Try.ntmps23
  go_wp2_with (go_at_call 32; refine c1.mono ?_; rintro e w1 ⟨rfl, hb1⟩)
  go_wp2_with (first | (go_at_call 42; refine (K.out _ hb1).mono ?_; rintro e w2 ⟨g, cap, rfl, hg, ho, hb2⟩) | (go_at_call 43; refine (K2.out _ _ _ _ ho).mono ?_; rintro e w3 ⟨rfl, m, os, rfl⟩))
  go_ret
  have hs1 := hb1.size
  refine ⟨_, _, _, rfl, own_base (own_of_sort _ m os hd ho) hs1, ?_⟩
  have hb3 := hb1.trans (hb2.mono hs1)
  exact hb3.grown (grown_sort _ m os) (by have := hb3.size; omega) (fun k hk => by cases hk; omega)
theorem SortCalls_bad (A : Option Addr) (n c : Nat) (cs : List CallQ) (w : World) (hn : n ≤ 1048576) (ha : RdC w A n cs) (hv : vCs cs = false) :
    Calls Try.prog 23 #[.slice A n c] w fun e w' => RetCs w [] e w' := by
  have c1 := ValidCalls_i A n c cs w hn ha
  rw [hv] at c1
  clear ha
  go_enter Try.func23, Try.ntmps23
  go_wp2_with (go_at_call 32; refine c1.mono ?_; rintro e w1 ⟨rfl, hb1⟩)
  go_ret
  exact ⟨none, 0, 0, rfl, ⟨rfl, .inl ⟨rfl, rfl⟩⟩, hb1⟩
theorem SortCalls_nil (c : Nat) (w : World) (ha : RdC w none 0 []) :
    Calls Try.prog 23 #[.slice none 0 c] w fun e w' => RetCs w [] e w' := by
  have c1 := ValidCalls_i none 0 c [] w (by decide) ha
  rw [show vCs [] = true from rfl] at c1
  have K := hide (Clone_nil 0 c)
  have K2 := hide (fun fv => sortStable_none fv 0)
  clear ha
  go_enter Try.func23, Try.ntmps23
  go_wp2_with (go_at_call 32; refine c1.mono ?_; rintro e w1 ⟨rfl, hb1⟩)
  go_wp2_with (first | (go_at_call 42; refine (K.out _).mono ?_; rintro e w2 ⟨rfl, rfl⟩) | (go_at_call 43; refine (K2.out _ _).mono ?_; rintro e w3 ⟨rfl, rfl⟩))
  go_ret
  exact ⟨none, 0, 0, rfl, ⟨rfl, .inl ⟨rfl, rfl⟩⟩, hb1⟩
end Go.Proofs.Ythgbbfcpnmpjgaa
