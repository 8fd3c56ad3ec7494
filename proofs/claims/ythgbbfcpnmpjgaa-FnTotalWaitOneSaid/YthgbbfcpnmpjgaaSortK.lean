/-
  Sorted calls on both sides, at slices as they come.
-/
import Derived.Test.YthgbbfcpnmpjgaaSortJ
import Derived.Test.YthgbbfcpnmpjgaaRdlC
namespace Go.Proofs.Ythgbbfcpnmpjgaa
open Go.RowKit
set_option linter.unusedSimpArgs false
set_option linter.unusedVariables false

/-- The address of a slice: none only if it has no element. -/
def Sl (A : Option Addr) (n : Nat) : Prop := (A = none ∨ ∃ b off, A = some ⟨b, off, none⟩) ∧ (A = none → n = 0)
theorem Sl.of_own {w : World} {base : Nat} {e : TypeId} {size n c : Nat} {A : Option Addr} {xs : List Value} (h : w.ownsRow base e size (.slice A n c) n xs) : Sl A n := by
  rcases h.2 with ⟨h1, h2⟩ | ⟨g, cap, cur, hv, _⟩
  · injection h1 with a b d
    exact ⟨.inl a, fun _ => h2⟩
  · injection hv with a b d
    subst a
    exact ⟨.inr ⟨g, 0, rfl⟩, fun h => by cases h⟩
theorem Sl.of_ownA {A : Option Addr} {n c : Nat} (h : OwnA A n c) : Sl A n := by
  rcases h with ⟨a, b, _⟩ | ⟨g, a, _⟩
  · exact ⟨.inl a, fun _ => b⟩
  · exact ⟨.inr ⟨g, 0, a⟩, fun h => by rw [a] at h; cases h⟩
theorem SortCalls_I (A : Option Addr) (n c : Nat) (cs : List CallQ) (w : World) (hn : n ≤ 1048576) (hA : Sl A n) (ha : RdC w A n cs) :
    Calls Try.prog 23 #[.slice A n c] w (RetCs w (sortedK cs)) := SortCalls_i A n c cs w hn hA.1 ha hA.2
end Go.Proofs.Ythgbbfcpnmpjgaa
