/-
  impl.SortCalls, all slices.
-/
import Derived.Test.YthgbbfcpnmpjgaaSortG
namespace Go.Proofs.Ythgbbfcpnmpjgaa
open Go.Shelf Go.RowKit Go.Lib Go.Sort
def sortedK (cs : List CallQ) : List CallQ := if vCs cs then (insK cs.toArray).toList else []
theorem SortCalls_i (A : Option Addr) (n c : Nat) (cs : List CallQ) (w : World) (hn : n ≤ 1048576) (hA : A = none ∨ ∃ b off, A = some ⟨b, off, none⟩) (ha : RdC w A n cs) (h0 : A = none → n = 0) :
    Calls Try.prog 23 #[.slice A n c] w fun e w' => RetCs w (sortedK cs) e w' := by
  unfold sortedK
  cases hv : vCs cs with
  | false => exact SortCalls_bad A n c cs w hn ha hv
  | true =>
    rcases hA with rfl | ⟨b, off, rfl⟩
    · have hz := h0 rfl
      subst hz
      have hc : cs = [] := List.eq_nil_of_length_eq_zero ha.len
      subst hc
      have e : (insK ([] : List CallQ).toArray).toList = [] := List.eq_nil_of_length_eq_zero (insK_ok []).1
      simp only [if_true, e]
      exact SortCalls_nil c w ha
    · exact SortCalls_some b off n c cs w hn ha hv ((insK_ok cs).1.trans ha.len)
end Go.Proofs.Ythgbbfcpnmpjgaa
