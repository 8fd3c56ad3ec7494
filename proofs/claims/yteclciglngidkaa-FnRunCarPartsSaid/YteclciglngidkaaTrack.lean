/-
  Small words for the walks of the exact laws: what is owned, and where, is carried from call to call.
-/
import Derived.Test.YteclciglngidkaaInts
namespace Go.Proofs.Yteclciglngidkaa
open Go.RowKit

theorem own_lt_old {w : World} {base : Nat} {e : TypeId} {size n : Nat} {v : Value} {xs : List Value} (h : w.ownsRow base e size v n xs) : ∀ k, v.ownBlock = some k → k < w.heap.size ∧ base ≤ k :=
  fun k hk => ⟨(h.lt k hk).2, (h.lt k hk).1⟩
theorem own_kept2 {w w' : World} {base : Nat} {e : TypeId} {size n : Nat} {v : Value} {xs : List Value} {row : Option Nat} (h : w.ownsRow base e size v n xs) (hg : w.grownBy w' row) (hd : ∀ k, v.ownBlock = some k → row = some k → False) : w'.ownsRow base e size v n xs := by
  refine h.kept hg ?_
  cases hv : v.ownBlock with
  | none => exact .inl rfl
  | some k => exact .inr fun e => hd k hv e.symm
theorem below_of_drewN {w w' : World} {q : Nat} (h : w' = w.drewN q) : Below w.heap.size w w' := by
  subst h
  exact below_drewN (Below.refl _ _) q
theorem Rd.old {w : World} {size : Nat} {A : Option Addr} {n : Nat} {xs : List Value} (h : Rd w size A n xs) : 0 < n → ∀ b off, A = some ⟨b, off, none⟩ → b < w.heap.size := by
  intro hn b off e
  obtain ⟨b', off', e', hlt, _⟩ := h.at_ hn
  rw [e] at e'
  injection e' with e'
  injection e' with e'
  omega
theorem RdLEN_int {w : World} {k : IntKind} {A : Option Addr} {n : Nat} {zs : List Int} (h : Rd w 1 A n (zs.map (Value.int k))) : zs.length = n := RdI.len h
theorem RdLEN_bool {w : World} {A : Option Addr} {n : Nat} {zs : List Bool} (h : Rd w 1 A n (zs.map Value.bool)) : zs.length = n := RdB.len h

end Go.Proofs.Yteclciglngidkaa
