/-
  The walks of the laws on ways.
-/
import Derived.Test.YteclciglngidkaaDrawFl
import Derived.Test.YteclciglngidkaaFloorsB
import Derived.Test.YteclciglngidkaaLaw8
namespace Go.Proofs.Yteclciglngidkaa
open Go.RowKit
set_option linter.unusedSimpArgs false
set_option linter.unusedVariables false

theorem WayOf_q (A : Option Addr) (n c : Nat) (zs : List Int) (a m : Int) (w : World) (hn : n ≤ 1048576) (ha : RdI w .i64 A n zs) (hm : wayF zs a = m) :
    Calls Try.prog 6 #[.slice A n c, .int .i64 a] w fun e w' => e = .returned (.int .i64 m) ∧ w' = w := by
  subst hm
  exact (WayOf_i A n c zs a w hn ha).mono fun e w' h => ⟨h.1, h.2.symm⟩
theorem WayOf_iv (A : Option Addr) (n c : Nat) (zs : List Int) (a m : Int) (w : World) (hn : n ≤ 1048576) (ha : RdI w .i64 A n zs) (hm : wayF zs a = m) :
    Calls Try.prog 6 #[.slice A n c, .int .i64 a] w fun e w' => e = .returned (.int .i64 m) ∧ w = w' := by
  subst hm
  exact WayOf_i A n c zs a w hn ha
theorem WayOf_sv (A : Option Addr) (n c : Nat) (zs : List Int) (a m : Int) (w : World) (hn : n ≤ 1048576) (ha : RdI w .i64 A n zs) (hm : wayF zs a = m) :
    Calls Try.prog 7 #[.slice A n c, .int .i64 a] w fun e w' => e = .returned (.int .i64 m) ∧ w = w' := by
  subst hm
  exact WayOf_s A n c zs a w hn ha
theorem wayF_ok {zs : List Int} {a : Int} (h : 0 ≤ wayF zs a) : zs.length ≤ 24 ∧ allB zs 0 15 = true ∧ (0 ≤ a ∧ a ≤ 15) ∧ wayF zs a = (wayL a zs : Int) := by
  unfold wayF at h ⊢
  split at h
  · rename_i hc
    exact ⟨hc.1, hc.2.1, inB_iff.1 hc.2.2, by rw [if_pos hc]⟩
  · omega
theorem wayF_of {zs : List Int} {a : Int} (h1 : zs.length ≤ 24) (h2 : allB zs 0 15 = true) (h3 : 0 ≤ a) (h4 : a ≤ 15) : wayF zs a = (wayL a zs : Int) := if_pos ⟨h1, h2, inB_iff.2 ⟨h3, h4⟩⟩
/-- Ways add up. -/
theorem wayL_app : ∀ (p q : List Int) (a l : Int), p.getLast? = some l → wayL a (p ++ q) = wayL a p + wayL l q
  | [], _, _, _, h => by simp at h
  | [z], q, a, l, h => by
    have : z = l := by simpa using h
    subst this
    simp [wayL]
  | z :: y :: p, q, a, l, h => by
    have h' : (y :: p).getLast? = some l := by simpa [List.getLast?_cons_cons] using h
    have := wayL_app (y :: p) q z l h'
    simp only [List.cons_append, wayL] at this ⊢
    omega
theorem wayL_ge : ∀ (zs : List Int) (a l : Int), zs.getLast? = some l → (l - a).natAbs ≤ wayL a zs
  | [], _, _, h => by simp at h
  | [z], a, l, h => by
    have : z = l := by simpa using h
    subst this
    simp [wayL]
    omega
  | z :: y :: p, a, l, h => by
    have h' : (y :: p).getLast? = some l := by simpa [List.getLast?_cons_cons] using h
    have := wayL_ge (y :: p) z l h'
    simp only [wayL] at this ⊢
    omega
theorem last_take {zs : List Int} {j : Nat} {z : Int} (h : zs[j]? = some z) : (zs.take (j + 1)).getLast? = some z := by
  rw [take_snoc _ _ _ h]; simp
theorem allB_take {zs : List Int} {l h : Int} (ha : allB zs l h = true) (k : Nat) : allB (zs.take k) l h = true := allB_iff.2 fun x hx => allB_mem ha (List.mem_of_mem_take hx)
theorem allB_drop {zs : List Int} {l h : Int} (ha : allB zs l h = true) (k : Nat) : allB (zs.drop k) l h = true := allB_iff.2 fun x hx => allB_mem ha (List.mem_of_mem_drop hx)


end Go.Proofs.Yteclciglngidkaa
