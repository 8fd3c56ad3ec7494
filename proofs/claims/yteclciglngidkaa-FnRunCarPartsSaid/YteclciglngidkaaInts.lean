/-
  Contracts of the small functions over slices: comparing, marking, copying.
-/
import Derived.Test.YteclciglngidkaaBase
namespace Go.Proofs.Yteclciglngidkaa
open Go.RowKit

set_option maxHeartbeats 400000 in
theorem within_any (x l h : Int) (w : World) :
    Calls Try.prog 30 #[.int .i64 x, .int .i64 l, .int .i64 h] w fun e w' => e = .returned (.bool (inB x l h)) ∧ w = w' := by
  go_enter Try.func30, Try.ntmps30
  go_wp2
  all_goals
    go_ret
    exact ⟨ret_bool (by first | exact inB_1 (by assumption) | exact inB_2 (by assumption)), rfl⟩
set_option maxHeartbeats 400000 in
theorem inRange_any (x l h : Int) (w : World) :
    Calls Try.prog 18 #[.int .i64 x, .int .i64 l, .int .i64 h] w fun e w' => e = .returned (.bool (inB x l h)) ∧ w = w' := by
  go_enter Try.func18, Try.ntmps18
  go_wp2
  all_goals
    go_ret
    exact ⟨ret_bool (by first | exact inB_1 (by assumption) | exact inB_2 (by assumption)), rfl⟩



def marksI (k0 : Int) (k : Nat) : List Int := (List.range k).map fun (j : Nat) => k0 + (j : Int)
theorem marksI_len (k0 : Int) (k : Nat) : (marksI k0 k).length = k := by simp [marksI]
theorem marksI_succ (k0 : Int) (k : Nat) : marksI k0 (k + 1) = marksI k0 k ++ [k0 + (k : Int)] := by simp [marksI, List.range_succ]
theorem marksI_at (k0 : Int) (n k : Nat) (h : k < n) : (marksI k0 n)[k]? = some (k0 + (k : Int)) := by simp [marksI, h]
theorem set_mid {α : Type} (l r : List α) (k : Nat) (u : α) (hl : l.length = k) (hk : k < r.length) : (l ++ r.drop k).set k u = l ++ [u] ++ r.drop (k + 1) := by
  subst hl
  rw [List.set_append_right _ _ (Nat.le_refl _), Nat.sub_self, List.drop_eq_getElem_cons hk]
  simp only [List.set_cons_zero, List.append_assoc, List.singleton_append]




end Go.Proofs.Yteclciglngidkaa
