/-
  Drawing a floor.
-/
import Derived.Test.YthgbbfcpnmpjgaaDr
namespace Go.Proofs.Ythgbbfcpnmpjgaa
open Go.RowKit
set_option linter.unusedSimpArgs false
set_option linter.unusedVariables false

set_option maxHeartbeats 400000 in
theorem anyFloor_any (B g p : Nat) (w : World) (hp : p ≤ 1000) (hr : RdU w B g p) :
    Calls Try.prog 41 #[.pointer (some ⟨g, 0, none⟩)] w fun e w' => ∃ x : Int, e = .returned (.int .i64 x) ∧ -1 ≤ x ∧ x ≤ 16 ∧ RdU w' B g (p + 1) ∧ w.grownBy w' (some g) := by
  have g1 := hr.lt
  go_enter Try.func41, Try.ntmps41
  go_wp2_with fail
  refine (one_lit B g p _ _ _ _ [0, 3, 7, 8, 12, 15, 16, -1, 5] _ (by simp) rfl rfl (by decide) (by omega) (by repeat (first | ((with_reducible refine RdU.mono hr16 ?_); omega) | ((with_reducible refine RdU.mono hr15 ?_); omega) | ((with_reducible refine RdU.mono hr14 ?_); omega) | ((with_reducible refine RdU.mono hr13 ?_); omega) | ((with_reducible refine RdU.mono hr12 ?_); omega) | ((with_reducible refine RdU.mono hr11 ?_); omega) | ((with_reducible refine RdU.mono hr10 ?_); omega) | ((with_reducible refine RdU.mono hr9 ?_); omega) | ((with_reducible refine RdU.mono hr8 ?_); omega) | ((with_reducible refine RdU.mono hr7 ?_); omega) | ((with_reducible refine RdU.mono hr6 ?_); omega) | ((with_reducible refine RdU.mono hr5 ?_); omega) | ((with_reducible refine RdU.mono hr4 ?_); omega) | ((with_reducible refine RdU.mono hr3 ?_); omega) | ((with_reducible refine RdU.mono hr2 ?_); omega) | ((with_reducible refine RdU.mono hr1 ?_); omega) | ((with_reducible refine RdU.mono hr ?_); omega) | (with_reducible refine RdU.drew ?_) | (with_reducible refine RdU.drewN ?_ _) | (with_reducible refine RdU.alloc ?_ _) | ((with_reducible refine RdU.setCell ?_ ?_ ?_ _); rotate_left; (focus (first | (simp; done) | (simp; omega) | omega)); (focus (first | (simp; done) | (simp; omega) | omega)))))).mono ?_
  rintro e w1 ⟨x1, rfl, x1a, hr1, hg⟩
  have hx : -1 ≤ x1 ∧ x1 ≤ 16 := by simp at x1a; omega
  have HH := hide (And.intro hr1 (only_trans (only_alloc (World.grownBy.refl _ _) _) hg))
  clear x1a hr1 hg
  go_wp2_with fail
  go_ret
  exact ⟨x1, rfl, hx.1, hx.2, HH.out.1, HH.out.2⟩

end Go.Proofs.Ythgbbfcpnmpjgaa
