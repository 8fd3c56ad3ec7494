/-
  What the laws on rides draw: calls and a floor.
-/
import Derived.Test.YthgbbfcpnmpjgaaDrawCalls
import Derived.Test.YthgbbfcpnmpjgaaDrawAF
namespace Go.Proofs.Ythgbbfcpnmpjgaa
open Go.RowKit
set_option linter.unusedSimpArgs false
set_option linter.unusedVariables false

def DrawnRide (w : World) (e : Ending) (w' : World) : Prop :=
  ∃ (A : Option Addr) (n c : Nat) (cs : List CallQ) (at_ : Int), e = .returned (.tuple #[.slice A n c, .int .i64 at_]) ∧ n ≤ 13 ∧ -1 ≤ at_ ∧ at_ ≤ 16 ∧ OwnA A n c ∧ RdC w' A n cs ∧ Below w.heap.size w w'
set_option maxHeartbeats 1000000 in
theorem DrawRideTimes_any (B : Nat) (A : Option Addr) (n c : Nat) (w : World) (hB : B ≤ w.heap.size) (ha : Code8 w B A n c) :
    Calls Try.prog 21 #[.slice A n c] w (DrawnRide w) := by
  have Ha := hide ha
  clear ha
  go_enter Try.func21, Try.ntmps21
  go_wp2_with fail
  refine (newReader_u B A n c _ hB Ha.out).mono ?_
  rintro e w1 ⟨g, rfl, hr1, g2, hb⟩
  have Hb1 := hide hb
  have hz1 := hb.size
  clear hb
  go_wp2_with fail
  refine (anyCalls_any B g 0 _ (by omega) hr1).mono ?_
  rintro e w2 ⟨A2, n2, c2, cs, rfl, hn, ho, hr2, hg⟩
  have H2 := hide (DR.got (B0 := B) (w0 := w1) (by have := hr1.ge; have := hr1.lt; omega) (by decide) (World.grownBy.refl _ _) ho hr2 hg)
  clear ho hg
  go_wp2_with fail
  refine (anyFloor_any B g _ _ (by omega) hr2).mono ?_
  rintro e w3 ⟨x3, rfl, x3a, x3b, hr3, hg⟩
  have H3 := hide (H2.out.pick hr3 hg)
  clear hg hr3 H2
  have hfin := hide (And.intro (own_formA H3.out.o) (And.intro (Rd.of_own H3.out.o) (Below.trans Hb1.out (below_of_only (B := w.heap.size) H3.out.gr hz1 (fun k hk => by cases hk; exact g2)))))
  clear H3
  go_wp2_with fail
  go_ret2
  exact ⟨A2, n2, c2, cs, x3, rfl, hn, x3a, x3b, hfin.out.1, hfin.out.2.1, hfin.out.2.2⟩
set_option maxHeartbeats 1000000 in
theorem DrawTotalWait_any (B : Nat) (A : Option Addr) (n c : Nat) (w : World) (hB : B ≤ w.heap.size) (ha : Code8 w B A n c) :
    Calls Try.prog 25 #[.slice A n c] w (DrawnRide w) := by
  have K := hide (DrawRideTimes_any B A n c w hB ha)
  clear ha
  go_enter Try.func25, Try.ntmps25
  go_wp2_with fail
  refine K.out.mono ?_
  rintro e w1 ⟨A1, n1, c1, zs, x, rfl, h1, h2, h3, h4, h5, hb⟩
  have H := hide (And.intro h4 (And.intro h5 hb))
  clear h4 h5 hb
  go_wp2_with fail
  first
    | (refine bodyPost_ret ?_ rfl ⟨A1, n1, c1, zs, x, rfl, h1, h2, h3, H.out.1, H.out.2.1, H.out.2.2⟩
       simp [results, Try.results25, go_sem, *])
end Go.Proofs.Ythgbbfcpnmpjgaa
