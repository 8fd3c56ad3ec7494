/-
  The walk of the law that calls cost their ways.
-/
import Derived.Test.YtmhaclhcllndeaaDrawShare
import Derived.Test.YtmhaclhcllndeaaShareLaw2
import Derived.Test.YtmhaclhcllndeaaCallsB
import Derived.Test.YtmhaclhcllndeaaCallsC
import Derived.Test.YtmhaclhcllndeaaCopy
import Derived.Test.YtmhaclhcllndeaaLaw8
import Derived.Test.YtmhaclhcllndeaaTrack
namespace Go.Proofs.Ytmhaclhcllndeaa
open Go.RowKit
set_option linter.unusedSimpArgs false
set_option linter.unusedVariables false

set_option maxHeartbeats 4000000 in
theorem fnShareCost_walk (A : Option Addr) (n c : Nat) (zs : List Int) (w : World) (hl : n ≤ c) (hr : RdI w .u8 A n zs) (hz : ∀ z ∈ zs, (Lit.int .u8 z).wf = true) :
    Calls Try.prog 10 #[.slice A n c] w fun e w' => e = .returned (.bool true) ∧ Below w.heap.size w w' := by
  have Ha := hide (code8_of hl hr hz)
  clear hr hz
  by_cases hn : 1048576 < n
  · have hn' : (1048576 : Int) < (n : Int) := by omega
    go_enter Try.func10, Try.ntmps10
    go_wp2_with fail
    go_ret
    exact ⟨rfl, Below.refl _ _⟩
  have hn' : (n : Int) ≤ 1048576 := by omega
  go_enter Try.func10, Try.ntmps10
  go_wp2_with fail
  refine (DrawShareCost_any _ A n c _ (Nat.le_refl _) Ha.out).mono ?_
  rintro e w1 ⟨A1, n1, c1, z1, A2, n2, c2, z2, A3, n3, c3, z3, rfl, hn1, hn2, hn3, sA1, oA2, sA3, r1, r2, r3, hb⟩
  have hz1 := hb.size
  try simp at hz1
  have Hb1 := hide hb
  clear hb
  have R_a := hide r1
  have Hl1 := hide (RdI.len r1)
  have R_b := hide r2
  have Hl2 := hide (RdC.len r2)
  have R_c := hide r3
  have Hl3 := hide (RdI.len r3)
  have SA1 := hide sA1
  have OA2 := hide oA2
  have SA3 := hide sA3
  clear r1 r2 r3 sA1 oA2 sA3
  obtain ⟨M, hM⟩ : ∃ M, shareF z1 z2 z3 = M := ⟨_, rfl⟩
  have HM := hide hM
  clear hM
  go_wp2_with fail
  refine (ShareCost_i A1 A2 A3 n1 c1 n2 c2 n3 c3 z1 z2 z3 M _ (by omega) (by omega) (by omega) (by repeat (first | exact R_a.out | exact Rd.of_own O_a.out | (with_reducible refine RdC.al ?_ _) | (with_reducible refine RdC.dr ?_) | (with_reducible refine RdC.drN ?_ _) | (with_reducible refine RdI.al ?_ _) | (with_reducible refine RdI.dr ?_) | (with_reducible refine RdI.drN ?_ _) | (with_reducible refine Rd.alloc ?_ _) | (with_reducible refine Rd.drew ?_) | (with_reducible refine Rd.drewN ?_ _))) (by repeat (first | exact R_b.out | exact Rd.of_own O_b.out | (with_reducible refine RdC.al ?_ _) | (with_reducible refine RdC.dr ?_) | (with_reducible refine RdC.drN ?_ _) | (with_reducible refine RdI.al ?_ _) | (with_reducible refine RdI.dr ?_) | (with_reducible refine RdI.drN ?_ _) | (with_reducible refine Rd.alloc ?_ _) | (with_reducible refine Rd.drew ?_) | (with_reducible refine Rd.drewN ?_ _))) (by repeat (first | exact R_c.out | exact Rd.of_own O_c.out | (with_reducible refine RdC.al ?_ _) | (with_reducible refine RdC.dr ?_) | (with_reducible refine RdC.drN ?_ _) | (with_reducible refine RdI.al ?_ _) | (with_reducible refine RdI.dr ?_) | (with_reducible refine RdI.drN ?_ _) | (with_reducible refine Rd.alloc ?_ _) | (with_reducible refine Rd.drew ?_) | (with_reducible refine Rd.drewN ?_ _))) HM.out).mono ?_
  rintro e w2 ⟨rfl, hb⟩
  have hz2 := hb.size
  try simp at hz2
  replace R_a := hide (show Rd w2 1 A1 n1 (z1.map (Value.int .i64)) from Rd.below (by repeat (first | exact R_a.out | (with_reducible refine Rd.alloc ?_ _) | (with_reducible refine Rd.drew ?_) | (with_reducible refine Rd.drewN ?_ _))) hb (Nat.le_refl _))
  replace R_b := hide (show Rd w2 3 A2 n2 (cellsC z2) from Rd.below (by repeat (first | exact R_b.out | (with_reducible refine Rd.alloc ?_ _) | (with_reducible refine Rd.drew ?_) | (with_reducible refine Rd.drewN ?_ _))) hb (Nat.le_refl _))
  replace R_c := hide (show Rd w2 1 A3 n3 (z3.map (Value.int .i64)) from Rd.below (by repeat (first | exact R_c.out | (with_reducible refine Rd.alloc ?_ _) | (with_reducible refine Rd.drew ?_) | (with_reducible refine Rd.drewN ?_ _))) hb (Nat.le_refl _))
  have Hb2 := hide hb
  clear hb
  go_wp2_with fail
  refine (ShareCost_s A1 A2 A3 n1 c1 n2 c2 n3 c3 z1 z2 z3 M _ (by omega) (by omega) (by omega) (by repeat (first | exact R_a.out | exact Rd.of_own O_a.out | (with_reducible refine RdC.al ?_ _) | (with_reducible refine RdC.dr ?_) | (with_reducible refine RdC.drN ?_ _) | (with_reducible refine RdI.al ?_ _) | (with_reducible refine RdI.dr ?_) | (with_reducible refine RdI.drN ?_ _) | (with_reducible refine Rd.alloc ?_ _) | (with_reducible refine Rd.drew ?_) | (with_reducible refine Rd.drewN ?_ _))) (by repeat (first | exact R_b.out | exact Rd.of_own O_b.out | (with_reducible refine RdC.al ?_ _) | (with_reducible refine RdC.dr ?_) | (with_reducible refine RdC.drN ?_ _) | (with_reducible refine RdI.al ?_ _) | (with_reducible refine RdI.dr ?_) | (with_reducible refine RdI.drN ?_ _) | (with_reducible refine Rd.alloc ?_ _) | (with_reducible refine Rd.drew ?_) | (with_reducible refine Rd.drewN ?_ _))) (by repeat (first | exact R_c.out | exact Rd.of_own O_c.out | (with_reducible refine RdC.al ?_ _) | (with_reducible refine RdC.dr ?_) | (with_reducible refine RdC.drN ?_ _) | (with_reducible refine RdI.al ?_ _) | (with_reducible refine RdI.dr ?_) | (with_reducible refine RdI.drN ?_ _) | (with_reducible refine Rd.alloc ?_ _) | (with_reducible refine Rd.drew ?_) | (with_reducible refine Rd.drewN ?_ _))) HM.out).mono ?_
  rintro e w3 ⟨rfl, hb⟩
  have hz3 := hb.size
  try simp at hz3
  replace R_a := hide (show Rd w3 1 A1 n1 (z1.map (Value.int .i64)) from Rd.below (by repeat (first | exact R_a.out | (with_reducible refine Rd.alloc ?_ _) | (with_reducible refine Rd.drew ?_) | (with_reducible refine Rd.drewN ?_ _))) hb (Nat.le_refl _))
  replace R_b := hide (show Rd w3 3 A2 n2 (cellsC z2) from Rd.below (by repeat (first | exact R_b.out | (with_reducible refine Rd.alloc ?_ _) | (with_reducible refine Rd.drew ?_) | (with_reducible refine Rd.drewN ?_ _))) hb (Nat.le_refl _))
  replace R_c := hide (show Rd w3 1 A3 n3 (z3.map (Value.int .i64)) from Rd.below (by repeat (first | exact R_c.out | (with_reducible refine Rd.alloc ?_ _) | (with_reducible refine Rd.drew ?_) | (with_reducible refine Rd.drewN ?_ _))) hb (Nat.le_refl _))
  have Hb3 := hide hb
  clear hb
  by_cases hneg : M < 0
  · go_wp2_with fail
    refine (ShareCost_s A1 A2 A3 n1 c1 n2 c2 n3 c3 z1 z2 z3 M _ (by omega) (by omega) (by omega) (by repeat (first | exact R_a.out | exact Rd.of_own O_a.out | (with_reducible refine RdC.al ?_ _) | (with_reducible refine RdC.dr ?_) | (with_reducible refine RdC.drN ?_ _) | (with_reducible refine RdI.al ?_ _) | (with_reducible refine RdI.dr ?_) | (with_reducible refine RdI.drN ?_ _) | (with_reducible refine Rd.alloc ?_ _) | (with_reducible refine Rd.drew ?_) | (with_reducible refine Rd.drewN ?_ _))) (by repeat (first | exact R_b.out | exact Rd.of_own O_b.out | (with_reducible refine RdC.al ?_ _) | (with_reducible refine RdC.dr ?_) | (with_reducible refine RdC.drN ?_ _) | (with_reducible refine RdI.al ?_ _) | (with_reducible refine RdI.dr ?_) | (with_reducible refine RdI.drN ?_ _) | (with_reducible refine Rd.alloc ?_ _) | (with_reducible refine Rd.drew ?_) | (with_reducible refine Rd.drewN ?_ _))) (by repeat (first | exact R_c.out | exact Rd.of_own O_c.out | (with_reducible refine RdC.al ?_ _) | (with_reducible refine RdC.dr ?_) | (with_reducible refine RdC.drN ?_ _) | (with_reducible refine RdI.al ?_ _) | (with_reducible refine RdI.dr ?_) | (with_reducible refine RdI.drN ?_ _) | (with_reducible refine Rd.alloc ?_ _) | (with_reducible refine Rd.drew ?_) | (with_reducible refine Rd.drewN ?_ _))) HM.out).mono ?_
    rintro e w4 ⟨rfl, hb⟩
    have hz4 := hb.size
    try simp at hz4
    replace R_a := hide (show Rd w4 1 A1 n1 (z1.map (Value.int .i64)) from Rd.below (by repeat (first | exact R_a.out | (with_reducible refine Rd.alloc ?_ _) | (with_reducible refine Rd.drew ?_) | (with_reducible refine Rd.drewN ?_ _))) hb (Nat.le_refl _))
    replace R_b := hide (show Rd w4 3 A2 n2 (cellsC z2) from Rd.below (by repeat (first | exact R_b.out | (with_reducible refine Rd.alloc ?_ _) | (with_reducible refine Rd.drew ?_) | (with_reducible refine Rd.drewN ?_ _))) hb (Nat.le_refl _))
    replace R_c := hide (show Rd w4 1 A3 n3 (z3.map (Value.int .i64)) from Rd.below (by repeat (first | exact R_c.out | (with_reducible refine Rd.alloc ?_ _) | (with_reducible refine Rd.drew ?_) | (with_reducible refine Rd.drewN ?_ _))) hb (Nat.le_refl _))
    have Hb4 := hide hb
    clear hb
    go_wp2_with fail
    go_ret
    exact ⟨rfl, (by repeat (first | (with_reducible exact Below.refl _ _) | (with_reducible refine Below.drew ?_) | (with_reducible refine below_drewN ?_ _) | ((with_reducible refine Below.alloc ?_ ?_ _); rotate_left; (focus (first | (simp; done) | (simp; omega) | omega))) | ((with_reducible refine Below.setCell ?_ ?_ _); rotate_left; (focus (first | (simp; done) | (simp; omega) | omega))) | ((with_reducible refine Below.trans ?_ (Below.mono Hb.out ?_)); rotate_left; (focus (first | (simp; done) | (simp; omega) | omega))) | ((with_reducible refine Below.trans ?_ (Below.mono Hb16.out ?_)); rotate_left; (focus (first | (simp; done) | (simp; omega) | omega))) | ((with_reducible refine Below.trans ?_ (Below.mono Hb15.out ?_)); rotate_left; (focus (first | (simp; done) | (simp; omega) | omega))) | ((with_reducible refine Below.trans ?_ (Below.mono Hb14.out ?_)); rotate_left; (focus (first | (simp; done) | (simp; omega) | omega))) | ((with_reducible refine Below.trans ?_ (Below.mono Hb13.out ?_)); rotate_left; (focus (first | (simp; done) | (simp; omega) | omega))) | ((with_reducible refine Below.trans ?_ (Below.mono Hb12.out ?_)); rotate_left; (focus (first | (simp; done) | (simp; omega) | omega))) | ((with_reducible refine Below.trans ?_ (Below.mono Hb11.out ?_)); rotate_left; (focus (first | (simp; done) | (simp; omega) | omega))) | ((with_reducible refine Below.trans ?_ (Below.mono Hb10.out ?_)); rotate_left; (focus (first | (simp; done) | (simp; omega) | omega))) | ((with_reducible refine Below.trans ?_ (Below.mono Hb9.out ?_)); rotate_left; (focus (first | (simp; done) | (simp; omega) | omega))) | ((with_reducible refine Below.trans ?_ (Below.mono Hb8.out ?_)); rotate_left; (focus (first | (simp; done) | (simp; omega) | omega))) | ((with_reducible refine Below.trans ?_ (Below.mono Hb7.out ?_)); rotate_left; (focus (first | (simp; done) | (simp; omega) | omega))) | ((with_reducible refine Below.trans ?_ (Below.mono Hb6.out ?_)); rotate_left; (focus (first | (simp; done) | (simp; omega) | omega))) | ((with_reducible refine Below.trans ?_ (Below.mono Hb5.out ?_)); rotate_left; (focus (first | (simp; done) | (simp; omega) | omega))) | ((with_reducible refine Below.trans ?_ (Below.mono Hb4.out ?_)); rotate_left; (focus (first | (simp; done) | (simp; omega) | omega))) | ((with_reducible refine Below.trans ?_ (Below.mono Hb3.out ?_)); rotate_left; (focus (first | (simp; done) | (simp; omega) | omega))) | ((with_reducible refine Below.trans ?_ (Below.mono Hb2.out ?_)); rotate_left; (focus (first | (simp; done) | (simp; omega) | omega))) | ((with_reducible refine Below.trans ?_ (Below.mono Hb1.out ?_)); rotate_left; (focus (first | (simp; done) | (simp; omega) | omega))) | ((with_reducible refine Below.trans ?_ (below_of_only Hg16.out ?_ ?_)); rotate_left; (focus (first | (simp; done) | (simp; omega) | omega)); (intro k hk; cases hk; omega)) | ((with_reducible refine Below.trans ?_ (below_of_only Hg15.out ?_ ?_)); rotate_left; (focus (first | (simp; done) | (simp; omega) | omega)); (intro k hk; cases hk; omega)) | ((with_reducible refine Below.trans ?_ (below_of_only Hg14.out ?_ ?_)); rotate_left; (focus (first | (simp; done) | (simp; omega) | omega)); (intro k hk; cases hk; omega)) | ((with_reducible refine Below.trans ?_ (below_of_only Hg13.out ?_ ?_)); rotate_left; (focus (first | (simp; done) | (simp; omega) | omega)); (intro k hk; cases hk; omega)) | ((with_reducible refine Below.trans ?_ (below_of_only Hg12.out ?_ ?_)); rotate_left; (focus (first | (simp; done) | (simp; omega) | omega)); (intro k hk; cases hk; omega)) | ((with_reducible refine Below.trans ?_ (below_of_only Hg11.out ?_ ?_)); rotate_left; (focus (first | (simp; done) | (simp; omega) | omega)); (intro k hk; cases hk; omega)) | ((with_reducible refine Below.trans ?_ (below_of_only Hg10.out ?_ ?_)); rotate_left; (focus (first | (simp; done) | (simp; omega) | omega)); (intro k hk; cases hk; omega)) | ((with_reducible refine Below.trans ?_ (below_of_only Hg9.out ?_ ?_)); rotate_left; (focus (first | (simp; done) | (simp; omega) | omega)); (intro k hk; cases hk; omega)) | ((with_reducible refine Below.trans ?_ (below_of_only Hg8.out ?_ ?_)); rotate_left; (focus (first | (simp; done) | (simp; omega) | omega)); (intro k hk; cases hk; omega)) | ((with_reducible refine Below.trans ?_ (below_of_only Hg7.out ?_ ?_)); rotate_left; (focus (first | (simp; done) | (simp; omega) | omega)); (intro k hk; cases hk; omega)) | ((with_reducible refine Below.trans ?_ (below_of_only Hg6.out ?_ ?_)); rotate_left; (focus (first | (simp; done) | (simp; omega) | omega)); (intro k hk; cases hk; omega)) | ((with_reducible refine Below.trans ?_ (below_of_only Hg5.out ?_ ?_)); rotate_left; (focus (first | (simp; done) | (simp; omega) | omega)); (intro k hk; cases hk; omega)) | ((with_reducible refine Below.trans ?_ (below_of_only Hg4.out ?_ ?_)); rotate_left; (focus (first | (simp; done) | (simp; omega) | omega)); (intro k hk; cases hk; omega)) | ((with_reducible refine Below.trans ?_ (below_of_only Hg3.out ?_ ?_)); rotate_left; (focus (first | (simp; done) | (simp; omega) | omega)); (intro k hk; cases hk; omega)) | ((with_reducible refine Below.trans ?_ (below_of_only Hg2.out ?_ ?_)); rotate_left; (focus (first | (simp; done) | (simp; omega) | omega)); (intro k hk; cases hk; omega)) | ((with_reducible refine Below.trans ?_ (below_of_only Hg1.out ?_ ?_)); rotate_left; (focus (first | (simp; done) | (simp; omega) | omega)); (intro k hk; cases hk; omega))))⟩
  have hok := shareF_ok (zs := z1) (cs := z2) (ss := z3) (by rw [HM.out]; exact hneg)
  rw [HM.out] at hok
  obtain ⟨hok1, hok2⟩ := hok
  obtain ⟨hv0, hv4, hv5⟩ := vShare_iff.1 hok1
  obtain ⟨hv1, hv2, hv3⟩ := vSh_iff.1 hv0
  obtain ⟨⟨m1, m2⟩, hall⟩ := vFl_iff.1 hv1
  have hn1a : 1 ≤ n1 := by have := Hl1.out; omega
  have hn1b : n1 ≤ 3 := by have := Hl1.out; omega
  have hn2b : n2 ≤ 6 := by have := Hl2.out; omega
  obtain rfl : n3 = n2 := by have := Hl2.out; have := Hl3.out; omega
  have HGRE := hide hok2
  have HVS := hide hok1
  have Hvc := hide hv3
  have Hall := hide hall
  have Hss := hide hv5
  clear hok1 hok2 hv0 hv1 hv2 hv3 hv4 hv5 m1 m2 hall
  have RA := hide (show RdI w3 .i64 A1 n1 z1 from (by repeat (first | exact R_a.out | exact Rd.of_own O_a.out | (with_reducible refine RdC.al ?_ _) | (with_reducible refine RdC.dr ?_) | (with_reducible refine RdC.drN ?_ _) | (with_reducible refine RdI.al ?_ _) | (with_reducible refine RdI.dr ?_) | (with_reducible refine RdI.drN ?_ _) | (with_reducible refine Rd.alloc ?_ _) | (with_reducible refine Rd.drew ?_) | (with_reducible refine Rd.drewN ?_ _))))
  have RB := hide (show RdC w3 A2 n3 z2 from (by repeat (first | exact R_b.out | exact Rd.of_own O_b.out | (with_reducible refine RdC.al ?_ _) | (with_reducible refine RdC.dr ?_) | (with_reducible refine RdC.drN ?_ _) | (with_reducible refine RdI.al ?_ _) | (with_reducible refine RdI.dr ?_) | (with_reducible refine RdI.drN ?_ _) | (with_reducible refine Rd.alloc ?_ _) | (with_reducible refine Rd.drew ?_) | (with_reducible refine Rd.drewN ?_ _))))
  have RC := hide (show RdI w3 .i64 A3 n3 z3 from (by repeat (first | exact R_c.out | exact Rd.of_own O_c.out | (with_reducible refine RdC.al ?_ _) | (with_reducible refine RdC.dr ?_) | (with_reducible refine RdC.drN ?_ _) | (with_reducible refine RdI.al ?_ _) | (with_reducible refine RdI.dr ?_) | (with_reducible refine RdI.drN ?_ _) | (with_reducible refine Rd.alloc ?_ _) | (with_reducible refine Rd.drew ?_) | (with_reducible refine Rd.drewN ?_ _))))
  have HBW := hide (show Below w.heap.size w w3 from (by repeat (first | (with_reducible exact Below.refl _ _) | (with_reducible refine Below.drew ?_) | (with_reducible refine below_drewN ?_ _) | ((with_reducible refine Below.alloc ?_ ?_ _); rotate_left; (focus (first | (simp; done) | (simp; omega) | omega))) | ((with_reducible refine Below.setCell ?_ ?_ _); rotate_left; (focus (first | (simp; done) | (simp; omega) | omega))) | ((with_reducible refine Below.trans ?_ (Below.mono Hb.out ?_)); rotate_left; (focus (first | (simp; done) | (simp; omega) | omega))) | ((with_reducible refine Below.trans ?_ (Below.mono Hb16.out ?_)); rotate_left; (focus (first | (simp; done) | (simp; omega) | omega))) | ((with_reducible refine Below.trans ?_ (Below.mono Hb15.out ?_)); rotate_left; (focus (first | (simp; done) | (simp; omega) | omega))) | ((with_reducible refine Below.trans ?_ (Below.mono Hb14.out ?_)); rotate_left; (focus (first | (simp; done) | (simp; omega) | omega))) | ((with_reducible refine Below.trans ?_ (Below.mono Hb13.out ?_)); rotate_left; (focus (first | (simp; done) | (simp; omega) | omega))) | ((with_reducible refine Below.trans ?_ (Below.mono Hb12.out ?_)); rotate_left; (focus (first | (simp; done) | (simp; omega) | omega))) | ((with_reducible refine Below.trans ?_ (Below.mono Hb11.out ?_)); rotate_left; (focus (first | (simp; done) | (simp; omega) | omega))) | ((with_reducible refine Below.trans ?_ (Below.mono Hb10.out ?_)); rotate_left; (focus (first | (simp; done) | (simp; omega) | omega))) | ((with_reducible refine Below.trans ?_ (Below.mono Hb9.out ?_)); rotate_left; (focus (first | (simp; done) | (simp; omega) | omega))) | ((with_reducible refine Below.trans ?_ (Below.mono Hb8.out ?_)); rotate_left; (focus (first | (simp; done) | (simp; omega) | omega))) | ((with_reducible refine Below.trans ?_ (Below.mono Hb7.out ?_)); rotate_left; (focus (first | (simp; done) | (simp; omega) | omega))) | ((with_reducible refine Below.trans ?_ (Below.mono Hb6.out ?_)); rotate_left; (focus (first | (simp; done) | (simp; omega) | omega))) | ((with_reducible refine Below.trans ?_ (Below.mono Hb5.out ?_)); rotate_left; (focus (first | (simp; done) | (simp; omega) | omega))) | ((with_reducible refine Below.trans ?_ (Below.mono Hb4.out ?_)); rotate_left; (focus (first | (simp; done) | (simp; omega) | omega))) | ((with_reducible refine Below.trans ?_ (Below.mono Hb3.out ?_)); rotate_left; (focus (first | (simp; done) | (simp; omega) | omega))) | ((with_reducible refine Below.trans ?_ (Below.mono Hb2.out ?_)); rotate_left; (focus (first | (simp; done) | (simp; omega) | omega))) | ((with_reducible refine Below.trans ?_ (Below.mono Hb1.out ?_)); rotate_left; (focus (first | (simp; done) | (simp; omega) | omega))) | ((with_reducible refine Below.trans ?_ (below_of_only Hg16.out ?_ ?_)); rotate_left; (focus (first | (simp; done) | (simp; omega) | omega)); (intro k hk; cases hk; omega)) | ((with_reducible refine Below.trans ?_ (below_of_only Hg15.out ?_ ?_)); rotate_left; (focus (first | (simp; done) | (simp; omega) | omega)); (intro k hk; cases hk; omega)) | ((with_reducible refine Below.trans ?_ (below_of_only Hg14.out ?_ ?_)); rotate_left; (focus (first | (simp; done) | (simp; omega) | omega)); (intro k hk; cases hk; omega)) | ((with_reducible refine Below.trans ?_ (below_of_only Hg13.out ?_ ?_)); rotate_left; (focus (first | (simp; done) | (simp; omega) | omega)); (intro k hk; cases hk; omega)) | ((with_reducible refine Below.trans ?_ (below_of_only Hg12.out ?_ ?_)); rotate_left; (focus (first | (simp; done) | (simp; omega) | omega)); (intro k hk; cases hk; omega)) | ((with_reducible refine Below.trans ?_ (below_of_only Hg11.out ?_ ?_)); rotate_left; (focus (first | (simp; done) | (simp; omega) | omega)); (intro k hk; cases hk; omega)) | ((with_reducible refine Below.trans ?_ (below_of_only Hg10.out ?_ ?_)); rotate_left; (focus (first | (simp; done) | (simp; omega) | omega)); (intro k hk; cases hk; omega)) | ((with_reducible refine Below.trans ?_ (below_of_only Hg9.out ?_ ?_)); rotate_left; (focus (first | (simp; done) | (simp; omega) | omega)); (intro k hk; cases hk; omega)) | ((with_reducible refine Below.trans ?_ (below_of_only Hg8.out ?_ ?_)); rotate_left; (focus (first | (simp; done) | (simp; omega) | omega)); (intro k hk; cases hk; omega)) | ((with_reducible refine Below.trans ?_ (below_of_only Hg7.out ?_ ?_)); rotate_left; (focus (first | (simp; done) | (simp; omega) | omega)); (intro k hk; cases hk; omega)) | ((with_reducible refine Below.trans ?_ (below_of_only Hg6.out ?_ ?_)); rotate_left; (focus (first | (simp; done) | (simp; omega) | omega)); (intro k hk; cases hk; omega)) | ((with_reducible refine Below.trans ?_ (below_of_only Hg5.out ?_ ?_)); rotate_left; (focus (first | (simp; done) | (simp; omega) | omega)); (intro k hk; cases hk; omega)) | ((with_reducible refine Below.trans ?_ (below_of_only Hg4.out ?_ ?_)); rotate_left; (focus (first | (simp; done) | (simp; omega) | omega)); (intro k hk; cases hk; omega)) | ((with_reducible refine Below.trans ?_ (below_of_only Hg3.out ?_ ?_)); rotate_left; (focus (first | (simp; done) | (simp; omega) | omega)); (intro k hk; cases hk; omega)) | ((with_reducible refine Below.trans ?_ (below_of_only Hg2.out ?_ ?_)); rotate_left; (focus (first | (simp; done) | (simp; omega) | omega)); (intro k hk; cases hk; omega)) | ((with_reducible refine Below.trans ?_ (below_of_only Hg1.out ?_ ?_)); rotate_left; (focus (first | (simp; done) | (simp; omega) | omega)); (intro k hk; cases hk; omega)))))
  have hzw := HBW.out.size
  obtain ⟨i0, hi0, iz0, iz1, iz2⟩ := info_parts int_info
  go_wp2_with fail
  go_loopw [7, 8] (fun mv cv wr => ∃ (k : Nat) (m : Int), k ≤ n1 ∧ cv = .int .i64 k ∧ mv = .int .i64 m ∧ Hid (greK z1 z2 z3 k = m) ∧ Hid (Below w3.heap.size w3 wr)) (fun _ cv _ => n1 - (intOf cv).toNat)
  case atStart => exact ⟨0, 0, Nat.zero_le _, rfl, rfl, hide rfl, hide (Below.refl _ _)⟩
  case round =>
    obtain ⟨k, m, hk, rfl, rfl, HG, HB⟩ := hrel
    have hB1 := HB.out.size
    by_cases hlt : k < n1
    · obtain ⟨b1, o1, z, rfl, hb1, hzz, d1⟩ := RdI.at_ RA.out hlt
      obtain ⟨z0, z9⟩ := allB_mem Hall.out (List.mem_of_getElem? hzz)
      obtain ⟨T, hT⟩ : ∃ T, trp k z z2 z3 = T := ⟨_, rfl⟩
      obtain ⟨m', hm'⟩ : ∃ m', max m T = m' := ⟨_, rfl⟩
      have HG2 := hide (show greK z1 z2 z3 (k + 1) = m' by simp only [greK]; rw [HG.out, getD_of hzz, hT, hm'])
      have HT := hide hT
      have hmax := fun (w : World) (ts : Array TypeId) (t : TypeId) => run_max2 (P := Try.prog) w ts t m T
      rw [hm'] at hmax
      have hltz : (k : Int) < (n1 : Int) := by omega
      have hlit := World.ownsRow_lit (e := 3) (size := 1) (base := w3.heap.size) wr #[] 0 hB1 (by unfold maxLen; omega) rfl
      have Hlit := hide hlit
      have Hzz := hide hzz
      clear hT hm' hzz hlit
      go_wp2_with fail
      go_loopw [9, 10] (fun sv iv w9 => ∃ (j : Nat) (st : List Int), j ≤ n3 ∧ iv = .int .i64 j ∧ Hid (stp k (z2.take j) (z3.take j) = st) ∧ Hid (w9.ownsRow w3.heap.size 3 1 sv st.length (st.map (Value.int .i64))) ∧ Hid (Below w3.heap.size w3 w9)) (fun _ iv _ => n3 - (intOf iv).toNat)
      case atStart => exact ⟨0, [], Nat.zero_le _, rfl, hide rfl, hide (by simpa using Hlit.out), hide (HB.out.alloc hB1 _)⟩
      case round =>
        obtain ⟨j, st, hj, rfl, HS, HO, HB9⟩ := hrel
        have hB9 := HB9.out.size
        have d1' := (HB9.out.cell (p := ⟨b1, o1 + k, none⟩) hb1).trans d1
        by_cases hjn : j < n3
        · obtain ⟨b2, o2, f, t, c, rfl, hb2, hzc, e1, e2, e3⟩ := RdC.at_ RB.out hjn
          obtain ⟨b3, o3, s, rfl, hb3, hzs, e4⟩ := RdI.at_ RC.out hjn
          have f1 := (HB9.out.cell (p := ⟨b2, o2 + j * 3, none⟩) hb2).trans e1
          have f2 := (HB9.out.cell (p := ⟨b2, o2 + j * 3 + 1, none⟩) hb2).trans e2
          have f4 := (HB9.out.cell (p := ⟨b3, o3 + j, none⟩) hb3).trans e4
          have hjz : (j : Int) < (n3 : Int) := by omega
          have hst2 := stp_len k (z2.take j) (z3.take j)
          rw [HS.out, List.length_take] at hst2
          have hst3 : st.length ≤ 12 := by omega
          have hb2' : b2 < wr.heap.size := by omega
          have hb3' : b3 < wr.heap.size := by omega
          obtain ⟨Av, cv, rfl⟩ := own_form HO.out
          by_cases he : s = (k : Int)
          · have he' : (s == (k : Int)) = true := by simp [he]
            have HS2 := hide (show stp k (z2.take (j + 1)) (z3.take (j + 1)) = st ++ [f, t] by rw [stp_snoc hzc hzs, HS.out, if_pos he])
            have ne2 : (Value.slice Av st.length cv).ownBlock ≠ some b2 := fun e => by have := (HO.out.lt b2 e).1; omega
            have HLT := hide (fun kk (e : (Value.slice Av st.length cv).ownBlock = some kk) => (HO.out.lt kk e).1)
            clear he hzc hzs e1 e2 e3 e4 hst2
            go_wp2_with fail
            go_region_held3 (fun w' => w'.cell? ⟨b2, o2 + j * 3, none⟩ = some (.int .i64 f) ∧ w'.cell? ⟨b2, o2 + j * 3 + 1, none⟩ = some (.int .i64 t))
              (first
                | go_keep
                | (go_split_ands
                   refine ⟨?_, ?_⟩
                   · (rw [hgrow.cell_far _ (by simp; omega) (Ne.symm ne2)]; assumption)
                   · (rw [hgrow.cell_far _ (by simp; omega) (Ne.symm ne2)]; assumption)))
              ((refine step_append_lies _ (by rfl) _ _ _ (by rfl) w3.heap.size 3 i0 (.int .i64 0) 1 8 Try.underlying22 hi0 iz0 iz1 iz2 rfl (by omega) (.slice Av st.length cv) st.length (st.map (Value.int .i64)) (by rfl) (by repeat (first | exact HO.out | (with_reducible refine World.ownsRow.alloc ?_ _) | (with_reducible refine World.ownsRow.drew ?_) | (with_reducible refine own_drewN ?_ _)))
                  ⟨wr.heap.size, 0, none⟩ 2 2 [.int .i64 f, .int .i64 t] (by rfl) (by rfl) (World.news_of_block (cs := #[.int .i64 f, .int .i64 t]) (t := 3) (fr := (0, 0)) (heap_alloc_new wr _)) (by simp [Value.oneCell'])
                  (by omega) (by unfold maxLen; omega) (by omega) (by simp; omega) (wr.heap.size + 1) (by simp) ?_; intro gg cap w8 hown1 hgrow hat hlt8))
            have HF := hide (show w8.ownsRow w3.heap.size 3 1 (.slice (some ⟨gg, 0, none⟩) (st.length + 2) cap) (st ++ [f, t]).length ((st ++ [f, t]).map (Value.int .i64)) ∧ Below w3.heap.size w3 w8 from ⟨by simpa using hown1, by
              refine Below.grown (w := _) ?_ hgrow ?_ (fun kk hk => HLT.out kk hk)
              · repeat (first | exact HB9.out | (with_reducible refine Below.drew ?_) | (with_reducible refine below_drewN ?_ _) | ((with_reducible refine Below.alloc ?_ ?_ _); rotate_left; (focus (first | (simp; done) | (simp; omega) | omega))))
              · simp; omega⟩)
            clear hown1 hgrow hat
            go_wp2_with fail
            go_roundw
            case rel => exact ⟨j + 1, st ++ [f, t], by omega, by go_num, HS2, hide HF.out.1, hide HF.out.2⟩
            case measure => simp [intOf]; omega
          · have he' : (s == (k : Int)) = false := by simp [he]
            have HS2 := hide (show stp k (z2.take (j + 1)) (z3.take (j + 1)) = st by rw [stp_snoc hzc hzs, HS.out, if_neg he, List.append_nil])
            clear he hzc hzs e1 e2 e3 e4 hst2
            go_wp2_with fail
            go_roundw
            case rel => exact ⟨j + 1, st, by omega, by go_num, HS2, HO, HB9⟩
            case measure => simp [intOf]; omega
        · obtain rfl : j = n3 := by omega
          obtain ⟨Av, cv, rfl⟩ := own_form HO.out
          have hst : stp k z2 z3 = st := by
            have h := HS.out
            rw [List.take_of_length_le (by have := Hl2.out; omega), List.take_of_length_le (by have := Hl3.out; omega)] at h
            exact h
          have HW := hide (show wayF st z = T by rw [← hst, wayF_stp (by have := Hl2.out; omega) (fun c hc => vCs_mem Hvc.out hc) z0 z9]; exact HT.out)
          have hst2 := stp_len k z2 z3
          rw [hst] at hst2
          have hst3 : st.length ≤ 12 := by have := Hl2.out; omega
          have RS := hide (show RdI wr .i64 Av st.length st from Rd.of_own HO.out)
          clear hst hst2
          go_wp2_with fail
          refine (WayOf_i Av st.length cv st z _ (by omega) RS.out).mono ?_
          rintro e w' ⟨rfl, rfl⟩
          rw [HW.out]
          go_wp2_with fail
          go_roundw
          case rel => exact ⟨k + 1, m', by omega, by go_num, rfl, HG2, HB9⟩
          case measure => simp [intOf]; omega
    · obtain rfl : k = n1 := by omega
      have he : (M == m) = true := by
        rw [beq_iff_eq, HGRE.out]
        unfold gre
        rw [Hl1.out]
        exact HG.out
      go_wp2_with fail
      go_ret
      exact ⟨rfl, HBW.out.trans (HB.out.mono hzw)⟩

end Go.Proofs.Ytmhaclhcllndeaa
