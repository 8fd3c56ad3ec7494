/-
  The walk of the law that one car has everything.
-/
import Derived.Test.YtmhaclhcllndeaaDrawShare
import Derived.Test.YtmhaclhcllndeaaShareLaw2
import Derived.Deep.RegionHeld3
import Derived.Test.YtmhaclhcllndeaaCallsB
import Derived.Test.YtmhaclhcllndeaaCallsC
import Derived.Test.YtmhaclhcllndeaaCopy
import Derived.Test.YtmhaclhcllndeaaLaw8
import Derived.Test.YtmhaclhcllndeaaTrack
namespace Go.Proofs.Ytmhaclhcllndeaa
open Go.RowKit
set_option linter.unusedSimpArgs false
set_option linter.unusedVariables false


theorem trp_take (car : Int) : ∀ (cs : List CallQ) (ss : List Int) (a : Int) (k : Nat), trp car a (cs.take k) (ss.take k) ≤ trp car a cs ss
  | [], ss, a, k => by simp [trp]
  | c :: cs, [], a, k => by simp [trp]
  | c :: cs, s :: ss, a, 0 => by simpa [trp] using trp_nonneg car (c :: cs) (s :: ss) a
  | c :: cs, s :: ss, a, k + 1 => by
    have h1 := trp_take car cs ss c.2.1 k
    have h2 := trp_take car cs ss a k
    rw [List.take_succ_cons, List.take_succ_cons, trp_cons, trp_cons]
    split <;> omega
theorem greK_take (zs : List Int) (cs : List CallQ) (ss : List Int) (k : Nat) : ∀ m, greK zs (cs.take k) (ss.take k) m ≤ greK zs cs ss m
  | 0 => by simp [greK]
  | m + 1 => by
    have ih := greK_take zs cs ss k m
    have h := trp_take m cs ss (zs.getD m 0) k
    simp only [greK]
    omega
theorem vCs_take {cs : List CallQ} (h : vCs cs = true) (k : Nat) : vCs (cs.take k) = true := by
  unfold vCs at h ⊢
  simp only [Bool.and_eq_true, decide_eq_true_eq, List.all_eq_true] at h ⊢
  exact ⟨Nat.le_trans (List.length_take_le' _ _) h.1, fun c hc => h.2 c (List.mem_of_mem_take hc)⟩
theorem vShare_take {zs : List Int} {cs : List CallQ} {ss : List Int} (h : vShare zs cs ss = true) (k : Nat) : vShare zs (cs.take k) (ss.take k) = true := by
  obtain ⟨h0, h1, h2⟩ := vShare_iff.1 h
  obtain ⟨h3, h4, h5⟩ := vSh_iff.1 h0
  refine vShare_iff.2 ⟨vSh_iff.2 ⟨h3, Nat.le_trans (List.length_take_le' _ _) h4, vCs_take h5 k⟩, by rw [List.length_take, List.length_take, h1], allB_iff.2 fun x hx => allB_mem h2 (List.mem_of_mem_take hx)⟩
theorem shareF_take {zs : List Int} {cs : List CallQ} {ss : List Int} (h : vShare zs cs ss = true) (k : Nat) : shareF zs (cs.take k) (ss.take k) ≤ shareF zs cs ss := by
  unfold shareF
  rw [if_pos h, if_pos (vShare_take h k)]
  exact greK_take zs cs ss k zs.length
theorem vShare_one {zs : List Int} {cs : List CallQ} {ss : List Int} (h : vShare zs cs ss = true) : vShare (zs.take 1) cs (List.replicate cs.length 0) = true := by
  obtain ⟨h0, h1, h2⟩ := vShare_iff.1 h
  obtain ⟨h3, h4, h5⟩ := vSh_iff.1 h0
  obtain ⟨⟨m1, m2⟩, hall⟩ := vFl_iff.1 h3
  have hl : (zs.take 1).length = 1 := by rw [List.length_take]; omega
  refine vShare_iff.2 ⟨vSh_iff.2 ⟨vFl_iff.2 ⟨by rw [hl]; omega, allB_iff.2 fun x hx => allB_mem hall (List.mem_of_mem_take hx)⟩, h4, h5⟩, by simp, allB_iff.2 fun x hx => ?_⟩
  rw [hl]
  have := List.eq_of_mem_replicate hx
  omega
theorem ShareCost_q (A1 A2 A3 : Option Addr) (n1 c1 n2 c2 n3 c3 : Nat) (zs : List Int) (cs : List CallQ) (ss : List Int) (M : Int) (W w' : World) (hb : Below W.heap.size W w') (hn1 : n1 ≤ 100) (hn2 : n2 ≤ 100) (hn3 : n3 ≤ 100)
    (h1 : RdI W .i64 A1 n1 zs) (h2 : RdC W A2 n2 cs) (h3 : RdI W .i64 A3 n3 ss) (hM : shareF zs cs ss = M) :
    Calls Try.prog 20 #[.slice A1 n1 c1, .slice A2 n2 c2, .slice A3 n3 c3] w' fun e w'' => e = .returned (.int .i64 M) ∧ Below w'.heap.size w' w'' :=
  ShareCost_i A1 A2 A3 n1 c1 n2 c2 n3 c3 zs cs ss M w' (by omega) (by omega) (by omega) (RdI.below h1 hb (Nat.le_refl _)) (RdC.below h2 hb (Nat.le_refl _)) (RdI.below h3 hb (Nat.le_refl _)) hM
set_option maxHeartbeats 4000000 in
theorem fnShareCostOne_walk (A : Option Addr) (n c : Nat) (zs : List Int) (w : World) (hl : n ≤ c) (hr : RdI w .u8 A n zs) (hz : ∀ z ∈ zs, (Lit.int .u8 z).wf = true) :
    Calls Try.prog 9 #[.slice A n c] w fun e w' => e = .returned (.bool true) ∧ Below w.heap.size w w' := by
  have Ha := hide (code8_of hl hr hz)
  clear hr hz
  by_cases hn : 1048576 < n
  · have hn' : (1048576 : Int) < (n : Int) := by omega
    go_enter Try.func9, Try.ntmps9
    go_wp2_with fail
    go_ret
    exact ⟨rfl, Below.refl _ _⟩
  have hn' : (n : Int) ≤ 1048576 := by omega
  go_enter Try.func9, Try.ntmps9
  go_wp2_with fail
  refine (DrawShareCost_any _ A n c _ (Nat.le_refl _) Ha.out).mono ?_
  rintro e w1 ⟨A1, n1, c1, z1, A2, n2, c2, z2, A3, n3, c3, z3, rfl, hn1, hn2, hn3, sA1, oA2, sA3, r1, r2, r3, hb⟩
  have hz1 := hb.size
  try simp at hz1
  have Hb1 := hide hb
  clear hb
  have R_a := hide r1
  have Hl1 := hide (RdI.len r1)
  have R_b := hide r2
  have Hl2 := hide (RdC.len r2)
  have R_c := hide r3
  have Hl3 := hide (RdI.len r3)
  have SA1 := hide sA1
  have OA2 := hide oA2
  have SA3 := hide sA3
  clear r1 r2 r3 sA1 oA2 sA3
  obtain ⟨M, hM⟩ : ∃ M, shareF z1 z2 z3 = M := ⟨_, rfl⟩
  have HM := hide hM
  clear hM
  go_wp2_with fail
  refine (ShareCost_i A1 A2 A3 n1 c1 n2 c2 n3 c3 z1 z2 z3 M _ (by omega) (by omega) (by omega) (by repeat (first | exact R_a.out | exact Rd.of_own O_a.out | (with_reducible refine RdC.al ?_ _) | (with_reducible refine RdC.dr ?_) | (with_reducible refine RdC.drN ?_ _) | (with_reducible refine RdI.al ?_ _) | (with_reducible refine RdI.dr ?_) | (with_reducible refine RdI.drN ?_ _) | (with_reducible refine Rd.alloc ?_ _) | (with_reducible refine Rd.drew ?_) | (with_reducible refine Rd.drewN ?_ _))) (by repeat (first | exact R_b.out | exact Rd.of_own O_b.out | (with_reducible refine RdC.al ?_ _) | (with_reducible refine RdC.dr ?_) | (with_reducible refine RdC.drN ?_ _) | (with_reducible refine RdI.al ?_ _) | (with_reducible refine RdI.dr ?_) | (with_reducible refine RdI.drN ?_ _) | (with_reducible refine Rd.alloc ?_ _) | (with_reducible refine Rd.drew ?_) | (with_reducible refine Rd.drewN ?_ _))) (by repeat (first | exact R_c.out | exact Rd.of_own O_c.out | (with_reducible refine RdC.al ?_ _) | (with_reducible refine RdC.dr ?_) | (with_reducible refine RdC.drN ?_ _) | (with_reducible refine RdI.al ?_ _) | (with_reducible refine RdI.dr ?_) | (with_reducible refine RdI.drN ?_ _) | (with_reducible refine Rd.alloc ?_ _) | (with_reducible refine Rd.drew ?_) | (with_reducible refine Rd.drewN ?_ _))) HM.out).mono ?_
  rintro e w2 ⟨rfl, hb⟩
  have hz2 := hb.size
  try simp at hz2
  replace R_a := hide (show Rd w2 1 A1 n1 (z1.map (Value.int .i64)) from Rd.below (by repeat (first | exact R_a.out | (with_reducible refine Rd.alloc ?_ _) | (with_reducible refine Rd.drew ?_) | (with_reducible refine Rd.drewN ?_ _))) hb (Nat.le_refl _))
  replace R_b := hide (show Rd w2 3 A2 n2 (cellsC z2) from Rd.below (by repeat (first | exact R_b.out | (with_reducible refine Rd.alloc ?_ _) | (with_reducible refine Rd.drew ?_) | (with_reducible refine Rd.drewN ?_ _))) hb (Nat.le_refl _))
  replace R_c := hide (show Rd w2 1 A3 n3 (z3.map (Value.int .i64)) from Rd.below (by repeat (first | exact R_c.out | (with_reducible refine Rd.alloc ?_ _) | (with_reducible refine Rd.drew ?_) | (with_reducible refine Rd.drewN ?_ _))) hb (Nat.le_refl _))
  have Hb2 := hide hb
  clear hb
  go_wp2_with fail
  refine (ShareCost_s A1 A2 A3 n1 c1 n2 c2 n3 c3 z1 z2 z3 M _ (by omega) (by omega) (by omega) (by repeat (first | exact R_a.out | exact Rd.of_own O_a.out | (with_reducible refine RdC.al ?_ _) | (with_reducible refine RdC.dr ?_) | (with_reducible refine RdC.drN ?_ _) | (with_reducible refine RdI.al ?_ _) | (with_reducible refine RdI.dr ?_) | (with_reducible refine RdI.drN ?_ _) | (with_reducible refine Rd.alloc ?_ _) | (with_reducible refine Rd.drew ?_) | (with_reducible refine Rd.drewN ?_ _))) (by repeat (first | exact R_b.out | exact Rd.of_own O_b.out | (with_reducible refine RdC.al ?_ _) | (with_reducible refine RdC.dr ?_) | (with_reducible refine RdC.drN ?_ _) | (with_reducible refine RdI.al ?_ _) | (with_reducible refine RdI.dr ?_) | (with_reducible refine RdI.drN ?_ _) | (with_reducible refine Rd.alloc ?_ _) | (with_reducible refine Rd.drew ?_) | (with_reducible refine Rd.drewN ?_ _))) (by repeat (first | exact R_c.out | exact Rd.of_own O_c.out | (with_reducible refine RdC.al ?_ _) | (with_reducible refine RdC.dr ?_) | (with_reducible refine RdC.drN ?_ _) | (with_reducible refine RdI.al ?_ _) | (with_reducible refine RdI.dr ?_) | (with_reducible refine RdI.drN ?_ _) | (with_reducible refine Rd.alloc ?_ _) | (with_reducible refine Rd.drew ?_) | (with_reducible refine Rd.drewN ?_ _))) HM.out).mono ?_
  rintro e w3 ⟨rfl, hb⟩
  have hz3 := hb.size
  try simp at hz3
  replace R_a := hide (show Rd w3 1 A1 n1 (z1.map (Value.int .i64)) from Rd.below (by repeat (first | exact R_a.out | (with_reducible refine Rd.alloc ?_ _) | (with_reducible refine Rd.drew ?_) | (with_reducible refine Rd.drewN ?_ _))) hb (Nat.le_refl _))
  replace R_b := hide (show Rd w3 3 A2 n2 (cellsC z2) from Rd.below (by repeat (first | exact R_b.out | (with_reducible refine Rd.alloc ?_ _) | (with_reducible refine Rd.drew ?_) | (with_reducible refine Rd.drewN ?_ _))) hb (Nat.le_refl _))
  replace R_c := hide (show Rd w3 1 A3 n3 (z3.map (Value.int .i64)) from Rd.below (by repeat (first | exact R_c.out | (with_reducible refine Rd.alloc ?_ _) | (with_reducible refine Rd.drew ?_) | (with_reducible refine Rd.drewN ?_ _))) hb (Nat.le_refl _))
  have Hb3 := hide hb
  clear hb
  by_cases hneg : M < 0
  · go_wp2_with fail
    refine (ShareCost_s A1 A2 A3 n1 c1 n2 c2 n3 c3 z1 z2 z3 M _ (by omega) (by omega) (by omega) (by repeat (first | exact R_a.out | exact Rd.of_own O_a.out | (with_reducible refine RdC.al ?_ _) | (with_reducible refine RdC.dr ?_) | (with_reducible refine RdC.drN ?_ _) | (with_reducible refine RdI.al ?_ _) | (with_reducible refine RdI.dr ?_) | (with_reducible refine RdI.drN ?_ _) | (with_reducible refine Rd.alloc ?_ _) | (with_reducible refine Rd.drew ?_) | (with_reducible refine Rd.drewN ?_ _))) (by repeat (first | exact R_b.out | exact Rd.of_own O_b.out | (with_reducible refine RdC.al ?_ _) | (with_reducible refine RdC.dr ?_) | (with_reducible refine RdC.drN ?_ _) | (with_reducible refine RdI.al ?_ _) | (with_reducible refine RdI.dr ?_) | (with_reducible refine RdI.drN ?_ _) | (with_reducible refine Rd.alloc ?_ _) | (with_reducible refine Rd.drew ?_) | (with_reducible refine Rd.drewN ?_ _))) (by repeat (first | exact R_c.out | exact Rd.of_own O_c.out | (with_reducible refine RdC.al ?_ _) | (with_reducible refine RdC.dr ?_) | (with_reducible refine RdC.drN ?_ _) | (with_reducible refine RdI.al ?_ _) | (with_reducible refine RdI.dr ?_) | (with_reducible refine RdI.drN ?_ _) | (with_reducible refine Rd.alloc ?_ _) | (with_reducible refine Rd.drew ?_) | (with_reducible refine Rd.drewN ?_ _))) HM.out).mono ?_
    rintro e w4 ⟨rfl, hb⟩
    have hz4 := hb.size
    try simp at hz4
    replace R_a := hide (show Rd w4 1 A1 n1 (z1.map (Value.int .i64)) from Rd.below (by repeat (first | exact R_a.out | (with_reducible refine Rd.alloc ?_ _) | (with_reducible refine Rd.drew ?_) | (with_reducible refine Rd.drewN ?_ _))) hb (Nat.le_refl _))
    replace R_b := hide (show Rd w4 3 A2 n2 (cellsC z2) from Rd.below (by repeat (first | exact R_b.out | (with_reducible refine Rd.alloc ?_ _) | (with_reducible refine Rd.drew ?_) | (with_reducible refine Rd.drewN ?_ _))) hb (Nat.le_refl _))
    replace R_c := hide (show Rd w4 1 A3 n3 (z3.map (Value.int .i64)) from Rd.below (by repeat (first | exact R_c.out | (with_reducible refine Rd.alloc ?_ _) | (with_reducible refine Rd.drew ?_) | (with_reducible refine Rd.drewN ?_ _))) hb (Nat.le_refl _))
    have Hb4 := hide hb
    clear hb
    go_wp2_with fail
    go_ret
    exact ⟨rfl, (by repeat (first | (with_reducible exact Below.refl _ _) | (with_reducible refine Below.drew ?_) | (with_reducible refine below_drewN ?_ _) | ((with_reducible refine Below.alloc ?_ ?_ _); rotate_left; (focus (first | (simp; done) | (simp; omega) | omega))) | ((with_reducible refine Below.setCell ?_ ?_ _); rotate_left; (focus (first | (simp; done) | (simp; omega) | omega))) | ((with_reducible refine Below.trans ?_ (Below.mono Hb.out ?_)); rotate_left; (focus (first | (simp; done) | (simp; omega) | omega))) | ((with_reducible refine Below.trans ?_ (Below.mono Hb16.out ?_)); rotate_left; (focus (first | (simp; done) | (simp; omega) | omega))) | ((with_reducible refine Below.trans ?_ (Below.mono Hb15.out ?_)); rotate_left; (focus (first | (simp; done) | (simp; omega) | omega))) | ((with_reducible refine Below.trans ?_ (Below.mono Hb14.out ?_)); rotate_left; (focus (first | (simp; done) | (simp; omega) | omega))) | ((with_reducible refine Below.trans ?_ (Below.mono Hb13.out ?_)); rotate_left; (focus (first | (simp; done) | (simp; omega) | omega))) | ((with_reducible refine Below.trans ?_ (Below.mono Hb12.out ?_)); rotate_left; (focus (first | (simp; done) | (simp; omega) | omega))) | ((with_reducible refine Below.trans ?_ (Below.mono Hb11.out ?_)); rotate_left; (focus (first | (simp; done) | (simp; omega) | omega))) | ((with_reducible refine Below.trans ?_ (Below.mono Hb10.out ?_)); rotate_left; (focus (first | (simp; done) | (simp; omega) | omega))) | ((with_reducible refine Below.trans ?_ (Below.mono Hb9.out ?_)); rotate_left; (focus (first | (simp; done) | (simp; omega) | omega))) | ((with_reducible refine Below.trans ?_ (Below.mono Hb8.out ?_)); rotate_left; (focus (first | (simp; done) | (simp; omega) | omega))) | ((with_reducible refine Below.trans ?_ (Below.mono Hb7.out ?_)); rotate_left; (focus (first | (simp; done) | (simp; omega) | omega))) | ((with_reducible refine Below.trans ?_ (Below.mono Hb6.out ?_)); rotate_left; (focus (first | (simp; done) | (simp; omega) | omega))) | ((with_reducible refine Below.trans ?_ (Below.mono Hb5.out ?_)); rotate_left; (focus (first | (simp; done) | (simp; omega) | omega))) | ((with_reducible refine Below.trans ?_ (Below.mono Hb4.out ?_)); rotate_left; (focus (first | (simp; done) | (simp; omega) | omega))) | ((with_reducible refine Below.trans ?_ (Below.mono Hb3.out ?_)); rotate_left; (focus (first | (simp; done) | (simp; omega) | omega))) | ((with_reducible refine Below.trans ?_ (Below.mono Hb2.out ?_)); rotate_left; (focus (first | (simp; done) | (simp; omega) | omega))) | ((with_reducible refine Below.trans ?_ (Below.mono Hb1.out ?_)); rotate_left; (focus (first | (simp; done) | (simp; omega) | omega))) | ((with_reducible refine Below.trans ?_ (below_of_only Hg16.out ?_ ?_)); rotate_left; (focus (first | (simp; done) | (simp; omega) | omega)); (intro k hk; cases hk; omega)) | ((with_reducible refine Below.trans ?_ (below_of_only Hg15.out ?_ ?_)); rotate_left; (focus (first | (simp; done) | (simp; omega) | omega)); (intro k hk; cases hk; omega)) | ((with_reducible refine Below.trans ?_ (below_of_only Hg14.out ?_ ?_)); rotate_left; (focus (first | (simp; done) | (simp; omega) | omega)); (intro k hk; cases hk; omega)) | ((with_reducible refine Below.trans ?_ (below_of_only Hg13.out ?_ ?_)); rotate_left; (focus (first | (simp; done) | (simp; omega) | omega)); (intro k hk; cases hk; omega)) | ((with_reducible refine Below.trans ?_ (below_of_only Hg12.out ?_ ?_)); rotate_left; (focus (first | (simp; done) | (simp; omega) | omega)); (intro k hk; cases hk; omega)) | ((with_reducible refine Below.trans ?_ (below_of_only Hg11.out ?_ ?_)); rotate_left; (focus (first | (simp; done) | (simp; omega) | omega)); (intro k hk; cases hk; omega)) | ((with_reducible refine Below.trans ?_ (below_of_only Hg10.out ?_ ?_)); rotate_left; (focus (first | (simp; done) | (simp; omega) | omega)); (intro k hk; cases hk; omega)) | ((with_reducible refine Below.trans ?_ (below_of_only Hg9.out ?_ ?_)); rotate_left; (focus (first | (simp; done) | (simp; omega) | omega)); (intro k hk; cases hk; omega)) | ((with_reducible refine Below.trans ?_ (below_of_only Hg8.out ?_ ?_)); rotate_left; (focus (first | (simp; done) | (simp; omega) | omega)); (intro k hk; cases hk; omega)) | ((with_reducible refine Below.trans ?_ (below_of_only Hg7.out ?_ ?_)); rotate_left; (focus (first | (simp; done) | (simp; omega) | omega)); (intro k hk; cases hk; omega)) | ((with_reducible refine Below.trans ?_ (below_of_only Hg6.out ?_ ?_)); rotate_left; (focus (first | (simp; done) | (simp; omega) | omega)); (intro k hk; cases hk; omega)) | ((with_reducible refine Below.trans ?_ (below_of_only Hg5.out ?_ ?_)); rotate_left; (focus (first | (simp; done) | (simp; omega) | omega)); (intro k hk; cases hk; omega)) | ((with_reducible refine Below.trans ?_ (below_of_only Hg4.out ?_ ?_)); rotate_left; (focus (first | (simp; done) | (simp; omega) | omega)); (intro k hk; cases hk; omega)) | ((with_reducible refine Below.trans ?_ (below_of_only Hg3.out ?_ ?_)); rotate_left; (focus (first | (simp; done) | (simp; omega) | omega)); (intro k hk; cases hk; omega)) | ((with_reducible refine Below.trans ?_ (below_of_only Hg2.out ?_ ?_)); rotate_left; (focus (first | (simp; done) | (simp; omega) | omega)); (intro k hk; cases hk; omega)) | ((with_reducible refine Below.trans ?_ (below_of_only Hg1.out ?_ ?_)); rotate_left; (focus (first | (simp; done) | (simp; omega) | omega)); (intro k hk; cases hk; omega))))⟩
  by_cases h0 : n2 = 0
  · have h0' : ((n2 : Int) == 0) = true := by rw [beq_iff_eq]; omega
    clear h0
    go_wp2_with fail
    refine (ShareCost_s A1 A2 A3 n1 c1 n2 c2 n3 c3 z1 z2 z3 M _ (by omega) (by omega) (by omega) (by repeat (first | exact R_a.out | exact Rd.of_own O_a.out | (with_reducible refine RdC.al ?_ _) | (with_reducible refine RdC.dr ?_) | (with_reducible refine RdC.drN ?_ _) | (with_reducible refine RdI.al ?_ _) | (with_reducible refine RdI.dr ?_) | (with_reducible refine RdI.drN ?_ _) | (with_reducible refine Rd.alloc ?_ _) | (with_reducible refine Rd.drew ?_) | (with_reducible refine Rd.drewN ?_ _))) (by repeat (first | exact R_b.out | exact Rd.of_own O_b.out | (with_reducible refine RdC.al ?_ _) | (with_reducible refine RdC.dr ?_) | (with_reducible refine RdC.drN ?_ _) | (with_reducible refine RdI.al ?_ _) | (with_reducible refine RdI.dr ?_) | (with_reducible refine RdI.drN ?_ _) | (with_reducible refine Rd.alloc ?_ _) | (with_reducible refine Rd.drew ?_) | (with_reducible refine Rd.drewN ?_ _))) (by repeat (first | exact R_c.out | exact Rd.of_own O_c.out | (with_reducible refine RdC.al ?_ _) | (with_reducible refine RdC.dr ?_) | (with_reducible refine RdC.drN ?_ _) | (with_reducible refine RdI.al ?_ _) | (with_reducible refine RdI.dr ?_) | (with_reducible refine RdI.drN ?_ _) | (with_reducible refine Rd.alloc ?_ _) | (with_reducible refine Rd.drew ?_) | (with_reducible refine Rd.drewN ?_ _))) HM.out).mono ?_
    rintro e w4 ⟨rfl, hb⟩
    have hz4 := hb.size
    try simp at hz4
    replace R_a := hide (show Rd w4 1 A1 n1 (z1.map (Value.int .i64)) from Rd.below (by repeat (first | exact R_a.out | (with_reducible refine Rd.alloc ?_ _) | (with_reducible refine Rd.drew ?_) | (with_reducible refine Rd.drewN ?_ _))) hb (Nat.le_refl _))
    replace R_b := hide (show Rd w4 3 A2 n2 (cellsC z2) from Rd.below (by repeat (first | exact R_b.out | (with_reducible refine Rd.alloc ?_ _) | (with_reducible refine Rd.drew ?_) | (with_reducible refine Rd.drewN ?_ _))) hb (Nat.le_refl _))
    replace R_c := hide (show Rd w4 1 A3 n3 (z3.map (Value.int .i64)) from Rd.below (by repeat (first | exact R_c.out | (with_reducible refine Rd.alloc ?_ _) | (with_reducible refine Rd.drew ?_) | (with_reducible refine Rd.drewN ?_ _))) hb (Nat.le_refl _))
    have Hb4 := hide hb
    clear hb
    go_wp2_with fail
    go_ret
    exact ⟨rfl, (by repeat (first | (with_reducible exact Below.refl _ _) | (with_reducible refine Below.drew ?_) | (with_reducible refine below_drewN ?_ _) | ((with_reducible refine Below.alloc ?_ ?_ _); rotate_left; (focus (first | (simp; done) | (simp; omega) | omega))) | ((with_reducible refine Below.setCell ?_ ?_ _); rotate_left; (focus (first | (simp; done) | (simp; omega) | omega))) | ((with_reducible refine Below.trans ?_ (Below.mono Hb.out ?_)); rotate_left; (focus (first | (simp; done) | (simp; omega) | omega))) | ((with_reducible refine Below.trans ?_ (Below.mono Hb16.out ?_)); rotate_left; (focus (first | (simp; done) | (simp; omega) | omega))) | ((with_reducible refine Below.trans ?_ (Below.mono Hb15.out ?_)); rotate_left; (focus (first | (simp; done) | (simp; omega) | omega))) | ((with_reducible refine Below.trans ?_ (Below.mono Hb14.out ?_)); rotate_left; (focus (first | (simp; done) | (simp; omega) | omega))) | ((with_reducible refine Below.trans ?_ (Below.mono Hb13.out ?_)); rotate_left; (focus (first | (simp; done) | (simp; omega) | omega))) | ((with_reducible refine Below.trans ?_ (Below.mono Hb12.out ?_)); rotate_left; (focus (first | (simp; done) | (simp; omega) | omega))) | ((with_reducible refine Below.trans ?_ (Below.mono Hb11.out ?_)); rotate_left; (focus (first | (simp; done) | (simp; omega) | omega))) | ((with_reducible refine Below.trans ?_ (Below.mono Hb10.out ?_)); rotate_left; (focus (first | (simp; done) | (simp; omega) | omega))) | ((with_reducible refine Below.trans ?_ (Below.mono Hb9.out ?_)); rotate_left; (focus (first | (simp; done) | (simp; omega) | omega))) | ((with_reducible refine Below.trans ?_ (Below.mono Hb8.out ?_)); rotate_left; (focus (first | (simp; done) | (simp; omega) | omega))) | ((with_reducible refine Below.trans ?_ (Below.mono Hb7.out ?_)); rotate_left; (focus (first | (simp; done) | (simp; omega) | omega))) | ((with_reducible refine Below.trans ?_ (Below.mono Hb6.out ?_)); rotate_left; (focus (first | (simp; done) | (simp; omega) | omega))) | ((with_reducible refine Below.trans ?_ (Below.mono Hb5.out ?_)); rotate_left; (focus (first | (simp; done) | (simp; omega) | omega))) | ((with_reducible refine Below.trans ?_ (Below.mono Hb4.out ?_)); rotate_left; (focus (first | (simp; done) | (simp; omega) | omega))) | ((with_reducible refine Below.trans ?_ (Below.mono Hb3.out ?_)); rotate_left; (focus (first | (simp; done) | (simp; omega) | omega))) | ((with_reducible refine Below.trans ?_ (Below.mono Hb2.out ?_)); rotate_left; (focus (first | (simp; done) | (simp; omega) | omega))) | ((with_reducible refine Below.trans ?_ (Below.mono Hb1.out ?_)); rotate_left; (focus (first | (simp; done) | (simp; omega) | omega))) | ((with_reducible refine Below.trans ?_ (below_of_only Hg16.out ?_ ?_)); rotate_left; (focus (first | (simp; done) | (simp; omega) | omega)); (intro k hk; cases hk; omega)) | ((with_reducible refine Below.trans ?_ (below_of_only Hg15.out ?_ ?_)); rotate_left; (focus (first | (simp; done) | (simp; omega) | omega)); (intro k hk; cases hk; omega)) | ((with_reducible refine Below.trans ?_ (below_of_only Hg14.out ?_ ?_)); rotate_left; (focus (first | (simp; done) | (simp; omega) | omega)); (intro k hk; cases hk; omega)) | ((with_reducible refine Below.trans ?_ (below_of_only Hg13.out ?_ ?_)); rotate_left; (focus (first | (simp; done) | (simp; omega) | omega)); (intro k hk; cases hk; omega)) | ((with_reducible refine Below.trans ?_ (below_of_only Hg12.out ?_ ?_)); rotate_left; (focus (first | (simp; done) | (simp; omega) | omega)); (intro k hk; cases hk; omega)) | ((with_reducible refine Below.trans ?_ (below_of_only Hg11.out ?_ ?_)); rotate_left; (focus (first | (simp; done) | (simp; omega) | omega)); (intro k hk; cases hk; omega)) | ((with_reducible refine Below.trans ?_ (below_of_only Hg10.out ?_ ?_)); rotate_left; (focus (first | (simp; done) | (simp; omega) | omega)); (intro k hk; cases hk; omega)) | ((with_reducible refine Below.trans ?_ (below_of_only Hg9.out ?_ ?_)); rotate_left; (focus (first | (simp; done) | (simp; omega) | omega)); (intro k hk; cases hk; omega)) | ((with_reducible refine Below.trans ?_ (below_of_only Hg8.out ?_ ?_)); rotate_left; (focus (first | (simp; done) | (simp; omega) | omega)); (intro k hk; cases hk; omega)) | ((with_reducible refine Below.trans ?_ (below_of_only Hg7.out ?_ ?_)); rotate_left; (focus (first | (simp; done) | (simp; omega) | omega)); (intro k hk; cases hk; omega)) | ((with_reducible refine Below.trans ?_ (below_of_only Hg6.out ?_ ?_)); rotate_left; (focus (first | (simp; done) | (simp; omega) | omega)); (intro k hk; cases hk; omega)) | ((with_reducible refine Below.trans ?_ (below_of_only Hg5.out ?_ ?_)); rotate_left; (focus (first | (simp; done) | (simp; omega) | omega)); (intro k hk; cases hk; omega)) | ((with_reducible refine Below.trans ?_ (below_of_only Hg4.out ?_ ?_)); rotate_left; (focus (first | (simp; done) | (simp; omega) | omega)); (intro k hk; cases hk; omega)) | ((with_reducible refine Below.trans ?_ (below_of_only Hg3.out ?_ ?_)); rotate_left; (focus (first | (simp; done) | (simp; omega) | omega)); (intro k hk; cases hk; omega)) | ((with_reducible refine Below.trans ?_ (below_of_only Hg2.out ?_ ?_)); rotate_left; (focus (first | (simp; done) | (simp; omega) | omega)); (intro k hk; cases hk; omega)) | ((with_reducible refine Below.trans ?_ (below_of_only Hg1.out ?_ ?_)); rotate_left; (focus (first | (simp; done) | (simp; omega) | omega)); (intro k hk; cases hk; omega))))⟩
  have hok := shareF_ok (zs := z1) (cs := z2) (ss := z3) (by rw [HM.out]; exact hneg)
  rw [HM.out] at hok
  obtain ⟨hok1, hok2⟩ := hok
  obtain ⟨hv0, hv4, hv5⟩ := vShare_iff.1 hok1
  obtain ⟨hv1, hv2, hv3⟩ := vSh_iff.1 hv0
  obtain ⟨⟨m1, m2⟩, hall⟩ := vFl_iff.1 hv1
  have hn1a : 1 ≤ n1 := by have := Hl1.out; omega
  have hn1b : n1 ≤ 3 := by have := Hl1.out; omega
  have hn2b : n2 ≤ 6 := by have := Hl2.out; omega
  obtain rfl : n3 = n2 := by have := Hl2.out; have := Hl3.out; omega
  have HGRE := hide hok2
  have HVS := hide hok1
  have Hvc := hide hv3
  have Hall := hide hall
  have Hss := hide hv5
  clear hok1 hok2 hv0 hv1 hv2 hv3 hv4 hv5 m1 m2 hall
  have h0' : ((n3 : Int) == 0) = false := by rw [beq_eq_false_iff_ne]; omega
  have Hn0 := hide h0
  obtain ⟨kk, hkk⟩ : ∃ kk, n3 = kk + 1 := ⟨n3 - 1, by omega⟩
  have hkz : ((n3 : Nat) : Int) - 1 = (kk : Int) := by omega
  have hkn : kk ≤ n3 := by omega
  have hkm : kk ≤ 6 := by omega
  obtain ⟨b1, o1, rfl, hnc1, hcm1⟩ := SA1.out
  have hcc : n3 ≤ c2 := by
    rcases OA2.out with ⟨_, h, _⟩ | ⟨_, _, h, _⟩
    · omega
    · exact h
  obtain ⟨b3, o3, rfl, hnc3, hcm3⟩ := SA3.out
  have g1 : (1 : Int) ≤ (c1 : Int) := by omega
  have g2 : (1 : Int) ≤ (n1 : Int) := by omega
  have g3 : (kk : Int) ≤ (c2 : Int) := by omega
  have g4 : (kk : Int) ≤ (c3 : Int) := by omega
  have g5 : (kk : Int) ≤ (n3 : Int) := by omega
  have HKK := hide hkk
  have Hc := hide (And.intro hnc1 (And.intro hcm1 (And.intro hcc (And.intro hnc3 hcm3))))
  have hz6 : (n3 : Int) ≤ 6 := by omega
  obtain ⟨one, hone⟩ : ∃ one, shareF (z1.take 1) z2 (List.replicate n3 0) = one := ⟨_, rfl⟩
  obtain ⟨r1, hr1⟩ : ∃ r1, shareF (z1.take 1) (z2.take kk) ((List.replicate n3 0).take kk) = r1 := ⟨_, rfl⟩
  obtain ⟨r2, hr2⟩ : ∃ r2, shareF z1 (z2.take kk) (z3.take kk) = r2 := ⟨_, rfl⟩
  have le1 : r1 ≤ one := by
    have hv := vShare_one HVS.out
    rw [Hl2.out] at hv
    have := shareF_take hv kk
    rw [hone, hr1] at this
    exact this
  have le2 : r2 ≤ M := by
    have := shareF_take HVS.out kk
    rw [HM.out, hr2] at this
    exact this
  have HONE := hide hone
  have HR1 := hide hr1
  have HR2 := hide hr2
  have RA := hide (show RdI w3 .i64 (some ⟨b1, o1, none⟩) n1 z1 from (by repeat (first | exact R_a.out | exact Rd.of_own O_a.out | (with_reducible refine RdC.al ?_ _) | (with_reducible refine RdC.dr ?_) | (with_reducible refine RdC.drN ?_ _) | (with_reducible refine RdI.al ?_ _) | (with_reducible refine RdI.dr ?_) | (with_reducible refine RdI.drN ?_ _) | (with_reducible refine Rd.alloc ?_ _) | (with_reducible refine Rd.drew ?_) | (with_reducible refine Rd.drewN ?_ _))))
  have RB := hide (show RdC w3 A2 n3 z2 from (by repeat (first | exact R_b.out | exact Rd.of_own O_b.out | (with_reducible refine RdC.al ?_ _) | (with_reducible refine RdC.dr ?_) | (with_reducible refine RdC.drN ?_ _) | (with_reducible refine RdI.al ?_ _) | (with_reducible refine RdI.dr ?_) | (with_reducible refine RdI.drN ?_ _) | (with_reducible refine Rd.alloc ?_ _) | (with_reducible refine Rd.drew ?_) | (with_reducible refine Rd.drewN ?_ _))))
  have RC := hide (show RdI w3 .i64 (some ⟨b3, o3, none⟩) n3 z3 from (by repeat (first | exact R_c.out | exact Rd.of_own O_c.out | (with_reducible refine RdC.al ?_ _) | (with_reducible refine RdC.dr ?_) | (with_reducible refine RdC.drN ?_ _) | (with_reducible refine RdI.al ?_ _) | (with_reducible refine RdI.dr ?_) | (with_reducible refine RdI.drN ?_ _) | (with_reducible refine Rd.alloc ?_ _) | (with_reducible refine Rd.drew ?_) | (with_reducible refine Rd.drewN ?_ _))))
  have HBW := hide (show Below w.heap.size w w3 from (by repeat (first | (with_reducible exact Below.refl _ _) | (with_reducible refine Below.drew ?_) | (with_reducible refine below_drewN ?_ _) | ((with_reducible refine Below.alloc ?_ ?_ _); rotate_left; (focus (first | (simp; done) | (simp; omega) | omega))) | ((with_reducible refine Below.setCell ?_ ?_ _); rotate_left; (focus (first | (simp; done) | (simp; omega) | omega))) | ((with_reducible refine Below.trans ?_ (Below.mono Hb.out ?_)); rotate_left; (focus (first | (simp; done) | (simp; omega) | omega))) | ((with_reducible refine Below.trans ?_ (Below.mono Hb16.out ?_)); rotate_left; (focus (first | (simp; done) | (simp; omega) | omega))) | ((with_reducible refine Below.trans ?_ (Below.mono Hb15.out ?_)); rotate_left; (focus (first | (simp; done) | (simp; omega) | omega))) | ((with_reducible refine Below.trans ?_ (Below.mono Hb14.out ?_)); rotate_left; (focus (first | (simp; done) | (simp; omega) | omega))) | ((with_reducible refine Below.trans ?_ (Below.mono Hb13.out ?_)); rotate_left; (focus (first | (simp; done) | (simp; omega) | omega))) | ((with_reducible refine Below.trans ?_ (Below.mono Hb12.out ?_)); rotate_left; (focus (first | (simp; done) | (simp; omega) | omega))) | ((with_reducible refine Below.trans ?_ (Below.mono Hb11.out ?_)); rotate_left; (focus (first | (simp; done) | (simp; omega) | omega))) | ((with_reducible refine Below.trans ?_ (Below.mono Hb10.out ?_)); rotate_left; (focus (first | (simp; done) | (simp; omega) | omega))) | ((with_reducible refine Below.trans ?_ (Below.mono Hb9.out ?_)); rotate_left; (focus (first | (simp; done) | (simp; omega) | omega))) | ((with_reducible refine Below.trans ?_ (Below.mono Hb8.out ?_)); rotate_left; (focus (first | (simp; done) | (simp; omega) | omega))) | ((with_reducible refine Below.trans ?_ (Below.mono Hb7.out ?_)); rotate_left; (focus (first | (simp; done) | (simp; omega) | omega))) | ((with_reducible refine Below.trans ?_ (Below.mono Hb6.out ?_)); rotate_left; (focus (first | (simp; done) | (simp; omega) | omega))) | ((with_reducible refine Below.trans ?_ (Below.mono Hb5.out ?_)); rotate_left; (focus (first | (simp; done) | (simp; omega) | omega))) | ((with_reducible refine Below.trans ?_ (Below.mono Hb4.out ?_)); rotate_left; (focus (first | (simp; done) | (simp; omega) | omega))) | ((with_reducible refine Below.trans ?_ (Below.mono Hb3.out ?_)); rotate_left; (focus (first | (simp; done) | (simp; omega) | omega))) | ((with_reducible refine Below.trans ?_ (Below.mono Hb2.out ?_)); rotate_left; (focus (first | (simp; done) | (simp; omega) | omega))) | ((with_reducible refine Below.trans ?_ (Below.mono Hb1.out ?_)); rotate_left; (focus (first | (simp; done) | (simp; omega) | omega))) | ((with_reducible refine Below.trans ?_ (below_of_only Hg16.out ?_ ?_)); rotate_left; (focus (first | (simp; done) | (simp; omega) | omega)); (intro k hk; cases hk; omega)) | ((with_reducible refine Below.trans ?_ (below_of_only Hg15.out ?_ ?_)); rotate_left; (focus (first | (simp; done) | (simp; omega) | omega)); (intro k hk; cases hk; omega)) | ((with_reducible refine Below.trans ?_ (below_of_only Hg14.out ?_ ?_)); rotate_left; (focus (first | (simp; done) | (simp; omega) | omega)); (intro k hk; cases hk; omega)) | ((with_reducible refine Below.trans ?_ (below_of_only Hg13.out ?_ ?_)); rotate_left; (focus (first | (simp; done) | (simp; omega) | omega)); (intro k hk; cases hk; omega)) | ((with_reducible refine Below.trans ?_ (below_of_only Hg12.out ?_ ?_)); rotate_left; (focus (first | (simp; done) | (simp; omega) | omega)); (intro k hk; cases hk; omega)) | ((with_reducible refine Below.trans ?_ (below_of_only Hg11.out ?_ ?_)); rotate_left; (focus (first | (simp; done) | (simp; omega) | omega)); (intro k hk; cases hk; omega)) | ((with_reducible refine Below.trans ?_ (below_of_only Hg10.out ?_ ?_)); rotate_left; (focus (first | (simp; done) | (simp; omega) | omega)); (intro k hk; cases hk; omega)) | ((with_reducible refine Below.trans ?_ (below_of_only Hg9.out ?_ ?_)); rotate_left; (focus (first | (simp; done) | (simp; omega) | omega)); (intro k hk; cases hk; omega)) | ((with_reducible refine Below.trans ?_ (below_of_only Hg8.out ?_ ?_)); rotate_left; (focus (first | (simp; done) | (simp; omega) | omega)); (intro k hk; cases hk; omega)) | ((with_reducible refine Below.trans ?_ (below_of_only Hg7.out ?_ ?_)); rotate_left; (focus (first | (simp; done) | (simp; omega) | omega)); (intro k hk; cases hk; omega)) | ((with_reducible refine Below.trans ?_ (below_of_only Hg6.out ?_ ?_)); rotate_left; (focus (first | (simp; done) | (simp; omega) | omega)); (intro k hk; cases hk; omega)) | ((with_reducible refine Below.trans ?_ (below_of_only Hg5.out ?_ ?_)); rotate_left; (focus (first | (simp; done) | (simp; omega) | omega)); (intro k hk; cases hk; omega)) | ((with_reducible refine Below.trans ?_ (below_of_only Hg4.out ?_ ?_)); rotate_left; (focus (first | (simp; done) | (simp; omega) | omega)); (intro k hk; cases hk; omega)) | ((with_reducible refine Below.trans ?_ (below_of_only Hg3.out ?_ ?_)); rotate_left; (focus (first | (simp; done) | (simp; omega) | omega)); (intro k hk; cases hk; omega)) | ((with_reducible refine Below.trans ?_ (below_of_only Hg2.out ?_ ?_)); rotate_left; (focus (first | (simp; done) | (simp; omega) | omega)); (intro k hk; cases hk; omega)) | ((with_reducible refine Below.trans ?_ (below_of_only Hg1.out ?_ ?_)); rotate_left; (focus (first | (simp; done) | (simp; omega) | omega)); (intro k hk; cases hk; omega)))))
  have hzw := HBW.out.size
  obtain ⟨i0, hi0, iz0, iz1, iz2⟩ := info_parts int_info
  clear h0 hkk hnc1 hcm1 hcc hnc3 hcm3 hone hr1 hr2
  go_wp2_with (at_make; refine wpList_make_full _ rfl _ _ 22 rfl w3.heap.size 3 i0 (.int .i64 0) 1 Try.underlying22 hi0 iz0 iz1 _ _ _ _ n3 rfl rfl rfl rfl (by rw [iz2]; omega) (by unfold maxLen; omega) (Nat.le_refl _) ?_; intro w5 hown hgrow)
  have e1 : (madeCells (Value.cells (.int .i64 0)) (n3 * 1)).toList = List.replicate n3 (.int .i64 0) := by rw [Nat.mul_one]; exact toList_madeCells_one _ _
  rw [e1] at hown
  have hb := below_of_only hgrow (Nat.le_refl _) (by intro k hk; cases hk)
  have RZ := hide (show RdI w5 .i64 (some ⟨w3.heap.size, 0, none⟩) n3 (List.replicate n3 0) from by have h := Rd.of_own hown; unfold RdI; rw [List.map_replicate]; exact h)
  have SA := hide (RdI.take (RdI.below RA.out hb (Nat.le_refl _)) 1 hn1a)
  have SA' := hide (RdI.below RA.out hb (Nat.le_refl _))
  have SB := hide (RdC.below RB.out hb (Nat.le_refl _))
  have SC := hide (RdI.below RC.out hb (Nat.le_refl _))
  have hz5 := hb.size
  have HB5 := hide (HBW.out.trans (hb.mono hzw))
  clear hown hgrow e1 hb
  go_wp2_with fail
  refine (ShareCost_q (some ⟨b1, o1, none⟩) A2 (some ⟨w3.heap.size, 0, none⟩) 1 c1 n3 c2 n3 n3 (z1.take 1) z2 (List.replicate n3 0) one w5 _ (Below.refl _ _) (by omega) (by omega) (by omega) SA.out SB.out RZ.out HONE.out).mono ?_
  rintro e w6 ⟨rfl, hb⟩
  have HB6 := hide hb
  have hz6' := hb.size
  clear hb
  have K1 := hide (fun (c1 c2 c3 : Nat) (w' : World) (hb : Below w5.heap.size w5 w') => ShareCost_q (some ⟨b1, o1, none⟩) A2 (some ⟨w3.heap.size, 0, none⟩) 1 c1 kk c2 kk c3 (z1.take 1) (z2.take kk) ((List.replicate n3 0).take kk) r1 w5 w' hb (by omega) (by omega) (by omega) SA.out (RdC.take SB.out kk hkn) (RdI.take RZ.out kk hkn) HR1.out)
  have K2 := hide (fun (c1 c2 c3 : Nat) (w' : World) (hb : Below w5.heap.size w5 w') => ShareCost_q (some ⟨b1, o1, none⟩) A2 (some ⟨b3, o3, none⟩) n1 c1 kk c2 kk c3 z1 (z2.take kk) (z3.take kk) r2 w5 w' hb (by omega) (by omega) (by omega) SA'.out (RdC.take SB.out kk hkn) (RdI.take SC.out kk hkn) HR2.out)
  go_wp2_with fail
  go_region_held3 (fun w' => Below w5.heap.size w5 w') (first | (exact HB6.out) | assumption | (repeat (first | (with_reducible assumption) | (exact HB6.out) | (with_reducible exact Below.refl _ _) | (with_reducible refine below_drewN ?_ _) | (with_reducible refine Below.drew ?_))))
    (first
     | ( go_at_call 20
         first
           | with_reducible refine (K1.out _ _ _ _ (by repeat (first | (with_reducible assumption) | (exact HB6.out) | (with_reducible exact Below.refl _ _) | (with_reducible refine below_drewN ?_ _) | (with_reducible refine Below.drew ?_)))).mono ?_
           | with_reducible refine (K2.out _ _ _ _ (by repeat (first | (with_reducible assumption) | (exact HB6.out) | (with_reducible exact Below.refl _ _) | (with_reducible refine below_drewN ?_ _) | (with_reducible refine Below.drew ?_)))).mono ?_
         rintro e w9 ⟨rfl, hb⟩
         have hb9 : Below w5.heap.size w5 w9 := Below.trans (by repeat (first | (with_reducible assumption) | (exact HB6.out) | (with_reducible exact Below.refl _ _) | (with_reducible refine below_drewN ?_ _) | (with_reducible refine Below.drew ?_))) (hb.mono (by exact Below.size (by repeat (first | (with_reducible assumption) | (exact HB6.out) | (with_reducible exact Below.refl _ _) | (with_reducible refine below_drewN ?_ _) | (with_reducible refine Below.drew ?_)))))
         clear hb ))
  trace_state
  go_wp2_with fail
  go_ret
  exact ⟨rfl, HB5.out.trans (Below.mono (B := w5.heap.size) (by repeat (first | (with_reducible assumption) | (exact HB6.out) | (with_reducible exact Below.refl _ _) | (with_reducible refine below_drewN ?_ _) | (with_reducible refine Below.drew ?_))) (by omega))⟩

end Go.Proofs.Ytmhaclhcllndeaa
