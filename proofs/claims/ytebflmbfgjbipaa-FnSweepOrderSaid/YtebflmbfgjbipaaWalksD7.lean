/-
  The walks of the laws: the next stop is the first one; sweeps visit every floor once.
-/
import Derived.Test.YtebflmbfgjbipaaWalksD4
import Derived.Test.YtebflmbfgjbipaaDrawFl
import Derived.Test.YtebflmbfgjbipaaLaw8
namespace Go.Proofs.Ytebflmbfgjbipaa
open Go.RowKit
set_option linter.unusedSimpArgs false
set_option linter.unusedVariables false


set_option maxHeartbeats 1000000 in
theorem DrawNextStop_any (B : Nat) (A : Option Addr) (n c : Nat) (w : World) (hB : B ≤ w.heap.size) (ha : Code8 w B A n c) :
    Calls Try.prog 28 #[.slice A n c] w (DrawnSw w) := by
  have K := hide (DrawSweepOrder_any B A n c w hB ha)
  clear ha
  go_enter Try.func28, Try.ntmps28
  go_wp2_with fail
  refine K.out.mono ?_
  rintro e w1 ⟨A1, n1, c1, zs, x, y, rfl, h1, h2, h3, h4, h6, h7, h5, hb⟩
  have H := hide (And.intro h5 hb)
  have H2 := hide h2
  clear h5 hb h2
  go_wp2_with fail
  first
    | (refine bodyPost_ret ?_ rfl ⟨A1, n1, c1, zs, x, y, rfl, h1, H2.out, h3, h4, h6, h7, H.out.1, H.out.2⟩
       simp [results, Try.results28, go_sem, *])
set_option maxHeartbeats 2000000 in
theorem fnNextStop_walk (A : Option Addr) (n c : Nat) (zs : List Int) (w : World) (hl : n ≤ c) (hr : RdI w .u8 A n zs) (hz : ∀ z ∈ zs, (Lit.int .u8 z).wf = true) :
    Calls Try.prog 7 #[.slice A n c] w fun e w' => e = .returned (.bool true) ∧ Below w.heap.size w w' := by
  have Ha := hide (code8_of hl hr hz)
  clear hr hz
  by_cases hn : 1048576 < n
  · have hn' : (1048576 : Int) < (n : Int) := by omega
    go_enter Try.func7, Try.ntmps7
    go_wp2_with fail
    go_ret
    exact ⟨rfl, Below.refl _ _⟩
  have hn' : (n : Int) ≤ 1048576 := by omega
  go_enter Try.func7, Try.ntmps7
  go_wp2_with fail
  refine (DrawNextStop_any _ A n c _ (Nat.le_refl _) Ha.out).mono ?_
  rintro e w1 ⟨A1, n1, c1, z1, x, y, rfl, hn1, sA1, x0, x1, y0, y1, r1, hb⟩
  have hz1 := hb.size
  try simp at hz1
  have Hb1 := hide hb
  clear hb
  have R_a := hide r1
  have Hl1 := hide (RdI.len r1)
  have SA := hide (Sl.of_slA sA1)
  clear r1 sA1
  obtain ⟨f, hf⟩ : ∃ f, nextF z1 x y = f := ⟨_, rfl⟩
  obtain ⟨b, hb⟩ : ∃ b, nextB z1 x y = b := ⟨_, rfl⟩
  have Hf := hide hf
  have HB := hide hb
  clear hf hb
  go_wp2_with fail
  refine (NextStop_i A1 n1 c1 z1 x y f b _ (by omega) SA.out (by repeat (first | exact R_a.out | exact Rd.of_own O_a.out | (with_reducible refine RdI.al ?_ _) | (with_reducible refine RdI.dr ?_) | (with_reducible refine RdI.drN ?_ _) | (with_reducible refine Rd.alloc ?_ _) | (with_reducible refine Rd.drew ?_) | (with_reducible refine Rd.drewN ?_ _))) Hf.out HB.out).mono ?_
  rintro e w2 ⟨rfl, hb⟩
  have hz2 := hb.size
  try simp at hz2
  replace R_a := hide (show Rd w2 1 A1 n1 (z1.map (Value.int .i64)) from Rd.below (by repeat (first | exact R_a.out | (with_reducible refine Rd.alloc ?_ _) | (with_reducible refine Rd.drew ?_) | (with_reducible refine Rd.drewN ?_ _))) hb (Nat.le_refl _))
  have Hb2 := hide hb
  clear hb
  go_wp2_with fail
  refine (NextStop_s A1 n1 c1 z1 x y f b _ (by omega) (by repeat (first | exact R_a.out | exact Rd.of_own O_a.out | (with_reducible refine RdI.al ?_ _) | (with_reducible refine RdI.dr ?_) | (with_reducible refine RdI.drN ?_ _) | (with_reducible refine Rd.alloc ?_ _) | (with_reducible refine Rd.drew ?_) | (with_reducible refine Rd.drewN ?_ _))) Hf.out HB.out).mono ?_
  rintro e w3 ⟨rfl, hb⟩
  have hz3 := hb.size
  try simp at hz3
  replace R_a := hide (show Rd w3 1 A1 n1 (z1.map (Value.int .i64)) from Rd.below (by repeat (first | exact R_a.out | (with_reducible refine Rd.alloc ?_ _) | (with_reducible refine Rd.drew ?_) | (with_reducible refine Rd.drewN ?_ _))) hb (Nat.le_refl _))
  have Hb3 := hide hb
  clear hb
  cases b
  · go_wp2_with fail
    go_ret
    exact ⟨rfl, (by repeat (first | (with_reducible exact Below.refl _ _) | (with_reducible refine Below.drew ?_) | (with_reducible refine below_drewN ?_ _) | ((with_reducible refine Below.alloc ?_ ?_ _); rotate_left; (focus (first | (simp; done) | (simp; omega) | omega))) | ((with_reducible refine Below.setCell ?_ ?_ _); rotate_left; (focus (first | (simp; done) | (simp; omega) | omega))) | ((with_reducible refine Below.trans ?_ (Below.mono Hb.out ?_)); rotate_left; (focus (first | (simp; done) | (simp; omega) | omega))) | ((with_reducible refine Below.trans ?_ (Below.mono Hb16.out ?_)); rotate_left; (focus (first | (simp; done) | (simp; omega) | omega))) | ((with_reducible refine Below.trans ?_ (Below.mono Hb15.out ?_)); rotate_left; (focus (first | (simp; done) | (simp; omega) | omega))) | ((with_reducible refine Below.trans ?_ (Below.mono Hb14.out ?_)); rotate_left; (focus (first | (simp; done) | (simp; omega) | omega))) | ((with_reducible refine Below.trans ?_ (Below.mono Hb13.out ?_)); rotate_left; (focus (first | (simp; done) | (simp; omega) | omega))) | ((with_reducible refine Below.trans ?_ (Below.mono Hb12.out ?_)); rotate_left; (focus (first | (simp; done) | (simp; omega) | omega))) | ((with_reducible refine Below.trans ?_ (Below.mono Hb11.out ?_)); rotate_left; (focus (first | (simp; done) | (simp; omega) | omega))) | ((with_reducible refine Below.trans ?_ (Below.mono Hb10.out ?_)); rotate_left; (focus (first | (simp; done) | (simp; omega) | omega))) | ((with_reducible refine Below.trans ?_ (Below.mono Hb9.out ?_)); rotate_left; (focus (first | (simp; done) | (simp; omega) | omega))) | ((with_reducible refine Below.trans ?_ (Below.mono Hb8.out ?_)); rotate_left; (focus (first | (simp; done) | (simp; omega) | omega))) | ((with_reducible refine Below.trans ?_ (Below.mono Hb7.out ?_)); rotate_left; (focus (first | (simp; done) | (simp; omega) | omega))) | ((with_reducible refine Below.trans ?_ (Below.mono Hb6.out ?_)); rotate_left; (focus (first | (simp; done) | (simp; omega) | omega))) | ((with_reducible refine Below.trans ?_ (Below.mono Hb5.out ?_)); rotate_left; (focus (first | (simp; done) | (simp; omega) | omega))) | ((with_reducible refine Below.trans ?_ (Below.mono Hb4.out ?_)); rotate_left; (focus (first | (simp; done) | (simp; omega) | omega))) | ((with_reducible refine Below.trans ?_ (Below.mono Hb3.out ?_)); rotate_left; (focus (first | (simp; done) | (simp; omega) | omega))) | ((with_reducible refine Below.trans ?_ (Below.mono Hb2.out ?_)); rotate_left; (focus (first | (simp; done) | (simp; omega) | omega))) | ((with_reducible refine Below.trans ?_ (Below.mono Hb1.out ?_)); rotate_left; (focus (first | (simp; done) | (simp; omega) | omega))) | ((with_reducible refine Below.trans ?_ (below_of_only Hg16.out ?_ ?_)); rotate_left; (focus (first | (simp; done) | (simp; omega) | omega)); (intro k hk; cases hk; omega)) | ((with_reducible refine Below.trans ?_ (below_of_only Hg15.out ?_ ?_)); rotate_left; (focus (first | (simp; done) | (simp; omega) | omega)); (intro k hk; cases hk; omega)) | ((with_reducible refine Below.trans ?_ (below_of_only Hg14.out ?_ ?_)); rotate_left; (focus (first | (simp; done) | (simp; omega) | omega)); (intro k hk; cases hk; omega)) | ((with_reducible refine Below.trans ?_ (below_of_only Hg13.out ?_ ?_)); rotate_left; (focus (first | (simp; done) | (simp; omega) | omega)); (intro k hk; cases hk; omega)) | ((with_reducible refine Below.trans ?_ (below_of_only Hg12.out ?_ ?_)); rotate_left; (focus (first | (simp; done) | (simp; omega) | omega)); (intro k hk; cases hk; omega)) | ((with_reducible refine Below.trans ?_ (below_of_only Hg11.out ?_ ?_)); rotate_left; (focus (first | (simp; done) | (simp; omega) | omega)); (intro k hk; cases hk; omega)) | ((with_reducible refine Below.trans ?_ (below_of_only Hg10.out ?_ ?_)); rotate_left; (focus (first | (simp; done) | (simp; omega) | omega)); (intro k hk; cases hk; omega)) | ((with_reducible refine Below.trans ?_ (below_of_only Hg9.out ?_ ?_)); rotate_left; (focus (first | (simp; done) | (simp; omega) | omega)); (intro k hk; cases hk; omega)) | ((with_reducible refine Below.trans ?_ (below_of_only Hg8.out ?_ ?_)); rotate_left; (focus (first | (simp; done) | (simp; omega) | omega)); (intro k hk; cases hk; omega)) | ((with_reducible refine Below.trans ?_ (below_of_only Hg7.out ?_ ?_)); rotate_left; (focus (first | (simp; done) | (simp; omega) | omega)); (intro k hk; cases hk; omega)) | ((with_reducible refine Below.trans ?_ (below_of_only Hg6.out ?_ ?_)); rotate_left; (focus (first | (simp; done) | (simp; omega) | omega)); (intro k hk; cases hk; omega)) | ((with_reducible refine Below.trans ?_ (below_of_only Hg5.out ?_ ?_)); rotate_left; (focus (first | (simp; done) | (simp; omega) | omega)); (intro k hk; cases hk; omega)) | ((with_reducible refine Below.trans ?_ (below_of_only Hg4.out ?_ ?_)); rotate_left; (focus (first | (simp; done) | (simp; omega) | omega)); (intro k hk; cases hk; omega)) | ((with_reducible refine Below.trans ?_ (below_of_only Hg3.out ?_ ?_)); rotate_left; (focus (first | (simp; done) | (simp; omega) | omega)); (intro k hk; cases hk; omega)) | ((with_reducible refine Below.trans ?_ (below_of_only Hg2.out ?_ ?_)); rotate_left; (focus (first | (simp; done) | (simp; omega) | omega)); (intro k hk; cases hk; omega)) | ((with_reducible refine Below.trans ?_ (below_of_only Hg1.out ?_ ?_)); rotate_left; (focus (first | (simp; done) | (simp; omega) | omega)); (intro k hk; cases hk; omega))))⟩
  · obtain ⟨r, hr⟩ : ∃ r, sweepK z1 x y = f :: r := by
      have h1 := Hf.out
      have h2 := HB.out
      unfold nextF at h1
      unfold nextB at h2
      cases hs : sweepK z1 x y with
      | nil => rw [hs] at h2; simp at h2
      | cons g r => rw [hs] at h1; exact ⟨r, by rw [← h1]; rfl⟩
    have hv : vSw z1 x y = true := by
      cases h : vSw z1 x y with
      | true => rfl
      | false => rw [sweepK_neg h] at hr; cases hr
    have hfi := sweep_first hv hr
    have hfr : 0 ≤ f ∧ f ≤ 15 := sweepK_mem (by rw [hr]; simp)
    have hxr := (vSw_iff.1 hv).2.2.1
    have hzr := hide (vSw_iff.1 hv).2.1
    obtain ⟨f0, f1⟩ := hfr
    obtain ⟨x2, x3⟩ := hxr
    have HFI := hide hfi
    clear hr hv hfi
    have RA := hide (show RdI w3 .i64 A1 n1 z1 from (by repeat (first | exact R_a.out | exact Rd.of_own O_a.out | (with_reducible refine RdI.al ?_ _) | (with_reducible refine RdI.dr ?_) | (with_reducible refine RdI.drN ?_ _) | (with_reducible refine Rd.alloc ?_ _) | (with_reducible refine Rd.drew ?_) | (with_reducible refine Rd.drewN ?_ _))))
    have HBB := hide (show Below w.heap.size w w3 from (by repeat (first | (with_reducible exact Below.refl _ _) | (with_reducible refine Below.drew ?_) | (with_reducible refine below_drewN ?_ _) | ((with_reducible refine Below.alloc ?_ ?_ _); rotate_left; (focus (first | (simp; done) | (simp; omega) | omega))) | ((with_reducible refine Below.setCell ?_ ?_ _); rotate_left; (focus (first | (simp; done) | (simp; omega) | omega))) | ((with_reducible refine Below.trans ?_ (Below.mono Hb.out ?_)); rotate_left; (focus (first | (simp; done) | (simp; omega) | omega))) | ((with_reducible refine Below.trans ?_ (Below.mono Hb16.out ?_)); rotate_left; (focus (first | (simp; done) | (simp; omega) | omega))) | ((with_reducible refine Below.trans ?_ (Below.mono Hb15.out ?_)); rotate_left; (focus (first | (simp; done) | (simp; omega) | omega))) | ((with_reducible refine Below.trans ?_ (Below.mono Hb14.out ?_)); rotate_left; (focus (first | (simp; done) | (simp; omega) | omega))) | ((with_reducible refine Below.trans ?_ (Below.mono Hb13.out ?_)); rotate_left; (focus (first | (simp; done) | (simp; omega) | omega))) | ((with_reducible refine Below.trans ?_ (Below.mono Hb12.out ?_)); rotate_left; (focus (first | (simp; done) | (simp; omega) | omega))) | ((with_reducible refine Below.trans ?_ (Below.mono Hb11.out ?_)); rotate_left; (focus (first | (simp; done) | (simp; omega) | omega))) | ((with_reducible refine Below.trans ?_ (Below.mono Hb10.out ?_)); rotate_left; (focus (first | (simp; done) | (simp; omega) | omega))) | ((with_reducible refine Below.trans ?_ (Below.mono Hb9.out ?_)); rotate_left; (focus (first | (simp; done) | (simp; omega) | omega))) | ((with_reducible refine Below.trans ?_ (Below.mono Hb8.out ?_)); rotate_left; (focus (first | (simp; done) | (simp; omega) | omega))) | ((with_reducible refine Below.trans ?_ (Below.mono Hb7.out ?_)); rotate_left; (focus (first | (simp; done) | (simp; omega) | omega))) | ((with_reducible refine Below.trans ?_ (Below.mono Hb6.out ?_)); rotate_left; (focus (first | (simp; done) | (simp; omega) | omega))) | ((with_reducible refine Below.trans ?_ (Below.mono Hb5.out ?_)); rotate_left; (focus (first | (simp; done) | (simp; omega) | omega))) | ((with_reducible refine Below.trans ?_ (Below.mono Hb4.out ?_)); rotate_left; (focus (first | (simp; done) | (simp; omega) | omega))) | ((with_reducible refine Below.trans ?_ (Below.mono Hb3.out ?_)); rotate_left; (focus (first | (simp; done) | (simp; omega) | omega))) | ((with_reducible refine Below.trans ?_ (Below.mono Hb2.out ?_)); rotate_left; (focus (first | (simp; done) | (simp; omega) | omega))) | ((with_reducible refine Below.trans ?_ (Below.mono Hb1.out ?_)); rotate_left; (focus (first | (simp; done) | (simp; omega) | omega))) | ((with_reducible refine Below.trans ?_ (below_of_only Hg16.out ?_ ?_)); rotate_left; (focus (first | (simp; done) | (simp; omega) | omega)); (intro k hk; cases hk; omega)) | ((with_reducible refine Below.trans ?_ (below_of_only Hg15.out ?_ ?_)); rotate_left; (focus (first | (simp; done) | (simp; omega) | omega)); (intro k hk; cases hk; omega)) | ((with_reducible refine Below.trans ?_ (below_of_only Hg14.out ?_ ?_)); rotate_left; (focus (first | (simp; done) | (simp; omega) | omega)); (intro k hk; cases hk; omega)) | ((with_reducible refine Below.trans ?_ (below_of_only Hg13.out ?_ ?_)); rotate_left; (focus (first | (simp; done) | (simp; omega) | omega)); (intro k hk; cases hk; omega)) | ((with_reducible refine Below.trans ?_ (below_of_only Hg12.out ?_ ?_)); rotate_left; (focus (first | (simp; done) | (simp; omega) | omega)); (intro k hk; cases hk; omega)) | ((with_reducible refine Below.trans ?_ (below_of_only Hg11.out ?_ ?_)); rotate_left; (focus (first | (simp; done) | (simp; omega) | omega)); (intro k hk; cases hk; omega)) | ((with_reducible refine Below.trans ?_ (below_of_only Hg10.out ?_ ?_)); rotate_left; (focus (first | (simp; done) | (simp; omega) | omega)); (intro k hk; cases hk; omega)) | ((with_reducible refine Below.trans ?_ (below_of_only Hg9.out ?_ ?_)); rotate_left; (focus (first | (simp; done) | (simp; omega) | omega)); (intro k hk; cases hk; omega)) | ((with_reducible refine Below.trans ?_ (below_of_only Hg8.out ?_ ?_)); rotate_left; (focus (first | (simp; done) | (simp; omega) | omega)); (intro k hk; cases hk; omega)) | ((with_reducible refine Below.trans ?_ (below_of_only Hg7.out ?_ ?_)); rotate_left; (focus (first | (simp; done) | (simp; omega) | omega)); (intro k hk; cases hk; omega)) | ((with_reducible refine Below.trans ?_ (below_of_only Hg6.out ?_ ?_)); rotate_left; (focus (first | (simp; done) | (simp; omega) | omega)); (intro k hk; cases hk; omega)) | ((with_reducible refine Below.trans ?_ (below_of_only Hg5.out ?_ ?_)); rotate_left; (focus (first | (simp; done) | (simp; omega) | omega)); (intro k hk; cases hk; omega)) | ((with_reducible refine Below.trans ?_ (below_of_only Hg4.out ?_ ?_)); rotate_left; (focus (first | (simp; done) | (simp; omega) | omega)); (intro k hk; cases hk; omega)) | ((with_reducible refine Below.trans ?_ (below_of_only Hg3.out ?_ ?_)); rotate_left; (focus (first | (simp; done) | (simp; omega) | omega)); (intro k hk; cases hk; omega)) | ((with_reducible refine Below.trans ?_ (below_of_only Hg2.out ?_ ?_)); rotate_left; (focus (first | (simp; done) | (simp; omega) | omega)); (intro k hk; cases hk; omega)) | ((with_reducible refine Below.trans ?_ (below_of_only Hg1.out ?_ ?_)); rotate_left; (focus (first | (simp; done) | (simp; omega) | omega)); (intro k hk; cases hk; omega)))))
    go_wp2_with fail
    go_loopw [10] (fun i wr => ∃ j : Nat, j ≤ n1 ∧ i = .int .i64 j ∧ ∃ q, wr = w3.drewN q) (fun i _ => n1 - (intOf i).toNat)
    case atStart => exact ⟨0, Nat.zero_le _, rfl, 0, rfl⟩
    case round =>
      obtain ⟨j, hj, rfl, q, rfl⟩ := hrel
      by_cases hjl : j < n1
      · obtain ⟨b1, o1, u, hA1, hb1, hu, e1⟩ := RdI.at_ RA.out hjl
        have hum := List.mem_of_getElem? hu
        have hu2 := HFI.out.2 u hum
        obtain ⟨u0, u15⟩ := hzr.out u hum
        have Hu2 := hide hu2
        subst hA1
        have hjl' : (j : Int) < (n1 : Int) := by omega
        clear hu hum hu2
        by_cases g1 : min x f ≤ u
        · have g1' : decide (min x f ≤ u) = true := decide_eq_true g1
          by_cases g2 : u ≤ max x f
          · have g2' : decide (u ≤ max x f) = true := decide_eq_true g2
            have huf := Hu2.out g1 g2
            subst huf
            go_wp2_with fail
            go_roundw
            case rel => exact ⟨j + 1, by omega, by go_num, _, rfl⟩
            case measure => simp [intOf]; omega
          · have g2' : decide (u ≤ max x f) = false := decide_eq_false g2
            go_wp2_with fail
            go_roundw
            case rel => exact ⟨j + 1, by omega, by go_num, _, rfl⟩
            case measure => simp [intOf]; omega
        · have g1' : decide (min x f ≤ u) = false := decide_eq_false g1
          go_wp2_with fail
          go_roundw
          case rel => exact ⟨j + 1, by omega, by go_num, _, rfl⟩
          case measure => simp [intOf]; omega
      · have KI := hide (show Calls Try.prog 29 #[.slice A1 n1 c1, .int .i64 f] (w3.drewN q) (fun e w' => e = .returned (.bool true) ∧ w3.drewN q = w') from by
          have h := isIn_l A1 n1 c1 z1 f (w3.drewN q) (by omega) (Rd.drewN RA.out q)
          rw [show isB z1 f = true from List.contains_iff_mem.2 HFI.out.1] at h
          exact h)
        go_wp2_with fail
        refine KI.out.mono ?_
        rintro e w' ⟨rfl, rfl⟩
        go_wp2_with fail
        go_ret
        exact ⟨rfl, below_drewN HBB.out _⟩

set_option maxHeartbeats 1000000 in
theorem isPart_true (A B : Option Addr) (n c m d : Nat) (zs ms : List Int) (w : World) (hn : n ≤ 1048576) (hm : m ≤ 1048576) (ha : RdI w .i64 A n zs) (hb : RdI w .i64 B m ms) (hs : ∀ u ∈ zs, u ∈ ms) :
    Calls Try.prog 32 #[.slice A n c, .slice B m d] w fun e w' => e = .returned (.bool true) ∧ w = w' := by
  have Ha := hide ha
  have Hb := hide hb
  have Hs := hide hs
  clear ha hb hs
  go_enter Try.func32, Try.ntmps32
  go_wp2_with fail
  go_loop [5] (fun i => ∃ k : Nat, k ≤ n ∧ i = .int .i64 k) (fun i => n - (intOf i).toNat)
  case atStart => exact ⟨0, Nat.zero_le _, rfl⟩
  case round =>
    obtain ⟨k, hk, rfl⟩ := hrel
    by_cases hlt : k < n
    · obtain ⟨b1, o1, z, rfl, _, hz, hc1⟩ := RdI.at_ Ha.out hlt
      have hb2 := hide (show isB ms z = true from List.contains_iff_mem.2 (Hs.out z (List.mem_of_getElem? hz)))
      have hlt' : (k : Int) < (n : Int) := by omega
      clear hz
      go_wp2_with fail
      refine (isIn_l B m d ms z _ hm Hb.out).mono ?_
      rintro e w' ⟨rfl, rfl⟩
      rw [hb2.out]
      go_wp2_with fail
      go_round
      case rel => exact ⟨k + 1, by omega, by go_num⟩
      case measure => simp [intOf]; omega
    · go_wp2_with fail
      go_ret
      exact ⟨rfl, rfl⟩
set_option maxHeartbeats 2000000 in
theorem fnSweepOrder_walk (A : Option Addr) (n c : Nat) (zs : List Int) (w : World) (hl : n ≤ c) (hr : RdI w .u8 A n zs) (hz : ∀ z ∈ zs, (Lit.int .u8 z).wf = true) :
    Calls Try.prog 8 #[.slice A n c] w fun e w' => e = .returned (.bool true) ∧ Below w.heap.size w w' := by
  have Ha := hide (code8_of hl hr hz)
  clear hr hz
  by_cases hn : 1048576 < n
  · have hn' : (1048576 : Int) < (n : Int) := by omega
    go_enter Try.func8, Try.ntmps8
    go_wp2_with fail
    go_ret
    exact ⟨rfl, Below.refl _ _⟩
  have hn' : (n : Int) ≤ 1048576 := by omega
  go_enter Try.func8, Try.ntmps8
  go_wp2_with fail
  refine (DrawSweepOrder_any _ A n c _ (Nat.le_refl _) Ha.out).mono ?_
  rintro e w1 ⟨A1, n1, c1, z1, x, y, rfl, hn1, sA1, x0, x1, y0, y1, r1, hb⟩
  have hz1 := hb.size
  try simp at hz1
  have Hb1 := hide hb
  clear hb
  have R_a := hide r1
  have Hl1 := hide (RdI.len r1)
  have SA := hide (Sl.of_slA sA1)
  clear r1 sA1
  go_wp2_with fail
  refine (SweepOrder_i A1 n1 c1 z1 x y _ (by omega) SA.out (by repeat (first | exact R_a.out | exact Rd.of_own O_a.out | (with_reducible refine RdI.al ?_ _) | (with_reducible refine RdI.dr ?_) | (with_reducible refine RdI.drN ?_ _) | (with_reducible refine Rd.alloc ?_ _) | (with_reducible refine Rd.drew ?_) | (with_reducible refine Rd.drewN ?_ _)))).mono ?_
  rintro e w2 ⟨A_g, n_g, c_g, rfl, ho, hb⟩
  have hz2 := hb.size
  try simp at hz2
  replace R_a := hide (show Rd w2 1 A1 n1 (z1.map (Value.int .i64)) from Rd.below (by repeat (first | exact R_a.out | (with_reducible refine Rd.alloc ?_ _) | (with_reducible refine Rd.drew ?_) | (with_reducible refine Rd.drewN ?_ _))) hb (Nat.le_refl _))
  have Hb2 := hide hb
  clear hb
  have LU_g := hide (fun k h => (⟨(own_lt_old ho k h).1, by have := (own_lt_old ho k h).2; (first | omega | (simp at this; omega))⟩ : k < w2.heap.size ∧ w1.heap.size ≤ k))
  have O_g := hide (show World.ownsRow w2 w.heap.size 3 1 (.slice A_g n_g c_g) n_g ((sweepK z1 x y).map (Value.int .i64)) from own_base ho (by first | omega | (simp; omega)))
  clear ho
  have N_g : n_g ≤ 12 := by have h := RdLEN_int (Rd.of_own O_g.out); have := sweepK_len z1 x y; omega
  go_wp2_with fail
  refine (SweepOrder_s A1 n1 c1 z1 x y _ (by omega) (by repeat (first | exact R_a.out | exact Rd.of_own O_a.out | (with_reducible refine RdI.al ?_ _) | (with_reducible refine RdI.dr ?_) | (with_reducible refine RdI.drN ?_ _) | (with_reducible refine Rd.alloc ?_ _) | (with_reducible refine Rd.drew ?_) | (with_reducible refine Rd.drewN ?_ _)))).mono ?_
  rintro e w3 ⟨A_W, n_W, c_W, rfl, ho, hb⟩
  have hz3 := hb.size
  try simp at hz3
  replace R_a := hide (show Rd w3 1 A1 n1 (z1.map (Value.int .i64)) from Rd.below (by repeat (first | exact R_a.out | (with_reducible refine Rd.alloc ?_ _) | (with_reducible refine Rd.drew ?_) | (with_reducible refine Rd.drewN ?_ _))) hb (Nat.le_refl _))
  replace O_g := hide (show World.ownsRow w3 w.heap.size 3 1 (.slice A_g n_g c_g) n_g ((sweepK z1 x y).map (Value.int .i64)) from own_below (by repeat (first | exact O_g.out | (with_reducible refine World.ownsRow.alloc ?_ _) | (with_reducible refine World.ownsRow.drew ?_) | (with_reducible refine own_drewN ?_ _))) hb (Nat.le_refl _))
  have Hb3 := hide hb
  clear hb
  have LU_W := hide (fun k h => (⟨(own_lt_old ho k h).1, by have := (own_lt_old ho k h).2; (first | omega | (simp at this; omega))⟩ : k < w3.heap.size ∧ w2.heap.size ≤ k))
  have O_W := hide (show World.ownsRow w3 w.heap.size 3 1 (.slice A_W n_W c_W) n_W ((sweepK z1 x y).map (Value.int .i64)) from own_base ho (by first | omega | (simp; omega)))
  clear ho
  have N_W : n_W ≤ 12 := by have h := RdLEN_int (Rd.of_own O_W.out); have := sweepK_len z1 x y; omega
  go_wp2_with fail
  refine (equalInts_same A_g A_W n_g c_g n_W c_W (sweepK z1 x y) _ (by omega) (by repeat (first | exact Rd.of_own O_g.out | (with_reducible refine RdI.al ?_ _) | (with_reducible refine RdI.dr ?_) | (with_reducible refine RdI.drN ?_ _) | (with_reducible refine Rd.alloc ?_ _) | (with_reducible refine Rd.drew ?_) | (with_reducible refine Rd.drewN ?_ _))) (by repeat (first | exact Rd.of_own O_W.out | (with_reducible refine RdI.al ?_ _) | (with_reducible refine RdI.dr ?_) | (with_reducible refine RdI.drN ?_ _) | (with_reducible refine Rd.alloc ?_ _) | (with_reducible refine Rd.drew ?_) | (with_reducible refine Rd.drewN ?_ _)))).mono ?_
  rintro e wq1 ⟨rfl, q1, rfl⟩
  clear O_W LU_W
  have hlg := hide (RdLEN_int (Rd.of_own O_g.out))
  by_cases h0 : n_g = 0
  · have h0' : ((n_g : Int) == 0) = true := by rw [beq_iff_eq]; omega
    clear h0
    go_wp2_with fail
    refine (SweepOrder_s A1 n1 c1 z1 x y _ (by omega) (by repeat (first | exact R_a.out | exact Rd.of_own O_a.out | (with_reducible refine RdI.al ?_ _) | (with_reducible refine RdI.dr ?_) | (with_reducible refine RdI.drN ?_ _) | (with_reducible refine Rd.alloc ?_ _) | (with_reducible refine Rd.drew ?_) | (with_reducible refine Rd.drewN ?_ _)))).mono ?_
    rintro e w4 ⟨A_V, n_V, c_V, rfl, ho, hb⟩
    have hz4 := hb.size
    try simp at hz4
    replace R_a := hide (show Rd w4 1 A1 n1 (z1.map (Value.int .i64)) from Rd.below (by repeat (first | exact R_a.out | (with_reducible refine Rd.alloc ?_ _) | (with_reducible refine Rd.drew ?_) | (with_reducible refine Rd.drewN ?_ _))) hb (Nat.le_refl _))
    replace O_g := hide (show World.ownsRow w4 w.heap.size 3 1 (.slice A_g n_g c_g) n_g ((sweepK z1 x y).map (Value.int .i64)) from own_below (by repeat (first | exact O_g.out | (with_reducible refine World.ownsRow.alloc ?_ _) | (with_reducible refine World.ownsRow.drew ?_) | (with_reducible refine own_drewN ?_ _))) hb (Nat.le_refl _))
    have Hb4 := hide hb
    clear hb
    have LU_V := hide (fun k h => (⟨(own_lt_old ho k h).1, by have := (own_lt_old ho k h).2; (first | omega | (simp at this; omega))⟩ : k < w4.heap.size ∧ w3.heap.size ≤ k))
    have O_V := hide (show World.ownsRow w4 w.heap.size 3 1 (.slice A_V n_V c_V) n_V ((sweepK z1 x y).map (Value.int .i64)) from own_base ho (by first | omega | (simp; omega)))
    clear ho
    have N_V : n_V ≤ 12 := by have h := RdLEN_int (Rd.of_own O_V.out); have := sweepK_len z1 x y; omega
    go_wp2_with fail
    refine (equalInts_same A_g A_V n_g c_g n_V c_V (sweepK z1 x y) _ (by omega) (by repeat (first | exact Rd.of_own O_g.out | (with_reducible refine RdI.al ?_ _) | (with_reducible refine RdI.dr ?_) | (with_reducible refine RdI.drN ?_ _) | (with_reducible refine Rd.alloc ?_ _) | (with_reducible refine Rd.drew ?_) | (with_reducible refine Rd.drewN ?_ _))) (by repeat (first | exact Rd.of_own O_V.out | (with_reducible refine RdI.al ?_ _) | (with_reducible refine RdI.dr ?_) | (with_reducible refine RdI.drN ?_ _) | (with_reducible refine Rd.alloc ?_ _) | (with_reducible refine Rd.drew ?_) | (with_reducible refine Rd.drewN ?_ _)))).mono ?_
    rintro e wq2 ⟨rfl, q2, rfl⟩
    go_wp2_with fail
    go_ret
    exact ⟨rfl, (by repeat (first | (with_reducible exact Below.refl _ _) | (with_reducible refine Below.drew ?_) | (with_reducible refine below_drewN ?_ _) | ((with_reducible refine Below.alloc ?_ ?_ _); rotate_left; (focus (first | (simp; done) | (simp; omega) | omega))) | ((with_reducible refine Below.setCell ?_ ?_ _); rotate_left; (focus (first | (simp; done) | (simp; omega) | omega))) | ((with_reducible refine Below.trans ?_ (Below.mono Hb.out ?_)); rotate_left; (focus (first | (simp; done) | (simp; omega) | omega))) | ((with_reducible refine Below.trans ?_ (Below.mono Hb16.out ?_)); rotate_left; (focus (first | (simp; done) | (simp; omega) | omega))) | ((with_reducible refine Below.trans ?_ (Below.mono Hb15.out ?_)); rotate_left; (focus (first | (simp; done) | (simp; omega) | omega))) | ((with_reducible refine Below.trans ?_ (Below.mono Hb14.out ?_)); rotate_left; (focus (first | (simp; done) | (simp; omega) | omega))) | ((with_reducible refine Below.trans ?_ (Below.mono Hb13.out ?_)); rotate_left; (focus (first | (simp; done) | (simp; omega) | omega))) | ((with_reducible refine Below.trans ?_ (Below.mono Hb12.out ?_)); rotate_left; (focus (first | (simp; done) | (simp; omega) | omega))) | ((with_reducible refine Below.trans ?_ (Below.mono Hb11.out ?_)); rotate_left; (focus (first | (simp; done) | (simp; omega) | omega))) | ((with_reducible refine Below.trans ?_ (Below.mono Hb10.out ?_)); rotate_left; (focus (first | (simp; done) | (simp; omega) | omega))) | ((with_reducible refine Below.trans ?_ (Below.mono Hb9.out ?_)); rotate_left; (focus (first | (simp; done) | (simp; omega) | omega))) | ((with_reducible refine Below.trans ?_ (Below.mono Hb8.out ?_)); rotate_left; (focus (first | (simp; done) | (simp; omega) | omega))) | ((with_reducible refine Below.trans ?_ (Below.mono Hb7.out ?_)); rotate_left; (focus (first | (simp; done) | (simp; omega) | omega))) | ((with_reducible refine Below.trans ?_ (Below.mono Hb6.out ?_)); rotate_left; (focus (first | (simp; done) | (simp; omega) | omega))) | ((with_reducible refine Below.trans ?_ (Below.mono Hb5.out ?_)); rotate_left; (focus (first | (simp; done) | (simp; omega) | omega))) | ((with_reducible refine Below.trans ?_ (Below.mono Hb4.out ?_)); rotate_left; (focus (first | (simp; done) | (simp; omega) | omega))) | ((with_reducible refine Below.trans ?_ (Below.mono Hb3.out ?_)); rotate_left; (focus (first | (simp; done) | (simp; omega) | omega))) | ((with_reducible refine Below.trans ?_ (Below.mono Hb2.out ?_)); rotate_left; (focus (first | (simp; done) | (simp; omega) | omega))) | ((with_reducible refine Below.trans ?_ (Below.mono Hb1.out ?_)); rotate_left; (focus (first | (simp; done) | (simp; omega) | omega))) | ((with_reducible refine Below.trans ?_ (below_of_only Hg16.out ?_ ?_)); rotate_left; (focus (first | (simp; done) | (simp; omega) | omega)); (intro k hk; cases hk; omega)) | ((with_reducible refine Below.trans ?_ (below_of_only Hg15.out ?_ ?_)); rotate_left; (focus (first | (simp; done) | (simp; omega) | omega)); (intro k hk; cases hk; omega)) | ((with_reducible refine Below.trans ?_ (below_of_only Hg14.out ?_ ?_)); rotate_left; (focus (first | (simp; done) | (simp; omega) | omega)); (intro k hk; cases hk; omega)) | ((with_reducible refine Below.trans ?_ (below_of_only Hg13.out ?_ ?_)); rotate_left; (focus (first | (simp; done) | (simp; omega) | omega)); (intro k hk; cases hk; omega)) | ((with_reducible refine Below.trans ?_ (below_of_only Hg12.out ?_ ?_)); rotate_left; (focus (first | (simp; done) | (simp; omega) | omega)); (intro k hk; cases hk; omega)) | ((with_reducible refine Below.trans ?_ (below_of_only Hg11.out ?_ ?_)); rotate_left; (focus (first | (simp; done) | (simp; omega) | omega)); (intro k hk; cases hk; omega)) | ((with_reducible refine Below.trans ?_ (below_of_only Hg10.out ?_ ?_)); rotate_left; (focus (first | (simp; done) | (simp; omega) | omega)); (intro k hk; cases hk; omega)) | ((with_reducible refine Below.trans ?_ (below_of_only Hg9.out ?_ ?_)); rotate_left; (focus (first | (simp; done) | (simp; omega) | omega)); (intro k hk; cases hk; omega)) | ((with_reducible refine Below.trans ?_ (below_of_only Hg8.out ?_ ?_)); rotate_left; (focus (first | (simp; done) | (simp; omega) | omega)); (intro k hk; cases hk; omega)) | ((with_reducible refine Below.trans ?_ (below_of_only Hg7.out ?_ ?_)); rotate_left; (focus (first | (simp; done) | (simp; omega) | omega)); (intro k hk; cases hk; omega)) | ((with_reducible refine Below.trans ?_ (below_of_only Hg6.out ?_ ?_)); rotate_left; (focus (first | (simp; done) | (simp; omega) | omega)); (intro k hk; cases hk; omega)) | ((with_reducible refine Below.trans ?_ (below_of_only Hg5.out ?_ ?_)); rotate_left; (focus (first | (simp; done) | (simp; omega) | omega)); (intro k hk; cases hk; omega)) | ((with_reducible refine Below.trans ?_ (below_of_only Hg4.out ?_ ?_)); rotate_left; (focus (first | (simp; done) | (simp; omega) | omega)); (intro k hk; cases hk; omega)) | ((with_reducible refine Below.trans ?_ (below_of_only Hg3.out ?_ ?_)); rotate_left; (focus (first | (simp; done) | (simp; omega) | omega)); (intro k hk; cases hk; omega)) | ((with_reducible refine Below.trans ?_ (below_of_only Hg2.out ?_ ?_)); rotate_left; (focus (first | (simp; done) | (simp; omega) | omega)); (intro k hk; cases hk; omega)) | ((with_reducible refine Below.trans ?_ (below_of_only Hg1.out ?_ ?_)); rotate_left; (focus (first | (simp; done) | (simp; omega) | omega)); (intro k hk; cases hk; omega))))⟩
  have h0' : ((n_g : Int) == 0) = false := by rw [beq_eq_false_iff_ne]; omega
  have hvs : vSw z1 x y = true := by
    cases h : vSw z1 x y with
    | true => rfl
    | false =>
      have h2 := hlg.out
      rw [sweepK_neg h] at h2
      simp at h2; omega
  have hw := vSw_iff.1 hvs
  obtain ⟨w1a, w1b, ⟨x2, x3⟩, w1d⟩ := hw
  have W1b := hide w1b
  have W1d := hide w1d
  have HV := hide hvs
  clear hvs w1b w1d
  have hstep := hide (fun (k : Nat) (p u : Int) => sweep_step (zs := z1) (a := x) (h := y) (k := k) (p := p) (x := u) HV.out)
  have hsub1 := hide (show ∀ u ∈ z1, u ∈ sweepK z1 x y from fun u hu => by
    rw [sweepK_pos HV.out]
    exact (mem_sweepL ⟨x2, x3⟩ W1d.out).2 ⟨W1b.out u hu, hu⟩)
  have hsub2 := hide (show ∀ u ∈ sweepK z1 x y, u ∈ z1 from fun u hu => by
    rw [sweepK_pos HV.out] at hu
    exact ((mem_sweepL ⟨x2, x3⟩ W1d.out).1 hu).2)
  obtain ⟨M, hM⟩ : ∃ M, (sw1 z1 x y).length = M := ⟨_, rfl⟩
  rw [hM] at hstep
  clear hM
  have RA := hide (show RdI (w3.drewN q1) .i64 A1 n1 z1 from Rd.drewN (by repeat (first | exact R_a.out | exact Rd.of_own O_a.out | (with_reducible refine RdI.al ?_ _) | (with_reducible refine RdI.dr ?_) | (with_reducible refine RdI.drN ?_ _) | (with_reducible refine Rd.alloc ?_ _) | (with_reducible refine Rd.drew ?_) | (with_reducible refine Rd.drewN ?_ _))) q1)
  have RG := hide (show RdI (w3.drewN q1) .i64 A_g n_g (sweepK z1 x y) from Rd.drewN (Rd.of_own O_g.out) q1)
  have HBB := hide (show Below w.heap.size w (w3.drewN q1) from (by repeat (first | (with_reducible exact Below.refl _ _) | (with_reducible refine Below.drew ?_) | (with_reducible refine below_drewN ?_ _) | ((with_reducible refine Below.alloc ?_ ?_ _); rotate_left; (focus (first | (simp; done) | (simp; omega) | omega))) | ((with_reducible refine Below.setCell ?_ ?_ _); rotate_left; (focus (first | (simp; done) | (simp; omega) | omega))) | ((with_reducible refine Below.trans ?_ (Below.mono Hb.out ?_)); rotate_left; (focus (first | (simp; done) | (simp; omega) | omega))) | ((with_reducible refine Below.trans ?_ (Below.mono Hb16.out ?_)); rotate_left; (focus (first | (simp; done) | (simp; omega) | omega))) | ((with_reducible refine Below.trans ?_ (Below.mono Hb15.out ?_)); rotate_left; (focus (first | (simp; done) | (simp; omega) | omega))) | ((with_reducible refine Below.trans ?_ (Below.mono Hb14.out ?_)); rotate_left; (focus (first | (simp; done) | (simp; omega) | omega))) | ((with_reducible refine Below.trans ?_ (Below.mono Hb13.out ?_)); rotate_left; (focus (first | (simp; done) | (simp; omega) | omega))) | ((with_reducible refine Below.trans ?_ (Below.mono Hb12.out ?_)); rotate_left; (focus (first | (simp; done) | (simp; omega) | omega))) | ((with_reducible refine Below.trans ?_ (Below.mono Hb11.out ?_)); rotate_left; (focus (first | (simp; done) | (simp; omega) | omega))) | ((with_reducible refine Below.trans ?_ (Below.mono Hb10.out ?_)); rotate_left; (focus (first | (simp; done) | (simp; omega) | omega))) | ((with_reducible refine Below.trans ?_ (Below.mono Hb9.out ?_)); rotate_left; (focus (first | (simp; done) | (simp; omega) | omega))) | ((with_reducible refine Below.trans ?_ (Below.mono Hb8.out ?_)); rotate_left; (focus (first | (simp; done) | (simp; omega) | omega))) | ((with_reducible refine Below.trans ?_ (Below.mono Hb7.out ?_)); rotate_left; (focus (first | (simp; done) | (simp; omega) | omega))) | ((with_reducible refine Below.trans ?_ (Below.mono Hb6.out ?_)); rotate_left; (focus (first | (simp; done) | (simp; omega) | omega))) | ((with_reducible refine Below.trans ?_ (Below.mono Hb5.out ?_)); rotate_left; (focus (first | (simp; done) | (simp; omega) | omega))) | ((with_reducible refine Below.trans ?_ (Below.mono Hb4.out ?_)); rotate_left; (focus (first | (simp; done) | (simp; omega) | omega))) | ((with_reducible refine Below.trans ?_ (Below.mono Hb3.out ?_)); rotate_left; (focus (first | (simp; done) | (simp; omega) | omega))) | ((with_reducible refine Below.trans ?_ (Below.mono Hb2.out ?_)); rotate_left; (focus (first | (simp; done) | (simp; omega) | omega))) | ((with_reducible refine Below.trans ?_ (Below.mono Hb1.out ?_)); rotate_left; (focus (first | (simp; done) | (simp; omega) | omega))) | ((with_reducible refine Below.trans ?_ (below_of_only Hg16.out ?_ ?_)); rotate_left; (focus (first | (simp; done) | (simp; omega) | omega)); (intro k hk; cases hk; omega)) | ((with_reducible refine Below.trans ?_ (below_of_only Hg15.out ?_ ?_)); rotate_left; (focus (first | (simp; done) | (simp; omega) | omega)); (intro k hk; cases hk; omega)) | ((with_reducible refine Below.trans ?_ (below_of_only Hg14.out ?_ ?_)); rotate_left; (focus (first | (simp; done) | (simp; omega) | omega)); (intro k hk; cases hk; omega)) | ((with_reducible refine Below.trans ?_ (below_of_only Hg13.out ?_ ?_)); rotate_left; (focus (first | (simp; done) | (simp; omega) | omega)); (intro k hk; cases hk; omega)) | ((with_reducible refine Below.trans ?_ (below_of_only Hg12.out ?_ ?_)); rotate_left; (focus (first | (simp; done) | (simp; omega) | omega)); (intro k hk; cases hk; omega)) | ((with_reducible refine Below.trans ?_ (below_of_only Hg11.out ?_ ?_)); rotate_left; (focus (first | (simp; done) | (simp; omega) | omega)); (intro k hk; cases hk; omega)) | ((with_reducible refine Below.trans ?_ (below_of_only Hg10.out ?_ ?_)); rotate_left; (focus (first | (simp; done) | (simp; omega) | omega)); (intro k hk; cases hk; omega)) | ((with_reducible refine Below.trans ?_ (below_of_only Hg9.out ?_ ?_)); rotate_left; (focus (first | (simp; done) | (simp; omega) | omega)); (intro k hk; cases hk; omega)) | ((with_reducible refine Below.trans ?_ (below_of_only Hg8.out ?_ ?_)); rotate_left; (focus (first | (simp; done) | (simp; omega) | omega)); (intro k hk; cases hk; omega)) | ((with_reducible refine Below.trans ?_ (below_of_only Hg7.out ?_ ?_)); rotate_left; (focus (first | (simp; done) | (simp; omega) | omega)); (intro k hk; cases hk; omega)) | ((with_reducible refine Below.trans ?_ (below_of_only Hg6.out ?_ ?_)); rotate_left; (focus (first | (simp; done) | (simp; omega) | omega)); (intro k hk; cases hk; omega)) | ((with_reducible refine Below.trans ?_ (below_of_only Hg5.out ?_ ?_)); rotate_left; (focus (first | (simp; done) | (simp; omega) | omega)); (intro k hk; cases hk; omega)) | ((with_reducible refine Below.trans ?_ (below_of_only Hg4.out ?_ ?_)); rotate_left; (focus (first | (simp; done) | (simp; omega) | omega)); (intro k hk; cases hk; omega)) | ((with_reducible refine Below.trans ?_ (below_of_only Hg3.out ?_ ?_)); rotate_left; (focus (first | (simp; done) | (simp; omega) | omega)); (intro k hk; cases hk; omega)) | ((with_reducible refine Below.trans ?_ (below_of_only Hg2.out ?_ ?_)); rotate_left; (focus (first | (simp; done) | (simp; omega) | omega)); (intro k hk; cases hk; omega)) | ((with_reducible refine Below.trans ?_ (below_of_only Hg1.out ?_ ?_)); rotate_left; (focus (first | (simp; done) | (simp; omega) | omega)); (intro k hk; cases hk; omega)))))
  clear R_a O_g LU_g
  generalize w3.drewN q1 = wz at RA RG HBB ⊢
  rcases W1d.out with hy | hy
  · subst hy
    go_wp2_with fail
    go_loopw [7, 8, 9, 10, 11] (fun tv wv lv i dv wr => ∃ (k : Nat) (l : Int), k ≤ n_g ∧ i = .int .i64 k ∧ tv = .int .i64 (if k ≤ M then 0 else 1) ∧ wv = .int .i64 (if k ≤ M then 1 else -1) ∧ lv = .int .i64 l ∧ 0 ≤ l ∧ l ≤ 15 ∧ Hid ((x :: sweepK z1 x 1)[k]? = some l) ∧ wr = wz) (fun _ _ _ i _ _ => n_g - (intOf i).toNat)
    case atStart => exact ⟨0, x, Nat.zero_le _, rfl, by simp, by simp, rfl, x2, x3, hide rfl, rfl⟩
    case round =>
      obtain ⟨k, l, hk, rfl, rfl, rfl, rfl, l0, l15, HL, hwz⟩ := hrel
      have hwz2 := hwz.symm
      clear hwz
      subst hwz2
      by_cases hlt : k < n_g
      · obtain ⟨b1, o1, u, hA, hb1, hu, e1⟩ := RdI.at_ RG.out hlt
        have hur := sweepK_mem (List.mem_of_getElem? hu)
        obtain ⟨u0, u15⟩ := hur
        have hst := hstep.out k l u HL.out hu
        have HLN := hide (show (x :: sweepK z1 x 1)[k + 1]? = some u from by rw [List.getElem?_cons_succ]; exact hu)
        subst hA
        have hlt' : (k : Int) < (n_g : Int) := by omega
        have hw1 : IntKind.i64.wrap (u - l) = u - l := IntWalk.i64_in _ (by omega)
        have hw2 : IntKind.i64.wrap (-(u - l)) = -(u - l) := IntWalk.i64_in _ (by omega)
        clear hu
        obtain ⟨s1, s2, s3⟩ := hst
        have s4 := hide s1
        have s5 := hide s2
        have s6 := hide s3
        clear s1 s2 s3
        obtain ⟨dd, hdd⟩ : ∃ dd, u - l = dd := ⟨_, rfl⟩
        have dr : -15 ≤ dd ∧ dd ≤ 15 := by omega
        obtain ⟨dr0, dr1⟩ := dr
        have hkk : ¬ M < k ∨ M < k := by omega
        rcases Nat.lt_trichotomy k M with hkM | hkM | hkM
        · have h1 := s4.out hkM
          rw [hdd] at h1
          simp only [if_pos (Nat.le_of_lt hkM)]
          have Hn := hide (show (if k + 1 ≤ M then (0 : Int) else 1) = 0 ∧ (if k + 1 ≤ M then (1 : Int) else -1) = 1 from ⟨if_pos hkM, if_pos hkM⟩)
          have q1 : 0 ≤ dd := by omega
          have q2 : ¬ dd < 0 := by omega
          by_cases hd0 : dd = 0
          · have hk0 : ¬ 0 < k := fun h => by have := h1.2 h; omega
            have hk1 : ¬ (0 : Int) < (k : Int) := by omega
            have hd1 : (dd == 0) = true := by rw [beq_iff_eq]; exact hd0
            clear h1 hkk
            go_wp2_with fail
            go_roundw
            case rel => exact ⟨k + 1, u, hlt, by go_num, by rw [Hn.out.1], by rw [Hn.out.2], rfl, u0, u15, HLN, by first | rfl | trivial⟩
            case measure => simp [intOf]; omega
          · have hd1 : (dd == 0) = false := by rw [beq_eq_false_iff_ne]; exact hd0
            clear h1 hkk
            go_wp2_with fail
            go_roundw
            case rel => exact ⟨k + 1, u, hlt, by go_num, by rw [Hn.out.1], by rw [Hn.out.2], rfl, u0, u15, HLN, by first | rfl | trivial⟩
            case measure => simp [intOf]; omega
        · have h1 := s5.out hkM
          rw [hdd] at h1
          simp only [if_pos (Nat.le_of_eq hkM)]
          have Hn := hide (show (if k + 1 ≤ M then (0 : Int) else 1) = 1 ∧ (if k + 1 ≤ M then (1 : Int) else -1) = -1 from ⟨if_neg (by omega), if_neg (by omega)⟩)
          have q1 : dd < 0 := by omega
          have hd0 : ¬ dd = 0 := by omega
          have hd1 : (dd == 0) = false := by rw [beq_eq_false_iff_ne]; exact hd0
          clear h1 hkk hkM
          go_wp2_with fail
          go_roundw
          case rel => exact ⟨k + 1, u, hlt, by go_num, by rw [Hn.out.1], by rw [Hn.out.2], rfl, u0, u15, HLN, by first | rfl | trivial⟩
          case measure => simp [intOf]; omega
        · have h1 := s6.out hkM
          rw [hdd] at h1
          simp only [if_neg (Nat.not_le_of_lt hkM)]
          have Hn := hide (show (if k + 1 ≤ M then (0 : Int) else 1) = 1 ∧ (if k + 1 ≤ M then (1 : Int) else -1) = -1 from ⟨if_neg (by omega), if_neg (by omega)⟩)
          have q1 : dd < 0 := by omega
          have q2 : ¬ 0 < dd := by omega
          have hd0 : ¬ dd = 0 := by omega
          have hd1 : (dd == 0) = false := by rw [beq_eq_false_iff_ne]; exact hd0
          clear h1 hkk
          go_wp2_with fail
          go_roundw
          case rel => exact ⟨k + 1, u, hlt, by go_num, by rw [Hn.out.1], by rw [Hn.out.2], rfl, u0, u15, HLN, by first | rfl | trivial⟩
          case measure => simp [intOf]; omega
      · have KP1 := hide (isPart_true A1 A_g n1 c1 n_g c_g z1 (sweepK z1 x 1) wz (by omega) (by omega) RA.out RG.out hsub1.out)
        have KP2 := hide (isPart_true A_g A1 n_g c_g n1 c1 (sweepK z1 x 1) z1 wz (by omega) (by omega) RG.out RA.out hsub2.out)
        have hlt' : ¬ (k : Int) < (n_g : Int) := by omega
        obtain ⟨tt, htt⟩ : ∃ tt : Int, (if k ≤ M then (0 : Int) else 1) = tt := ⟨_, rfl⟩
        have ht1 : tt ≤ 1 := by rw [← htt]; split <;> omega
        rw [htt]
        obtain ⟨ww, hww⟩ : ∃ ww : Int, (if k ≤ M then (1 : Int) else -1) = ww := ⟨_, rfl⟩
        rw [hww]
        clear htt hlt hww
        go_wp2_with fail
        refine KP1.out.mono ?_
        rintro e w' ⟨rfl, rfl⟩
        go_wp2_with fail
        refine KP2.out.mono ?_
        rintro e w' ⟨rfl, rfl⟩
        go_wp2_with fail
        go_ret
        exact ⟨rfl, HBB.out⟩
  · subst hy
    go_wp2_with fail
    go_loopw [7, 8, 9, 10, 11] (fun tv wv lv i dv wr => ∃ (k : Nat) (l : Int), k ≤ n_g ∧ i = .int .i64 k ∧ tv = .int .i64 (if k ≤ M then 0 else 1) ∧ wv = .int .i64 (if k ≤ M then (-1) else 1) ∧ lv = .int .i64 l ∧ 0 ≤ l ∧ l ≤ 15 ∧ Hid ((x :: sweepK z1 x (-1))[k]? = some l) ∧ wr = wz) (fun _ _ _ i _ _ => n_g - (intOf i).toNat)
    case atStart => exact ⟨0, x, Nat.zero_le _, rfl, by simp, by simp, rfl, x2, x3, hide rfl, rfl⟩
    case round =>
      obtain ⟨k, l, hk, rfl, rfl, rfl, rfl, l0, l15, HL, hwz⟩ := hrel
      have hwz2 := hwz.symm
      clear hwz
      subst hwz2
      by_cases hlt : k < n_g
      · obtain ⟨b1, o1, u, hA, hb1, hu, e1⟩ := RdI.at_ RG.out hlt
        have hur := sweepK_mem (List.mem_of_getElem? hu)
        obtain ⟨u0, u15⟩ := hur
        have hst := hstep.out k l u HL.out hu
        have HLN := hide (show (x :: sweepK z1 x (-1))[k + 1]? = some u from by rw [List.getElem?_cons_succ]; exact hu)
        subst hA
        have hlt' : (k : Int) < (n_g : Int) := by omega
        have hw1 : IntKind.i64.wrap (u - l) = u - l := IntWalk.i64_in _ (by omega)
        have hw2 : IntKind.i64.wrap (-(u - l)) = -(u - l) := IntWalk.i64_in _ (by omega)
        clear hu
        obtain ⟨s1, s2, s3⟩ := hst
        have s4 := hide s1
        have s5 := hide s2
        have s6 := hide s3
        clear s1 s2 s3
        obtain ⟨dd, hdd⟩ : ∃ dd, u - l = dd := ⟨_, rfl⟩
        have dr : -15 ≤ dd ∧ dd ≤ 15 := by omega
        obtain ⟨dr0, dr1⟩ := dr
        have hkk : ¬ M < k ∨ M < k := by omega
        rcases Nat.lt_trichotomy k M with hkM | hkM | hkM
        · have h1 := s4.out hkM
          rw [hdd] at h1
          simp only [if_pos (Nat.le_of_lt hkM)]
          have Hn := hide (show (if k + 1 ≤ M then (0 : Int) else 1) = 0 ∧ (if k + 1 ≤ M then ((-1) : Int) else 1) = (-1) from ⟨if_pos hkM, if_pos hkM⟩)
          have q1 : dd ≤ 0 := by omega
          have q2 : ¬ 0 < dd := by omega
          by_cases hd0 : dd = 0
          · have hk0 : ¬ 0 < k := fun h => by have := h1.2 h; omega
            have hk1 : ¬ (0 : Int) < (k : Int) := by omega
            have hd1 : (dd == 0) = true := by rw [beq_iff_eq]; exact hd0
            clear h1 hkk
            go_wp2_with fail
            go_roundw
            case rel => exact ⟨k + 1, u, hlt, by go_num, by rw [Hn.out.1], by rw [Hn.out.2], rfl, u0, u15, HLN, by first | rfl | trivial⟩
            case measure => simp [intOf]; omega
          · have hd1 : (dd == 0) = false := by rw [beq_eq_false_iff_ne]; exact hd0
            clear h1 hkk
            go_wp2_with fail
            go_roundw
            case rel => exact ⟨k + 1, u, hlt, by go_num, by rw [Hn.out.1], by rw [Hn.out.2], rfl, u0, u15, HLN, by first | rfl | trivial⟩
            case measure => simp [intOf]; omega
        · have h1 := s5.out hkM
          rw [hdd] at h1
          simp only [if_pos (Nat.le_of_eq hkM)]
          have Hn := hide (show (if k + 1 ≤ M then (0 : Int) else 1) = 1 ∧ (if k + 1 ≤ M then ((-1) : Int) else 1) = 1 from ⟨if_neg (by omega), if_neg (by omega)⟩)
          have q1 : 0 < dd := by omega
          have hd0 : ¬ dd = 0 := by omega
          have hd1 : (dd == 0) = false := by rw [beq_eq_false_iff_ne]; exact hd0
          clear h1 hkk hkM
          go_wp2_with fail
          go_roundw
          case rel => exact ⟨k + 1, u, hlt, by go_num, by rw [Hn.out.1], by rw [Hn.out.2], rfl, u0, u15, HLN, by first | rfl | trivial⟩
          case measure => simp [intOf]; omega
        · have h1 := s6.out hkM
          rw [hdd] at h1
          simp only [if_neg (Nat.not_le_of_lt hkM)]
          have Hn := hide (show (if k + 1 ≤ M then (0 : Int) else 1) = 1 ∧ (if k + 1 ≤ M then ((-1) : Int) else 1) = 1 from ⟨if_neg (by omega), if_neg (by omega)⟩)
          have q1 : 0 < dd := by omega
          have q2 : ¬ dd < 0 := by omega
          have hd0 : ¬ dd = 0 := by omega
          have hd1 : (dd == 0) = false := by rw [beq_eq_false_iff_ne]; exact hd0
          clear h1 hkk
          go_wp2_with fail
          go_roundw
          case rel => exact ⟨k + 1, u, hlt, by go_num, by rw [Hn.out.1], by rw [Hn.out.2], rfl, u0, u15, HLN, by first | rfl | trivial⟩
          case measure => simp [intOf]; omega
      · have KP1 := hide (isPart_true A1 A_g n1 c1 n_g c_g z1 (sweepK z1 x (-1)) wz (by omega) (by omega) RA.out RG.out hsub1.out)
        have KP2 := hide (isPart_true A_g A1 n_g c_g n1 c1 (sweepK z1 x (-1)) z1 wz (by omega) (by omega) RG.out RA.out hsub2.out)
        have hlt' : ¬ (k : Int) < (n_g : Int) := by omega
        obtain ⟨tt, htt⟩ : ∃ tt : Int, (if k ≤ M then (0 : Int) else 1) = tt := ⟨_, rfl⟩
        have ht1 : tt ≤ 1 := by rw [← htt]; split <;> omega
        rw [htt]
        obtain ⟨ww, hww⟩ : ∃ ww : Int, (if k ≤ M then ((-1) : Int) else 1) = ww := ⟨_, rfl⟩
        rw [hww]
        clear htt hlt hww
        go_wp2_with fail
        refine KP1.out.mono ?_
        rintro e w' ⟨rfl, rfl⟩
        go_wp2_with fail
        refine KP2.out.mono ?_
        rintro e w' ⟨rfl, rfl⟩
        go_wp2_with fail
        go_ret
        exact ⟨rfl, HBB.out⟩

end Go.Proofs.Ytebflmbfgjbipaa
