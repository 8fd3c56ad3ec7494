/-
  The walks of the laws on the sum of the waits.
-/
import Derived.Test.YthgbbfcpnmpjgaaWalksE2
import Derived.Test.YthgbbfcpnmpjgaaDrawRide
import Derived.Test.YthgbbfcpnmpjgaaLiftC
import Derived.Test.YthgbbfcpnmpjgaaLaw8
import Derived.Test.YthgbbfcpnmpjgaaCopy
import Derived.Deep.RegionHeld3
namespace Go.Proofs.Ythgbbfcpnmpjgaa
open Go.RowKit
set_option linter.unusedSimpArgs false
set_option linter.unusedVariables false


def sumI : List Int → Int
  | [] => 0
  | x :: xs => x + sumI xs
theorem sumI_app : ∀ (a b : List Int), sumI (a ++ b) = sumI a + sumI b
  | [], b => by simp [sumI]
  | x :: a, b => by simp only [List.cons_append, sumI, sumI_app a b]; omega
theorem sumI_perm {a b : List Int} (h : a.Perm b) : sumI a = sumI b := by
  induction h with
  | nil => rfl
  | cons x _ ih => simp only [sumI, ih]
  | swap x y l => simp only [sumI]; omega
  | trans _ _ h1 h2 => exact h1.trans h2
theorem sumI_in {lo hi : Int} : ∀ zs : List Int, (∀ z ∈ zs, lo ≤ z ∧ z ≤ hi) → lo * zs.length ≤ sumI zs ∧ sumI zs ≤ hi * zs.length
  | [], _ => by simp [sumI]
  | z :: zs, h => by
    have ih := sumI_in zs fun x hx => h x (List.mem_cons_of_mem _ hx)
    have hz := h z (by simp)
    simp only [sumI, List.length_cons, Int.natCast_add, Int.mul_add]
    omega
theorem waits_sum : ∀ ps : List Pn, waits ps = sumI (ps.map Pn.on) - sumI (ps.map Pn.c)
  | [] => rfl
  | p :: ps => by
    have e : waits (p :: ps) = (p.on - p.c) + waits ps := by simp [waits]
    rw [e, waits_sum ps]
    simp only [List.map_cons, sumI]
    omega
def timesT (cs : List CallQ) : List Int := cs.map fun c => c.2.2
theorem waits_times {cs : List CallQ} {ps : List Pn} (h : ps.map callOf = insL cs) : waits ps = sumI (ps.map Pn.on) - sumI (timesT cs) := by
  rw [waits_sum]
  have e : ps.map Pn.c = timesT (ps.map callOf) := by simp only [timesT, List.map_map]; rfl
  rw [e, h, sumI_perm (show (timesT (insL cs)).Perm (timesT cs) from (insL_perm cs).map _)]
theorem totK_ok {cs : List CallQ} {start : Int} (h : ¬ totK cs start < 0) : vCs cs = true ∧ inB start 0 15 = true ∧ totK cs start = waits (rideR (insL cs) start) := by
  cases hv : (vCs cs && inB start 0 15) with
  | false => unfold totK at h; rw [hv] at h; simp at h
  | true =>
    have h2 := hv
    simp only [Bool.and_eq_true] at h2
    exact ⟨h2.1, h2.2, by unfold totK; rw [hv]; rfl⟩
theorem totK_in (cs : List CallQ) (start : Int) : -1 ≤ totK cs start ∧ totK cs start ≤ 11000 := by
  unfold totK
  split
  · rename_i h
    simp only [Bool.and_eq_true] at h
    have hv := valid_insL h.1
    have hs := inB_iff.1 h.2
    have := waits_in _ (rideR_waits hv.2 hv.1 hs.1 hs.2)
    rw [rideR_len] at this
    omega
  · omega
theorem totK_one {f t c x : Int} (hv : vK f t c = true) (x0 : 0 ≤ x) (x1 : x ≤ 15) : totK [(f, t, c)] x = ((f - x).natAbs : Int) := by
  have hv1 : vCs [(f, t, c)] = true := by simp [vCs, hv]
  have hi1 : insL [(f, t, c)] = [(f, t, c)] := insL_id _ (by simp [ascK])
  have hone := rideR_one (start := x) (vCall_of (c := (f, t, c)) hv) x0 x1
  unfold totK
  rw [hv1, inB_iff.2 ⟨x0, x1⟩, hi1, hone]
  simp [waits]
  omega
theorem totK_nil {x : Int} (x0 : 0 ≤ x) (x1 : x ≤ 15) : totK [] x = 0 := by
  have hi : insL [] = [] := List.eq_nil_of_length_eq_zero (insL_len [])
  unfold totK
  rw [show vCs [] = true from rfl, inB_iff.2 ⟨x0, x1⟩, hi]
  have : rideR [] x = [] := List.eq_nil_of_length_eq_zero (rideR_len [] x)
  rw [this]
  rfl
theorem TotalWait_q (A : Option Addr) (n c : Nat) (cs : List CallQ) (start M : Int) (w : World) (hn : n ≤ 1048576) (hA : Sl A n) (hM : totK cs start = M) (ha : RdC w A n cs) :
    Calls Try.prog 13 #[.slice A n c, .int .i64 start] w (fun e w' => e = .returned (.int .i64 M) ∧ Below w.heap.size w w') := by
  subst hM
  exact TotalWait_i A n c cs start w hn hA ha
set_option maxHeartbeats 400000 in
theorem sum_any (A : Option Addr) (n c : Nat) (zs : List Int) (S : Int) (w : World) (hn : n ≤ 12) (hz : ∀ z ∈ zs, -1 ≤ z ∧ z ≤ 901) (hS : sumI zs = S) (ha : RdI w .i64 A n zs) :
    Calls Try.prog 26 #[.slice A n c] w fun e w' => e = .returned (.int .i64 S) ∧ w = w' := by
  subst hS
  have hl := ha.len
  have Ha := hide ha
  have Hl := hide hl
  have HZ := hide hz
  clear ha hl hz
  go_enter Try.func26, Try.ntmps26
  go_wp2_with fail
  go_loop [3, 4] (fun vs vi => ∃ (k : Nat) (S : Int), k ≤ n ∧ vi = .int .i64 k ∧ vs = .int .i64 S ∧ -12 ≤ S ∧ S ≤ 11000 ∧ Hid (sumI (zs.take k) = S)) (fun _ vi => n - (intOf vi).toNat)
  case atStart => exact ⟨0, 0, Nat.zero_le _, rfl, rfl, by omega, by omega, hide rfl⟩
  case round =>
    obtain ⟨k, S, hk, rfl, rfl, s0, s1, HS⟩ := hrel
    by_cases hlt : k < n
    · obtain ⟨b1, o1, z, rfl, _, hz, hc1⟩ := RdI.at_ Ha.out hlt
      have HS2 := hide (show sumI (zs.take (k + 1)) = S + z by rw [take_snoc _ _ _ hz, sumI_app, HS.out]; simp [sumI])
      have hb := sumI_in (zs.take (k + 1)) (fun x hx => HZ.out x (List.mem_of_mem_take hx))
      have hz0 := HZ.out z (List.mem_of_getElem? hz)
      rw [HS2.out, List.length_take] at hb
      have hb2 : -12 ≤ S + z ∧ S + z ≤ 11000 := by omega
      obtain ⟨b3, b4⟩ := hb2
      have hq : IntKind.i64.wrap (S + z) = S + z := IntWalk.i64_in _ (by omega)
      have hlt' : (k : Int) < (n : Int) := by omega
      clear hz hb
      go_wp2_with fail
      go_round
      case rel => exact ⟨k + 1, S + z, by omega, by go_num, rfl, b3, b4, HS2⟩
      case measure => simp [intOf]; omega
    · obtain rfl : k = n := by omega
      have e1 := hide (show S = sumI zs by
        have h := HS.out
        rw [List.take_of_length_le (by have := Hl.out; omega)] at h
        exact h.symm)
      go_wp2_with fail
      go_ret
      exact ⟨ret_int e1.out, rfl⟩
set_option maxHeartbeats 4000000 in
theorem fnTotalWait_walk (A : Option Addr) (n c : Nat) (zs : List Int) (w : World) (hl : n ≤ c) (hr : RdI w .u8 A n zs) (hz : ∀ z ∈ zs, (Lit.int .u8 z).wf = true) :
    Calls Try.prog 9 #[.slice A n c] w fun e w' => e = .returned (.bool true) ∧ Below w.heap.size w w' := by
  have Ha := hide (code8_of hl hr hz)
  clear hr hz
  by_cases hn : 1048576 < n
  · have hn' : (1048576 : Int) < (n : Int) := by omega
    go_enter Try.func9, Try.ntmps9
    go_wp2_with fail
    go_ret
    exact ⟨rfl, Below.refl _ _⟩
  have hn' : (n : Int) ≤ 1048576 := by omega
  go_enter Try.func9, Try.ntmps9
  go_wp2_with fail
  refine (DrawTotalWait_any _ A n c _ (Nat.le_refl _) Ha.out).mono ?_
  rintro e w1 ⟨A1, n1, c1, z1, x, rfl, hn1, x0, x1, oA1, r1, hb⟩
  have hz1 := hb.size
  try simp at hz1
  have Hb1 := hide hb
  clear hb
  have R_a := hide r1
  have Hl1 := hide (RdC.len r1)
  have OA := hide oA1
  have SA := hide (Sl.of_ownA oA1)
  clear r1 oA1
  obtain ⟨M, hM⟩ : ∃ M, totK z1 x = M := ⟨_, rfl⟩
  have hM2 := totK_in z1 x
  rw [hM] at hM2
  obtain ⟨hM3, hM4⟩ := hM2
  have HM := hide hM
  clear hM
  go_wp2_with fail
  refine (TotalWait_i A1 n1 c1 z1 x _ (by omega) SA.out (by repeat (first | exact R_a.out | exact Rd.of_own O_a.out | (with_reducible refine RdC.al ?_ _) | (with_reducible refine RdC.dr ?_) | (with_reducible refine RdC.drN ?_ _) | (with_reducible refine RdI.al ?_ _) | (with_reducible refine RdI.dr ?_) | (with_reducible refine RdI.drN ?_ _) | (with_reducible refine Rd.alloc ?_ _) | (with_reducible refine Rd.drew ?_) | (with_reducible refine Rd.drewN ?_ _)))).mono ?_
  rintro e w2 ⟨rfl, hb⟩
  have hz2 := hb.size
  try simp at hz2
  replace R_a := hide (show Rd w2 3 A1 n1 (cellsC z1) from Rd.below (by repeat (first | exact R_a.out | (with_reducible refine Rd.alloc ?_ _) | (with_reducible refine Rd.drew ?_) | (with_reducible refine Rd.drewN ?_ _))) hb (Nat.le_refl _))
  have Hb2 := hide hb
  clear hb
  rw [HM.out]
  go_wp2_with fail
  refine (TotalWait_s A1 n1 c1 z1 x _ (by omega) SA.out (by repeat (first | exact R_a.out | exact Rd.of_own O_a.out | (with_reducible refine RdC.al ?_ _) | (with_reducible refine RdC.dr ?_) | (with_reducible refine RdC.drN ?_ _) | (with_reducible refine RdI.al ?_ _) | (with_reducible refine RdI.dr ?_) | (with_reducible refine RdI.drN ?_ _) | (with_reducible refine Rd.alloc ?_ _) | (with_reducible refine Rd.drew ?_) | (with_reducible refine Rd.drewN ?_ _)))).mono ?_
  rintro e w3 ⟨rfl, hb⟩
  have hz3 := hb.size
  try simp at hz3
  replace R_a := hide (show Rd w3 3 A1 n1 (cellsC z1) from Rd.below (by repeat (first | exact R_a.out | (with_reducible refine Rd.alloc ?_ _) | (with_reducible refine Rd.drew ?_) | (with_reducible refine Rd.drewN ?_ _))) hb (Nat.le_refl _))
  have Hb3 := hide hb
  clear hb
  rw [HM.out]
  by_cases hneg : M < 0
  · go_wp2_with fail
    refine (TotalWait_s A1 n1 c1 z1 x _ (by omega) SA.out (by repeat (first | exact R_a.out | exact Rd.of_own O_a.out | (with_reducible refine RdC.al ?_ _) | (with_reducible refine RdC.dr ?_) | (with_reducible refine RdC.drN ?_ _) | (with_reducible refine RdI.al ?_ _) | (with_reducible refine RdI.dr ?_) | (with_reducible refine RdI.drN ?_ _) | (with_reducible refine Rd.alloc ?_ _) | (with_reducible refine Rd.drew ?_) | (with_reducible refine Rd.drewN ?_ _)))).mono ?_
    rintro e w4 ⟨rfl, hb⟩
    have hz4 := hb.size
    try simp at hz4
    replace R_a := hide (show Rd w4 3 A1 n1 (cellsC z1) from Rd.below (by repeat (first | exact R_a.out | (with_reducible refine Rd.alloc ?_ _) | (with_reducible refine Rd.drew ?_) | (with_reducible refine Rd.drewN ?_ _))) hb (Nat.le_refl _))
    have Hb4 := hide hb
    clear hb
    rw [HM.out]
    go_wp2_with fail
    go_ret
    exact ⟨rfl, (by repeat (first | (with_reducible exact Below.refl _ _) | (with_reducible refine Below.drew ?_) | (with_reducible refine below_drewN ?_ _) | ((with_reducible refine Below.alloc ?_ ?_ _); rotate_left; (focus (first | (simp; done) | (simp; omega) | omega))) | ((with_reducible refine Below.setCell ?_ ?_ _); rotate_left; (focus (first | (simp; done) | (simp; omega) | omega))) | ((with_reducible refine Below.trans ?_ (Below.mono Hb.out ?_)); rotate_left; (focus (first | (simp; done) | (simp; omega) | omega))) | ((with_reducible refine Below.trans ?_ (Below.mono Hb16.out ?_)); rotate_left; (focus (first | (simp; done) | (simp; omega) | omega))) | ((with_reducible refine Below.trans ?_ (Below.mono Hb15.out ?_)); rotate_left; (focus (first | (simp; done) | (simp; omega) | omega))) | ((with_reducible refine Below.trans ?_ (Below.mono Hb14.out ?_)); rotate_left; (focus (first | (simp; done) | (simp; omega) | omega))) | ((with_reducible refine Below.trans ?_ (Below.mono Hb13.out ?_)); rotate_left; (focus (first | (simp; done) | (simp; omega) | omega))) | ((with_reducible refine Below.trans ?_ (Below.mono Hb12.out ?_)); rotate_left; (focus (first | (simp; done) | (simp; omega) | omega))) | ((with_reducible refine Below.trans ?_ (Below.mono Hb11.out ?_)); rotate_left; (focus (first | (simp; done) | (simp; omega) | omega))) | ((with_reducible refine Below.trans ?_ (Below.mono Hb10.out ?_)); rotate_left; (focus (first | (simp; done) | (simp; omega) | omega))) | ((with_reducible refine Below.trans ?_ (Below.mono Hb9.out ?_)); rotate_left; (focus (first | (simp; done) | (simp; omega) | omega))) | ((with_reducible refine Below.trans ?_ (Below.mono Hb8.out ?_)); rotate_left; (focus (first | (simp; done) | (simp; omega) | omega))) | ((with_reducible refine Below.trans ?_ (Below.mono Hb7.out ?_)); rotate_left; (focus (first | (simp; done) | (simp; omega) | omega))) | ((with_reducible refine Below.trans ?_ (Below.mono Hb6.out ?_)); rotate_left; (focus (first | (simp; done) | (simp; omega) | omega))) | ((with_reducible refine Below.trans ?_ (Below.mono Hb5.out ?_)); rotate_left; (focus (first | (simp; done) | (simp; omega) | omega))) | ((with_reducible refine Below.trans ?_ (Below.mono Hb4.out ?_)); rotate_left; (focus (first | (simp; done) | (simp; omega) | omega))) | ((with_reducible refine Below.trans ?_ (Below.mono Hb3.out ?_)); rotate_left; (focus (first | (simp; done) | (simp; omega) | omega))) | ((with_reducible refine Below.trans ?_ (Below.mono Hb2.out ?_)); rotate_left; (focus (first | (simp; done) | (simp; omega) | omega))) | ((with_reducible refine Below.trans ?_ (Below.mono Hb1.out ?_)); rotate_left; (focus (first | (simp; done) | (simp; omega) | omega))) | ((with_reducible refine Below.trans ?_ (below_of_only Hg16.out ?_ ?_)); rotate_left; (focus (first | (simp; done) | (simp; omega) | omega)); (intro k hk; cases hk; omega)) | ((with_reducible refine Below.trans ?_ (below_of_only Hg15.out ?_ ?_)); rotate_left; (focus (first | (simp; done) | (simp; omega) | omega)); (intro k hk; cases hk; omega)) | ((with_reducible refine Below.trans ?_ (below_of_only Hg14.out ?_ ?_)); rotate_left; (focus (first | (simp; done) | (simp; omega) | omega)); (intro k hk; cases hk; omega)) | ((with_reducible refine Below.trans ?_ (below_of_only Hg13.out ?_ ?_)); rotate_left; (focus (first | (simp; done) | (simp; omega) | omega)); (intro k hk; cases hk; omega)) | ((with_reducible refine Below.trans ?_ (below_of_only Hg12.out ?_ ?_)); rotate_left; (focus (first | (simp; done) | (simp; omega) | omega)); (intro k hk; cases hk; omega)) | ((with_reducible refine Below.trans ?_ (below_of_only Hg11.out ?_ ?_)); rotate_left; (focus (first | (simp; done) | (simp; omega) | omega)); (intro k hk; cases hk; omega)) | ((with_reducible refine Below.trans ?_ (below_of_only Hg10.out ?_ ?_)); rotate_left; (focus (first | (simp; done) | (simp; omega) | omega)); (intro k hk; cases hk; omega)) | ((with_reducible refine Below.trans ?_ (below_of_only Hg9.out ?_ ?_)); rotate_left; (focus (first | (simp; done) | (simp; omega) | omega)); (intro k hk; cases hk; omega)) | ((with_reducible refine Below.trans ?_ (below_of_only Hg8.out ?_ ?_)); rotate_left; (focus (first | (simp; done) | (simp; omega) | omega)); (intro k hk; cases hk; omega)) | ((with_reducible refine Below.trans ?_ (below_of_only Hg7.out ?_ ?_)); rotate_left; (focus (first | (simp; done) | (simp; omega) | omega)); (intro k hk; cases hk; omega)) | ((with_reducible refine Below.trans ?_ (below_of_only Hg6.out ?_ ?_)); rotate_left; (focus (first | (simp; done) | (simp; omega) | omega)); (intro k hk; cases hk; omega)) | ((with_reducible refine Below.trans ?_ (below_of_only Hg5.out ?_ ?_)); rotate_left; (focus (first | (simp; done) | (simp; omega) | omega)); (intro k hk; cases hk; omega)) | ((with_reducible refine Below.trans ?_ (below_of_only Hg4.out ?_ ?_)); rotate_left; (focus (first | (simp; done) | (simp; omega) | omega)); (intro k hk; cases hk; omega)) | ((with_reducible refine Below.trans ?_ (below_of_only Hg3.out ?_ ?_)); rotate_left; (focus (first | (simp; done) | (simp; omega) | omega)); (intro k hk; cases hk; omega)) | ((with_reducible refine Below.trans ?_ (below_of_only Hg2.out ?_ ?_)); rotate_left; (focus (first | (simp; done) | (simp; omega) | omega)); (intro k hk; cases hk; omega)) | ((with_reducible refine Below.trans ?_ (below_of_only Hg1.out ?_ ?_)); rotate_left; (focus (first | (simp; done) | (simp; omega) | omega)); (intro k hk; cases hk; omega))))⟩
  have hok := totK_ok (cs := z1) (start := x) (by rw [HM.out]; exact hneg)
  have HOK := hide hok
  obtain ⟨st0, st1⟩ := inB_iff.1 hok.2.1
  clear hok
  have hle := rideK_len z1 x
  go_wp2_with fail
  refine (RideTimes_i A1 n1 c1 z1 x _ (by omega) SA.out (by repeat (first | exact R_a.out | exact Rd.of_own O_a.out | (with_reducible refine RdC.al ?_ _) | (with_reducible refine RdC.dr ?_) | (with_reducible refine RdC.drN ?_ _) | (with_reducible refine RdI.al ?_ _) | (with_reducible refine RdI.dr ?_) | (with_reducible refine RdI.drN ?_ _) | (with_reducible refine Rd.alloc ?_ _) | (with_reducible refine Rd.drew ?_) | (with_reducible refine Rd.drewN ?_ _)))).mono ?_
  rintro e w4 ⟨A_g, n_g, c_g, A_k, n_k, c_k, rfl, ho, ho2, hd, hb⟩
  have hz4 := hb.size
  try simp at hz4
  replace R_a := hide (show Rd w4 3 A1 n1 (cellsC z1) from Rd.below (by repeat (first | exact R_a.out | (with_reducible refine Rd.alloc ?_ _) | (with_reducible refine Rd.drew ?_) | (with_reducible refine Rd.drewN ?_ _))) hb (Nat.le_refl _))
  have Hb4 := hide hb
  clear hb
  have LU_g := hide (fun k h => (⟨(own_lt_old ho k h).1, by have := (own_lt_old ho k h).2; (first | omega | (simp at this; omega))⟩ : k < w4.heap.size ∧ w3.heap.size ≤ k))
  have O_g := hide (show World.ownsRow w4 w.heap.size 3 1 (.slice A_g n_g c_g) n_g (((rideK z1 x).map Pn.on).map (Value.int .i64)) from own_base ho (by first | omega | (simp; omega)))
  clear ho
  have ho := ho2
  clear ho2
  have LU_k := hide (fun k h => (⟨(own_lt_old ho k h).1, by have := (own_lt_old ho k h).2; (first | omega | (simp at this; omega))⟩ : k < w4.heap.size ∧ w3.heap.size ≤ k))
  have O_k := hide (show World.ownsRow w4 w.heap.size 3 1 (.slice A_k n_k c_k) n_k (((rideK z1 x).map Pn.off).map (Value.int .i64)) from own_base ho (by first | omega | (simp; omega)))
  clear ho
  have HD_g := hide hd
  clear hd
  have N_g : n_g ≤ 12 := by have h := RdLEN_int (Rd.of_own O_g.out); simp at h; omega
  have N_k : n_k ≤ 12 := by have h := RdLEN_int (Rd.of_own O_k.out); simp at h; omega
  have hvi := valid_insL HOK.out.1
  have HON := hide (rideR_on hvi.2 st0 st1)
  have hwt := waits_times (rideR_calls (insL z1) x)
  have hrk := rideK_ok HOK.out.1 HOK.out.2.1
  obtain ⟨ps, hps⟩ : ∃ ps, rideR (insL z1) x = ps := ⟨_, rfl⟩
  rw [hps] at hwt HON hrk
  obtain ⟨S, hS⟩ : ∃ S, sumI (ps.map Pn.on) = S := ⟨_, rfl⟩
  have HF := hide (show M = S - sumI (timesT z1) by rw [← HM.out, HOK.out.2.2, hps, hwt, hS])
  have HS := hide hS
  have OG := hide (show RdI w4 .i64 A_g n_g (ps.map Pn.on) from by rw [← hrk]; exact (by repeat (first | exact Rd.of_own O_g.out | (with_reducible refine RdC.al ?_ _) | (with_reducible refine RdC.dr ?_) | (with_reducible refine RdC.drN ?_ _) | (with_reducible refine RdI.al ?_ _) | (with_reducible refine RdI.dr ?_) | (with_reducible refine RdI.drN ?_ _) | (with_reducible refine Rd.alloc ?_ _) | (with_reducible refine Rd.drew ?_) | (with_reducible refine Rd.drewN ?_ _))))
  have hSb := sumI_in (lo := -1) (hi := 901) (ps.map Pn.on) (fun z hz => by
    obtain ⟨p, hp, rfl⟩ := List.mem_map.1 hz
    have := HON.out p hp
    omega)
  have hln := OG.out.len
  rw [hln, hS] at hSb
  have hSc : -12 ≤ S ∧ S ≤ 11000 := by omega
  obtain ⟨s0, s1⟩ := hSc
  have HTM := hide (show ∀ z ∈ timesT z1, 0 ≤ z ∧ z ≤ 200 from fun z hz => by
    obtain ⟨c, hc, rfl⟩ := List.mem_map.1 hz
    have h := HOK.out.1
    unfold vCs at h
    simp only [Bool.and_eq_true, List.all_eq_true] at h
    exact (vK_iff.1 (h.2 c hc)).2.2.2)
  have HZ := hide (show ∀ z ∈ ps.map Pn.on, -1 ≤ z ∧ z ≤ 901 from fun z hz => by
    obtain ⟨p, hp, rfl⟩ := List.mem_map.1 hz
    have := HON.out p hp
    omega)
  have hl12 : n1 ≤ 12 := by have h1 := Hl1.out; have h2 := HOK.out.1; unfold vCs at h2; simp at h2; omega
  have RA := hide (show RdC w4 A1 n1 z1 from (by repeat (first | exact R_a.out | exact Rd.of_own O_a.out | (with_reducible refine RdC.al ?_ _) | (with_reducible refine RdC.dr ?_) | (with_reducible refine RdC.drN ?_ _) | (with_reducible refine RdI.al ?_ _) | (with_reducible refine RdI.dr ?_) | (with_reducible refine RdI.drN ?_ _) | (with_reducible refine Rd.alloc ?_ _) | (with_reducible refine Rd.drew ?_) | (with_reducible refine Rd.drewN ?_ _))))
  have HBW := hide (show Below w.heap.size w w4 from (by repeat (first | (with_reducible exact Below.refl _ _) | (with_reducible refine Below.drew ?_) | (with_reducible refine below_drewN ?_ _) | ((with_reducible refine Below.alloc ?_ ?_ _); rotate_left; (focus (first | (simp; done) | (simp; omega) | omega))) | ((with_reducible refine Below.setCell ?_ ?_ _); rotate_left; (focus (first | (simp; done) | (simp; omega) | omega))) | ((with_reducible refine Below.trans ?_ (Below.mono Hb.out ?_)); rotate_left; (focus (first | (simp; done) | (simp; omega) | omega))) | ((with_reducible refine Below.trans ?_ (Below.mono Hb16.out ?_)); rotate_left; (focus (first | (simp; done) | (simp; omega) | omega))) | ((with_reducible refine Below.trans ?_ (Below.mono Hb15.out ?_)); rotate_left; (focus (first | (simp; done) | (simp; omega) | omega))) | ((with_reducible refine Below.trans ?_ (Below.mono Hb14.out ?_)); rotate_left; (focus (first | (simp; done) | (simp; omega) | omega))) | ((with_reducible refine Below.trans ?_ (Below.mono Hb13.out ?_)); rotate_left; (focus (first | (simp; done) | (simp; omega) | omega))) | ((with_reducible refine Below.trans ?_ (Below.mono Hb12.out ?_)); rotate_left; (focus (first | (simp; done) | (simp; omega) | omega))) | ((with_reducible refine Below.trans ?_ (Below.mono Hb11.out ?_)); rotate_left; (focus (first | (simp; done) | (simp; omega) | omega))) | ((with_reducible refine Below.trans ?_ (Below.mono Hb10.out ?_)); rotate_left; (focus (first | (simp; done) | (simp; omega) | omega))) | ((with_reducible refine Below.trans ?_ (Below.mono Hb9.out ?_)); rotate_left; (focus (first | (simp; done) | (simp; omega) | omega))) | ((with_reducible refine Below.trans ?_ (Below.mono Hb8.out ?_)); rotate_left; (focus (first | (simp; done) | (simp; omega) | omega))) | ((with_reducible refine Below.trans ?_ (Below.mono Hb7.out ?_)); rotate_left; (focus (first | (simp; done) | (simp; omega) | omega))) | ((with_reducible refine Below.trans ?_ (Below.mono Hb6.out ?_)); rotate_left; (focus (first | (simp; done) | (simp; omega) | omega))) | ((with_reducible refine Below.trans ?_ (Below.mono Hb5.out ?_)); rotate_left; (focus (first | (simp; done) | (simp; omega) | omega))) | ((with_reducible refine Below.trans ?_ (Below.mono Hb4.out ?_)); rotate_left; (focus (first | (simp; done) | (simp; omega) | omega))) | ((with_reducible refine Below.trans ?_ (Below.mono Hb3.out ?_)); rotate_left; (focus (first | (simp; done) | (simp; omega) | omega))) | ((with_reducible refine Below.trans ?_ (Below.mono Hb2.out ?_)); rotate_left; (focus (first | (simp; done) | (simp; omega) | omega))) | ((with_reducible refine Below.trans ?_ (Below.mono Hb1.out ?_)); rotate_left; (focus (first | (simp; done) | (simp; omega) | omega))) | ((with_reducible refine Below.trans ?_ (below_of_only Hg16.out ?_ ?_)); rotate_left; (focus (first | (simp; done) | (simp; omega) | omega)); (intro k hk; cases hk; omega)) | ((with_reducible refine Below.trans ?_ (below_of_only Hg15.out ?_ ?_)); rotate_left; (focus (first | (simp; done) | (simp; omega) | omega)); (intro k hk; cases hk; omega)) | ((with_reducible refine Below.trans ?_ (below_of_only Hg14.out ?_ ?_)); rotate_left; (focus (first | (simp; done) | (simp; omega) | omega)); (intro k hk; cases hk; omega)) | ((with_reducible refine Below.trans ?_ (below_of_only Hg13.out ?_ ?_)); rotate_left; (focus (first | (simp; done) | (simp; omega) | omega)); (intro k hk; cases hk; omega)) | ((with_reducible refine Below.trans ?_ (below_of_only Hg12.out ?_ ?_)); rotate_left; (focus (first | (simp; done) | (simp; omega) | omega)); (intro k hk; cases hk; omega)) | ((with_reducible refine Below.trans ?_ (below_of_only Hg11.out ?_ ?_)); rotate_left; (focus (first | (simp; done) | (simp; omega) | omega)); (intro k hk; cases hk; omega)) | ((with_reducible refine Below.trans ?_ (below_of_only Hg10.out ?_ ?_)); rotate_left; (focus (first | (simp; done) | (simp; omega) | omega)); (intro k hk; cases hk; omega)) | ((with_reducible refine Below.trans ?_ (below_of_only Hg9.out ?_ ?_)); rotate_left; (focus (first | (simp; done) | (simp; omega) | omega)); (intro k hk; cases hk; omega)) | ((with_reducible refine Below.trans ?_ (below_of_only Hg8.out ?_ ?_)); rotate_left; (focus (first | (simp; done) | (simp; omega) | omega)); (intro k hk; cases hk; omega)) | ((with_reducible refine Below.trans ?_ (below_of_only Hg7.out ?_ ?_)); rotate_left; (focus (first | (simp; done) | (simp; omega) | omega)); (intro k hk; cases hk; omega)) | ((with_reducible refine Below.trans ?_ (below_of_only Hg6.out ?_ ?_)); rotate_left; (focus (first | (simp; done) | (simp; omega) | omega)); (intro k hk; cases hk; omega)) | ((with_reducible refine Below.trans ?_ (below_of_only Hg5.out ?_ ?_)); rotate_left; (focus (first | (simp; done) | (simp; omega) | omega)); (intro k hk; cases hk; omega)) | ((with_reducible refine Below.trans ?_ (below_of_only Hg4.out ?_ ?_)); rotate_left; (focus (first | (simp; done) | (simp; omega) | omega)); (intro k hk; cases hk; omega)) | ((with_reducible refine Below.trans ?_ (below_of_only Hg3.out ?_ ?_)); rotate_left; (focus (first | (simp; done) | (simp; omega) | omega)); (intro k hk; cases hk; omega)) | ((with_reducible refine Below.trans ?_ (below_of_only Hg2.out ?_ ?_)); rotate_left; (focus (first | (simp; done) | (simp; omega) | omega)); (intro k hk; cases hk; omega)) | ((with_reducible refine Below.trans ?_ (below_of_only Hg1.out ?_ ?_)); rotate_left; (focus (first | (simp; done) | (simp; omega) | omega)); (intro k hk; cases hk; omega)))))
  clear hvi hwt hrk hps hS hSb hln
  go_wp2_with fail
  refine (sum_any A_g n_g c_g (ps.map Pn.on) S _ (by omega) HZ.out HS.out OG.out).mono ?_
  rintro e w' ⟨rfl, hw⟩
  subst hw
  go_wp2_with fail
  go_loopw [8, 9] (fun vt vi wr => ∃ (k : Nat) (T : Int), k ≤ n1 ∧ vi = .int .i64 k ∧ vt = .int .i64 (S - T) ∧ 0 ≤ T ∧ T ≤ 2400 ∧ Hid (sumI ((timesT z1).take k) = T) ∧ ∃ q, wr = w4.drewN q) (fun _ vi _ => n1 - (intOf vi).toNat)
  case atStart => exact ⟨0, 0, Nat.zero_le _, rfl, int_eq (by omega), by omega, by omega, hide rfl, 0, rfl⟩
  case round =>
    obtain ⟨j, T, hj, rfl, rfl, t0, t1, HT, q, rfl⟩ := hrel
    by_cases hlt : j < n1
    · obtain ⟨b1, o1, f, t, c, rfl, hb1, hz, d1, d2, d3⟩ := RdC.at_ RA.out hlt
      have hz2 : (timesT z1)[j]? = some c := by simp [timesT, hz]
      have HT2 := hide (show sumI ((timesT z1).take (j + 1)) = T + c by rw [take_snoc _ _ _ hz2, sumI_app, HT.out]; simp [sumI])
      have hb := sumI_in ((timesT z1).take (j + 1)) (fun x hx => HTM.out x (List.mem_of_mem_take hx))
      rw [HT2.out, List.length_take] at hb
      have hc := HTM.out c (List.mem_of_getElem? hz2)
      have hb2 : 0 ≤ T + c ∧ T + c ≤ 2400 := by omega
      obtain ⟨b3, b4⟩ := hb2
      obtain ⟨b5, b6⟩ := hc
      have hlt' : (j : Int) < (n1 : Int) := by omega
      clear hz hz2 hb
      go_wp2_with fail
      try go_quiet (fail)
      go_wp2_with fail
      go_roundw
      case rel => exact ⟨j + 1, T + c, by omega, by go_num, int_eq (by omega), b3, b4, HT2, _, rfl⟩
      case measure => simp [intOf]; omega
    · obtain rfl : j = n1 := by omega
      have hT : T = sumI (timesT z1) := by
        have h := HT.out
        rw [List.take_of_length_le (by have := Hl1.out; simp [timesT]; omega)] at h
        exact h.symm
      have he : (M == S - T) = true := by rw [beq_iff_eq, hT]; exact HF.out
      clear hT
      go_wp2_with fail
      go_ret
      exact ⟨rfl, below_drewN HBW.out _⟩
end Go.Proofs.Ythgbbfcpnmpjgaa
