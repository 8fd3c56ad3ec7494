/-
  The walks of the laws on rides: everybody arrives, the room, a single person.
-/
import Derived.Test.YthgbbfcpnmpjgaaRideV
import Derived.Test.YthgbbfcpnmpjgaaDrawRide
import Derived.Test.YthgbbfcpnmpjgaaLiftC
import Derived.Test.YthgbbfcpnmpjgaaLaw8
import Derived.Test.YthgbbfcpnmpjgaaCopy
namespace Go.Proofs.Ythgbbfcpnmpjgaa
open Go.RowKit
set_option linter.unusedSimpArgs false
set_option linter.unusedVariables false


theorem rideK_ne {cs : List CallQ} {start : Int} (h : (rideK cs start).length ≠ 0) : vCs cs = true ∧ inB start 0 15 = true := by
  cases hv : (vCs cs && inB start 0 15) with
  | false => rw [rideK_no hv] at h; simp at h
  | true => simpa using hv
set_option maxHeartbeats 400000 in
theorem absoluteR_v (x : Int) (m : Nat) (w : World) (x0 : -1000000 ≤ x) (x1 : x ≤ 1000000) (hm : x.natAbs = m) :
    Calls Try.prog 24 #[.int .i64 x] w fun e w' => e = .returned (.int .i64 (m : Int)) ∧ w' = w := by
  subst hm
  go_enter Try.func24, Try.ntmps24
  go_wp2
  all_goals
    go_ret
    refine ⟨ret_int ?_, rfl⟩
    go_light
    omega
theorem quiet_add_same {P : Program} {f : FuncId} {args : Array Value} {w : World} {a n : Nat} {v : Value}
    (h : Calls P f args (w.drewN (a + n)) fun e w' => e = .returned v ∧ w' = w.drewN (a + n)) :
    Calls P f args (w.drewN (a + n)) fun e w'' => e = .returned v ∧ ∃ m, w'' = w.drewN (a + m) :=
  h.mono fun _ _ ⟨he, hm⟩ => ⟨he, n, hm⟩
/-- What the walk reads of person k in one row. -/
theorem row_at {w : World} {A : Option Addr} {n : Nat} {zs : List Int} {f : Pn → Int} {ps : List Pn} (h : RdI w .i64 A n zs) (hz : zs = ps.map f) {k : Nat} (hk : k < n) {p : Pn} (hp : ps[k]? = some p) :
    ∃ b off, A = some ⟨b, off, none⟩ ∧ w.cell? ⟨b, off + k, none⟩ = some (.int .i64 (f p)) := by
  obtain ⟨b, off, z, hA, _, hzk, hc⟩ := RdI.at_ h hk
  rw [hz, List.getElem?_map, hp] at hzk
  have := Option.some.inj hzk
  subst this
  exact ⟨b, off, hA, hc⟩
set_option maxHeartbeats 4000000 in
theorem fnRideTimes_walk (A : Option Addr) (n c : Nat) (zs : List Int) (w : World) (hl : n ≤ c) (hr : RdI w .u8 A n zs) (hz : ∀ z ∈ zs, (Lit.int .u8 z).wf = true) :
    Calls Try.prog 6 #[.slice A n c] w fun e w' => e = .returned (.bool true) ∧ Below w.heap.size w w' := by
  have Ha := hide (code8_of hl hr hz)
  clear hr hz
  by_cases hn : 1048576 < n
  · have hn' : (1048576 : Int) < (n : Int) := by omega
    go_enter Try.func6, Try.ntmps6
    go_wp2_with fail
    go_ret
    exact ⟨rfl, Below.refl _ _⟩
  have hn' : (n : Int) ≤ 1048576 := by omega
  go_enter Try.func6, Try.ntmps6
  go_wp2_with fail
  refine (DrawRideTimes_any _ A n c _ (Nat.le_refl _) Ha.out).mono ?_
  rintro e w1 ⟨A1, n1, c1, z1, x, rfl, hn1, x0, x1, oA1, r1, hb⟩
  have hz1 := hb.size
  try simp at hz1
  have Hb1 := hide hb
  clear hb
  have R_a := hide r1
  have hle := rideK_len z1 x
  have Hl1 := hide (RdC.len r1)
  have OA := hide oA1
  have SA := hide (Sl.of_ownA oA1)
  clear r1 oA1
  go_wp2_with fail
  refine (RideTimes_i A1 n1 c1 z1 x _ (by omega) SA.out (by repeat (first | exact R_a.out | exact Rd.of_own O_a.out | (with_reducible refine RdC.al ?_ _) | (with_reducible refine RdC.dr ?_) | (with_reducible refine RdC.drN ?_ _) | (with_reducible refine RdI.al ?_ _) | (with_reducible refine RdI.dr ?_) | (with_reducible refine RdI.drN ?_ _) | (with_reducible refine Rd.alloc ?_ _) | (with_reducible refine Rd.drew ?_) | (with_reducible refine Rd.drewN ?_ _)))).mono ?_
  rintro e w2 ⟨A_g, n_g, c_g, A_k, n_k, c_k, rfl, ho, ho2, hd, hb⟩
  have hz2 := hb.size
  try simp at hz2
  replace R_a := hide (show Rd w2 3 A1 n1 (cellsC z1) from Rd.below (by repeat (first | exact R_a.out | (with_reducible refine Rd.alloc ?_ _) | (with_reducible refine Rd.drew ?_) | (with_reducible refine Rd.drewN ?_ _))) hb (Nat.le_refl _))
  have Hb2 := hide hb
  clear hb
  have LU_g := hide (fun k h => (⟨(own_lt_old ho k h).1, by have := (own_lt_old ho k h).2; (first | omega | (simp at this; omega))⟩ : k < w2.heap.size ∧ w1.heap.size ≤ k))
  have O_g := hide (show World.ownsRow w2 w.heap.size 3 1 (.slice A_g n_g c_g) n_g (((rideK z1 x).map Pn.on).map (Value.int .i64)) from own_base ho (by first | omega | (simp; omega)))
  clear ho
  have ho := ho2
  clear ho2
  have LU_k := hide (fun k h => (⟨(own_lt_old ho k h).1, by have := (own_lt_old ho k h).2; (first | omega | (simp at this; omega))⟩ : k < w2.heap.size ∧ w1.heap.size ≤ k))
  have O_k := hide (show World.ownsRow w2 w.heap.size 3 1 (.slice A_k n_k c_k) n_k (((rideK z1 x).map Pn.off).map (Value.int .i64)) from own_base ho (by first | omega | (simp; omega)))
  clear ho
  have HD_g := hide hd
  clear hd
  have N_g : n_g ≤ 12 := by have h := RdLEN_int (Rd.of_own O_g.out); simp at h; omega
  have N_k : n_k ≤ 12 := by have h := RdLEN_int (Rd.of_own O_k.out); simp at h; omega
  go_wp2_with fail
  refine (RideTimes_s A1 n1 c1 z1 x _ (by omega) SA.out (by repeat (first | exact R_a.out | exact Rd.of_own O_a.out | (with_reducible refine RdC.al ?_ _) | (with_reducible refine RdC.dr ?_) | (with_reducible refine RdC.drN ?_ _) | (with_reducible refine RdI.al ?_ _) | (with_reducible refine RdI.dr ?_) | (with_reducible refine RdI.drN ?_ _) | (with_reducible refine Rd.alloc ?_ _) | (with_reducible refine Rd.drew ?_) | (with_reducible refine Rd.drewN ?_ _)))).mono ?_
  rintro e w3 ⟨A_U, n_U, c_U, A_V, n_V, c_V, rfl, ho, ho2, hd, hb⟩
  have hz3 := hb.size
  try simp at hz3
  replace R_a := hide (show Rd w3 3 A1 n1 (cellsC z1) from Rd.below (by repeat (first | exact R_a.out | (with_reducible refine Rd.alloc ?_ _) | (with_reducible refine Rd.drew ?_) | (with_reducible refine Rd.drewN ?_ _))) hb (Nat.le_refl _))
  replace O_g := hide (show World.ownsRow w3 w.heap.size 3 1 (.slice A_g n_g c_g) n_g (((rideK z1 x).map Pn.on).map (Value.int .i64)) from own_below (by repeat (first | exact O_g.out | (with_reducible refine World.ownsRow.alloc ?_ _) | (with_reducible refine World.ownsRow.drew ?_) | (with_reducible refine own_drewN ?_ _))) hb (Nat.le_refl _))
  replace O_k := hide (show World.ownsRow w3 w.heap.size 3 1 (.slice A_k n_k c_k) n_k (((rideK z1 x).map Pn.off).map (Value.int .i64)) from own_below (by repeat (first | exact O_k.out | (with_reducible refine World.ownsRow.alloc ?_ _) | (with_reducible refine World.ownsRow.drew ?_) | (with_reducible refine own_drewN ?_ _))) hb (Nat.le_refl _))
  have Hb3 := hide hb
  clear hb
  have LU_U := hide (fun k h => (⟨(own_lt_old ho k h).1, by have := (own_lt_old ho k h).2; (first | omega | (simp at this; omega))⟩ : k < w3.heap.size ∧ w2.heap.size ≤ k))
  have O_U := hide (show World.ownsRow w3 w.heap.size 3 1 (.slice A_U n_U c_U) n_U (((rideK z1 x).map Pn.on).map (Value.int .i64)) from own_base ho (by first | omega | (simp; omega)))
  clear ho
  have ho := ho2
  clear ho2
  have LU_V := hide (fun k h => (⟨(own_lt_old ho k h).1, by have := (own_lt_old ho k h).2; (first | omega | (simp at this; omega))⟩ : k < w3.heap.size ∧ w2.heap.size ≤ k))
  have O_V := hide (show World.ownsRow w3 w.heap.size 3 1 (.slice A_V n_V c_V) n_V (((rideK z1 x).map Pn.off).map (Value.int .i64)) from own_base ho (by first | omega | (simp; omega)))
  clear ho
  have HD_U := hide hd
  clear hd
  have N_U : n_U ≤ 12 := by have h := RdLEN_int (Rd.of_own O_U.out); simp at h; omega
  have N_V : n_V ≤ 12 := by have h := RdLEN_int (Rd.of_own O_V.out); simp at h; omega
  go_wp2_with fail
  refine (equalInts_same A_g A_U n_g c_g n_U c_U ((rideK z1 x).map Pn.on) _ (by omega) (by repeat (first | exact Rd.of_own O_g.out | (with_reducible refine RdC.al ?_ _) | (with_reducible refine RdC.dr ?_) | (with_reducible refine RdC.drN ?_ _) | (with_reducible refine RdI.al ?_ _) | (with_reducible refine RdI.dr ?_) | (with_reducible refine RdI.drN ?_ _) | (with_reducible refine Rd.alloc ?_ _) | (with_reducible refine Rd.drew ?_) | (with_reducible refine Rd.drewN ?_ _))) (by repeat (first | exact Rd.of_own O_U.out | (with_reducible refine RdC.al ?_ _) | (with_reducible refine RdC.dr ?_) | (with_reducible refine RdC.drN ?_ _) | (with_reducible refine RdI.al ?_ _) | (with_reducible refine RdI.dr ?_) | (with_reducible refine RdI.drN ?_ _) | (with_reducible refine Rd.alloc ?_ _) | (with_reducible refine Rd.drew ?_) | (with_reducible refine Rd.drewN ?_ _)))).mono ?_
  rintro e wq1 ⟨rfl, q1, rfl⟩
  go_wp2_with fail
  refine (equalInts_same A_k A_V n_k c_k n_V c_V ((rideK z1 x).map Pn.off) _ (by omega) (by repeat (first | exact Rd.of_own O_k.out | (with_reducible refine RdC.al ?_ _) | (with_reducible refine RdC.dr ?_) | (with_reducible refine RdC.drN ?_ _) | (with_reducible refine RdI.al ?_ _) | (with_reducible refine RdI.dr ?_) | (with_reducible refine RdI.drN ?_ _) | (with_reducible refine Rd.alloc ?_ _) | (with_reducible refine Rd.drew ?_) | (with_reducible refine Rd.drewN ?_ _))) (by repeat (first | exact Rd.of_own O_V.out | (with_reducible refine RdC.al ?_ _) | (with_reducible refine RdC.dr ?_) | (with_reducible refine RdC.drN ?_ _) | (with_reducible refine RdI.al ?_ _) | (with_reducible refine RdI.dr ?_) | (with_reducible refine RdI.drN ?_ _) | (with_reducible refine Rd.alloc ?_ _) | (with_reducible refine Rd.drew ?_) | (with_reducible refine Rd.drewN ?_ _)))).mono ?_
  rintro e wq2 ⟨rfl, q2, rfl⟩
  have hlg := RdLEN_int (Rd.of_own O_g.out)
  have hlk := RdLEN_int (Rd.of_own O_k.out)
  rw [List.length_map] at hlg hlk
  have hnk : n_k = n_g := by omega
  subst hnk
  have Hlg := hide hlg
  clear hlg hlk
  by_cases h0 : n_k = 0
  · have h0' : ((n_k : Int) == 0) = true := by rw [beq_iff_eq]; omega
    clear h0
    go_wp2_with fail
    refine (equalInts_same A_g A_U n_k c_g n_U c_U ((rideK z1 x).map Pn.on) _ (by omega) (by repeat (first | exact Rd.of_own O_g.out | (with_reducible refine RdC.al ?_ _) | (with_reducible refine RdC.dr ?_) | (with_reducible refine RdC.drN ?_ _) | (with_reducible refine RdI.al ?_ _) | (with_reducible refine RdI.dr ?_) | (with_reducible refine RdI.drN ?_ _) | (with_reducible refine Rd.alloc ?_ _) | (with_reducible refine Rd.drew ?_) | (with_reducible refine Rd.drewN ?_ _))) (by repeat (first | exact Rd.of_own O_U.out | (with_reducible refine RdC.al ?_ _) | (with_reducible refine RdC.dr ?_) | (with_reducible refine RdC.drN ?_ _) | (with_reducible refine RdI.al ?_ _) | (with_reducible refine RdI.dr ?_) | (with_reducible refine RdI.drN ?_ _) | (with_reducible refine Rd.alloc ?_ _) | (with_reducible refine Rd.drew ?_) | (with_reducible refine Rd.drewN ?_ _)))).mono ?_
    rintro e wq3 ⟨rfl, q3, rfl⟩
    go_wp2_with fail
    refine (equalInts_same A_k A_V n_k c_k n_V c_V ((rideK z1 x).map Pn.off) _ (by omega) (by repeat (first | exact Rd.of_own O_k.out | (with_reducible refine RdC.al ?_ _) | (with_reducible refine RdC.dr ?_) | (with_reducible refine RdC.drN ?_ _) | (with_reducible refine RdI.al ?_ _) | (with_reducible refine RdI.dr ?_) | (with_reducible refine RdI.drN ?_ _) | (with_reducible refine Rd.alloc ?_ _) | (with_reducible refine Rd.drew ?_) | (with_reducible refine Rd.drewN ?_ _))) (by repeat (first | exact Rd.of_own O_V.out | (with_reducible refine RdC.al ?_ _) | (with_reducible refine RdC.dr ?_) | (with_reducible refine RdC.drN ?_ _) | (with_reducible refine RdI.al ?_ _) | (with_reducible refine RdI.dr ?_) | (with_reducible refine RdI.drN ?_ _) | (with_reducible refine Rd.alloc ?_ _) | (with_reducible refine Rd.drew ?_) | (with_reducible refine Rd.drewN ?_ _)))).mono ?_
    rintro e wq4 ⟨rfl, q4, rfl⟩
    go_wp2_with fail
    go_ret
    exact ⟨rfl, (by repeat (first | (with_reducible exact Below.refl _ _) | (with_reducible refine Below.drew ?_) | (with_reducible refine below_drewN ?_ _) | ((with_reducible refine Below.alloc ?_ ?_ _); rotate_left; (focus (first | (simp; done) | (simp; omega) | omega))) | ((with_reducible refine Below.setCell ?_ ?_ _); rotate_left; (focus (first | (simp; done) | (simp; omega) | omega))) | ((with_reducible refine Below.trans ?_ (Below.mono Hb.out ?_)); rotate_left; (focus (first | (simp; done) | (simp; omega) | omega))) | ((with_reducible refine Below.trans ?_ (Below.mono Hb16.out ?_)); rotate_left; (focus (first | (simp; done) | (simp; omega) | omega))) | ((with_reducible refine Below.trans ?_ (Below.mono Hb15.out ?_)); rotate_left; (focus (first | (simp; done) | (simp; omega) | omega))) | ((with_reducible refine Below.trans ?_ (Below.mono Hb14.out ?_)); rotate_left; (focus (first | (simp; done) | (simp; omega) | omega))) | ((with_reducible refine Below.trans ?_ (Below.mono Hb13.out ?_)); rotate_left; (focus (first | (simp; done) | (simp; omega) | omega))) | ((with_reducible refine Below.trans ?_ (Below.mono Hb12.out ?_)); rotate_left; (focus (first | (simp; done) | (simp; omega) | omega))) | ((with_reducible refine Below.trans ?_ (Below.mono Hb11.out ?_)); rotate_left; (focus (first | (simp; done) | (simp; omega) | omega))) | ((with_reducible refine Below.trans ?_ (Below.mono Hb10.out ?_)); rotate_left; (focus (first | (simp; done) | (simp; omega) | omega))) | ((with_reducible refine Below.trans ?_ (Below.mono Hb9.out ?_)); rotate_left; (focus (first | (simp; done) | (simp; omega) | omega))) | ((with_reducible refine Below.trans ?_ (Below.mono Hb8.out ?_)); rotate_left; (focus (first | (simp; done) | (simp; omega) | omega))) | ((with_reducible refine Below.trans ?_ (Below.mono Hb7.out ?_)); rotate_left; (focus (first | (simp; done) | (simp; omega) | omega))) | ((with_reducible refine Below.trans ?_ (Below.mono Hb6.out ?_)); rotate_left; (focus (first | (simp; done) | (simp; omega) | omega))) | ((with_reducible refine Below.trans ?_ (Below.mono Hb5.out ?_)); rotate_left; (focus (first | (simp; done) | (simp; omega) | omega))) | ((with_reducible refine Below.trans ?_ (Below.mono Hb4.out ?_)); rotate_left; (focus (first | (simp; done) | (simp; omega) | omega))) | ((with_reducible refine Below.trans ?_ (Below.mono Hb3.out ?_)); rotate_left; (focus (first | (simp; done) | (simp; omega) | omega))) | ((with_reducible refine Below.trans ?_ (Below.mono Hb2.out ?_)); rotate_left; (focus (first | (simp; done) | (simp; omega) | omega))) | ((with_reducible refine Below.trans ?_ (Below.mono Hb1.out ?_)); rotate_left; (focus (first | (simp; done) | (simp; omega) | omega))) | ((with_reducible refine Below.trans ?_ (below_of_only Hg16.out ?_ ?_)); rotate_left; (focus (first | (simp; done) | (simp; omega) | omega)); (intro k hk; cases hk; omega)) | ((with_reducible refine Below.trans ?_ (below_of_only Hg15.out ?_ ?_)); rotate_left; (focus (first | (simp; done) | (simp; omega) | omega)); (intro k hk; cases hk; omega)) | ((with_reducible refine Below.trans ?_ (below_of_only Hg14.out ?_ ?_)); rotate_left; (focus (first | (simp; done) | (simp; omega) | omega)); (intro k hk; cases hk; omega)) | ((with_reducible refine Below.trans ?_ (below_of_only Hg13.out ?_ ?_)); rotate_left; (focus (first | (simp; done) | (simp; omega) | omega)); (intro k hk; cases hk; omega)) | ((with_reducible refine Below.trans ?_ (below_of_only Hg12.out ?_ ?_)); rotate_left; (focus (first | (simp; done) | (simp; omega) | omega)); (intro k hk; cases hk; omega)) | ((with_reducible refine Below.trans ?_ (below_of_only Hg11.out ?_ ?_)); rotate_left; (focus (first | (simp; done) | (simp; omega) | omega)); (intro k hk; cases hk; omega)) | ((with_reducible refine Below.trans ?_ (below_of_only Hg10.out ?_ ?_)); rotate_left; (focus (first | (simp; done) | (simp; omega) | omega)); (intro k hk; cases hk; omega)) | ((with_reducible refine Below.trans ?_ (below_of_only Hg9.out ?_ ?_)); rotate_left; (focus (first | (simp; done) | (simp; omega) | omega)); (intro k hk; cases hk; omega)) | ((with_reducible refine Below.trans ?_ (below_of_only Hg8.out ?_ ?_)); rotate_left; (focus (first | (simp; done) | (simp; omega) | omega)); (intro k hk; cases hk; omega)) | ((with_reducible refine Below.trans ?_ (below_of_only Hg7.out ?_ ?_)); rotate_left; (focus (first | (simp; done) | (simp; omega) | omega)); (intro k hk; cases hk; omega)) | ((with_reducible refine Below.trans ?_ (below_of_only Hg6.out ?_ ?_)); rotate_left; (focus (first | (simp; done) | (simp; omega) | omega)); (intro k hk; cases hk; omega)) | ((with_reducible refine Below.trans ?_ (below_of_only Hg5.out ?_ ?_)); rotate_left; (focus (first | (simp; done) | (simp; omega) | omega)); (intro k hk; cases hk; omega)) | ((with_reducible refine Below.trans ?_ (below_of_only Hg4.out ?_ ?_)); rotate_left; (focus (first | (simp; done) | (simp; omega) | omega)); (intro k hk; cases hk; omega)) | ((with_reducible refine Below.trans ?_ (below_of_only Hg3.out ?_ ?_)); rotate_left; (focus (first | (simp; done) | (simp; omega) | omega)); (intro k hk; cases hk; omega)) | ((with_reducible refine Below.trans ?_ (below_of_only Hg2.out ?_ ?_)); rotate_left; (focus (first | (simp; done) | (simp; omega) | omega)); (intro k hk; cases hk; omega)) | ((with_reducible refine Below.trans ?_ (below_of_only Hg1.out ?_ ?_)); rotate_left; (focus (first | (simp; done) | (simp; omega) | omega)); (intro k hk; cases hk; omega))))⟩
  clear O_U LU_U
  clear O_V LU_V
  have h0' : ((n_k : Int) == 0) = false := by rw [beq_eq_false_iff_ne]; omega
  have Hn0 := hide h0
  have hval := rideK_ne (cs := z1) (start := x) (by have := Hlg.out; omega)
  have hrk := rideK_ok hval.1 hval.2
  have hst := inB_iff.1 hval.2
  obtain ⟨st0, st1⟩ := hst
  have hvi := valid_insL hval.1
  have HALL := hide (rideR_all hvi.2 hvi.1 st0 st1)
  have HON := hide (rideR_on hvi.2 st0 st1)
  have HROOM := hide (rideR_room hvi.2 st0 st1)
  have HCALL := hide (rideR_calls (insL z1) x)
  have HVI := hide hvi
  have HVAL := hide hval
  obtain ⟨ps, hps⟩ : ∃ ps, rideR (insL z1) x = ps := ⟨_, rfl⟩
  rw [hps] at HALL HON HROOM HCALL hrk
  have HRK := hide hrk
  have Hlp := hide (show ps.length = n_k by rw [← HRK.out]; exact Hlg.out)
  clear hval hvi hps hrk h0
  have hsk : sortedK z1 = insL z1 := by rw [sortedK_eq, if_pos HVAL.out.1]
  have Hsk := hide hsk
  clear hsk
  go_wp2_with fail
  refine (SortCalls_I A1 n1 c1 z1 _ (by omega) SA.out (by repeat (first | exact R_a.out | exact Rd.of_own O_a.out | (with_reducible refine RdC.al ?_ _) | (with_reducible refine RdC.dr ?_) | (with_reducible refine RdC.drN ?_ _) | (with_reducible refine RdI.al ?_ _) | (with_reducible refine RdI.dr ?_) | (with_reducible refine RdI.drN ?_ _) | (with_reducible refine Rd.alloc ?_ _) | (with_reducible refine Rd.drew ?_) | (with_reducible refine Rd.drewN ?_ _)))).mono ?_
  rintro e w4 ⟨A_s, n_s, c_s, rfl, ho, hb⟩
  have hz4 := hb.size
  try simp at hz4
  replace R_a := hide (show Rd w4 3 A1 n1 (cellsC z1) from Rd.below (by repeat (first | exact R_a.out | (with_reducible refine Rd.alloc ?_ _) | (with_reducible refine Rd.drew ?_) | (with_reducible refine Rd.drewN ?_ _))) hb (Nat.le_refl _))
  replace O_g := hide (show World.ownsRow w4 w.heap.size 3 1 (.slice A_g n_k c_g) n_k (((rideK z1 x).map Pn.on).map (Value.int .i64)) from own_below (by repeat (first | exact O_g.out | (with_reducible refine World.ownsRow.alloc ?_ _) | (with_reducible refine World.ownsRow.drew ?_) | (with_reducible refine own_drewN ?_ _))) hb (Nat.le_refl _))
  replace O_k := hide (show World.ownsRow w4 w.heap.size 3 1 (.slice A_k n_k c_k) n_k (((rideK z1 x).map Pn.off).map (Value.int .i64)) from own_below (by repeat (first | exact O_k.out | (with_reducible refine World.ownsRow.alloc ?_ _) | (with_reducible refine World.ownsRow.drew ?_) | (with_reducible refine own_drewN ?_ _))) hb (Nat.le_refl _))
  have Hb4 := hide hb
  clear hb
  rw [Hsk.out, ← HCALL.out] at ho
  have LU_s := hide (fun k h => (own_lt_old ho k h))
  have O_s := hide ho
  clear ho
  have OG := hide (show RdI w4 .i64 A_g n_k (ps.map Pn.on) from by rw [← HRK.out]; exact (by repeat (first | exact Rd.of_own O_g.out | (with_reducible refine RdC.al ?_ _) | (with_reducible refine RdC.dr ?_) | (with_reducible refine RdC.drN ?_ _) | (with_reducible refine RdI.al ?_ _) | (with_reducible refine RdI.dr ?_) | (with_reducible refine RdI.drN ?_ _) | (with_reducible refine Rd.alloc ?_ _) | (with_reducible refine Rd.drew ?_) | (with_reducible refine Rd.drewN ?_ _))))
  have OK := hide (show RdI w4 .i64 A_k n_k (ps.map Pn.off) from by rw [← HRK.out]; exact (by repeat (first | exact Rd.of_own O_k.out | (with_reducible refine RdC.al ?_ _) | (with_reducible refine RdC.dr ?_) | (with_reducible refine RdC.drN ?_ _) | (with_reducible refine RdI.al ?_ _) | (with_reducible refine RdI.dr ?_) | (with_reducible refine RdI.drN ?_ _) | (with_reducible refine Rd.alloc ?_ _) | (with_reducible refine Rd.drew ?_) | (with_reducible refine Rd.drewN ?_ _))))
  have hns : n_s = n_k := by have h := RdLEN_call (Rd.of_own O_s.out); have h2 := Hlp.out; rw [List.length_map] at h; omega
  subst hns
  have HBW := hide (show Below w.heap.size w w4 from (by repeat (first | (with_reducible exact Below.refl _ _) | (with_reducible refine Below.drew ?_) | (with_reducible refine below_drewN ?_ _) | ((with_reducible refine Below.alloc ?_ ?_ _); rotate_left; (focus (first | (simp; done) | (simp; omega) | omega))) | ((with_reducible refine Below.setCell ?_ ?_ _); rotate_left; (focus (first | (simp; done) | (simp; omega) | omega))) | ((with_reducible refine Below.trans ?_ (Below.mono Hb.out ?_)); rotate_left; (focus (first | (simp; done) | (simp; omega) | omega))) | ((with_reducible refine Below.trans ?_ (Below.mono Hb16.out ?_)); rotate_left; (focus (first | (simp; done) | (simp; omega) | omega))) | ((with_reducible refine Below.trans ?_ (Below.mono Hb15.out ?_)); rotate_left; (focus (first | (simp; done) | (simp; omega) | omega))) | ((with_reducible refine Below.trans ?_ (Below.mono Hb14.out ?_)); rotate_left; (focus (first | (simp; done) | (simp; omega) | omega))) | ((with_reducible refine Below.trans ?_ (Below.mono Hb13.out ?_)); rotate_left; (focus (first | (simp; done) | (simp; omega) | omega))) | ((with_reducible refine Below.trans ?_ (Below.mono Hb12.out ?_)); rotate_left; (focus (first | (simp; done) | (simp; omega) | omega))) | ((with_reducible refine Below.trans ?_ (Below.mono Hb11.out ?_)); rotate_left; (focus (first | (simp; done) | (simp; omega) | omega))) | ((with_reducible refine Below.trans ?_ (Below.mono Hb10.out ?_)); rotate_left; (focus (first | (simp; done) | (simp; omega) | omega))) | ((with_reducible refine Below.trans ?_ (Below.mono Hb9.out ?_)); rotate_left; (focus (first | (simp; done) | (simp; omega) | omega))) | ((with_reducible refine Below.trans ?_ (Below.mono Hb8.out ?_)); rotate_left; (focus (first | (simp; done) | (simp; omega) | omega))) | ((with_reducible refine Below.trans ?_ (Below.mono Hb7.out ?_)); rotate_left; (focus (first | (simp; done) | (simp; omega) | omega))) | ((with_reducible refine Below.trans ?_ (Below.mono Hb6.out ?_)); rotate_left; (focus (first | (simp; done) | (simp; omega) | omega))) | ((with_reducible refine Below.trans ?_ (Below.mono Hb5.out ?_)); rotate_left; (focus (first | (simp; done) | (simp; omega) | omega))) | ((with_reducible refine Below.trans ?_ (Below.mono Hb4.out ?_)); rotate_left; (focus (first | (simp; done) | (simp; omega) | omega))) | ((with_reducible refine Below.trans ?_ (Below.mono Hb3.out ?_)); rotate_left; (focus (first | (simp; done) | (simp; omega) | omega))) | ((with_reducible refine Below.trans ?_ (Below.mono Hb2.out ?_)); rotate_left; (focus (first | (simp; done) | (simp; omega) | omega))) | ((with_reducible refine Below.trans ?_ (Below.mono Hb1.out ?_)); rotate_left; (focus (first | (simp; done) | (simp; omega) | omega))) | ((with_reducible refine Below.trans ?_ (below_of_only Hg16.out ?_ ?_)); rotate_left; (focus (first | (simp; done) | (simp; omega) | omega)); (intro k hk; cases hk; omega)) | ((with_reducible refine Below.trans ?_ (below_of_only Hg15.out ?_ ?_)); rotate_left; (focus (first | (simp; done) | (simp; omega) | omega)); (intro k hk; cases hk; omega)) | ((with_reducible refine Below.trans ?_ (below_of_only Hg14.out ?_ ?_)); rotate_left; (focus (first | (simp; done) | (simp; omega) | omega)); (intro k hk; cases hk; omega)) | ((with_reducible refine Below.trans ?_ (below_of_only Hg13.out ?_ ?_)); rotate_left; (focus (first | (simp; done) | (simp; omega) | omega)); (intro k hk; cases hk; omega)) | ((with_reducible refine Below.trans ?_ (below_of_only Hg12.out ?_ ?_)); rotate_left; (focus (first | (simp; done) | (simp; omega) | omega)); (intro k hk; cases hk; omega)) | ((with_reducible refine Below.trans ?_ (below_of_only Hg11.out ?_ ?_)); rotate_left; (focus (first | (simp; done) | (simp; omega) | omega)); (intro k hk; cases hk; omega)) | ((with_reducible refine Below.trans ?_ (below_of_only Hg10.out ?_ ?_)); rotate_left; (focus (first | (simp; done) | (simp; omega) | omega)); (intro k hk; cases hk; omega)) | ((with_reducible refine Below.trans ?_ (below_of_only Hg9.out ?_ ?_)); rotate_left; (focus (first | (simp; done) | (simp; omega) | omega)); (intro k hk; cases hk; omega)) | ((with_reducible refine Below.trans ?_ (below_of_only Hg8.out ?_ ?_)); rotate_left; (focus (first | (simp; done) | (simp; omega) | omega)); (intro k hk; cases hk; omega)) | ((with_reducible refine Below.trans ?_ (below_of_only Hg7.out ?_ ?_)); rotate_left; (focus (first | (simp; done) | (simp; omega) | omega)); (intro k hk; cases hk; omega)) | ((with_reducible refine Below.trans ?_ (below_of_only Hg6.out ?_ ?_)); rotate_left; (focus (first | (simp; done) | (simp; omega) | omega)); (intro k hk; cases hk; omega)) | ((with_reducible refine Below.trans ?_ (below_of_only Hg5.out ?_ ?_)); rotate_left; (focus (first | (simp; done) | (simp; omega) | omega)); (intro k hk; cases hk; omega)) | ((with_reducible refine Below.trans ?_ (below_of_only Hg4.out ?_ ?_)); rotate_left; (focus (first | (simp; done) | (simp; omega) | omega)); (intro k hk; cases hk; omega)) | ((with_reducible refine Below.trans ?_ (below_of_only Hg3.out ?_ ?_)); rotate_left; (focus (first | (simp; done) | (simp; omega) | omega)); (intro k hk; cases hk; omega)) | ((with_reducible refine Below.trans ?_ (below_of_only Hg2.out ?_ ?_)); rotate_left; (focus (first | (simp; done) | (simp; omega) | omega)); (intro k hk; cases hk; omega)) | ((with_reducible refine Below.trans ?_ (below_of_only Hg1.out ?_ ?_)); rotate_left; (focus (first | (simp; done) | (simp; omega) | omega)); (intro k hk; cases hk; omega)))))
  go_wp2_with fail
  go_loopw [10] (fun i wr => ∃ j : Nat, j ≤ n_s ∧ i = .int .i64 j ∧ ∃ q, wr = w4.drewN q) (fun i _ => n_s - (intOf i).toNat)
  case atStart => exact ⟨0, Nat.zero_le _, rfl, 0, rfl⟩
  case round =>
    obtain ⟨j, hj, rfl, q, rfl⟩ := hrel
    by_cases hlt : j < n_s
    · obtain ⟨p, hp⟩ : ∃ p, ps[j]? = some p := ⟨_, List.getElem?_eq_getElem (by have := Hlp.out; omega)⟩
      obtain ⟨bg, og, hAg, e1⟩ := row_at OG.out rfl hlt hp
      obtain ⟨bk, ok, hAk, e2⟩ := row_at OK.out rfl hlt hp
      subst hAg hAk
      obtain ⟨bs, os, f, t, c, hAs, hbs, hz, d1, d2, d3⟩ := RdC.at_ (Rd.of_own O_s.out) hlt
      subst hAs
      rw [List.getElem?_map, hp] at hz
      have hz := Option.some.inj hz
      injection hz with y1 y2
      injection y2 with y2 y3
      subst y1 y2 y3
      have hm := List.mem_of_getElem? hp
      obtain ⟨a1, a2, a3, a4⟩ := HALL.out p hm
      obtain ⟨a5, a6, a7, a8⟩ := HON.out p hm
      have hv := HVI.out.2 (callOf p) (by rw [← HCALL.out]; exact List.mem_map_of_mem hm)
      simp only [vCall, callOf, Bool.and_eq_true] at hv
      have b1 := of_decide_eq_true hv.1.1.1
      have b2 := of_decide_eq_true hv.1.1.2
      obtain ⟨b3, b4⟩ := b1
      obtain ⟨b5, b6⟩ := b2
      obtain ⟨D, hD⟩ : ∃ D, (p.t - p.f).natAbs = D := ⟨_, rfl⟩
      have KA := hide (fun w' => absoluteR_v (p.t - p.f) D w' (by omega) (by omega) hD)
      have g1 : decide (n_s ≤ j) = false := by simp; omega
      have g2 : decide (p.on < p.c) = false := by simp; omega
      have g3 : decide (p.off - p.on < (D : Int)) = false := by simp; omega
      have g4 : ¬ p.off - p.on < (D : Int) := by omega
      have hq1 : IntKind.i64.wrap (p.off - p.on) = p.off - p.on := IntWalk.i64_in _ (by omega)
      have hq2 : IntKind.i64.wrap (p.t - p.f) = p.t - p.f := IntWalk.i64_in _ (by omega)
      have hltz : (j : Int) < (n_s : Int) := by omega
      clear hp hm hv hD a1 a2 a3 a4
      go_wp2_with fail
      go_quiet ((go_at_call 24; first | (with_reducible exact quiet_add_same (KA.out _)) | (with_reducible exact Calls.quiet_of_same (KA.out _))))
      go_wp2_with fail
      go_roundw
      case rel => exact ⟨j + 1, by omega, by go_num, _, rfl⟩
      case measure => simp [intOf]; omega
    · obtain rfl : j = n_s := by omega
      go_wp2_with fail
      go_ret
      exact ⟨rfl, below_drewN HBW.out _⟩

def inP (t : Int) (p : Pn) : Bool := decide (p.on ≤ t) && decide (t < p.off)
theorem countP_le {ps : List Pn} {t : Int} (h : ∀ p ∈ ps, 0 ≤ p.on ∧ 0 ≤ p.off) : ps.countP (inP t) = cnt ps t := by
  unfold cnt
  apply List.countP_congr
  intro p hp
  have := h p hp
  simp only [inP, inAt, Bool.and_eq_true, Bool.or_eq_true, decide_eq_true_eq]
  omega
theorem countP_snoc {ps : List Pn} {k : Nat} {p : Pn} (t : Int) (h : ps[k]? = some p) : (ps.take (k + 1)).countP (inP t) = (ps.take k).countP (inP t) + if inP t p = true then 1 else 0 := by
  rw [take_snoc _ _ _ h, List.countP_append]
  simp [List.countP_cons]
set_option maxHeartbeats 4000000 in
theorem fnRideTimesRoom_walk (A : Option Addr) (n c : Nat) (zs : List Int) (w : World) (hl : n ≤ c) (hr : RdI w .u8 A n zs) (hz : ∀ z ∈ zs, (Lit.int .u8 z).wf = true) :
    Calls Try.prog 5 #[.slice A n c] w fun e w' => e = .returned (.bool true) ∧ Below w.heap.size w w' := by
  have Ha := hide (code8_of hl hr hz)
  clear hr hz
  by_cases hn : 1048576 < n
  · have hn' : (1048576 : Int) < (n : Int) := by omega
    go_enter Try.func5, Try.ntmps5
    go_wp2_with fail
    go_ret
    exact ⟨rfl, Below.refl _ _⟩
  have hn' : (n : Int) ≤ 1048576 := by omega
  go_enter Try.func5, Try.ntmps5
  go_wp2_with fail
  refine (DrawRideTimes_any _ A n c _ (Nat.le_refl _) Ha.out).mono ?_
  rintro e w1 ⟨A1, n1, c1, z1, x, rfl, hn1, x0, x1, oA1, r1, hb⟩
  have hz1 := hb.size
  try simp at hz1
  have Hb1 := hide hb
  clear hb
  have R_a := hide r1
  have hle := rideK_len z1 x
  have Hl1 := hide (RdC.len r1)
  have OA := hide oA1
  have SA := hide (Sl.of_ownA oA1)
  clear r1 oA1
  go_wp2_with fail
  refine (RideTimes_i A1 n1 c1 z1 x _ (by omega) SA.out (by repeat (first | exact R_a.out | exact Rd.of_own O_a.out | (with_reducible refine RdC.al ?_ _) | (with_reducible refine RdC.dr ?_) | (with_reducible refine RdC.drN ?_ _) | (with_reducible refine RdI.al ?_ _) | (with_reducible refine RdI.dr ?_) | (with_reducible refine RdI.drN ?_ _) | (with_reducible refine Rd.alloc ?_ _) | (with_reducible refine Rd.drew ?_) | (with_reducible refine Rd.drewN ?_ _)))).mono ?_
  rintro e w2 ⟨A_g, n_g, c_g, A_k, n_k, c_k, rfl, ho, ho2, hd, hb⟩
  have hz2 := hb.size
  try simp at hz2
  replace R_a := hide (show Rd w2 3 A1 n1 (cellsC z1) from Rd.below (by repeat (first | exact R_a.out | (with_reducible refine Rd.alloc ?_ _) | (with_reducible refine Rd.drew ?_) | (with_reducible refine Rd.drewN ?_ _))) hb (Nat.le_refl _))
  have Hb2 := hide hb
  clear hb
  have LU_g := hide (fun k h => (⟨(own_lt_old ho k h).1, by have := (own_lt_old ho k h).2; (first | omega | (simp at this; omega))⟩ : k < w2.heap.size ∧ w1.heap.size ≤ k))
  have O_g := hide (show World.ownsRow w2 w.heap.size 3 1 (.slice A_g n_g c_g) n_g (((rideK z1 x).map Pn.on).map (Value.int .i64)) from own_base ho (by first | omega | (simp; omega)))
  clear ho
  have ho := ho2
  clear ho2
  have LU_k := hide (fun k h => (⟨(own_lt_old ho k h).1, by have := (own_lt_old ho k h).2; (first | omega | (simp at this; omega))⟩ : k < w2.heap.size ∧ w1.heap.size ≤ k))
  have O_k := hide (show World.ownsRow w2 w.heap.size 3 1 (.slice A_k n_k c_k) n_k (((rideK z1 x).map Pn.off).map (Value.int .i64)) from own_base ho (by first | omega | (simp; omega)))
  clear ho
  have HD_g := hide hd
  clear hd
  have N_g : n_g ≤ 12 := by have h := RdLEN_int (Rd.of_own O_g.out); simp at h; omega
  have N_k : n_k ≤ 12 := by have h := RdLEN_int (Rd.of_own O_k.out); simp at h; omega
  go_wp2_with fail
  refine (RideTimes_s A1 n1 c1 z1 x _ (by omega) SA.out (by repeat (first | exact R_a.out | exact Rd.of_own O_a.out | (with_reducible refine RdC.al ?_ _) | (with_reducible refine RdC.dr ?_) | (with_reducible refine RdC.drN ?_ _) | (with_reducible refine RdI.al ?_ _) | (with_reducible refine RdI.dr ?_) | (with_reducible refine RdI.drN ?_ _) | (with_reducible refine Rd.alloc ?_ _) | (with_reducible refine Rd.drew ?_) | (with_reducible refine Rd.drewN ?_ _)))).mono ?_
  rintro e w3 ⟨A_U, n_U, c_U, A_V, n_V, c_V, rfl, ho, ho2, hd, hb⟩
  have hz3 := hb.size
  try simp at hz3
  replace R_a := hide (show Rd w3 3 A1 n1 (cellsC z1) from Rd.below (by repeat (first | exact R_a.out | (with_reducible refine Rd.alloc ?_ _) | (with_reducible refine Rd.drew ?_) | (with_reducible refine Rd.drewN ?_ _))) hb (Nat.le_refl _))
  replace O_g := hide (show World.ownsRow w3 w.heap.size 3 1 (.slice A_g n_g c_g) n_g (((rideK z1 x).map Pn.on).map (Value.int .i64)) from own_below (by repeat (first | exact O_g.out | (with_reducible refine World.ownsRow.alloc ?_ _) | (with_reducible refine World.ownsRow.drew ?_) | (with_reducible refine own_drewN ?_ _))) hb (Nat.le_refl _))
  replace O_k := hide (show World.ownsRow w3 w.heap.size 3 1 (.slice A_k n_k c_k) n_k (((rideK z1 x).map Pn.off).map (Value.int .i64)) from own_below (by repeat (first | exact O_k.out | (with_reducible refine World.ownsRow.alloc ?_ _) | (with_reducible refine World.ownsRow.drew ?_) | (with_reducible refine own_drewN ?_ _))) hb (Nat.le_refl _))
  have Hb3 := hide hb
  clear hb
  have LU_U := hide (fun k h => (⟨(own_lt_old ho k h).1, by have := (own_lt_old ho k h).2; (first | omega | (simp at this; omega))⟩ : k < w3.heap.size ∧ w2.heap.size ≤ k))
  have O_U := hide (show World.ownsRow w3 w.heap.size 3 1 (.slice A_U n_U c_U) n_U (((rideK z1 x).map Pn.on).map (Value.int .i64)) from own_base ho (by first | omega | (simp; omega)))
  clear ho
  have ho := ho2
  clear ho2
  have LU_V := hide (fun k h => (⟨(own_lt_old ho k h).1, by have := (own_lt_old ho k h).2; (first | omega | (simp at this; omega))⟩ : k < w3.heap.size ∧ w2.heap.size ≤ k))
  have O_V := hide (show World.ownsRow w3 w.heap.size 3 1 (.slice A_V n_V c_V) n_V (((rideK z1 x).map Pn.off).map (Value.int .i64)) from own_base ho (by first | omega | (simp; omega)))
  clear ho
  have HD_U := hide hd
  clear hd
  have N_U : n_U ≤ 12 := by have h := RdLEN_int (Rd.of_own O_U.out); simp at h; omega
  have N_V : n_V ≤ 12 := by have h := RdLEN_int (Rd.of_own O_V.out); simp at h; omega
  go_wp2_with fail
  refine (equalInts_same A_g A_U n_g c_g n_U c_U ((rideK z1 x).map Pn.on) _ (by omega) (by repeat (first | exact Rd.of_own O_g.out | (with_reducible refine RdC.al ?_ _) | (with_reducible refine RdC.dr ?_) | (with_reducible refine RdC.drN ?_ _) | (with_reducible refine RdI.al ?_ _) | (with_reducible refine RdI.dr ?_) | (with_reducible refine RdI.drN ?_ _) | (with_reducible refine Rd.alloc ?_ _) | (with_reducible refine Rd.drew ?_) | (with_reducible refine Rd.drewN ?_ _))) (by repeat (first | exact Rd.of_own O_U.out | (with_reducible refine RdC.al ?_ _) | (with_reducible refine RdC.dr ?_) | (with_reducible refine RdC.drN ?_ _) | (with_reducible refine RdI.al ?_ _) | (with_reducible refine RdI.dr ?_) | (with_reducible refine RdI.drN ?_ _) | (with_reducible refine Rd.alloc ?_ _) | (with_reducible refine Rd.drew ?_) | (with_reducible refine Rd.drewN ?_ _)))).mono ?_
  rintro e wq1 ⟨rfl, q1, rfl⟩
  go_wp2_with fail
  refine (equalInts_same A_k A_V n_k c_k n_V c_V ((rideK z1 x).map Pn.off) _ (by omega) (by repeat (first | exact Rd.of_own O_k.out | (with_reducible refine RdC.al ?_ _) | (with_reducible refine RdC.dr ?_) | (with_reducible refine RdC.drN ?_ _) | (with_reducible refine RdI.al ?_ _) | (with_reducible refine RdI.dr ?_) | (with_reducible refine RdI.drN ?_ _) | (with_reducible refine Rd.alloc ?_ _) | (with_reducible refine Rd.drew ?_) | (with_reducible refine Rd.drewN ?_ _))) (by repeat (first | exact Rd.of_own O_V.out | (with_reducible refine RdC.al ?_ _) | (with_reducible refine RdC.dr ?_) | (with_reducible refine RdC.drN ?_ _) | (with_reducible refine RdI.al ?_ _) | (with_reducible refine RdI.dr ?_) | (with_reducible refine RdI.drN ?_ _) | (with_reducible refine Rd.alloc ?_ _) | (with_reducible refine Rd.drew ?_) | (with_reducible refine Rd.drewN ?_ _)))).mono ?_
  rintro e wq2 ⟨rfl, q2, rfl⟩
  have hlg := RdLEN_int (Rd.of_own O_g.out)
  have hlk := RdLEN_int (Rd.of_own O_k.out)
  rw [List.length_map] at hlg hlk
  have hnk : n_k = n_g := by omega
  subst hnk
  have Hlg := hide hlg
  clear hlg hlk
  by_cases h0 : n_k = 0
  · have h0' : ((n_k : Int) == 0) = true := by rw [beq_iff_eq]; omega
    clear h0
    go_wp2_with fail
    refine (equalInts_same A_g A_U n_k c_g n_U c_U ((rideK z1 x).map Pn.on) _ (by omega) (by repeat (first | exact Rd.of_own O_g.out | (with_reducible refine RdC.al ?_ _) | (with_reducible refine RdC.dr ?_) | (with_reducible refine RdC.drN ?_ _) | (with_reducible refine RdI.al ?_ _) | (with_reducible refine RdI.dr ?_) | (with_reducible refine RdI.drN ?_ _) | (with_reducible refine Rd.alloc ?_ _) | (with_reducible refine Rd.drew ?_) | (with_reducible refine Rd.drewN ?_ _))) (by repeat (first | exact Rd.of_own O_U.out | (with_reducible refine RdC.al ?_ _) | (with_reducible refine RdC.dr ?_) | (with_reducible refine RdC.drN ?_ _) | (with_reducible refine RdI.al ?_ _) | (with_reducible refine RdI.dr ?_) | (with_reducible refine RdI.drN ?_ _) | (with_reducible refine Rd.alloc ?_ _) | (with_reducible refine Rd.drew ?_) | (with_reducible refine Rd.drewN ?_ _)))).mono ?_
    rintro e wq3 ⟨rfl, q3, rfl⟩
    go_wp2_with fail
    refine (equalInts_same A_k A_V n_k c_k n_V c_V ((rideK z1 x).map Pn.off) _ (by omega) (by repeat (first | exact Rd.of_own O_k.out | (with_reducible refine RdC.al ?_ _) | (with_reducible refine RdC.dr ?_) | (with_reducible refine RdC.drN ?_ _) | (with_reducible refine RdI.al ?_ _) | (with_reducible refine RdI.dr ?_) | (with_reducible refine RdI.drN ?_ _) | (with_reducible refine Rd.alloc ?_ _) | (with_reducible refine Rd.drew ?_) | (with_reducible refine Rd.drewN ?_ _))) (by repeat (first | exact Rd.of_own O_V.out | (with_reducible refine RdC.al ?_ _) | (with_reducible refine RdC.dr ?_) | (with_reducible refine RdC.drN ?_ _) | (with_reducible refine RdI.al ?_ _) | (with_reducible refine RdI.dr ?_) | (with_reducible refine RdI.drN ?_ _) | (with_reducible refine Rd.alloc ?_ _) | (with_reducible refine Rd.drew ?_) | (with_reducible refine Rd.drewN ?_ _)))).mono ?_
    rintro e wq4 ⟨rfl, q4, rfl⟩
    go_wp2_with fail
    go_ret
    exact ⟨rfl, (by repeat (first | (with_reducible exact Below.refl _ _) | (with_reducible refine Below.drew ?_) | (with_reducible refine below_drewN ?_ _) | ((with_reducible refine Below.alloc ?_ ?_ _); rotate_left; (focus (first | (simp; done) | (simp; omega) | omega))) | ((with_reducible refine Below.setCell ?_ ?_ _); rotate_left; (focus (first | (simp; done) | (simp; omega) | omega))) | ((with_reducible refine Below.trans ?_ (Below.mono Hb.out ?_)); rotate_left; (focus (first | (simp; done) | (simp; omega) | omega))) | ((with_reducible refine Below.trans ?_ (Below.mono Hb16.out ?_)); rotate_left; (focus (first | (simp; done) | (simp; omega) | omega))) | ((with_reducible refine Below.trans ?_ (Below.mono Hb15.out ?_)); rotate_left; (focus (first | (simp; done) | (simp; omega) | omega))) | ((with_reducible refine Below.trans ?_ (Below.mono Hb14.out ?_)); rotate_left; (focus (first | (simp; done) | (simp; omega) | omega))) | ((with_reducible refine Below.trans ?_ (Below.mono Hb13.out ?_)); rotate_left; (focus (first | (simp; done) | (simp; omega) | omega))) | ((with_reducible refine Below.trans ?_ (Below.mono Hb12.out ?_)); rotate_left; (focus (first | (simp; done) | (simp; omega) | omega))) | ((with_reducible refine Below.trans ?_ (Below.mono Hb11.out ?_)); rotate_left; (focus (first | (simp; done) | (simp; omega) | omega))) | ((with_reducible refine Below.trans ?_ (Below.mono Hb10.out ?_)); rotate_left; (focus (first | (simp; done) | (simp; omega) | omega))) | ((with_reducible refine Below.trans ?_ (Below.mono Hb9.out ?_)); rotate_left; (focus (first | (simp; done) | (simp; omega) | omega))) | ((with_reducible refine Below.trans ?_ (Below.mono Hb8.out ?_)); rotate_left; (focus (first | (simp; done) | (simp; omega) | omega))) | ((with_reducible refine Below.trans ?_ (Below.mono Hb7.out ?_)); rotate_left; (focus (first | (simp; done) | (simp; omega) | omega))) | ((with_reducible refine Below.trans ?_ (Below.mono Hb6.out ?_)); rotate_left; (focus (first | (simp; done) | (simp; omega) | omega))) | ((with_reducible refine Below.trans ?_ (Below.mono Hb5.out ?_)); rotate_left; (focus (first | (simp; done) | (simp; omega) | omega))) | ((with_reducible refine Below.trans ?_ (Below.mono Hb4.out ?_)); rotate_left; (focus (first | (simp; done) | (simp; omega) | omega))) | ((with_reducible refine Below.trans ?_ (Below.mono Hb3.out ?_)); rotate_left; (focus (first | (simp; done) | (simp; omega) | omega))) | ((with_reducible refine Below.trans ?_ (Below.mono Hb2.out ?_)); rotate_left; (focus (first | (simp; done) | (simp; omega) | omega))) | ((with_reducible refine Below.trans ?_ (Below.mono Hb1.out ?_)); rotate_left; (focus (first | (simp; done) | (simp; omega) | omega))) | ((with_reducible refine Below.trans ?_ (below_of_only Hg16.out ?_ ?_)); rotate_left; (focus (first | (simp; done) | (simp; omega) | omega)); (intro k hk; cases hk; omega)) | ((with_reducible refine Below.trans ?_ (below_of_only Hg15.out ?_ ?_)); rotate_left; (focus (first | (simp; done) | (simp; omega) | omega)); (intro k hk; cases hk; omega)) | ((with_reducible refine Below.trans ?_ (below_of_only Hg14.out ?_ ?_)); rotate_left; (focus (first | (simp; done) | (simp; omega) | omega)); (intro k hk; cases hk; omega)) | ((with_reducible refine Below.trans ?_ (below_of_only Hg13.out ?_ ?_)); rotate_left; (focus (first | (simp; done) | (simp; omega) | omega)); (intro k hk; cases hk; omega)) | ((with_reducible refine Below.trans ?_ (below_of_only Hg12.out ?_ ?_)); rotate_left; (focus (first | (simp; done) | (simp; omega) | omega)); (intro k hk; cases hk; omega)) | ((with_reducible refine Below.trans ?_ (below_of_only Hg11.out ?_ ?_)); rotate_left; (focus (first | (simp; done) | (simp; omega) | omega)); (intro k hk; cases hk; omega)) | ((with_reducible refine Below.trans ?_ (below_of_only Hg10.out ?_ ?_)); rotate_left; (focus (first | (simp; done) | (simp; omega) | omega)); (intro k hk; cases hk; omega)) | ((with_reducible refine Below.trans ?_ (below_of_only Hg9.out ?_ ?_)); rotate_left; (focus (first | (simp; done) | (simp; omega) | omega)); (intro k hk; cases hk; omega)) | ((with_reducible refine Below.trans ?_ (below_of_only Hg8.out ?_ ?_)); rotate_left; (focus (first | (simp; done) | (simp; omega) | omega)); (intro k hk; cases hk; omega)) | ((with_reducible refine Below.trans ?_ (below_of_only Hg7.out ?_ ?_)); rotate_left; (focus (first | (simp; done) | (simp; omega) | omega)); (intro k hk; cases hk; omega)) | ((with_reducible refine Below.trans ?_ (below_of_only Hg6.out ?_ ?_)); rotate_left; (focus (first | (simp; done) | (simp; omega) | omega)); (intro k hk; cases hk; omega)) | ((with_reducible refine Below.trans ?_ (below_of_only Hg5.out ?_ ?_)); rotate_left; (focus (first | (simp; done) | (simp; omega) | omega)); (intro k hk; cases hk; omega)) | ((with_reducible refine Below.trans ?_ (below_of_only Hg4.out ?_ ?_)); rotate_left; (focus (first | (simp; done) | (simp; omega) | omega)); (intro k hk; cases hk; omega)) | ((with_reducible refine Below.trans ?_ (below_of_only Hg3.out ?_ ?_)); rotate_left; (focus (first | (simp; done) | (simp; omega) | omega)); (intro k hk; cases hk; omega)) | ((with_reducible refine Below.trans ?_ (below_of_only Hg2.out ?_ ?_)); rotate_left; (focus (first | (simp; done) | (simp; omega) | omega)); (intro k hk; cases hk; omega)) | ((with_reducible refine Below.trans ?_ (below_of_only Hg1.out ?_ ?_)); rotate_left; (focus (first | (simp; done) | (simp; omega) | omega)); (intro k hk; cases hk; omega))))⟩
  clear O_U LU_U
  clear O_V LU_V
  have h0' : ((n_k : Int) == 0) = false := by rw [beq_eq_false_iff_ne]; omega
  have Hn0 := hide h0
  have hval := rideK_ne (cs := z1) (start := x) (by have := Hlg.out; omega)
  have hrk := rideK_ok hval.1 hval.2
  have hst := inB_iff.1 hval.2
  obtain ⟨st0, st1⟩ := hst
  have hvi := valid_insL hval.1
  have HALL := hide (rideR_all hvi.2 hvi.1 st0 st1)
  have HON := hide (rideR_on hvi.2 st0 st1)
  have HROOM := hide (rideR_room hvi.2 st0 st1)
  have HCALL := hide (rideR_calls (insL z1) x)
  have HVI := hide hvi
  have HVAL := hide hval
  obtain ⟨ps, hps⟩ : ∃ ps, rideR (insL z1) x = ps := ⟨_, rfl⟩
  rw [hps] at HALL HON HROOM HCALL hrk
  have HRK := hide hrk
  have Hlp := hide (show ps.length = n_k by rw [← HRK.out]; exact Hlg.out)
  clear hval hvi hps hrk h0
  have OG0 := hide (fun (w9 : World) (h : RdI w9 .i64 A_g n_k ((rideK z1 x).map Pn.on)) => (show RdI w9 .i64 A_g n_k (ps.map Pn.on) from by rw [← HRK.out]; exact h))
  have OK0 := hide (fun (w9 : World) (h : RdI w9 .i64 A_k n_k ((rideK z1 x).map Pn.off)) => (show RdI w9 .i64 A_k n_k (ps.map Pn.off) from by rw [← HRK.out]; exact h))
  have OG := hide (OG0.out w3 (by repeat (first | exact Rd.of_own O_g.out | (with_reducible refine RdC.al ?_ _) | (with_reducible refine RdC.dr ?_) | (with_reducible refine RdC.drN ?_ _) | (with_reducible refine RdI.al ?_ _) | (with_reducible refine RdI.dr ?_) | (with_reducible refine RdI.drN ?_ _) | (with_reducible refine Rd.alloc ?_ _) | (with_reducible refine Rd.drew ?_) | (with_reducible refine Rd.drewN ?_ _))))
  have OK := hide (OK0.out w3 (by repeat (first | exact Rd.of_own O_k.out | (with_reducible refine RdC.al ?_ _) | (with_reducible refine RdC.dr ?_) | (with_reducible refine RdC.drN ?_ _) | (with_reducible refine RdI.al ?_ _) | (with_reducible refine RdI.dr ?_) | (with_reducible refine RdI.drN ?_ _) | (with_reducible refine Rd.alloc ?_ _) | (with_reducible refine Rd.drew ?_) | (with_reducible refine Rd.drewN ?_ _))))
  have HBW := hide (show Below w.heap.size w w3 from (by repeat (first | (with_reducible exact Below.refl _ _) | (with_reducible refine Below.drew ?_) | (with_reducible refine below_drewN ?_ _) | ((with_reducible refine Below.alloc ?_ ?_ _); rotate_left; (focus (first | (simp; done) | (simp; omega) | omega))) | ((with_reducible refine Below.setCell ?_ ?_ _); rotate_left; (focus (first | (simp; done) | (simp; omega) | omega))) | ((with_reducible refine Below.trans ?_ (Below.mono Hb.out ?_)); rotate_left; (focus (first | (simp; done) | (simp; omega) | omega))) | ((with_reducible refine Below.trans ?_ (Below.mono Hb16.out ?_)); rotate_left; (focus (first | (simp; done) | (simp; omega) | omega))) | ((with_reducible refine Below.trans ?_ (Below.mono Hb15.out ?_)); rotate_left; (focus (first | (simp; done) | (simp; omega) | omega))) | ((with_reducible refine Below.trans ?_ (Below.mono Hb14.out ?_)); rotate_left; (focus (first | (simp; done) | (simp; omega) | omega))) | ((with_reducible refine Below.trans ?_ (Below.mono Hb13.out ?_)); rotate_left; (focus (first | (simp; done) | (simp; omega) | omega))) | ((with_reducible refine Below.trans ?_ (Below.mono Hb12.out ?_)); rotate_left; (focus (first | (simp; done) | (simp; omega) | omega))) | ((with_reducible refine Below.trans ?_ (Below.mono Hb11.out ?_)); rotate_left; (focus (first | (simp; done) | (simp; omega) | omega))) | ((with_reducible refine Below.trans ?_ (Below.mono Hb10.out ?_)); rotate_left; (focus (first | (simp; done) | (simp; omega) | omega))) | ((with_reducible refine Below.trans ?_ (Below.mono Hb9.out ?_)); rotate_left; (focus (first | (simp; done) | (simp; omega) | omega))) | ((with_reducible refine Below.trans ?_ (Below.mono Hb8.out ?_)); rotate_left; (focus (first | (simp; done) | (simp; omega) | omega))) | ((with_reducible refine Below.trans ?_ (Below.mono Hb7.out ?_)); rotate_left; (focus (first | (simp; done) | (simp; omega) | omega))) | ((with_reducible refine Below.trans ?_ (Below.mono Hb6.out ?_)); rotate_left; (focus (first | (simp; done) | (simp; omega) | omega))) | ((with_reducible refine Below.trans ?_ (Below.mono Hb5.out ?_)); rotate_left; (focus (first | (simp; done) | (simp; omega) | omega))) | ((with_reducible refine Below.trans ?_ (Below.mono Hb4.out ?_)); rotate_left; (focus (first | (simp; done) | (simp; omega) | omega))) | ((with_reducible refine Below.trans ?_ (Below.mono Hb3.out ?_)); rotate_left; (focus (first | (simp; done) | (simp; omega) | omega))) | ((with_reducible refine Below.trans ?_ (Below.mono Hb2.out ?_)); rotate_left; (focus (first | (simp; done) | (simp; omega) | omega))) | ((with_reducible refine Below.trans ?_ (Below.mono Hb1.out ?_)); rotate_left; (focus (first | (simp; done) | (simp; omega) | omega))) | ((with_reducible refine Below.trans ?_ (below_of_only Hg16.out ?_ ?_)); rotate_left; (focus (first | (simp; done) | (simp; omega) | omega)); (intro k hk; cases hk; omega)) | ((with_reducible refine Below.trans ?_ (below_of_only Hg15.out ?_ ?_)); rotate_left; (focus (first | (simp; done) | (simp; omega) | omega)); (intro k hk; cases hk; omega)) | ((with_reducible refine Below.trans ?_ (below_of_only Hg14.out ?_ ?_)); rotate_left; (focus (first | (simp; done) | (simp; omega) | omega)); (intro k hk; cases hk; omega)) | ((with_reducible refine Below.trans ?_ (below_of_only Hg13.out ?_ ?_)); rotate_left; (focus (first | (simp; done) | (simp; omega) | omega)); (intro k hk; cases hk; omega)) | ((with_reducible refine Below.trans ?_ (below_of_only Hg12.out ?_ ?_)); rotate_left; (focus (first | (simp; done) | (simp; omega) | omega)); (intro k hk; cases hk; omega)) | ((with_reducible refine Below.trans ?_ (below_of_only Hg11.out ?_ ?_)); rotate_left; (focus (first | (simp; done) | (simp; omega) | omega)); (intro k hk; cases hk; omega)) | ((with_reducible refine Below.trans ?_ (below_of_only Hg10.out ?_ ?_)); rotate_left; (focus (first | (simp; done) | (simp; omega) | omega)); (intro k hk; cases hk; omega)) | ((with_reducible refine Below.trans ?_ (below_of_only Hg9.out ?_ ?_)); rotate_left; (focus (first | (simp; done) | (simp; omega) | omega)); (intro k hk; cases hk; omega)) | ((with_reducible refine Below.trans ?_ (below_of_only Hg8.out ?_ ?_)); rotate_left; (focus (first | (simp; done) | (simp; omega) | omega)); (intro k hk; cases hk; omega)) | ((with_reducible refine Below.trans ?_ (below_of_only Hg7.out ?_ ?_)); rotate_left; (focus (first | (simp; done) | (simp; omega) | omega)); (intro k hk; cases hk; omega)) | ((with_reducible refine Below.trans ?_ (below_of_only Hg6.out ?_ ?_)); rotate_left; (focus (first | (simp; done) | (simp; omega) | omega)); (intro k hk; cases hk; omega)) | ((with_reducible refine Below.trans ?_ (below_of_only Hg5.out ?_ ?_)); rotate_left; (focus (first | (simp; done) | (simp; omega) | omega)); (intro k hk; cases hk; omega)) | ((with_reducible refine Below.trans ?_ (below_of_only Hg4.out ?_ ?_)); rotate_left; (focus (first | (simp; done) | (simp; omega) | omega)); (intro k hk; cases hk; omega)) | ((with_reducible refine Below.trans ?_ (below_of_only Hg3.out ?_ ?_)); rotate_left; (focus (first | (simp; done) | (simp; omega) | omega)); (intro k hk; cases hk; omega)) | ((with_reducible refine Below.trans ?_ (below_of_only Hg2.out ?_ ?_)); rotate_left; (focus (first | (simp; done) | (simp; omega) | omega)); (intro k hk; cases hk; omega)) | ((with_reducible refine Below.trans ?_ (below_of_only Hg1.out ?_ ?_)); rotate_left; (focus (first | (simp; done) | (simp; omega) | omega)); (intro k hk; cases hk; omega)))))
  go_wp2_with fail
  go_loopw [9] (fun i wr => ∃ j : Nat, j ≤ n_k ∧ i = .int .i64 j ∧ ∃ q, wr = w3.drewN q) (fun i _ => n_k - (intOf i).toNat)
  case atStart => exact ⟨0, Nat.zero_le _, rfl, _, rfl⟩
  case round =>
    obtain ⟨j, hj, rfl, q, rfl⟩ := hrel
    by_cases hlt : j < n_k
    · obtain ⟨p, hp⟩ : ∃ p, ps[j]? = some p := ⟨_, List.getElem?_eq_getElem (by have := Hlp.out; omega)⟩
      obtain ⟨bg, og, hAg, e1⟩ := row_at OG.out rfl hlt hp
      obtain ⟨bk, ok, hAk, e2⟩ := row_at OK.out rfl hlt hp
      have hm := List.mem_of_getElem? hp
      obtain ⟨a1, a2, a3, a4⟩ := HALL.out p hm
      have HC := hide (show ps.countP (inP p.on) ≤ 4 by
        rw [countP_le (fun q hq => by have := HALL.out q hq; have := HON.out q hq; omega)]
        exact HROOM.out p hm a2)
      have hltz : (j : Int) < (n_k : Int) := by omega
      subst hAg hAk
      clear hp hm a1 a2 a3 a4 e2
      go_wp2_with fail
      go_loopw [10, 11] (fun vm vk wr => ∃ m k : Nat, k ≤ n_k ∧ m ≤ k ∧ vm = .int .i64 (m : Int) ∧ vk = .int .i64 k ∧ Hid ((ps.take k).countP (inP p.on) = m) ∧ ∃ q, wr = w3.drewN q) (fun _ vk _ => n_k - (intOf vk).toNat)
      case atStart => exact ⟨0, 0, Nat.zero_le _, Nat.le_refl _, rfl, rfl, hide (by simp), q, rfl⟩
      case round =>
        obtain ⟨m, k, hk, hmk, rfl, rfl, HM, q2, rfl⟩ := hrel
        by_cases hkt : k < n_k
        · obtain ⟨p2, hp2⟩ : ∃ p2, ps[k]? = some p2 := ⟨_, List.getElem?_eq_getElem (by have := Hlp.out; omega)⟩
          obtain ⟨bg', og', hAg', f1⟩ := row_at OG.out rfl hkt hp2
          obtain ⟨bk', ok', hAk', f2⟩ := row_at OK.out rfl hkt hp2
          injection hAg' with hAg'
          injection hAg' with i1 i2 _
          subst i1 i2
          injection hAk' with hAk'
          injection hAk' with i1 i2 _
          subst i1 i2
          have HS := hide (countP_snoc p.on hp2)
          have hktz : (k : Int) < (n_k : Int) := by omega
          clear hp2
          by_cases c1 : p2.on ≤ p.on
          · have c1' : decide (p2.on ≤ p.on) = true := decide_eq_true c1
            by_cases c2 : p.on < p2.off
            · have c2' : decide (p.on < p2.off) = true := decide_eq_true c2
              have HS2 := hide (show (ps.take (k + 1)).countP (inP p.on) = m + 1 by rw [HS.out, HM.out]; simp [inP, c1, c2])
              go_wp2_with fail
              go_quiet (fail)
              go_wp2_with fail
              go_roundw
              case rel => exact ⟨m + 1, k + 1, by omega, by omega, by go_num, by go_num, HS2, _, rfl⟩
              case measure => simp [intOf]; omega
            · have c2' : decide (p.on < p2.off) = false := decide_eq_false c2
              have HS2 := hide (show (ps.take (k + 1)).countP (inP p.on) = m by rw [HS.out, HM.out]; simp [inP, c2])
              go_wp2_with fail
              go_quiet (fail)
              go_wp2_with fail
              go_roundw
              case rel => exact ⟨m, k + 1, by omega, by omega, rfl, by go_num, HS2, _, rfl⟩
              case measure => simp [intOf]; omega
          · have c1' : decide (p2.on ≤ p.on) = false := decide_eq_false c1
            have HS2 := hide (show (ps.take (k + 1)).countP (inP p.on) = m by rw [HS.out, HM.out]; simp [inP, c1])
            go_wp2_with fail
            go_quiet (fail)
            go_wp2_with fail
            go_roundw
            case rel => exact ⟨m, k + 1, by omega, by omega, rfl, by go_num, HS2, _, rfl⟩
            case measure => simp [intOf]; omega
        · have hkn : n_k = k := by omega
          subst hkn
          have hm4 : m ≤ 4 := by
            have h1 := HM.out
            rw [List.take_of_length_le (by have := Hlp.out; omega)] at h1
            have := HC.out
            omega
          go_wp2_with fail
          go_roundw
          case rel => exact ⟨j + 1, by omega, by go_num, _, rfl⟩
          case measure => simp [intOf]; omega
    · obtain rfl : j = n_k := by omega
      go_wp2_with fail
      go_ret
      exact ⟨rfl, below_drewN HBW.out _⟩
set_option maxHeartbeats 4000000 in
theorem fnRideTimesOne_walk (A : Option Addr) (n c : Nat) (zs : List Int) (w : World) (hl : n ≤ c) (hr : RdI w .u8 A n zs) (hz : ∀ z ∈ zs, (Lit.int .u8 z).wf = true) :
    Calls Try.prog 7 #[.slice A n c] w fun e w' => e = .returned (.bool true) ∧ Below w.heap.size w w' := by
  have Ha := hide (code8_of hl hr hz)
  clear hr hz
  by_cases hn : 1048576 < n
  · have hn' : (1048576 : Int) < (n : Int) := by omega
    go_enter Try.func7, Try.ntmps7
    go_wp2_with fail
    go_ret
    exact ⟨rfl, Below.refl _ _⟩
  have hn' : (n : Int) ≤ 1048576 := by omega
  go_enter Try.func7, Try.ntmps7
  go_wp2_with fail
  refine (DrawRideTimes_any _ A n c _ (Nat.le_refl _) Ha.out).mono ?_
  rintro e w1 ⟨A1, n1, c1, z1, x, rfl, hn1, x0, x1, oA1, r1, hb⟩
  have hz1 := hb.size
  try simp at hz1
  have Hb1 := hide hb
  clear hb
  have R_a := hide r1
  have hle := rideK_len z1 x
  have Hl1 := hide (RdC.len r1)
  have OA := hide oA1
  have SA := hide (Sl.of_ownA oA1)
  clear r1 oA1
  go_wp2_with fail
  refine (RideTimes_i A1 n1 c1 z1 x _ (by omega) SA.out (by repeat (first | exact R_a.out | exact Rd.of_own O_a.out | (with_reducible refine RdC.al ?_ _) | (with_reducible refine RdC.dr ?_) | (with_reducible refine RdC.drN ?_ _) | (with_reducible refine RdI.al ?_ _) | (with_reducible refine RdI.dr ?_) | (with_reducible refine RdI.drN ?_ _) | (with_reducible refine Rd.alloc ?_ _) | (with_reducible refine Rd.drew ?_) | (with_reducible refine Rd.drewN ?_ _)))).mono ?_
  rintro e w2 ⟨A_g, n_g, c_g, A_k, n_k, c_k, rfl, ho, ho2, hd, hb⟩
  have hz2 := hb.size
  try simp at hz2
  replace R_a := hide (show Rd w2 3 A1 n1 (cellsC z1) from Rd.below (by repeat (first | exact R_a.out | (with_reducible refine Rd.alloc ?_ _) | (with_reducible refine Rd.drew ?_) | (with_reducible refine Rd.drewN ?_ _))) hb (Nat.le_refl _))
  have Hb2 := hide hb
  clear hb
  have LU_g := hide (fun k h => (⟨(own_lt_old ho k h).1, by have := (own_lt_old ho k h).2; (first | omega | (simp at this; omega))⟩ : k < w2.heap.size ∧ w1.heap.size ≤ k))
  have O_g := hide (show World.ownsRow w2 w.heap.size 3 1 (.slice A_g n_g c_g) n_g (((rideK z1 x).map Pn.on).map (Value.int .i64)) from own_base ho (by first | omega | (simp; omega)))
  clear ho
  have ho := ho2
  clear ho2
  have LU_k := hide (fun k h => (⟨(own_lt_old ho k h).1, by have := (own_lt_old ho k h).2; (first | omega | (simp at this; omega))⟩ : k < w2.heap.size ∧ w1.heap.size ≤ k))
  have O_k := hide (show World.ownsRow w2 w.heap.size 3 1 (.slice A_k n_k c_k) n_k (((rideK z1 x).map Pn.off).map (Value.int .i64)) from own_base ho (by first | omega | (simp; omega)))
  clear ho
  have HD_g := hide hd
  clear hd
  have N_g : n_g ≤ 12 := by have h := RdLEN_int (Rd.of_own O_g.out); simp at h; omega
  have N_k : n_k ≤ 12 := by have h := RdLEN_int (Rd.of_own O_k.out); simp at h; omega
  go_wp2_with fail
  refine (RideTimes_s A1 n1 c1 z1 x _ (by omega) SA.out (by repeat (first | exact R_a.out | exact Rd.of_own O_a.out | (with_reducible refine RdC.al ?_ _) | (with_reducible refine RdC.dr ?_) | (with_reducible refine RdC.drN ?_ _) | (with_reducible refine RdI.al ?_ _) | (with_reducible refine RdI.dr ?_) | (with_reducible refine RdI.drN ?_ _) | (with_reducible refine Rd.alloc ?_ _) | (with_reducible refine Rd.drew ?_) | (with_reducible refine Rd.drewN ?_ _)))).mono ?_
  rintro e w3 ⟨A_U, n_U, c_U, A_V, n_V, c_V, rfl, ho, ho2, hd, hb⟩
  have hz3 := hb.size
  try simp at hz3
  replace R_a := hide (show Rd w3 3 A1 n1 (cellsC z1) from Rd.below (by repeat (first | exact R_a.out | (with_reducible refine Rd.alloc ?_ _) | (with_reducible refine Rd.drew ?_) | (with_reducible refine Rd.drewN ?_ _))) hb (Nat.le_refl _))
  replace O_g := hide (show World.ownsRow w3 w.heap.size 3 1 (.slice A_g n_g c_g) n_g (((rideK z1 x).map Pn.on).map (Value.int .i64)) from own_below (by repeat (first | exact O_g.out | (with_reducible refine World.ownsRow.alloc ?_ _) | (with_reducible refine World.ownsRow.drew ?_) | (with_reducible refine own_drewN ?_ _))) hb (Nat.le_refl _))
  replace O_k := hide (show World.ownsRow w3 w.heap.size 3 1 (.slice A_k n_k c_k) n_k (((rideK z1 x).map Pn.off).map (Value.int .i64)) from own_below (by repeat (first | exact O_k.out | (with_reducible refine World.ownsRow.alloc ?_ _) | (with_reducible refine World.ownsRow.drew ?_) | (with_reducible refine own_drewN ?_ _))) hb (Nat.le_refl _))
  have Hb3 := hide hb
  clear hb
  have LU_U := hide (fun k h => (⟨(own_lt_old ho k h).1, by have := (own_lt_old ho k h).2; (first | omega | (simp at this; omega))⟩ : k < w3.heap.size ∧ w2.heap.size ≤ k))
  have O_U := hide (show World.ownsRow w3 w.heap.size 3 1 (.slice A_U n_U c_U) n_U (((rideK z1 x).map Pn.on).map (Value.int .i64)) from own_base ho (by first | omega | (simp; omega)))
  clear ho
  have ho := ho2
  clear ho2
  have LU_V := hide (fun k h => (⟨(own_lt_old ho k h).1, by have := (own_lt_old ho k h).2; (first | omega | (simp at this; omega))⟩ : k < w3.heap.size ∧ w2.heap.size ≤ k))
  have O_V := hide (show World.ownsRow w3 w.heap.size 3 1 (.slice A_V n_V c_V) n_V (((rideK z1 x).map Pn.off).map (Value.int .i64)) from own_base ho (by first | omega | (simp; omega)))
  clear ho
  have HD_U := hide hd
  clear hd
  have N_U : n_U ≤ 12 := by have h := RdLEN_int (Rd.of_own O_U.out); simp at h; omega
  have N_V : n_V ≤ 12 := by have h := RdLEN_int (Rd.of_own O_V.out); simp at h; omega
  go_wp2_with fail
  refine (equalInts_same A_g A_U n_g c_g n_U c_U ((rideK z1 x).map Pn.on) _ (by omega) (by repeat (first | exact Rd.of_own O_g.out | (with_reducible refine RdC.al ?_ _) | (with_reducible refine RdC.dr ?_) | (with_reducible refine RdC.drN ?_ _) | (with_reducible refine RdI.al ?_ _) | (with_reducible refine RdI.dr ?_) | (with_reducible refine RdI.drN ?_ _) | (with_reducible refine Rd.alloc ?_ _) | (with_reducible refine Rd.drew ?_) | (with_reducible refine Rd.drewN ?_ _))) (by repeat (first | exact Rd.of_own O_U.out | (with_reducible refine RdC.al ?_ _) | (with_reducible refine RdC.dr ?_) | (with_reducible refine RdC.drN ?_ _) | (with_reducible refine RdI.al ?_ _) | (with_reducible refine RdI.dr ?_) | (with_reducible refine RdI.drN ?_ _) | (with_reducible refine Rd.alloc ?_ _) | (with_reducible refine Rd.drew ?_) | (with_reducible refine Rd.drewN ?_ _)))).mono ?_
  rintro e wq1 ⟨rfl, q1, rfl⟩
  go_wp2_with fail
  refine (equalInts_same A_k A_V n_k c_k n_V c_V ((rideK z1 x).map Pn.off) _ (by omega) (by repeat (first | exact Rd.of_own O_k.out | (with_reducible refine RdC.al ?_ _) | (with_reducible refine RdC.dr ?_) | (with_reducible refine RdC.drN ?_ _) | (with_reducible refine RdI.al ?_ _) | (with_reducible refine RdI.dr ?_) | (with_reducible refine RdI.drN ?_ _) | (with_reducible refine Rd.alloc ?_ _) | (with_reducible refine Rd.drew ?_) | (with_reducible refine Rd.drewN ?_ _))) (by repeat (first | exact Rd.of_own O_V.out | (with_reducible refine RdC.al ?_ _) | (with_reducible refine RdC.dr ?_) | (with_reducible refine RdC.drN ?_ _) | (with_reducible refine RdI.al ?_ _) | (with_reducible refine RdI.dr ?_) | (with_reducible refine RdI.drN ?_ _) | (with_reducible refine Rd.alloc ?_ _) | (with_reducible refine Rd.drew ?_) | (with_reducible refine Rd.drewN ?_ _)))).mono ?_
  rintro e wq2 ⟨rfl, q2, rfl⟩
  have hlg := RdLEN_int (Rd.of_own O_g.out)
  have hlk := RdLEN_int (Rd.of_own O_k.out)
  rw [List.length_map] at hlg hlk
  have hnk : n_k = n_g := by omega
  subst hnk
  have Hlg := hide hlg
  clear hlg hlk
  by_cases h0 : n_k = 0
  · have h0' : ((n_k : Int) == 0) = true := by rw [beq_iff_eq]; omega
    clear h0
    go_wp2_with fail
    refine (equalInts_same A_g A_U n_k c_g n_U c_U ((rideK z1 x).map Pn.on) _ (by omega) (by repeat (first | exact Rd.of_own O_g.out | (with_reducible refine RdC.al ?_ _) | (with_reducible refine RdC.dr ?_) | (with_reducible refine RdC.drN ?_ _) | (with_reducible refine RdI.al ?_ _) | (with_reducible refine RdI.dr ?_) | (with_reducible refine RdI.drN ?_ _) | (with_reducible refine Rd.alloc ?_ _) | (with_reducible refine Rd.drew ?_) | (with_reducible refine Rd.drewN ?_ _))) (by repeat (first | exact Rd.of_own O_U.out | (with_reducible refine RdC.al ?_ _) | (with_reducible refine RdC.dr ?_) | (with_reducible refine RdC.drN ?_ _) | (with_reducible refine RdI.al ?_ _) | (with_reducible refine RdI.dr ?_) | (with_reducible refine RdI.drN ?_ _) | (with_reducible refine Rd.alloc ?_ _) | (with_reducible refine Rd.drew ?_) | (with_reducible refine Rd.drewN ?_ _)))).mono ?_
    rintro e wq3 ⟨rfl, q3, rfl⟩
    go_wp2_with fail
    refine (equalInts_same A_k A_V n_k c_k n_V c_V ((rideK z1 x).map Pn.off) _ (by omega) (by repeat (first | exact Rd.of_own O_k.out | (with_reducible refine RdC.al ?_ _) | (with_reducible refine RdC.dr ?_) | (with_reducible refine RdC.drN ?_ _) | (with_reducible refine RdI.al ?_ _) | (with_reducible refine RdI.dr ?_) | (with_reducible refine RdI.drN ?_ _) | (with_reducible refine Rd.alloc ?_ _) | (with_reducible refine Rd.drew ?_) | (with_reducible refine Rd.drewN ?_ _))) (by repeat (first | exact Rd.of_own O_V.out | (with_reducible refine RdC.al ?_ _) | (with_reducible refine RdC.dr ?_) | (with_reducible refine RdC.drN ?_ _) | (with_reducible refine RdI.al ?_ _) | (with_reducible refine RdI.dr ?_) | (with_reducible refine RdI.drN ?_ _) | (with_reducible refine Rd.alloc ?_ _) | (with_reducible refine Rd.drew ?_) | (with_reducible refine Rd.drewN ?_ _)))).mono ?_
    rintro e wq4 ⟨rfl, q4, rfl⟩
    go_wp2_with fail
    go_ret
    exact ⟨rfl, (by repeat (first | (with_reducible exact Below.refl _ _) | (with_reducible refine Below.drew ?_) | (with_reducible refine below_drewN ?_ _) | ((with_reducible refine Below.alloc ?_ ?_ _); rotate_left; (focus (first | (simp; done) | (simp; omega) | omega))) | ((with_reducible refine Below.setCell ?_ ?_ _); rotate_left; (focus (first | (simp; done) | (simp; omega) | omega))) | ((with_reducible refine Below.trans ?_ (Below.mono Hb.out ?_)); rotate_left; (focus (first | (simp; done) | (simp; omega) | omega))) | ((with_reducible refine Below.trans ?_ (Below.mono Hb16.out ?_)); rotate_left; (focus (first | (simp; done) | (simp; omega) | omega))) | ((with_reducible refine Below.trans ?_ (Below.mono Hb15.out ?_)); rotate_left; (focus (first | (simp; done) | (simp; omega) | omega))) | ((with_reducible refine Below.trans ?_ (Below.mono Hb14.out ?_)); rotate_left; (focus (first | (simp; done) | (simp; omega) | omega))) | ((with_reducible refine Below.trans ?_ (Below.mono Hb13.out ?_)); rotate_left; (focus (first | (simp; done) | (simp; omega) | omega))) | ((with_reducible refine Below.trans ?_ (Below.mono Hb12.out ?_)); rotate_left; (focus (first | (simp; done) | (simp; omega) | omega))) | ((with_reducible refine Below.trans ?_ (Below.mono Hb11.out ?_)); rotate_left; (focus (first | (simp; done) | (simp; omega) | omega))) | ((with_reducible refine Below.trans ?_ (Below.mono Hb10.out ?_)); rotate_left; (focus (first | (simp; done) | (simp; omega) | omega))) | ((with_reducible refine Below.trans ?_ (Below.mono Hb9.out ?_)); rotate_left; (focus (first | (simp; done) | (simp; omega) | omega))) | ((with_reducible refine Below.trans ?_ (Below.mono Hb8.out ?_)); rotate_left; (focus (first | (simp; done) | (simp; omega) | omega))) | ((with_reducible refine Below.trans ?_ (Below.mono Hb7.out ?_)); rotate_left; (focus (first | (simp; done) | (simp; omega) | omega))) | ((with_reducible refine Below.trans ?_ (Below.mono Hb6.out ?_)); rotate_left; (focus (first | (simp; done) | (simp; omega) | omega))) | ((with_reducible refine Below.trans ?_ (Below.mono Hb5.out ?_)); rotate_left; (focus (first | (simp; done) | (simp; omega) | omega))) | ((with_reducible refine Below.trans ?_ (Below.mono Hb4.out ?_)); rotate_left; (focus (first | (simp; done) | (simp; omega) | omega))) | ((with_reducible refine Below.trans ?_ (Below.mono Hb3.out ?_)); rotate_left; (focus (first | (simp; done) | (simp; omega) | omega))) | ((with_reducible refine Below.trans ?_ (Below.mono Hb2.out ?_)); rotate_left; (focus (first | (simp; done) | (simp; omega) | omega))) | ((with_reducible refine Below.trans ?_ (Below.mono Hb1.out ?_)); rotate_left; (focus (first | (simp; done) | (simp; omega) | omega))) | ((with_reducible refine Below.trans ?_ (below_of_only Hg16.out ?_ ?_)); rotate_left; (focus (first | (simp; done) | (simp; omega) | omega)); (intro k hk; cases hk; omega)) | ((with_reducible refine Below.trans ?_ (below_of_only Hg15.out ?_ ?_)); rotate_left; (focus (first | (simp; done) | (simp; omega) | omega)); (intro k hk; cases hk; omega)) | ((with_reducible refine Below.trans ?_ (below_of_only Hg14.out ?_ ?_)); rotate_left; (focus (first | (simp; done) | (simp; omega) | omega)); (intro k hk; cases hk; omega)) | ((with_reducible refine Below.trans ?_ (below_of_only Hg13.out ?_ ?_)); rotate_left; (focus (first | (simp; done) | (simp; omega) | omega)); (intro k hk; cases hk; omega)) | ((with_reducible refine Below.trans ?_ (below_of_only Hg12.out ?_ ?_)); rotate_left; (focus (first | (simp; done) | (simp; omega) | omega)); (intro k hk; cases hk; omega)) | ((with_reducible refine Below.trans ?_ (below_of_only Hg11.out ?_ ?_)); rotate_left; (focus (first | (simp; done) | (simp; omega) | omega)); (intro k hk; cases hk; omega)) | ((with_reducible refine Below.trans ?_ (below_of_only Hg10.out ?_ ?_)); rotate_left; (focus (first | (simp; done) | (simp; omega) | omega)); (intro k hk; cases hk; omega)) | ((with_reducible refine Below.trans ?_ (below_of_only Hg9.out ?_ ?_)); rotate_left; (focus (first | (simp; done) | (simp; omega) | omega)); (intro k hk; cases hk; omega)) | ((with_reducible refine Below.trans ?_ (below_of_only Hg8.out ?_ ?_)); rotate_left; (focus (first | (simp; done) | (simp; omega) | omega)); (intro k hk; cases hk; omega)) | ((with_reducible refine Below.trans ?_ (below_of_only Hg7.out ?_ ?_)); rotate_left; (focus (first | (simp; done) | (simp; omega) | omega)); (intro k hk; cases hk; omega)) | ((with_reducible refine Below.trans ?_ (below_of_only Hg6.out ?_ ?_)); rotate_left; (focus (first | (simp; done) | (simp; omega) | omega)); (intro k hk; cases hk; omega)) | ((with_reducible refine Below.trans ?_ (below_of_only Hg5.out ?_ ?_)); rotate_left; (focus (first | (simp; done) | (simp; omega) | omega)); (intro k hk; cases hk; omega)) | ((with_reducible refine Below.trans ?_ (below_of_only Hg4.out ?_ ?_)); rotate_left; (focus (first | (simp; done) | (simp; omega) | omega)); (intro k hk; cases hk; omega)) | ((with_reducible refine Below.trans ?_ (below_of_only Hg3.out ?_ ?_)); rotate_left; (focus (first | (simp; done) | (simp; omega) | omega)); (intro k hk; cases hk; omega)) | ((with_reducible refine Below.trans ?_ (below_of_only Hg2.out ?_ ?_)); rotate_left; (focus (first | (simp; done) | (simp; omega) | omega)); (intro k hk; cases hk; omega)) | ((with_reducible refine Below.trans ?_ (below_of_only Hg1.out ?_ ?_)); rotate_left; (focus (first | (simp; done) | (simp; omega) | omega)); (intro k hk; cases hk; omega))))⟩
  clear O_U LU_U
  clear O_V LU_V
  have h0' : ((n_k : Int) == 0) = false := by rw [beq_eq_false_iff_ne]; omega
  have Hn0 := hide h0
  have hval := rideK_ne (cs := z1) (start := x) (by have := Hlg.out; omega)
  have hrk := rideK_ok hval.1 hval.2
  have hst := inB_iff.1 hval.2
  obtain ⟨st0, st1⟩ := hst
  have hvi := valid_insL hval.1
  have HALL := hide (rideR_all hvi.2 hvi.1 st0 st1)
  have HON := hide (rideR_on hvi.2 st0 st1)
  have HROOM := hide (rideR_room hvi.2 st0 st1)
  have HCALL := hide (rideR_calls (insL z1) x)
  have HVI := hide hvi
  have HVAL := hide hval
  obtain ⟨ps, hps⟩ : ∃ ps, rideR (insL z1) x = ps := ⟨_, rfl⟩
  rw [hps] at HALL HON HROOM HCALL hrk
  have HRK := hide hrk
  have Hlp := hide (show ps.length = n_k by rw [← HRK.out]; exact Hlg.out)
  clear hval hvi hps hrk h0
  clear O_g LU_g
  clear O_k LU_k
  obtain ⟨w4, hw4⟩ : ∃ w4, (w3.drewN q1).drewN q2 = w4 := ⟨_, rfl⟩
  have hb : Below w3.heap.size w3 w4 := by rw [← hw4]; exact below_drewN (below_drewN (Below.refl _ _) _) _
  rw [hw4]
  clear hw4
  have hz4 := hb.size
  try simp at hz4
  replace R_a := hide (show Rd w4 3 A1 n1 (cellsC z1) from Rd.below (by repeat (first | exact R_a.out | (with_reducible refine Rd.alloc ?_ _) | (with_reducible refine Rd.drew ?_) | (with_reducible refine Rd.drewN ?_ _))) hb (Nat.le_refl _))
  have Hb4 := hide hb
  clear hb
  have hn1p : n1 ≠ 0 := by
    have h1 := Hlp.out
    have h2 := congrArg List.length HCALL.out
    rw [List.length_map, insL_len] at h2
    have h3 := Hl1.out
    have h4 := Hn0.out
    omega
  have hcc : 1 ≤ c1 ∧ ∃ b1 o1, A1 = some ⟨b1, o1, none⟩ := by
    rcases OA.out with ⟨_, h, _⟩ | ⟨g, h, h2, _⟩
    · omega
    · exact ⟨by omega, g, 0, h⟩
  obtain ⟨hc1, b1, o1, rfl⟩ := hcc
  have R_z := hide (show RdC w4 (some ⟨b1, o1, none⟩) n1 z1 from R_a.out)
  have R1 := hide (RdC.take R_z.out 1 (by omega))
  obtain ⟨b1', o1', f, t, c, hA, hb1, hz, d1, d2, d3⟩ := RdC.at_ (show RdC w4 (some ⟨b1, o1, none⟩) n1 z1 from R_z.out) (show 0 < n1 by omega)
  injection hA with hA
  injection hA with i1 i2 _
  subst i1 i2
  simp only [Nat.zero_mul, Nat.add_zero] at d1 d2 d3
  have ht1 : z1.take 1 = [(f, t, c)] := by
    match z1, hz with
    | y :: r, hz => simp at hz; simp [hz]
  rw [ht1] at R1
  have hvk : vK f t c = true := by
    have h := HVAL.out.1
    unfold vCs at h
    simp only [Bool.and_eq_true, List.all_eq_true] at h
    exact h.2 _ (List.mem_of_getElem? hz)
  have hv1 : vCs [(f, t, c)] = true := by simp [vCs, hvk]
  have hi1 : insL [(f, t, c)] = [(f, t, c)] := insL_id _ (by simp [ascK])
  have hone := rideR_one (start := x) (vCall_of (c := (f, t, c)) hvk) st0 st1
  have hrk1 := rideK_ok (start := x) hv1 HVAL.out.2
  rw [hi1, hone] at hrk1
  have hkb := vK_iff.1 hvk
  obtain ⟨⟨k1, k2⟩, ⟨k3, k4⟩, _, k5, k6⟩ := hkb
  obtain ⟨D, hD⟩ : ∃ D, (f - x).natAbs = D := ⟨_, rfl⟩
  obtain ⟨E, hE⟩ : ∃ E, (t - f).natAbs = E := ⟨_, rfl⟩
  rw [hD, hE] at hrk1
  have HD1 := hide hrk1
  have HDE := hide (And.intro hD hE)
  have c1z : (1 : Int) ≤ (c1 : Int) := by omega
  have n1z : (0 : Int) < (n1 : Int) := by omega
  have n1y : (1 : Int) ≤ (n1 : Int) := by omega
  have hD15 : D ≤ 15 := by omega
  have hE15 : E ≤ 15 := by omega
  obtain ⟨_, _, _, _, _, _, _, _⟩ := sz hb1
  clear hz ht1 hvk hv1 hi1 hone hrk1 hD hE
  clear R_a
  have R_b := hide (show Rd w4 3 (some ⟨b1, o1, none⟩) 1 (cellsC [(f, t, c)]) from R1.out)
  clear R1
  have hle1 := rideK_len [(f, t, c)] x
  go_wp2_with fail
  refine (RideTimes_i (some ⟨b1, o1, none⟩) 1 c1 [(f, t, c)] x _ (by omega) ⟨.inr ⟨b1, o1, rfl⟩, fun h => by cases h⟩ (by repeat (first | exact R_b.out | exact Rd.of_own O_b.out | (with_reducible refine RdC.al ?_ _) | (with_reducible refine RdC.dr ?_) | (with_reducible refine RdC.drN ?_ _) | (with_reducible refine RdI.al ?_ _) | (with_reducible refine RdI.dr ?_) | (with_reducible refine RdI.drN ?_ _) | (with_reducible refine Rd.alloc ?_ _) | (with_reducible refine Rd.drew ?_) | (with_reducible refine Rd.drewN ?_ _)))).mono ?_
  rintro e w5 ⟨A_u, n_u, c_u, A_v, n_v, c_v, rfl, ho, ho2, hd, hb⟩
  have hz5 := hb.size
  try simp at hz5
  obtain ⟨_, _, _, _, _, _, _, _⟩ := sz (show w4.heap.size < w5.heap.size from by omega)
  have hx : Blk _ (w4.heap.size) 40 #[.int .i64 f, .int .i64 t, .int .i64 c] := Blk.below (by repeat (first | (with_reducible assumption) | (with_reducible exact Blk.new _ _ _) | ((with_reducible refine Blk.new_at ?_); (first | (simp; done) | (simp; omega))) | (with_reducible refine Blk.drew ?_) | (with_reducible refine Blk.drewN ?_ _) | (with_reducible refine Blk.alloc ?_ _) | ((with_reducible refine Blk.far ?_ ?_ _); rotate_left; (focus (first | (simp; done) | (simp; omega) | omega))))) hb (by (focus (first | (simp; done) | (simp; omega) | omega)))
  obtain ⟨_, _, _, _, _, _⟩ := blk3 hx
  replace R_b := hide (show Rd w5 3 (some ⟨b1, o1, none⟩) 1 (cellsC [(f, t, c)]) from Rd.below (by repeat (first | exact R_b.out | (with_reducible refine Rd.alloc ?_ _) | (with_reducible refine Rd.drew ?_) | (with_reducible refine Rd.drewN ?_ _))) hb (Nat.le_refl _))
  have Hb5 := hide hb
  clear hb
  have LU_u := hide (fun k h => (⟨(own_lt_old ho k h).1, by have := (own_lt_old ho k h).2; (first | omega | (simp at this; omega))⟩ : k < w5.heap.size ∧ w4.heap.size ≤ k))
  have O_u := hide (show World.ownsRow w5 w.heap.size 3 1 (.slice A_u n_u c_u) n_u (((rideK [(f, t, c)] x).map Pn.on).map (Value.int .i64)) from own_base ho (by first | omega | (simp; omega)))
  clear ho
  have ho := ho2
  clear ho2
  have LU_v := hide (fun k h => (⟨(own_lt_old ho k h).1, by have := (own_lt_old ho k h).2; (first | omega | (simp at this; omega))⟩ : k < w5.heap.size ∧ w4.heap.size ≤ k))
  have O_v := hide (show World.ownsRow w5 w.heap.size 3 1 (.slice A_v n_v c_v) n_v (((rideK [(f, t, c)] x).map Pn.off).map (Value.int .i64)) from own_base ho (by first | omega | (simp; omega)))
  clear ho
  have HD_u := hide hd
  clear hd
  have N_u : n_u ≤ 12 := by have h := RdLEN_int (Rd.of_own O_u.out); simp at h; omega
  have N_v : n_v ≤ 12 := by have h := RdLEN_int (Rd.of_own O_v.out); simp at h; omega
  have OU := hide (show RdI w5 .i64 A_u n_u ([(c + (D : Int) : Int)]) from by have h : RdI w5 .i64 A_u n_u _ := (by repeat (first | exact Rd.of_own O_u.out | (with_reducible refine RdC.al ?_ _) | (with_reducible refine RdC.dr ?_) | (with_reducible refine RdC.drN ?_ _) | (with_reducible refine RdI.al ?_ _) | (with_reducible refine RdI.dr ?_) | (with_reducible refine RdI.drN ?_ _) | (with_reducible refine Rd.alloc ?_ _) | (with_reducible refine Rd.drew ?_) | (with_reducible refine Rd.drewN ?_ _))); rw [HD1.out] at h; exact h)
  have OV := hide (show RdI w5 .i64 A_v n_v ([(c + (D : Int) + 1 + (E : Int) : Int)]) from by have h : RdI w5 .i64 A_v n_v _ := (by repeat (first | exact Rd.of_own O_v.out | (with_reducible refine RdC.al ?_ _) | (with_reducible refine RdC.dr ?_) | (with_reducible refine RdC.drN ?_ _) | (with_reducible refine RdI.al ?_ _) | (with_reducible refine RdI.dr ?_) | (with_reducible refine RdI.drN ?_ _) | (with_reducible refine Rd.alloc ?_ _) | (with_reducible refine Rd.drew ?_) | (with_reducible refine Rd.drewN ?_ _))); rw [HD1.out] at h; exact h)
  obtain rfl : n_u = 1 := OU.out.len.symm
  obtain rfl : n_v = 1 := OV.out.len.symm
  obtain ⟨bu, ou, zu, hAu, _, hzu, e1⟩ := RdI.at_ OU.out (show 0 < 1 by omega)
  obtain ⟨bv, ov, zv, hAv, _, hzv, e2⟩ := RdI.at_ OV.out (show 0 < 1 by omega)
  subst hAu hAv
  have hzu := Option.some.inj hzu
  have hzv := Option.some.inj hzv
  subst hzu hzv
  rw [Nat.add_zero] at e1 e2
  have KA := hide (fun w' => absoluteR_v (f - x) D w' (by omega) (by omega) HDE.out.1)
  have KB := hide (fun w' => absoluteR_v (t - f) E w' (by omega) (by omega) HDE.out.2)
  have hq1 : IntKind.i64.wrap (f - x) = f - x := IntWalk.i64_in _ (by omega)
  have hq2 : IntKind.i64.wrap (t - f) = t - f := IntWalk.i64_in _ (by omega)
  have hq3 : IntKind.i64.wrap (c + (D : Int)) = c + (D : Int) := IntWalk.i64_in _ (by omega)
  have hq4 : IntKind.i64.wrap (c + (D : Int) + 1) = c + (D : Int) + 1 := IntWalk.i64_in _ (by omega)
  have hq5 : IntKind.i64.wrap (c + (D : Int) + 1 + (E : Int)) = c + (D : Int) + 1 + (E : Int) := IntWalk.i64_in _ (by omega)
  have hq6 : ((c + (D : Int)) == (c + (D : Int))) = true := by simp
  have hq7 : ((c + (D : Int) + 1 + (E : Int)) == (c + (D : Int) + 1 + (E : Int))) = true := by simp
  go_wp2_with fail
  go_quiet ((go_at_call 24; first | (with_reducible exact Calls.quiet_of_same (KA.out _)) | (with_reducible exact Calls.quiet_of_same (KB.out _))))
  go_wp2_with fail
  go_ret
  exact ⟨rfl, (by repeat (first | (with_reducible exact Below.refl _ _) | (with_reducible refine Below.drew ?_) | (with_reducible refine below_drewN ?_ _) | ((with_reducible refine Below.alloc ?_ ?_ _); rotate_left; (focus (first | (simp; done) | (simp; omega) | omega))) | ((with_reducible refine Below.setCell ?_ ?_ _); rotate_left; (focus (first | (simp; done) | (simp; omega) | omega))) | ((with_reducible refine Below.trans ?_ (Below.mono Hb.out ?_)); rotate_left; (focus (first | (simp; done) | (simp; omega) | omega))) | ((with_reducible refine Below.trans ?_ (Below.mono Hb16.out ?_)); rotate_left; (focus (first | (simp; done) | (simp; omega) | omega))) | ((with_reducible refine Below.trans ?_ (Below.mono Hb15.out ?_)); rotate_left; (focus (first | (simp; done) | (simp; omega) | omega))) | ((with_reducible refine Below.trans ?_ (Below.mono Hb14.out ?_)); rotate_left; (focus (first | (simp; done) | (simp; omega) | omega))) | ((with_reducible refine Below.trans ?_ (Below.mono Hb13.out ?_)); rotate_left; (focus (first | (simp; done) | (simp; omega) | omega))) | ((with_reducible refine Below.trans ?_ (Below.mono Hb12.out ?_)); rotate_left; (focus (first | (simp; done) | (simp; omega) | omega))) | ((with_reducible refine Below.trans ?_ (Below.mono Hb11.out ?_)); rotate_left; (focus (first | (simp; done) | (simp; omega) | omega))) | ((with_reducible refine Below.trans ?_ (Below.mono Hb10.out ?_)); rotate_left; (focus (first | (simp; done) | (simp; omega) | omega))) | ((with_reducible refine Below.trans ?_ (Below.mono Hb9.out ?_)); rotate_left; (focus (first | (simp; done) | (simp; omega) | omega))) | ((with_reducible refine Below.trans ?_ (Below.mono Hb8.out ?_)); rotate_left; (focus (first | (simp; done) | (simp; omega) | omega))) | ((with_reducible refine Below.trans ?_ (Below.mono Hb7.out ?_)); rotate_left; (focus (first | (simp; done) | (simp; omega) | omega))) | ((with_reducible refine Below.trans ?_ (Below.mono Hb6.out ?_)); rotate_left; (focus (first | (simp; done) | (simp; omega) | omega))) | ((with_reducible refine Below.trans ?_ (Below.mono Hb5.out ?_)); rotate_left; (focus (first | (simp; done) | (simp; omega) | omega))) | ((with_reducible refine Below.trans ?_ (Below.mono Hb4.out ?_)); rotate_left; (focus (first | (simp; done) | (simp; omega) | omega))) | ((with_reducible refine Below.trans ?_ (Below.mono Hb3.out ?_)); rotate_left; (focus (first | (simp; done) | (simp; omega) | omega))) | ((with_reducible refine Below.trans ?_ (Below.mono Hb2.out ?_)); rotate_left; (focus (first | (simp; done) | (simp; omega) | omega))) | ((with_reducible refine Below.trans ?_ (Below.mono Hb1.out ?_)); rotate_left; (focus (first | (simp; done) | (simp; omega) | omega))) | ((with_reducible refine Below.trans ?_ (below_of_only Hg16.out ?_ ?_)); rotate_left; (focus (first | (simp; done) | (simp; omega) | omega)); (intro k hk; cases hk; omega)) | ((with_reducible refine Below.trans ?_ (below_of_only Hg15.out ?_ ?_)); rotate_left; (focus (first | (simp; done) | (simp; omega) | omega)); (intro k hk; cases hk; omega)) | ((with_reducible refine Below.trans ?_ (below_of_only Hg14.out ?_ ?_)); rotate_left; (focus (first | (simp; done) | (simp; omega) | omega)); (intro k hk; cases hk; omega)) | ((with_reducible refine Below.trans ?_ (below_of_only Hg13.out ?_ ?_)); rotate_left; (focus (first | (simp; done) | (simp; omega) | omega)); (intro k hk; cases hk; omega)) | ((with_reducible refine Below.trans ?_ (below_of_only Hg12.out ?_ ?_)); rotate_left; (focus (first | (simp; done) | (simp; omega) | omega)); (intro k hk; cases hk; omega)) | ((with_reducible refine Below.trans ?_ (below_of_only Hg11.out ?_ ?_)); rotate_left; (focus (first | (simp; done) | (simp; omega) | omega)); (intro k hk; cases hk; omega)) | ((with_reducible refine Below.trans ?_ (below_of_only Hg10.out ?_ ?_)); rotate_left; (focus (first | (simp; done) | (simp; omega) | omega)); (intro k hk; cases hk; omega)) | ((with_reducible refine Below.trans ?_ (below_of_only Hg9.out ?_ ?_)); rotate_left; (focus (first | (simp; done) | (simp; omega) | omega)); (intro k hk; cases hk; omega)) | ((with_reducible refine Below.trans ?_ (below_of_only Hg8.out ?_ ?_)); rotate_left; (focus (first | (simp; done) | (simp; omega) | omega)); (intro k hk; cases hk; omega)) | ((with_reducible refine Below.trans ?_ (below_of_only Hg7.out ?_ ?_)); rotate_left; (focus (first | (simp; done) | (simp; omega) | omega)); (intro k hk; cases hk; omega)) | ((with_reducible refine Below.trans ?_ (below_of_only Hg6.out ?_ ?_)); rotate_left; (focus (first | (simp; done) | (simp; omega) | omega)); (intro k hk; cases hk; omega)) | ((with_reducible refine Below.trans ?_ (below_of_only Hg5.out ?_ ?_)); rotate_left; (focus (first | (simp; done) | (simp; omega) | omega)); (intro k hk; cases hk; omega)) | ((with_reducible refine Below.trans ?_ (below_of_only Hg4.out ?_ ?_)); rotate_left; (focus (first | (simp; done) | (simp; omega) | omega)); (intro k hk; cases hk; omega)) | ((with_reducible refine Below.trans ?_ (below_of_only Hg3.out ?_ ?_)); rotate_left; (focus (first | (simp; done) | (simp; omega) | omega)); (intro k hk; cases hk; omega)) | ((with_reducible refine Below.trans ?_ (below_of_only Hg2.out ?_ ?_)); rotate_left; (focus (first | (simp; done) | (simp; omega) | omega)); (intro k hk; cases hk; omega)) | ((with_reducible refine Below.trans ?_ (below_of_only Hg1.out ?_ ?_)); rotate_left; (focus (first | (simp; done) | (simp; omega) | omega)); (intro k hk; cases hk; omega))))⟩
end Go.Proofs.Ythgbbfcpnmpjgaa
