/-
  RideTimes of the specification, and the sum of the waits on both sides.
-/
import Derived.Test.YthgbbfcpnmpjgaaRideU
namespace Go.Proofs.Ythgbbfcpnmpjgaa
open Go.RowKit
set_option linter.unusedSimpArgs false
set_option linter.unusedVariables false

theorem SH.ret {B : Nat} {w0 w : World} {g g' : Nat} {Ac : Option Addr} {n cc co cf : Nat} {ps : List Pn} (H : SH B w g g' Ac n cc co cf ps) (h1 : w0.heap.size ≤ g) (h2 : w0.heap.size ≤ g') (hb : Below w0.heap.size w0 w) :
    RetRide w0 ps (.returned (.tuple #[.slice (some ⟨g, 0, none⟩) n co, .slice (some ⟨g', 0, none⟩) n cf])) w := by
  have up : ∀ {k c : Nat} {xs : List Value}, w.ownsRow B 3 1 (.slice (some ⟨k, 0, none⟩) n c) n xs → w0.heap.size ≤ k → w.ownsRow w0.heap.size 3 1 (.slice (some ⟨k, 0, none⟩) n c) n xs := by
    intro k c xs h hk
    refine ⟨h.1, ?_⟩
    rcases h.2 with h0 | ⟨g2, cap, cur, hv, hg, r⟩
    · exact .inl h0
    · have e : k = g2 := by
        injection hv with hv
        injection hv with hv
        injection hv
      exact .inr ⟨g2, cap, cur, hv, by omega, r⟩
  exact ⟨_, _, _, _, _, _, rfl, up H.on_ h1, up H.off_ h2, fun k e1 e2 => by
    have e1 : g = k := Option.some.inj e1
    have e2 : g' = k := Option.some.inj e2
    exact H.ne (e1.trans e2.symm), hb⟩

set_option maxHeartbeats 2000000 in
theorem RideTimes_s (A : Option Addr) (n c : Nat) (cs : List CallQ) (start : Int) (w : World) (hn : n ≤ 1048576) (hA : Sl A n) (ha : RdC w A n cs) :
    Calls Try.prog 15 #[.slice A n c, .int .i64 start] w (RetRide w (rideK cs start)) := by
  have Ha := hide ha
  clear ha
  cases hv : vCs cs
  · rw [rideK_no (by rw [hv]; rfl)]
    have Hv := hide hv
    clear hv
    go_enter Try.func15, Try.ntmps15
    go_wp2_with fail
    refine (validCalls_s A n c cs _ hn Ha.out).mono ?_
    rintro e w1 ⟨rfl, hb⟩
    rw [Hv.out]
    have Hb := hide hb
    clear hb
    go_wp2_with fail
    go_ret2
    exact RetRide.none_ Hb.out
  cases hs : inB start 0 15
  · rw [rideK_no (by rw [hs, Bool.and_false])]
    have Hv := hide hv
    have Hs := hide hs
    clear hv hs
    go_enter Try.func15, Try.ntmps15
    go_wp2_with fail
    refine (validCalls_s A n c cs _ hn Ha.out).mono ?_
    rintro e w1 ⟨rfl, hb⟩
    rw [Hv.out]
    have Hb := hide hb
    clear hb
    go_wp2_with fail
    refine (inRange_any _ _ _ _).mono ?_
    rintro e w' ⟨rfl, rfl⟩
    rw [Hs.out]
    go_wp2_with fail
    go_ret2
    exact RetRide.none_ Hb.out
  rw [rideK_ok hv hs]
  have hval := valid_insL hv
  obtain ⟨st0, st1⟩ := inB_iff.1 hs
  have Hval := hide hval
  have Hv := hide hv
  have Hs := hide hs
  clear hv hs hval
  go_enter Try.func15, Try.ntmps15
  go_wp2_with fail
  refine (validCalls_s A n c cs _ hn Ha.out).mono ?_
  rintro e w1 ⟨rfl, hb⟩
  rw [Hv.out]
  have Hb1 := hide hb
  have hz1 := hb.size
  clear hb
  go_wp2_with fail
  refine (inRange_any _ _ _ _).mono ?_
  rintro e w' ⟨rfl, hw⟩
  subst hw
  rw [Hs.out]
  go_wp2_with fail
  refine (sortCalls_s A n c cs _ hn hA.1 (Rd.below Ha.out Hb1.out (Nat.le_refl _)) hA.2).mono ?_
  rintro e w2 ⟨A2, n2, c2, rfl, ho, hb⟩
  have hn2 : n2 ≤ 12 := by have h1 := RdLEN_call (Rd.of_own ho); have := Hval.out.1; omega
  have HO2 := hide (own_base ho hz1)
  have Hb2 := hide (Hb1.out.trans (hb.mono hz1))
  have hz2 := Hb2.out.size
  clear ho hb
  go_wp2_with fail
  refine (ride_any w.heap.size n2 c2 A2 (insL cs) start _ hn2 hz2 Hval.out.2 st0 st1 HO2.out).mono ?_
  rintro e w3 ⟨g, g', rfl, hS, hb, hg, hg', hb2⟩
  have HF := hide (SH.ret (w0 := w) hS (by omega) (by omega) (Hb2.out.trans (hb2.mono hz2)))
  clear hS hb hg hg' hb2
  go_wp2_with fail
  go_ret2
  exact HF.out

/-- A person of a ride: what the sum reads. -/
theorem ride_at {w : World} {A1 A2 : Option Addr} {n n2 c2 : Nat} {ps : List Pn} {base : Nat} {c1 : Nat} {l rr : List Pn} {p : Pn} {k : Nat}
    (h1 : w.ownsRow base 3 1 (.slice A1 n c1) n ((ps.map Pn.on).map (Value.int .i64))) (hp : ps = l ++ p :: rr) (hl : l.length = k) :
    ∃ b, A1 = some ⟨b, 0, none⟩ ∧ w.cell? ⟨b, k, none⟩ = some (.int .i64 p.on) := by
  have hlen : ps.length = n := by have := h1.1; simpa using this
  have hk : k < n := by rw [hp] at hlen; simp at hlen; omega
  rcases h1.2 with ⟨e, e2⟩ | ⟨g, cap, cur, hv, _⟩
  · omega
  · injection hv with hv
    subst hv
    have := h1.cellAt k (by simpa using hk)
    rw [List.map_map, hp, List.getElem?_map, at_app l p rr k hl] at this
    exact ⟨g, rfl, this⟩

set_option maxHeartbeats 4000000 in
theorem TotalWait_i (A : Option Addr) (n c : Nat) (cs : List CallQ) (start : Int) (w : World) (hn : n ≤ 1048576) (hA : Sl A n) (ha : RdC w A n cs) :
    Calls Try.prog 13 #[.slice A n c, .int .i64 start] w (fun e w' => e = .returned (.int .i64 (totK cs start)) ∧ Below w.heap.size w w') := by
  have Ha := hide ha
  clear ha
  cases hv : vCs cs
  · have e1 : totK cs start = -1 := by simp [totK, hv]
    rw [e1]
    have Hv := hide hv
    clear hv
    go_enter Try.func13, Try.ntmps13
    go_wp2_with fail
    refine (ValidCalls_i A n c cs _ hn Ha.out).mono ?_
    rintro e w1 ⟨rfl, hb⟩
    rw [Hv.out]
    have Hb := hide hb
    clear hb
    go_wp2_with fail
    go_ret
    exact ⟨rfl, Hb.out⟩
  cases hs : inB start 0 15
  · have e1 : totK cs start = -1 := by simp [totK, hs]
    rw [e1]
    have Hv := hide hv
    have Hs := hide hs
    clear hv hs
    go_enter Try.func13, Try.ntmps13
    go_wp2_with fail
    refine (ValidCalls_i A n c cs _ hn Ha.out).mono ?_
    rintro e w1 ⟨rfl, hb⟩
    rw [Hv.out]
    have Hb := hide hb
    clear hb
    go_wp2_with fail
    refine (validFloor_any _ _).mono ?_
    rintro e w' ⟨rfl, rfl⟩
    rw [Hs.out]
    go_wp2_with fail
    go_ret
    exact ⟨rfl, Hb.out⟩
  have e1 : totK cs start = waits (rideR (insL cs) start) := by simp [totK, hv, hs]
  rw [e1]
  have hrk := rideK_ok (start := start) hv hs
  have hval := valid_insL hv
  obtain ⟨st0, st1⟩ := inB_iff.1 hs
  have hsk : sortedK cs = insL cs := by rw [sortedK_eq, if_pos hv]
  obtain ⟨ps, hps⟩ : ∃ ps, rideR (insL cs) start = ps := ⟨_, rfl⟩
  have hpc := rideR_calls (insL cs) start
  have hwt := rideR_waits hval.2 hval.1 st0 st1
  rw [hps] at hpc hwt hrk ⊢
  have Hpc := hide hpc
  have Hwt := hide hwt
  have Hrk := hide hrk
  have Hsk := hide hsk
  have Hval := hide hval
  have Hv := hide hv
  have Hs := hide hs
  clear hv hs hval hsk e1 hrk hps hpc hwt
  go_enter Try.func13, Try.ntmps13
  go_wp2_with fail
  refine (ValidCalls_i A n c cs _ hn Ha.out).mono ?_
  rintro e w1 ⟨rfl, hb⟩
  rw [Hv.out]
  have Hb1 := hide hb
  have hz1 := hb.size
  clear hb
  go_wp2_with fail
  refine (validFloor_any _ _).mono ?_
  rintro e w' ⟨rfl, hw⟩
  subst hw
  rw [Hs.out]
  go_wp2_with fail
  refine (RideTimes_i A n c cs start _ hn hA (Rd.below Ha.out Hb1.out (Nat.le_refl _))).mono ?_
  rintro e w2 ⟨A1, n1, c1, A2, n2, c2, rfl, o1, o2, _, hb⟩
  rw [Hrk.out] at o1
  have O1 := hide o1
  have Hb2 := hide (Hb1.out.trans (hb.mono hz1))
  have hz2 := Hb2.out.size
  clear o1 o2 hb
  go_wp2_with fail
  refine (SortCalls_I A n c cs _ hn hA (Rd.below Ha.out Hb2.out (Nat.le_refl _))).mono ?_
  rintro e w3 ⟨A3, n3, c3, rfl, ho, hb⟩
  rw [Hsk.out] at ho
  have hn3 : n3 ≤ 12 := by have h1 := RdLEN_call (Rd.of_own ho); have := Hval.out.1; omega
  have H3 := hide (show w3.ownsRow w1.heap.size 3 1 (.slice A1 n1 c1) n1 ((ps.map Pn.on).map (Value.int .i64)) ∧ w3.ownsRow w2.heap.size 40 3 (.slice A3 n3 c3) n3 (cellsC (ps.map callOf)) ∧ Below w.heap.size w w3 from
    ⟨own_below O1.out hb (Nat.le_refl _), by rw [Hpc.out]; exact ho, Hb2.out.trans (hb.mono hz2)⟩)
  have hn31 : n1 = n3 := by
    have h1 := H3.out.1.1
    have h2 := RdC.len (Rd.of_own H3.out.2.1)
    simp at h1 h2
    omega
  subst hn31
  have Hlen := hide (show ps.length = n1 by have := H3.out.1.1; simpa using this)
  clear ho hb
  go_wp2_with fail
  go_loopw [7, 27] (fun vt vi wr => ∃ (k : Nat) (l rr : List Pn), vt = .int .i64 (waits l) ∧ vi = .int .i64 k ∧ k ≤ n1 ∧ Hid (ps = l ++ rr ∧ l.length = k) ∧ Hid (Below w3.heap.size w3 wr)) (fun _ vi _ => n1 - (intOf vi).toNat)
  case atStart => exact ⟨0, [], ps, rfl, rfl, Nat.zero_le _, hide ⟨rfl, rfl⟩, hide (Below.refl _ _)⟩
  case round =>
    obtain ⟨k, l, rr, rfl, rfl, hk, HP, HR⟩ := hrel
    by_cases hlt : k < n1
    · obtain ⟨p, rr, rfl⟩ := next_pn HP.out.1 HP.out.2 Hlen.out hlt
      have hr1 := own_below H3.out.1 HR.out (Nat.le_refl _)
      have hr3 := Rd.below (Rd.of_own H3.out.2.1) HR.out (Nat.le_refl _)
      obtain ⟨b1, rfl, hc1⟩ := ride_at (A2 := none) (n2 := 0) (c2 := 0) hr1 HP.out.1 HP.out.2
      obtain ⟨b3, o3, f, t, x, rfl, hb3, hz3, d1, d2, d3⟩ := RdC.at_ hr3 hlt
      rw [HP.out.1, List.getElem?_map, at_app l p rr k HP.out.2] at hz3
      have hz3 := Option.some.inj hz3
      injection hz3 with e1 e2
      injection e2 with e2 e3
      subst e1 e2 e3
      have hb1 : b1 < wr.heap.size := (hr1.lt b1 rfl).2
      obtain ⟨_, _, _, _, _, _, _, _⟩ := sz hb1
      obtain ⟨_, _, _, _, _, _, _, _⟩ := sz hb3
      have hpw := Hwt.out p (by rw [HP.out.1]; simp)
      have hlw := waits_in l (fun q hq => Hwt.out q (by rw [HP.out.1]; exact List.mem_append_left _ hq))
      have hll := HP.out.2
      obtain ⟨W, hW⟩ : ∃ W, waits l = W := ⟨_, rfl⟩
      rw [hW] at hlw ⊢
      have HW := hide hW
      have hq1 : 0 ≤ W ∧ W ≤ 11000 := by omega
      obtain ⟨q1, q2⟩ := hq1
      obtain ⟨q3, q4, q5⟩ := hpw
      have q6 : 0 ≤ p.on := by omega
      have hltz : (k : Int) < (n1 : Int) := by omega
      clear hr1 hr3 hlw hll hW
      go_wp2_with fail
      go_quiet (fail)
      go_wp2_with fail
      go_roundw
      case rel => exact ⟨k + 1, l ++ [p], rr, int_eq (by rw [waits_snoc, HW.out]), by go_num, by omega, hide ⟨by rw [HP.out.1]; simp, by simp [HP.out.2]⟩, hide (below_drewN (HR.out.alloc (by have := HR.out.size; omega) _) _)⟩
      case measure => simp [intOf]; omega
    · obtain ⟨rfl, rfl⟩ := no_next HP.out.1 HP.out.2 Hlen.out hlt
      have HF := hide (H3.out.2.2.trans (HR.out.mono H3.out.2.2.size))
      go_wp2_with fail
      go_ret
      exact ⟨rfl, HF.out⟩

set_option maxHeartbeats 4000000 in
theorem TotalWait_s (A : Option Addr) (n c : Nat) (cs : List CallQ) (start : Int) (w : World) (hn : n ≤ 1048576) (hA : Sl A n) (ha : RdC w A n cs) :
    Calls Try.prog 11 #[.slice A n c, .int .i64 start] w (fun e w' => e = .returned (.int .i64 (totK cs start)) ∧ Below w.heap.size w w') := by
  have Ha := hide ha
  clear ha
  cases hv : vCs cs
  · have e1 : totK cs start = -1 := by simp [totK, hv]
    rw [e1]
    have Hv := hide hv
    clear hv
    go_enter Try.func11, Try.ntmps11
    go_wp2_with fail
    refine (validCalls_s A n c cs _ hn Ha.out).mono ?_
    rintro e w1 ⟨rfl, hb⟩
    rw [Hv.out]
    have Hb := hide hb
    clear hb
    go_wp2_with fail
    go_ret
    exact ⟨rfl, Hb.out⟩
  cases hs : inB start 0 15
  · have e1 : totK cs start = -1 := by simp [totK, hs]
    rw [e1]
    have Hv := hide hv
    have Hs := hide hs
    clear hv hs
    go_enter Try.func11, Try.ntmps11
    go_wp2_with fail
    refine (validCalls_s A n c cs _ hn Ha.out).mono ?_
    rintro e w1 ⟨rfl, hb⟩
    rw [Hv.out]
    have Hb := hide hb
    clear hb
    go_wp2_with fail
    refine (inRange_any _ _ _ _).mono ?_
    rintro e w' ⟨rfl, rfl⟩
    rw [Hs.out]
    go_wp2_with fail
    go_ret
    exact ⟨rfl, Hb.out⟩
  have e1 : totK cs start = waits (rideR (insL cs) start) := by simp [totK, hv, hs]
  rw [e1]
  have hval := valid_insL hv
  obtain ⟨st0, st1⟩ := inB_iff.1 hs
  obtain ⟨ps, hps⟩ : ∃ ps, rideR (insL cs) start = ps := ⟨_, rfl⟩
  have Hps := hide hps
  have hwt := rideR_waits hval.2 hval.1 st0 st1
  rw [hps] at hwt ⊢
  have Hwt := hide hwt
  have Hval := hide hval
  have Hv := hide hv
  have Hs := hide hs
  clear hv hs hval e1 hps hwt
  go_enter Try.func11, Try.ntmps11
  go_wp2_with fail
  refine (validCalls_s A n c cs _ hn Ha.out).mono ?_
  rintro e w1 ⟨rfl, hb⟩
  rw [Hv.out]
  have Hb1 := hide hb
  have hz1 := hb.size
  clear hb
  go_wp2_with fail
  refine (inRange_any _ _ _ _).mono ?_
  rintro e w' ⟨rfl, hw⟩
  subst hw
  rw [Hs.out]
  go_wp2_with fail
  refine (sortCalls_s A n c cs _ hn hA.1 (Rd.below Ha.out Hb1.out (Nat.le_refl _)) hA.2).mono ?_
  rintro e w2 ⟨A2, n2, c2, rfl, ho, hb⟩
  have hn2 : n2 ≤ 12 := by have h1 := RdLEN_call (Rd.of_own ho); have := Hval.out.1; omega
  have HO2 := hide ho
  have Hb2 := hide (Hb1.out.trans (hb.mono hz1))
  have hz2 := Hb2.out.size
  have hz12 := hb.size
  clear ho hb
  go_wp2_with fail
  refine (ride_any w1.heap.size n2 c2 A2 (insL cs) start _ hn2 hz12 Hval.out.2 st0 st1 HO2.out).mono ?_
  rintro e w3 ⟨g, g', rfl, hS, hb, hg, hg', hb2⟩
  rw [Hps.out] at hS
  have H3 := hide (And.intro hS (Hb2.out.trans (hb2.mono hz2)))
  have Hlen := hide hS.len
  clear hS hb hg hg' hb2
  go_wp2_with fail
  go_loopw [8, 9] (fun vt vi wr => ∃ (k : Nat) (l rr : List Pn), vt = .int .i64 (waits l) ∧ vi = .int .i64 k ∧ k ≤ n2 ∧ Hid (ps = l ++ rr ∧ l.length = k) ∧ ∃ q, wr = w3.drewN q) (fun _ vi _ => n2 - (intOf vi).toNat)
  case atStart => exact ⟨0, [], ps, rfl, rfl, Nat.zero_le _, hide ⟨rfl, rfl⟩, 0, rfl⟩
  case round =>
    obtain ⟨k, l, rr, rfl, rfl, hk, HP, q, rfl⟩ := hrel
    by_cases hlt : k < n2
    · obtain ⟨p, rr, rfl⟩ := next_pn HP.out.1 HP.out.2 Hlen.out hlt
      have hAt := H3.out.1
      rw [HP.out.1] at hAt
      obtain ⟨c1, c2, _, _, bc, hAc, d1, d2, d3⟩ := hAt.at_ HP.out.2
      subst hAc
      have hpw := Hwt.out p (by rw [HP.out.1]; simp)
      have hlw := waits_in l (fun q hq => Hwt.out q (by rw [HP.out.1]; exact List.mem_append_left _ hq))
      have hll := HP.out.2
      obtain ⟨W, hW⟩ : ∃ W, waits l = W := ⟨_, rfl⟩
      rw [hW] at hlw ⊢
      have HW := hide hW
      have hq1 : 0 ≤ W ∧ W ≤ 11000 := by omega
      obtain ⟨q1, q2⟩ := hq1
      obtain ⟨q3, q4, q5⟩ := hpw
      have q6 : 0 ≤ p.on := by omega
      have hltz : (k : Int) < (n2 : Int) := by omega
      clear hAt hlw hll hW
      go_wp2_with fail
      go_quiet (fail)
      go_wp2_with fail
      go_roundw
      case rel => exact ⟨k + 1, l ++ [p], rr, int_eq (by rw [waits_snoc, HW.out]; omega), by go_num, by omega, hide ⟨by rw [HP.out.1]; simp, by simp [HP.out.2]⟩, _, rfl⟩
      case measure => simp [intOf]; omega
    · obtain ⟨rfl, rfl⟩ := no_next HP.out.1 HP.out.2 Hlen.out hlt
      go_wp2_with fail
      go_ret
      exact ⟨rfl, below_drewN H3.out.2 _⟩
end Go.Proofs.Ythgbbfcpnmpjgaa
