/-
  The car's ride: its beginning, its steps, what it hands back.
-/
import Derived.Test.YthgbbfcpnmpjgaaRideI
import Derived.Test.YthgbbfcpnmpjgaaRideP
import Derived.Test.YthgbbfcpnmpjgaaSortK
namespace Go.Proofs.Ythgbbfcpnmpjgaa
open Go.RowKit
set_option linter.unusedSimpArgs false
set_option linter.unusedVariables false

set_option maxHeartbeats 2000000 in
theorem newRide_any (B n cc : Nat) (Ac : Option Addr) (cs : List CallQ) (start : Int) (w : World) (hn : n ≤ 12) (hB : B ≤ w.heap.size) (ho : w.ownsRow B 40 3 (.slice Ac n cc) n (cellsC cs)) :
    Calls Try.prog 35 #[.slice Ac n cc, .int .i64 start] w fun e w' => ∃ r g g' co cf, e = .returned (.pointer (some ⟨r, 0, none⟩)) ∧ RH B w' r g g' Ac n cc co cf (cs.map newP) start 1 (0 : Nat) (0 : Nat) ∧ Below B w w' := by
  obtain ⟨i0, hi0, iz0, iz1, iz2⟩ := info_parts int_info
  have hlc : cs.length = n := RdC.len (Rd.of_own ho)
  have Hlc := hide hlc
  have HO := hide ho
  have HBB := hide hB
  have hrep : (madeCells (Value.cells (.int .i64 0)) (n * 1)).toList = List.replicate n (.int .i64 0) := by rw [Nat.mul_one]; exact toList_madeCells_one _ _
  have Hrep := hide hrep
  clear ho hlc hrep
  go_enter Try.func35, Try.ntmps35
  go_wp2_with (first
    | (at_make
       refine wpList_make_full _ rfl _ _ 29 rfl B 3 i0 (.int .i64 0) 1 Try.underlying29 hi0 iz0 iz1 _ _ _ _ n rfl rfl rfl rfl (by rw [iz2]; omega) (by unfold maxLen; omega) (by have := H1.out.2.2.2; simp; omega) ?_
       intro w2 hown2 hgrow2
       generalize hg2 : (World.setCell w1 _ _).heap.size = g2 at hown2 ⊢
       have hs2 : w1.heap.size = g2 := by rw [← hg2]; simp
       have hset := H1.out.1.set_ 1 (.slice (some ⟨w.heap.size + 1, 0, none⟩) n n)
       have H2 := hide (show Blk w2 w.heap.size 52 #[.slice Ac n cc, .slice (some ⟨w.heap.size + 1, 0, none⟩) n n, .slice none 0 0, .int .i64 start, .int .i64 1, .int .i64 0, .int .i64 0] ∧ w2.ownsRow B 3 1 (.slice (some ⟨w.heap.size + 1, 0, none⟩) n n) n (List.replicate n (.int .i64 0)) ∧ w2.ownsRow B 3 1 (.slice (some ⟨g2, 0, none⟩) n n) n (List.replicate n (.int .i64 0)) ∧ Below B w w2 ∧ w2.ownsRow B 40 3 (.slice Ac n cc) n (cellsC cs) from by
         refine ⟨Blk.grown (by simpa using hset) hgrow2 (by simp), ?_, by rw [Hrep.out] at hown2; exact hown2, ?_, ?_⟩
         · exact (own_setOther H1.out.2.1 (by simp [Value.ownBlock]) _).kept hgrow2 (by simp [Value.ownBlock])
         · exact (H1.out.2.2.1.1.setCell (p := ⟨w.heap.size, 1, none⟩) HBB.out _).grown hgrow2 (by have := H1.out.2.2.1.1.size; simp; omega) (by intro j hj; cases hj)
         · exact (own_setOther H1.out.2.2.1.2 (own_blk_ne H1.out.2.2.1.2 H1.out.1 (by decide)) _).kept hgrow2 (by cases (Value.slice Ac n cc).ownBlock <;> simp))
       have hne2 : g2 ≠ w.heap.size + 1 := by have := H1.out.2.2.2; omega
       obtain ⟨_, _, _, _, _, _, _, _, _, _, _, _, _, _⟩ := blk7 H2.out.1
       clear hown2 hgrow2 hset)
    | (at_make
       refine wpList_make_full _ rfl _ _ 29 rfl B 3 i0 (.int .i64 0) 1 Try.underlying29 hi0 iz0 iz1 _ _ _ _ n rfl rfl rfl rfl (by rw [iz2]; omega) (by unfold maxLen; omega) (by simp; omega) ?_
       intro w1 hown1 hgrow1
       have H1 := hide (show Blk w1 w.heap.size 52 #[.slice Ac n cc, .slice none 0 0, .slice none 0 0, .int .i64 start, .int .i64 1, .int .i64 0, .int .i64 0] ∧ w1.ownsRow B 3 1 (.slice (some ⟨w.heap.size + 1, 0, none⟩) n n) n (List.replicate n (.int .i64 0)) ∧ (Below B w w1 ∧ w1.ownsRow B 40 3 (.slice Ac n cc) n (cellsC cs)) ∧ w.heap.size + 1 < w1.heap.size from by
         have hown1' : w1.ownsRow B 3 1 (.slice (some ⟨w.heap.size + 1, 0, none⟩) n n) n (List.replicate n (.int .i64 0)) := by rw [← Hrep.out]; simpa using hown1
         refine ⟨Blk.grown (Blk.new _ _ _) hgrow1 (by simp), hown1', ⟨?_, ?_⟩, (hown1'.lt _ rfl).2⟩
         · exact ((Below.refl B w).alloc HBB.out _).grown hgrow1 (by simp; have := HBB.out; omega) (by intro j hj; cases hj)
         · exact (HO.out.alloc _).kept hgrow1 (by cases (Value.slice Ac n cc).ownBlock <;> simp))
       have hz1 := H1.out.2.2.2
       obtain ⟨_, _, _, _, _, _, _, _, _, _, _, _, _, _⟩ := blk7 H1.out.1
       clear hown1 hgrow1))
  have H3 := hide (show RH B (w2.setCell ⟨w.heap.size, 2, none⟩ (.slice (some ⟨g2, 0, none⟩) n n)) w.heap.size (w.heap.size + 1) g2 Ac n cc n n (cs.map zeroP) start 1 (0 : Nat) (0 : Nat) ∧ Below B w (w2.setCell ⟨w.heap.size, 2, none⟩ (.slice (some ⟨g2, 0, none⟩) n n)) from by
    have hset := H2.out.1.set_ 2 (.slice (some ⟨g2, 0, none⟩) n n)
    refine ⟨⟨by simpa using hset, ?_, ?_, ?_, HBB.out, fun e => hne2 e.symm⟩, H2.out.2.2.2.1.setCell (p := ⟨w.heap.size, 2, none⟩) HBB.out _⟩
    · rw [on_zero, Hlc.out, List.map_replicate]
      exact own_setOther H2.out.2.1 (by simp [Value.ownBlock]) _
    · rw [off_zero, Hlc.out, List.map_replicate]
      exact own_setOther H2.out.2.2.1 (own_blk_ne H2.out.2.2.1 H2.out.1 (by decide)) _
    · rw [callOf_zero]
      exact own_setOther H2.out.2.2.2.2 (own_blk_ne H2.out.2.2.2.2 H2.out.1 (by decide)) _)
  generalize hw3 : w2.setCell ⟨w.heap.size, 2, none⟩ (.slice (some ⟨g2, 0, none⟩) n n) = w3 at H3 ⊢
  clear H1 H2 hw3
  go_loopw [25] (fun vi wr => ∃ (k : Nat) (l rr : List CallQ), vi = .int .i64 k ∧ k ≤ n ∧ Hid (cs = l ++ rr ∧ l.length = k) ∧ Hid (RH B wr w.heap.size (w.heap.size + 1) g2 Ac n cc n n (l.map newP ++ rr.map zeroP) start 1 (0 : Nat) (0 : Nat) ∧ Below B w wr)) (fun vi _ => n - (intOf vi).toNat)
  case atStart => exact ⟨0, [], cs, rfl, Nat.zero_le _, hide ⟨rfl, rfl⟩, H3⟩
  case round =>
    obtain ⟨k, l, rr, rfl, hk, HP, HR⟩ := hrel
    by_cases hlt : k < n
    · obtain ⟨c, rr, rfl⟩ : ∃ c rr', rr = c :: rr' := by
        cases rr with
        | nil =>
          have h1 := HP.out.1
          have h2 := HP.out.2
          have h3 := Hlc.out
          rw [h1, List.append_nil] at h3
          omega
        | cons c rr => exact ⟨c, rr, rfl⟩
      have HLK := hide (show (l.map newP).length = k by rw [List.length_map]; exact HP.out.2)
      have HZ := hide (show RH B wr w.heap.size (w.heap.size + 1) g2 Ac n cc n n (l.map newP ++ zeroP c :: rr.map zeroP) start 1 (0 : Nat) (0 : Nat) from HR.out.1)
      obtain ⟨_, _, _, _, _, _, _, _, _, _, _, _, _, _⟩ := blk7 HR.out.1.blk
      obtain ⟨c1, c2, f1, f2, bc, hAc, _, _, _⟩ := HZ.out.at_ HLK.out
      clear hAc
      have hltz : (k : Int) < (n : Int) := by omega
      have n1 : ¬ g2 = w.heap.size + 1 := hne2
      have n2 : ¬ w.heap.size + 1 = g2 := fun e => hne2 e.symm
      have n3 := HR.out.1.gr'
      have n4 : ¬ w.heap.size = g2 := fun e => n3 e.symm
      have HS1 := hide (show RH B ((wr.setCell ⟨w.heap.size + 1, k, none⟩ (.int .i64 (-1))).setCell ⟨g2, k, none⟩ (.int .i64 (-1))) w.heap.size (w.heap.size + 1) g2 Ac n cc n n ((l ++ [c]).map newP ++ rr.map zeroP) start 1 (0 : Nat) (0 : Nat) from by
        rw [List.map_append, List.append_assoc]
        exact RH.setOff (p := halfP c) (q := newP c) (RH.setOn (q := halfP c) HZ.out HLK.out rfl rfl rfl) HLK.out rfl rfl rfl)
      have HS2 := hide (show RH B ((wr.setCell ⟨g2, k, none⟩ (.int .i64 (-1))).setCell ⟨w.heap.size + 1, k, none⟩ (.int .i64 (-1))) w.heap.size (w.heap.size + 1) g2 Ac n cc n n ((l ++ [c]).map newP ++ rr.map zeroP) start 1 (0 : Nat) (0 : Nat) from by
        rw [List.map_append, List.append_assoc]
        exact RH.setOn (p := halfQ c) (q := newP c) (RH.setOff (q := halfQ c) HZ.out HLK.out rfl rfl rfl) HLK.out rfl rfl rfl)
      have zB := HR.out.1.gB
      obtain ⟨zB1, zB2⟩ := zB
      go_wp2_with fail
      go_region
      all_goals
        go_wp2_with fail
        go_roundw
        case rel =>
          refine ⟨k + 1, l ++ [c], rr, by go_num, by omega, hide ⟨by rw [HP.out.1]; simp, by simp [HP.out.2]⟩, hide ⟨?_, ?_⟩⟩
          · repeat (first | (with_reducible exact HS1.out) | (with_reducible exact HS2.out) | (with_reducible refine RH.drew ?_) | (with_reducible refine RH.drewN ?_ _))
          · repeat (first | exact HR.out.2 | (with_reducible refine Below.drew ?_) | (with_reducible refine below_drewN ?_ _) | (with_reducible refine Below.setCell ?_ zB1 _) | (with_reducible refine Below.setCell ?_ zB2 _))
        case measure => simp [intOf]; omega
    · obtain rfl : k = n := by omega
      have hrr : rr = [] := by
        have h1 := HP.out.1
        have h2 := HP.out.2
        have h3 := Hlc.out
        rw [h1, List.length_append] at h3
        exact List.eq_nil_of_length_eq_zero (by omega)
      subst hrr
      have hps : l = cs := by have := HP.out.1; simpa using this.symm
      subst hps
      have HF := hide (by have := HR.out; rw [List.map_nil, List.append_nil] at this; exact this)
      go_wp2_with fail
      go_ret
      exact ⟨_, _, _, _, _, rfl, HF.out.1, HF.out.2⟩

/-- A ride's times, in two rows of new memory. -/
def RetRide (w : World) (ps : List Pn) (e : Ending) (w' : World) : Prop :=
  ∃ A1 n1 c1 A2 n2 c2, e = .returned (.tuple #[.slice A1 n1 c1, .slice A2 n2 c2]) ∧ w'.ownsRow w.heap.size 3 1 (.slice A1 n1 c1) n1 ((ps.map Pn.on).map (Value.int .i64)) ∧ w'.ownsRow w.heap.size 3 1 (.slice A2 n2 c2) n2 ((ps.map Pn.off).map (Value.int .i64)) ∧
    (∀ k, (Value.slice A1 n1 c1).ownBlock = some k → (Value.slice A2 n2 c2).ownBlock = some k → False) ∧ Below w.heap.size w w'
theorem RetRide.none_ {w w' : World} (h : Below w.heap.size w w') : RetRide w [] (.returned (.tuple #[.slice none 0 0, .slice none 0 0])) w' :=
  ⟨none, 0, 0, none, 0, 0, rfl, ⟨rfl, .inl ⟨rfl, rfl⟩⟩, ⟨rfl, .inl ⟨rfl, rfl⟩⟩, by simp [Value.ownBlock], h⟩
theorem RetRide.drewN {w w' : World} {ps : List Pn} {e : Ending} (h : RetRide w ps e w') (q : Nat) : RetRide w ps e (w'.drewN q) := by
  obtain ⟨A1, m1, d1, A3, m3, d3, he, o1, o2, hne, hb⟩ := h
  exact ⟨A1, m1, d1, A3, m3, d3, he, o1, o2, hne, below_drewN hb _⟩
/-- The run that is left. -/
theorem run_left {tm : Nat} {s s0 : RS} (h : runR (901 - tm) s (tm : Int) = runR 901 s0 0) (htm : tm ≤ 900) (hd : doneR s.ps = false) : runR (901 - (tm + 1)) (stepR s tm) ((tm + 1 : Nat) : Int) = runR 901 s0 0 := by
  rw [← h, show 901 - tm = (901 - (tm + 1)) + 1 by omega, runR_step hd]
  rfl

set_option maxHeartbeats 4000000 in
theorem RideTimes_i (A : Option Addr) (n c : Nat) (cs : List CallQ) (start : Int) (w : World) (hn : n ≤ 1048576) (hA : Sl A n) (ha : RdC w A n cs) :
    Calls Try.prog 16 #[.slice A n c, .int .i64 start] w (RetRide w (rideK cs start)) := by
  have Ha := hide ha
  clear ha
  cases hv : vCs cs
  · rw [rideK_no (by rw [hv]; rfl)]
    have Hv := hide hv
    clear hv
    go_enter Try.func16, Try.ntmps16
    go_wp2_with fail
    refine (ValidCalls_i A n c cs _ hn Ha.out).mono ?_
    rintro e w1 ⟨rfl, hb⟩
    rw [Hv.out]
    have Hb := hide hb
    clear hb
    go_wp2_with fail
    go_ret2
    exact RetRide.none_ Hb.out
  cases hs : inB start 0 15
  · rw [rideK_no (by rw [hs, Bool.and_false])]
    have Hv := hide hv
    have Hs := hide hs
    clear hv hs
    go_enter Try.func16, Try.ntmps16
    go_wp2_with fail
    refine (ValidCalls_i A n c cs _ hn Ha.out).mono ?_
    rintro e w1 ⟨rfl, hb⟩
    rw [Hv.out]
    have Hb := hide hb
    clear hb
    go_wp2_with fail
    refine (validFloor_any _ _).mono ?_
    rintro e w' ⟨rfl, rfl⟩
    rw [Hs.out]
    go_wp2_with fail
    go_ret2
    exact RetRide.none_ Hb.out
  rw [rideK_ok hv hs]
  have hval := valid_insL hv
  obtain ⟨st0, st1⟩ := inB_iff.1 hs
  have HI0 := hide (start_inv hval.2 st0 st1)
  obtain ⟨cz, hcz⟩ : ∃ cz, insL cs = cz := ⟨_, rfl⟩
  have hsk : sortedK cs = cz := by rw [sortedK_eq, if_pos hv]; exact hcz
  rw [hcz] at hval HI0 ⊢
  have Hsk := hide hsk
  have Hval := hide hval
  have Hv := hide hv
  have Hs := hide hs
  clear hv hs hval hsk hcz
  go_enter Try.func16, Try.ntmps16
  go_wp2_with fail
  refine (ValidCalls_i A n c cs _ hn Ha.out).mono ?_
  rintro e w1 ⟨rfl, hb⟩
  rw [Hv.out]
  have Hb1 := hide hb
  have hz1 := hb.size
  clear hb
  go_wp2_with fail
  refine (validFloor_any _ _).mono ?_
  rintro e w' ⟨rfl, hw⟩
  have hw2 := hw.symm
  clear hw
  subst hw2
  rw [Hs.out]
  go_wp2_with fail
  refine (SortCalls_I A n c cs _ hn hA (Rd.below Ha.out Hb1.out (Nat.le_refl _))).mono ?_
  rintro e w2 ⟨A2, n2, c2, rfl, ho, hb⟩
  rw [Hsk.out] at ho
  have hn2 : n2 ≤ 12 := by have h1 := RdLEN_call (Rd.of_own ho); have := Hval.out.1; omega
  have HO2 := hide (own_base ho hz1)
  have Hb2 := hide (Hb1.out.trans (hb.mono hz1))
  have hz2 := Hb2.out.size
  clear ho hb
  go_wp2_with fail
  refine (newRide_any w.heap.size n2 c2 A2 cz start _ hn2 hz2 HO2.out).mono ?_
  rintro e w3 ⟨r, g, g', co, cf, rfl, hR, hb⟩
  have HR3 := hide (show RH w.heap.size w3 r g g' A2 n2 c2 co cf (cz.map newP) start 1 (nRid (cz.map newP) : Nat) (nOff (cz.map newP) : Nat) ∧ Below w.heap.size w w3 from by
    rw [nRid_start, nOff_start]
    exact ⟨hR, Hb2.out.trans hb⟩)
  clear hR hb
  go_wp2_with fail
  go_loopw [7] (fun vt wr => ∃ (tm : Nat) (s : RS), vt = .int .i64 tm ∧ tm ≤ 901 ∧ Hid (RH w.heap.size wr r g g' A2 n2 c2 co cf s.ps s.fl s.h (nRid s.ps : Nat) (nOff s.ps : Nat) ∧ Below w.heap.size w wr) ∧ Hid (Inv tm s) ∧ Hid (runR (901 - tm) s (tm : Int) = runR 901 ⟨start, 1, cz.map newP⟩ 0)) (fun vt _ => 901 - (intOf vt).toNat)
  case atStart => exact ⟨0, _, rfl, by omega, HR3, HI0, rfl⟩
  case round =>
    obtain ⟨tm, s, rfl, htm, HR, HI, HRUN⟩ := hrel
    have hlen := HR.out.1.len
    have hol := nOff_le s.ps
    rw [hlen] at hol
    have hdn : doneR s.ps = decide (n2 ≤ nOff s.ps) := by rw [doneR_iff, hlen]
    obtain ⟨M, hM⟩ : ∃ M, nOff s.ps = M := ⟨_, rfl⟩
    rw [hM] at hol hdn
    obtain ⟨_, _, _, _, _, _, _, _, _, _, _, _, _, _⟩ := blk7 HR.out.1.blk
    rename_i _ _ _ _ _ _ hc6 _ _ _ _ _ _ _
    rw [hM] at hc6
    clear hlen
    have Hdn := hide hdn
    clear hdn
    by_cases hgo : tm ≤ 900 ∧ M < n2
    · obtain ⟨hgo1, hgo2⟩ := hgo
      have hz1' : (tm : Int) ≤ 900 := by omega
      have hz2' : (M : Int) < (n2 : Int) := by omega
      have HD := hide (show doneR s.ps = false by rw [Hdn.out]; simp; omega)
      have HNEXT := hide (run_left HRUN.out hgo1 HD.out)
      have HIN := hide (HI.out.step (by omega))
      obtain ⟨b1, hb1⟩ : ∃ b1, outC s.ps s.fl = b1 := ⟨_, rfl⟩
      obtain ⟨b2, hb2⟩ : ∃ b2, inC (outA s.ps s.fl tm) s.fl tm = b2 := ⟨_, rfl⟩
      have HB1 := hide hb1
      have HB2 := hide hb2
      clear hb1 hb2
      go_wp2_with fail
      go_quiet (fail)
      have HRq := hide (show RH w.heap.size (wr.drewN nq) r g g' A2 n2 c2 co cf s.ps s.fl s.h (nRid s.ps : Nat) (nOff s.ps : Nat) ∧ Below w.heap.size w (wr.drewN nq) from ⟨HR.out.1.drewN _, below_drewN HR.out.2 _⟩)
      go_wp2_with fail
      refine (letOut_any w.heap.size r g g' n2 c2 co cf A2 s.ps s.fl s.h tm _ hn2 (by omega) (by omega) HRq.out.1).mono ?_
      rintro e w4 ⟨rfl, hR, hb⟩
      rw [HB1.out]
      have HR4 := hide (And.intro hR (HRq.out.2.trans hb))
      clear hR hb
      go_wp2_with fail
      refine (letIn_any w.heap.size r g g' n2 c2 co cf A2 (outA s.ps s.fl tm) s.fl s.h _ tm _ hn2 (by omega) (by omega) HR4.out.1).mono ?_
      rintro e w5 ⟨rfl, hR, hb⟩
      rw [HB2.out]
      have HR5 := hide (show RH w.heap.size w5 r g g' A2 n2 c2 co cf (stepR s tm).ps s.fl s.h (nRid (stepR s tm).ps : Nat) (nOff (stepR s tm).ps : Nat) ∧ Below w.heap.size w w5 from by
        rw [step_ps, nRid_inA HI.out (by omega)]
        unfold inA at hR ⊢
        rw [nOff_in]
        exact ⟨hR, HR4.out.2.trans hb⟩)
      clear hR hb
      cases b1
      · cases b2
        · have HST := hide (stepR_quiet (s := s) (tm := tm) (step_ps s tm).symm (by rw [HB1.out, HB2.out]; rfl))
          have hcar := HI.out.car
          have HMID := hide (inA_mid HI.out (by omega))
          rw [← step_ps] at HMID
          go_wp2_with fail
          refine (drive_any w.heap.size r g g' n2 c2 co cf A2 (stepR s tm).ps s.fl s.h _ tm (nRid (stepR s tm).ps) _ hn2 (by omega) (by omega) rfl hcar.h1 hcar.f0 hcar.f1 HMID.out HR5.out.1).mono ?_
          rintro e w6 ⟨rfl, hR, hb⟩
          have HR6 := hide (show RH w.heap.size w6 r g g' A2 n2 c2 co cf (stepR s tm).ps (stepR s tm).fl (stepR s tm).h (nRid (stepR s tm).ps : Nat) (nOff (stepR s tm).ps : Nat) ∧ Below w.heap.size w w6 from by
            refine ⟨?_, HR5.out.2.trans hb⟩
            have e1 := congrArg RS.fl HST.out
            have e2 := congrArg RS.h HST.out
            rw [e1, e2]
            exact hR)
          clear hR hb
          go_wp2_with fail
          go_roundw
          case rel => exact ⟨tm + 1, stepR s tm, by go_num, by omega, HR6, HIN, HNEXT⟩
          case measure => simp [intOf]; omega
        · have HST := hide (stepR_stay (s := s) (tm := tm) (step_ps s tm).symm (by rw [HB1.out, HB2.out]; rfl))
          have HR6 := hide (show RH w.heap.size w5 r g g' A2 n2 c2 co cf (stepR s tm).ps (stepR s tm).fl (stepR s tm).h (nRid (stepR s tm).ps : Nat) (nOff (stepR s tm).ps : Nat) ∧ Below w.heap.size w w5 from by
            have e1 := congrArg RS.fl HST.out
            have e2 := congrArg RS.h HST.out
            rw [e1, e2]
            exact HR5.out)
          go_wp2_with fail
          go_roundw
          case rel => exact ⟨tm + 1, stepR s tm, by go_num, by omega, HR6, HIN, HNEXT⟩
          case measure => simp [intOf]; omega
      · have HST := hide (stepR_stay (s := s) (tm := tm) (step_ps s tm).symm (by rw [HB1.out]; rfl))
        have HR6 := hide (show RH w.heap.size w5 r g g' A2 n2 c2 co cf (stepR s tm).ps (stepR s tm).fl (stepR s tm).h (nRid (stepR s tm).ps : Nat) (nOff (stepR s tm).ps : Nat) ∧ Below w.heap.size w w5 from by
          have e1 := congrArg RS.fl HST.out
          have e2 := congrArg RS.h HST.out
          rw [e1, e2]
          exact HR5.out)
        cases b2
        all_goals
          go_wp2_with fail
          go_roundw
          case rel => exact ⟨tm + 1, stepR s tm, by go_num, by omega, HR6, HIN, HNEXT⟩
          case measure => simp [intOf]; omega
    · have HEND := hide (show s.ps = rideR cz start by
        have h1 := HRUN.out
        unfold rideR
        rw [← h1]
        by_cases hd : doneR s.ps = true
        · rw [runR_done hd]
        · have h2 := Hdn.out
          have : tm = 901 := by
            simp only [Bool.not_eq_true] at hd
            rw [hd] at h2
            have := of_decide_eq_false h2.symm
            omega
          subst this
          rfl)
      have HFIN := hide (show RetRide w (rideR cz start) (.returned (.tuple #[.slice (some ⟨g, 0, none⟩) n2 co, .slice (some ⟨g', 0, none⟩) n2 cf])) wr from by
        rw [← HEND.out]
        exact ⟨_, _, _, _, _, _, rfl, HR.out.1.on_, HR.out.1.off_, fun k h1 h2 => by
          have e1 : g = k := Option.some.inj h1
          have e2 : g' = k := Option.some.inj h2
          exact HR.out.1.ne (e1.trans e2.symm), HR.out.2⟩)
      by_cases hz : tm ≤ 900
      · have hz1' : (tm : Int) ≤ 900 := by omega
        have hz2' : ¬ (M : Int) < (n2 : Int) := by omega
        go_wp2_with fail
        go_quiet (fail)
        go_wp2_with fail
        go_quiet (fail)
        go_wp2_with fail
        go_ret2
        exact (HFIN.out.drewN _).drewN _
      · have hz1' : decide ((tm : Int) ≤ 900) = false := by simp; omega
        have hz2' : ¬ (tm : Int) ≤ 900 := by omega
        go_wp2_with fail
        go_quiet (fail)
        go_wp2_with fail
        go_quiet (fail)
        go_wp2_with fail
        go_ret2
        exact (HFIN.out.drewN _).drewN _
end Go.Proofs.Ythgbbfcpnmpjgaa
