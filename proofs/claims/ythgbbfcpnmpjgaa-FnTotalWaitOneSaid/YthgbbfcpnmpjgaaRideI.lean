/-
  The methods of a car that serves calls: who rides, who waits, letting out, letting in, driving.
-/
import Derived.Test.YthgbbfcpnmpjgaaRideH
namespace Go.Proofs.Ythgbbfcpnmpjgaa
open Go.RowKit
set_option linter.unusedSimpArgs false
set_option linter.unusedVariables false

theorem rid_1 {p : Pn} (h : 0 ≤ p.on) : decide (p.off < 0) = rid p := by simp [rid, h]
theorem rid_2 {p : Pn} (h : p.on < 0) : false = rid p := by simp [rid]; omega
theorem rid_3 {p : Pn} (h : ¬ 0 ≤ p.on) : false = rid p := rid_2 (by omega)
theorem wai_1 {tm : Int} {p : Pn} (h : p.on < 0) : decide (p.c ≤ tm) = wai tm p := by simp [wai, h]
theorem wai_2 {tm : Int} {p : Pn} (h : 0 ≤ p.on) : false = wai tm p := by simp [wai]; omega
theorem wai_3 {tm : Int} {p : Pn} (h : ¬ p.on < 0) : false = wai tm p := wai_2 (by omega)

set_option maxHeartbeats 1000000 in
theorem riding_v (B r g g' n cc co cf i : Nat) (Ac : Option Addr) (l rr : List Pn) (p : Pn) (fl h ins lf : Int) (b : Bool) (w : World) (hn : n ≤ 12) (hi : l.length = i) (hb : rid p = b) (H : RH B w r g g' Ac n cc co cf (l ++ p :: rr) fl h ins lf) :
    Calls Try.prog 53 #[.pointer (some ⟨r, 0, none⟩), .int .i64 i] w fun e w' => e = .returned (.bool b) ∧ w' = w := by
  subst hb
  obtain ⟨_, _, _, _, _, _, _, _, _, _, _, _, _, _⟩ := blk7 H.blk
  obtain ⟨c1, c2, _, _, _⟩ := H.at_ hi
  have hlen := H.len
  have hlt : (i : Int) < (n : Int) := by simp at hlen; omega
  clear hlen H
  go_enter Try.func53, Try.ntmps53
  go_wp2
  all_goals
    go_ret
    exact ⟨ret_bool (by first | exact rid_1 (by assumption) | exact rid_2 (by assumption) | exact rid_3 (by assumption)), rfl⟩
set_option maxHeartbeats 1000000 in
theorem waiting_v (B r g g' n cc co cf i : Nat) (Ac : Option Addr) (l rr : List Pn) (p : Pn) (fl h ins lf : Int) (tm : Int) (b : Bool) (w : World) (hn : n ≤ 12) (hi : l.length = i) (hb : wai tm p = b) (H : RH B w r g g' Ac n cc co cf (l ++ p :: rr) fl h ins lf) :
    Calls Try.prog 55 #[.pointer (some ⟨r, 0, none⟩), .int .i64 i, .int .i64 tm] w fun e w' => e = .returned (.bool b) ∧ w' = w := by
  subst hb
  obtain ⟨_, _, _, _, _, _, _, _, _, _, _, _, _, _⟩ := blk7 H.blk
  obtain ⟨c1, c2, _, _, b, rfl, d1, d2, d3⟩ := H.at_ hi
  have hlen := H.len
  have hlt : (i : Int) < (n : Int) := by simp at hlen; omega
  clear hlen H
  go_enter Try.func55, Try.ntmps55
  go_wp2
  all_goals
    go_ret
    exact ⟨ret_bool (by first | exact wai_1 (by assumption) | exact wai_2 (by assumption) | exact wai_3 (by assumption)), rfl⟩
set_option maxHeartbeats 1000000 in
theorem hasRoom_v (B r g g' n cc co cf : Nat) (Ac : Option Addr) (ps : List Pn) (fl h lf : Int) (N : Nat) (b : Bool) (w : World) (hb : decide (N < 4) = b) (H : RH B w r g g' Ac n cc co cf ps fl h N lf) :
    Calls Try.prog 54 #[.pointer (some ⟨r, 0, none⟩)] w fun e w' => e = .returned (.bool b) ∧ w' = w := by
  obtain ⟨_, _, _, _, _, _, _, _, _, _, _, _, _, _⟩ := blk7 H.blk
  clear H
  have hb2 : decide ((N : Int) < 4) = b := (decide_eq_decide.2 (by omega)).trans hb
  clear hb
  go_enter Try.func54, Try.ntmps54
  go_wp2
  all_goals
    go_ret
    exact ⟨ret_bool (by first | exact hb2 | (rw [← hb2]; done) | (rw [← hb2]; simp; done) | (rw [← hb2]; simp; omega)), rfl⟩

set_option maxHeartbeats 4000000 in
theorem letOut_any (B r g g' n cc co cf : Nat) (Ac : Option Addr) (ps : List Pn) (fl h tm : Int) (w : World) (hn : n ≤ 12) (h0 : 0 ≤ tm) (h1 : tm ≤ 1000)
    (H : RH B w r g g' Ac n cc co cf ps fl h (nRid ps : Nat) (nOff ps : Nat)) :
    Calls Try.prog 36 #[.pointer (some ⟨r, 0, none⟩), .int .i64 tm] w fun e w' => e = .returned (.bool (outC ps fl)) ∧ RH B w' r g g' Ac n cc co cf (outA ps fl tm) fl h (nRid (outA ps fl tm) : Nat) (nOff (outA ps fl tm) : Nat) ∧ Below B w w' := by
  have HB := hide H
  have hlen := H.len
  have Hlen := hide hlen
  have hBw : B ≤ w.heap.size := by have := H.rB; have := H.blk.lt; omega
  have HBW := hide hBw
  obtain ⟨_, _, _, _, _, _, _, _, _, _, _, _, _, _⟩ := blk7 H.blk
  clear H hlen hBw
  go_enter Try.func36, Try.ntmps36
  go_wp2_with fail
  go_loopw [5, 13] (fun ch vi wr => ∃ (k : Nat) (l rr : List Pn), ch = .bool (outC l fl) ∧ vi = .int .i64 k ∧ k ≤ n ∧ Hid (ps = l ++ rr ∧ l.length = k) ∧ Hid (RH B wr r g g' Ac n cc co cf (outA l fl tm ++ rr) fl h (nRid (outA l fl tm ++ rr) : Nat) (nOff (outA l fl tm ++ rr) : Nat) ∧ Below B w wr)) (fun _ vi _ => n - (intOf vi).toNat)
  case atStart => exact ⟨0, [], ps, rfl, rfl, Nat.zero_le _, hide ⟨rfl, rfl⟩, hide ⟨HB.out, Below.refl _ _⟩⟩
  case round =>
    obtain ⟨k, l, rr, rfl, rfl, hk, HP, HR⟩ := hrel
    by_cases hlt : k < n
    · obtain ⟨p, rr, rfl⟩ : ∃ p rr', rr = p :: rr' := by
        cases rr with
        | nil =>
          have h1 := HP.out.1
          have h2 := HP.out.2
          have h3 := Hlen.out
          rw [h1, List.append_nil] at h3
          omega
        | cons p rr => exact ⟨p, rr, rfl⟩
      have HLK := hide (show (outA l fl tm).length = k by rw [len_out]; exact HP.out.2)
      have hzr := HR.out.2.size
      have hBw := HBW.out
      obtain ⟨_, _, _, _, _, _, _, _, _, _, _, _, _, _⟩ := blk7 HR.out.1.blk
      obtain ⟨c1, c2, f1, f2, bc, hAc, d1, d2, d3⟩ := HR.out.1.at_ HLK.out
      subst hAc
      have hrl := HR.out.1.blk.lt
      have hgl := (HR.out.1.on_.lt g rfl).2
      have hgl' := (HR.out.1.off_.lt g' rfl).2
      have hbl := (HR.out.1.cal.lt bc rfl).2
      have n1 := HR.out.1.gr
      have n2 := HR.out.1.gr'
      have n3 := HR.out.1.ne
      obtain ⟨_, _, _, _, _, _, _, _⟩ := sz hrl
      obtain ⟨_, _, _, _, _, _, _, _⟩ := sz hgl
      obtain ⟨_, _, _, _, _, _, _, _⟩ := sz hgl'
      obtain ⟨_, _, _, _, _, _, _, _⟩ := sz hbl
      have hltz : (k : Int) < (n : Int) := by omega
      obtain ⟨N, hN⟩ : ∃ N, nRid (outA l fl tm ++ p :: rr) = N := ⟨_, rfl⟩
      obtain ⟨M, hM⟩ : ∃ M, nOff (outA l fl tm ++ p :: rr) = M := ⟨_, rfl⟩
      have hN12 : N ≤ 12 := by
        have h1 := nRid_le (outA l fl tm ++ p :: rr)
        have h2 := HR.out.1.len
        omega
      have hM12 : M ≤ 12 := by
        have h1 := nOff_le (outA l fl tm ++ p :: rr)
        have h2 := HR.out.1.len
        omega
      rw [hN, hM] at HR
      have HNM := hide (And.intro hN hM)
      clear hN hM
      cases hr : rid p
      · have K1 := hide (fun q => riding_v B r g g' n cc co cf k (some ⟨bc, 0, none⟩) (outA l fl tm) rr p fl h N M false ((wr.alloc (.cells #[.int .i64 p.f, .int .i64 p.t, .int .i64 p.c] 40)).drewN q) hn HLK.out hr ((HR.out.1.alloc _).drewN q))
        have HS := hide (show outA (l ++ [p]) fl tm ++ rr = outA l fl tm ++ p :: rr ∧ outC (l ++ [p]) fl = outC l fl by rw [outA_snoc, outP_no (by simp [hr]), outC_snoc, hr]; simp)
        clear hr
        go_wp2_with fail
        go_quiet ((go_at_call 53; (with_reducible exact Calls.quiet_of_same (K1.out _))))
        go_wp2_with fail
        go_roundw
        case rel => exact ⟨k + 1, l ++ [p], rr, by rw [HS.out.2], by go_num, by omega, hide ⟨by rw [HP.out.1]; simp, by simp [HP.out.2]⟩, hide (by rw [HS.out.1, HNM.out.1, HNM.out.2]; exact ⟨(HR.out.1.alloc _).drewN _, below_drewN (HR.out.2.alloc (by omega) _) _⟩)⟩
        case measure => simp [intOf]; omega
      · have K1 := hide (fun q => riding_v B r g g' n cc co cf k (some ⟨bc, 0, none⟩) (outA l fl tm) rr p fl h N M true ((wr.alloc (.cells #[.int .i64 p.f, .int .i64 p.t, .int .i64 p.c] 40)).drewN q) hn HLK.out hr ((HR.out.1.alloc _).drewN q))
        have Hr := hide hr
        clear hr
        by_cases hf : p.t = fl
        · have hf2 : (p.t == fl) = true := by simp [hf]
          have Hf := hide hf
          clear hf
          go_wp2_with fail
          go_quiet ((go_at_call 53; (with_reducible exact Calls.quiet_of_same (K1.out _))))
          obtain ⟨w5, hw5⟩ : ∃ w5, ((wr.alloc (.cells #[.int .i64 p.f, .int .i64 p.t, .int .i64 p.c] 40)).drewN nq) = w5 := ⟨_, rfl⟩
          have H5 := hide (show RH B w5 r g g' (some ⟨bc, 0, none⟩) n cc co cf (outA l fl tm ++ p :: rr) fl h N M ∧ Below B w w5 from by
            rw [← hw5]
            exact ⟨(HR.out.1.alloc _).drewN _, below_drewN (HR.out.2.alloc (by omega) _) _⟩)
          rw [hw5]
          clear hw5 HR c1 c2 f1 f2 d1 d2 d3 hrl hgl hgl' hbl
          obtain ⟨_, _, _, _, _, _, _, _, _, _, _, _, _, _⟩ := blk7 H5.out.1.blk
          obtain ⟨c1, c2, f1, f2, _, _, _, _, _⟩ := H5.out.1.at_ HLK.out
          have n1' : ¬ r = g := fun e => n1 e.symm
          have n2' : ¬ r = g' := fun e => n2 e.symm
          have HS := hide (show outA (l ++ [p]) fl tm ++ rr = outA l fl tm ++ { p with off := tm } :: rr ∧ outC (l ++ [p]) fl = true by rw [outA_snoc, outP_yes Hr.out Hf.out, outC_snoc, Hr.out]; simp [Hf.out])
          have hcnt : nRid (outA l fl tm ++ { p with off := tm } :: rr) + 1 = N ∧ nOff (outA l fl tm ++ { p with off := tm } :: rr) = M + 1 := by
            have e1 := HNM.out.1
            have e2 := HNM.out.2
            have e3 := Hr.out
            have e4 := (rid_iff.1 e3)
            have e5 : rid { p with off := tm } = false := by simp [rid]; omega
            rw [nRid_app, nRid_cons] at e1 ⊢
            rw [nOff_app, nOff_cons] at e2 ⊢
            simp only [e3, e5, if_true] at e1 ⊢
            have e6 : ¬ 0 ≤ p.off := by omega
            simp only [e6, if_false, h0, if_true] at e2 ⊢
            simp at e1 e2 ⊢
            omega
          obtain ⟨hc1, hc2⟩ := hcnt
          clear hf2
          go_wp2_with fail
          go_roundw
          case rel =>
            refine ⟨k + 1, l ++ [p], rr, by rw [HS.out.2], by go_num, by omega, hide ⟨by rw [HP.out.1]; simp, by simp [HP.out.2]⟩, hide ?_⟩
            rw [HS.out.1, show ((nRid (outA l fl tm ++ { p with off := tm } :: rr) : Nat) : Int) = (N : Int) - 1 by omega, show ((nOff (outA l fl tm ++ { p with off := tm } :: rr) : Nat) : Int) = (M : Int) + 1 by omega]
            refine ⟨RH.left (RH.inside (RH.setOff (q := { p with off := tm }) H5.out.1 HLK.out rfl rfl rfl) _) _, ?_⟩
            have z1 := H5.out.1.gB
            have z2 := H5.out.1.rB
            exact ((H5.out.2.setCell z1.2 _).setCell z2 _).setCell z2 _
          case measure => simp [intOf]; omega
        · have hf2 : (p.t == fl) = false := by simp [hf]
          have HS := hide (show outA (l ++ [p]) fl tm ++ rr = outA l fl tm ++ p :: rr ∧ outC (l ++ [p]) fl = outC l fl by rw [outA_snoc, outP_no (by simp [hf]), outC_snoc, hf2]; simp)
          go_wp2_with fail
          go_quiet ((go_at_call 53; (with_reducible exact Calls.quiet_of_same (K1.out _))))
          go_wp2_with fail
          go_roundw
          case rel => exact ⟨k + 1, l ++ [p], rr, by rw [HS.out.2], by go_num, by omega, hide ⟨by rw [HP.out.1]; simp, by simp [HP.out.2]⟩, hide (by rw [HS.out.1, HNM.out.1, HNM.out.2]; exact ⟨(HR.out.1.alloc _).drewN _, below_drewN (HR.out.2.alloc (by omega) _) _⟩)⟩
          case measure => simp [intOf]; omega
    · obtain rfl : k = n := by omega
      have hrr : rr = [] := by
        have h1 := HP.out.1
        have h2 := HP.out.2
        have h3 := Hlen.out
        rw [h1, List.length_append] at h3
        exact List.eq_nil_of_length_eq_zero (by omega)
      subst hrr
      have hps : l = ps := by have := HP.out.1; simpa using this.symm
      subst hps
      have HF := hide (by have := HR.out; rw [List.append_nil] at this; exact this)
      clear HR
      go_wp2_with fail
      go_ret
      exact ⟨rfl, HF.out.1, HF.out.2⟩

set_option maxHeartbeats 4000000 in
theorem letIn_any (B r g g' n cc co cf : Nat) (Ac : Option Addr) (ps : List Pn) (fl h lf tm : Int) (w : World) (hn : n ≤ 12) (h0 : 0 ≤ tm) (h1 : tm ≤ 1000)
    (H : RH B w r g g' Ac n cc co cf ps fl h (nRid ps : Nat) lf) :
    Calls Try.prog 37 #[.pointer (some ⟨r, 0, none⟩), .int .i64 tm] w fun e w' => e = .returned (.bool (inC ps fl tm)) ∧ RH B w' r g g' Ac n cc co cf (inA ps fl tm) fl h (nRid ps + ent fl tm (nRid ps) ps : Nat) lf ∧ Below B w w' := by
  have HB := hide H
  have hlen := H.len
  have Hlen := hide hlen
  have hBw : B ≤ w.heap.size := by have := H.rB; have := H.blk.lt; omega
  have HBW := hide hBw
  obtain ⟨_, _, _, _, _, _, _, _, _, _, _, _, _, _⟩ := blk7 H.blk
  clear H hlen hBw
  go_enter Try.func37, Try.ntmps37
  go_wp2_with fail
  go_loopw [5, 13] (fun ch vi wr => ∃ (k : Nat) (l rr : List Pn), ch = .bool (decide (0 < ent fl tm (nRid ps) l)) ∧ vi = .int .i64 k ∧ k ≤ n ∧ Hid (ps = l ++ rr ∧ l.length = k) ∧ Hid (RH B wr r g g' Ac n cc co cf (inGo fl tm (nRid ps) l ++ rr) fl h (nRid ps + ent fl tm (nRid ps) l : Nat) lf ∧ Below B w wr)) (fun _ vi _ => n - (intOf vi).toNat)
  case atStart => exact ⟨0, [], ps, rfl, rfl, Nat.zero_le _, hide ⟨rfl, rfl⟩, hide ⟨HB.out, Below.refl _ _⟩⟩
  case round =>
    obtain ⟨k, l, rr, rfl, rfl, hk, HP, HR⟩ := hrel
    by_cases hlt : k < n
    · obtain ⟨p, rr, rfl⟩ : ∃ p rr', rr = p :: rr' := by
        cases rr with
        | nil =>
          have h1 := HP.out.1
          have h2 := HP.out.2
          have h3 := Hlen.out
          rw [h1, List.append_nil] at h3
          omega
        | cons p rr => exact ⟨p, rr, rfl⟩
      have HLK := hide (show (inGo fl tm (nRid ps) l).length = k by rw [inGo_len]; exact HP.out.2)
      have hzr := HR.out.2.size
      have hBw := HBW.out
      obtain ⟨_, _, _, _, _, _, _, _, _, _, _, _, _, _⟩ := blk7 HR.out.1.blk
      obtain ⟨c1, c2, f1, f2, bc, hAc, d1, d2, d3⟩ := HR.out.1.at_ HLK.out
      subst hAc
      have hrl := HR.out.1.blk.lt
      have hgl := (HR.out.1.on_.lt g rfl).2
      have hgl' := (HR.out.1.off_.lt g' rfl).2
      have hbl := (HR.out.1.cal.lt bc rfl).2
      have n1 := HR.out.1.gr
      have n2 := HR.out.1.gr'
      have n3 := HR.out.1.ne
      obtain ⟨_, _, _, _, _, _, _, _⟩ := sz hrl
      obtain ⟨_, _, _, _, _, _, _, _⟩ := sz hgl
      obtain ⟨_, _, _, _, _, _, _, _⟩ := sz hgl'
      obtain ⟨_, _, _, _, _, _, _, _⟩ := sz hbl
      have hltz : (k : Int) < (n : Int) := by omega
      obtain ⟨N, hN⟩ : ∃ N, nRid ps + ent fl tm (nRid ps) l = N := ⟨_, rfl⟩
      have hN24 : N ≤ 24 := by
        have h1 := nRid_le ps
        have h2 := ent_le fl tm l (nRid ps)
        have h3 := Hlen.out
        have h4 := HP.out.2
        omega
      rw [hN] at HR
      have HN := hide hN
      clear hN
      by_cases hRm : decide (N < 4) = true
      · have hRn : (N : Int) < 4 := by simp at hRm; omega
        cases hw : wai tm p
        · have hE : entC fl tm N p = false := by simp [entC, hw]
          have K1 := hide (fun q => hasRoom_v B r g g' n cc co cf (some ⟨bc, 0, none⟩) (inGo fl tm (nRid ps) l ++ p :: rr) fl h lf N true ((wr.alloc (.cells #[.int .i64 p.f, .int .i64 p.t, .int .i64 p.c] 40)).drewN q) hRm ((HR.out.1.alloc _).drewN q))
          have K2 := hide (fun q => waiting_v B r g g' n cc co cf k (some ⟨bc, 0, none⟩) (inGo fl tm (nRid ps) l) rr p fl h N lf tm false ((wr.alloc (.cells #[.int .i64 p.f, .int .i64 p.t, .int .i64 p.c] 40)).drewN q) hn HLK.out hw ((HR.out.1.alloc _).drewN q))
          clear hw
          have HS := hide (show inGo fl tm (nRid ps) (l ++ [p]) ++ rr = inGo fl tm (nRid ps) l ++ p :: rr ∧ ent fl tm (nRid ps) (l ++ [p]) = ent fl tm (nRid ps) l by rw [inGo_snoc, ent_snoc, HN.out, hE]; simp)
          clear hE
          go_wp2_with fail
          go_quiet ((first | (go_at_call 54; (with_reducible exact Calls.quiet_of_same (K1.out _))) | (go_at_call 55; (with_reducible exact Calls.quiet_of_same (K2.out _)))))
          go_wp2_with fail
          go_roundw
          case rel => exact ⟨k + 1, l ++ [p], rr, by rw [HS.out.2], by go_num, by omega, hide ⟨by rw [HP.out.1]; simp, by simp [HP.out.2]⟩, hide (by rw [HS.out.1, HS.out.2, HN.out]; exact ⟨(HR.out.1.alloc _).drewN _, below_drewN (HR.out.2.alloc (by omega) _) _⟩)⟩
          case measure => simp [intOf]; omega
        · by_cases hf : p.f = fl
          · have hE : entC fl tm N p = true := by simp [entC, hw, hf]; omega
            have Hf := hide hf
            have hf2 : (p.f == fl) = true := by simp [hf]
            clear hf
            have K1 := hide (fun q => hasRoom_v B r g g' n cc co cf (some ⟨bc, 0, none⟩) (inGo fl tm (nRid ps) l ++ p :: rr) fl h lf N true ((wr.alloc (.cells #[.int .i64 p.f, .int .i64 p.t, .int .i64 p.c] 40)).drewN q) hRm ((HR.out.1.alloc _).drewN q))
            have K2 := hide (fun q => waiting_v B r g g' n cc co cf k (some ⟨bc, 0, none⟩) (inGo fl tm (nRid ps) l) rr p fl h N lf tm true ((wr.alloc (.cells #[.int .i64 p.f, .int .i64 p.t, .int .i64 p.c] 40)).drewN q) hn HLK.out hw ((HR.out.1.alloc _).drewN q))
            have HS := hide (show inGo fl tm (nRid ps) (l ++ [p]) ++ rr = inGo fl tm (nRid ps) l ++ { p with on := tm } :: rr ∧ ent fl tm (nRid ps) (l ++ [p]) = ent fl tm (nRid ps) l + 1 by rw [inGo_snoc, ent_snoc, HN.out, hE]; simp)
            clear hE hw
            go_wp2_with fail
            go_quiet ((first | (go_at_call 54; (with_reducible exact Calls.quiet_of_same (K1.out _))) | (go_at_call 55; (with_reducible exact Calls.quiet_of_same (K2.out _)))))
            obtain ⟨w5, hw5⟩ : ∃ w5, ((wr.alloc (.cells #[.int .i64 p.f, .int .i64 p.t, .int .i64 p.c] 40)).drewN nq) = w5 := ⟨_, rfl⟩
            have H5 := hide (show RH B w5 r g g' (some ⟨bc, 0, none⟩) n cc co cf (inGo fl tm (nRid ps) l ++ p :: rr) fl h N lf ∧ Below B w w5 from by
              rw [← hw5]
              exact ⟨(HR.out.1.alloc _).drewN _, below_drewN (HR.out.2.alloc (by omega) _) _⟩)
            rw [hw5]
            clear hw5 HR c1 c2 f1 f2 d1 d2 d3 hrl hgl hgl' hbl
            obtain ⟨_, _, _, _, _, _, _, _, _, _, _, _, _, _⟩ := blk7 H5.out.1.blk
            obtain ⟨c1, c2, f1, f2, _, _, _, _, _⟩ := H5.out.1.at_ HLK.out
            have n1' : ¬ r = g := fun e => n1 e.symm
            have n2' : ¬ r = g' := fun e => n2 e.symm
            clear hf2
            go_wp2_with fail
            go_roundw
            case rel =>
              refine ⟨k + 1, l ++ [p], rr, by rw [HS.out.2]; simp, by go_num, by omega, hide ⟨by rw [HP.out.1]; simp, by simp [HP.out.2]⟩, hide ?_⟩
              rw [HS.out.1, HS.out.2, show ((nRid ps + (ent fl tm (nRid ps) l + 1) : Nat) : Int) = (N : Int) + 1 by have := HN.out; omega]
              refine ⟨RH.inside (RH.setOn (q := { p with on := tm }) H5.out.1 HLK.out rfl rfl rfl) _, ?_⟩
              have z1 := H5.out.1.gB
              have z2 := H5.out.1.rB
              exact (H5.out.2.setCell z1.1 _).setCell z2 _
            case measure => simp [intOf]; omega
          · have hE : entC fl tm N p = false := by simp [entC, hw, hf]
            have hf2 : (p.f == fl) = false := by simp [hf]
            have K1 := hide (fun q => hasRoom_v B r g g' n cc co cf (some ⟨bc, 0, none⟩) (inGo fl tm (nRid ps) l ++ p :: rr) fl h lf N true ((wr.alloc (.cells #[.int .i64 p.f, .int .i64 p.t, .int .i64 p.c] 40)).drewN q) hRm ((HR.out.1.alloc _).drewN q))
            have K2 := hide (fun q => waiting_v B r g g' n cc co cf k (some ⟨bc, 0, none⟩) (inGo fl tm (nRid ps) l) rr p fl h N lf tm true ((wr.alloc (.cells #[.int .i64 p.f, .int .i64 p.t, .int .i64 p.c] 40)).drewN q) hn HLK.out hw ((HR.out.1.alloc _).drewN q))
            clear hw
            have HS := hide (show inGo fl tm (nRid ps) (l ++ [p]) ++ rr = inGo fl tm (nRid ps) l ++ p :: rr ∧ ent fl tm (nRid ps) (l ++ [p]) = ent fl tm (nRid ps) l by rw [inGo_snoc, ent_snoc, HN.out, hE]; simp)
            clear hE
            go_wp2_with fail
            go_quiet ((first | (go_at_call 54; (with_reducible exact Calls.quiet_of_same (K1.out _))) | (go_at_call 55; (with_reducible exact Calls.quiet_of_same (K2.out _)))))
            go_wp2_with fail
            go_roundw
            case rel => exact ⟨k + 1, l ++ [p], rr, by rw [HS.out.2], by go_num, by omega, hide ⟨by rw [HP.out.1]; simp, by simp [HP.out.2]⟩, hide (by rw [HS.out.1, HS.out.2, HN.out]; exact ⟨(HR.out.1.alloc _).drewN _, below_drewN (HR.out.2.alloc (by omega) _) _⟩)⟩
            case measure => simp [intOf]; omega
      · have hRm : decide (N < 4) = false := by simpa using hRm
        have hE : entC fl tm N p = false := by simp [entC, hRm]
        have K1 := hide (fun q => hasRoom_v B r g g' n cc co cf (some ⟨bc, 0, none⟩) (inGo fl tm (nRid ps) l ++ p :: rr) fl h lf N false ((wr.alloc (.cells #[.int .i64 p.f, .int .i64 p.t, .int .i64 p.c] 40)).drewN q) hRm ((HR.out.1.alloc _).drewN q))
        have HS := hide (show inGo fl tm (nRid ps) (l ++ [p]) ++ rr = inGo fl tm (nRid ps) l ++ p :: rr ∧ ent fl tm (nRid ps) (l ++ [p]) = ent fl tm (nRid ps) l by rw [inGo_snoc, ent_snoc, HN.out, hE]; simp)
        clear hE
        go_wp2_with fail
        go_quiet ((go_at_call 54; (with_reducible exact Calls.quiet_of_same (K1.out _))))
        go_wp2_with fail
        go_roundw
        case rel => exact ⟨k + 1, l ++ [p], rr, by rw [HS.out.2], by go_num, by omega, hide ⟨by rw [HP.out.1]; simp, by simp [HP.out.2]⟩, hide (by rw [HS.out.1, HS.out.2, HN.out]; exact ⟨(HR.out.1.alloc _).drewN _, below_drewN (HR.out.2.alloc (by omega) _) _⟩)⟩
        case measure => simp [intOf]; omega
    · obtain rfl : k = n := by omega
      have hrr : rr = [] := by
        have h1 := HP.out.1
        have h2 := HP.out.2
        have h3 := Hlen.out
        rw [h1, List.length_append] at h3
        exact List.eq_nil_of_length_eq_zero (by omega)
      subst hrr
      have hps : l = ps := by have := HP.out.1; simpa using this.symm
      subst hps
      have HF := hide (by have := HR.out; rw [List.append_nil] at this; exact this)
      clear HR
      go_wp2_with fail
      go_ret
      exact ⟨rfl, HF.out.1, HF.out.2⟩

set_option maxHeartbeats 4000000 in
theorem drive_any (B r g g' n cc co cf : Nat) (Ac : Option Addr) (ps : List Pn) (fl h lf tm : Int) (N : Nat) (w : World) (hn : n ≤ 12) (h0 : 0 ≤ tm) (h1 : tm ≤ 1000) (hN : nRid ps = N) (hh : h = 1 ∨ h = -1) (f0 : 0 ≤ fl) (f1 : fl ≤ 15) (hm : ∀ p ∈ ps, Mid tm fl p)
    (H : RH B w r g g' Ac n cc co cf ps fl h N lf) :
    Calls Try.prog 38 #[.pointer (some ⟨r, 0, none⟩), .int .i64 tm] w fun e w' => e = .returned (.tuple #[]) ∧ RH B w' r g g' Ac n cc co cf ps (driveR ps tm fl h).1 (driveR ps tm fl h).2 N lf ∧ Below B w w' := by
  have HB := hide H
  have hlen := H.len
  have Hlen := hide hlen
  have hBw : B ≤ w.heap.size := by have := H.rB; have := H.blk.lt; omega
  have HBW := hide hBw
  have HM := hide hm
  have hb : -1 ≤ h ∧ h ≤ 1 := by omega
  obtain ⟨hb0, hb1⟩ := hb
  have Hh := hide hh
  obtain ⟨room, hroom⟩ : ∃ room, roomOf ps = room := ⟨_, rfl⟩
  have hRoom : decide (N < 4) = room := by rw [← hroom, roomOf, hN]
  have HDR := hide (drive_parts ps tm fl h)
  rw [hroom] at HDR
  have hN12 : N ≤ 12 := by have := nRid_le ps; omega
  obtain ⟨_, _, _, _, _, _, _, _, _, _, _, _, _, _⟩ := blk7 H.blk
  clear H hlen hBw hm hh hroom hN
  go_enter Try.func38, Try.ntmps38
  go_wp2_with fail
  go_loopw [4, 5, 15] (fun va vb vi wr => ∃ (k : Nat) (l rr : List Pn) (a b : Bool), va = .bool a ∧ vb = .bool b ∧ vi = .int .i64 k ∧ k ≤ n ∧ Hid (ps = l ++ rr ∧ l.length = k) ∧ Hid (ahd l room tm fl h = a ∧ ahd l room tm fl (-h) = b) ∧ Hid (RH B wr r g g' Ac n cc co cf (l ++ rr) fl h N lf ∧ Below B w wr)) (fun _ _ vi _ => n - (intOf vi).toNat)
  case atStart => exact ⟨0, [], ps, false, false, rfl, rfl, rfl, Nat.zero_le _, hide ⟨rfl, rfl⟩, hide ⟨rfl, rfl⟩, hide ⟨HB.out, Below.refl _ _⟩⟩
  case round =>
    obtain ⟨k, l, rr, a, b, rfl, rfl, rfl, hk, HP, Ha, HR⟩ := hrel
    by_cases hlt : k < n
    · obtain ⟨p, rr, rfl⟩ : ∃ p rr', rr = p :: rr' := by
        cases rr with
        | nil =>
          have h1 := HP.out.1
          have h2 := HP.out.2
          have h3 := Hlen.out
          rw [h1, List.append_nil] at h3
          omega
        | cons p rr => exact ⟨p, rr, rfl⟩
      have HLK := hide HP.out.2
      have hmp := HM.out p (by rw [HP.out.1]; simp)
      have hmid := tgt_in hmp (room := true) (x := p.t)
      have q1 := hmp.f0
      have q2 := hmp.f1
      have q3 := hmp.t0
      have q4 := hmp.t1
      clear hmp hmid
      have hzr := HR.out.2.size
      have hBw := HBW.out
      obtain ⟨_, _, _, _, _, _, _, _, _, _, _, _, _, _⟩ := blk7 HR.out.1.blk
      obtain ⟨c1, c2, f1, f2, bc, hAc, d1, d2, d3⟩ := HR.out.1.at_ HLK.out
      subst hAc
      have hrl := HR.out.1.blk.lt
      have hgl := (HR.out.1.on_.lt g rfl).2
      have hgl' := (HR.out.1.off_.lt g' rfl).2
      have hbl := (HR.out.1.cal.lt bc rfl).2
      have n1 := HR.out.1.gr
      have n2 := HR.out.1.gr'
      have n3 := HR.out.1.ne
      obtain ⟨_, _, _, _, _, _, _, _⟩ := sz hrl
      obtain ⟨_, _, _, _, _, _, _, _⟩ := sz hgl
      obtain ⟨_, _, _, _, _, _, _, _⟩ := sz hgl'
      obtain ⟨_, _, _, _, _, _, _, _⟩ := sz hbl
      have hltz : (k : Int) < (n : Int) := by omega
      cases hr : rid p
      · by_cases hRm : decide (N < 4) = true
        · have hrm : room = true := by rw [← hRoom]; exact hRm
          cases hw : wai tm p
          · have HT := hide (show tgt room tm p = none by simp [tgt, hr, hw])
            have K1 := hide (fun w2 (h2 : RH B w2 r g g' (some ⟨bc, 0, none⟩) n cc co cf (l ++ p :: rr) fl h N lf) => riding_v B r g g' n cc co cf k (some ⟨bc, 0, none⟩) l rr p fl h N lf false w2 hn HP.out.2 hr h2)
            have K2 := hide (fun w2 (h2 : RH B w2 r g g' (some ⟨bc, 0, none⟩) n cc co cf (l ++ p :: rr) fl h N lf) => hasRoom_v B r g g' n cc co cf (some ⟨bc, 0, none⟩) (l ++ p :: rr) fl h lf N true w2 hRm h2)
            have K3 := hide (fun w2 (h2 : RH B w2 r g g' (some ⟨bc, 0, none⟩) n cc co cf (l ++ p :: rr) fl h N lf) => waiting_v B r g g' n cc co cf k (some ⟨bc, 0, none⟩) l rr p fl h N lf tm false w2 hn HP.out.2 hw h2)
            clear hr hw hRm hrm
            have HA := hide (show ahd (l ++ [p]) room tm fl h = a ∧ ahd (l ++ [p]) room tm fl (-h) = b from ⟨by rw [ahd_snoc, Ha.out.1, HT.out]; simp [ahT], by rw [ahd_snoc, Ha.out.2, HT.out]; simp [ahT]⟩)
            have hq1 : IntKind.i64.wrap (fl - fl) = 0 := by rw [Int.sub_self]; exact IntWalk.i64_in _ (by omega)
            have hq2 : IntKind.i64.wrap (0 * h) = 0 := by rw [Int.zero_mul]; exact IntWalk.i64_in _ (by omega)
            have hq3 : IntKind.i64.wrap 0 = 0 := IntWalk.i64_in _ (by omega)
            go_wp2_with (first | (go_at_call 53; refine (K1.out _ (by repeat (first | exact HR.out.1 | (with_reducible refine RH.alloc ?_ _) | (with_reducible refine RH.drew ?_) | (with_reducible refine RH.drewN ?_ _)))).mono ?_; rintro e w' ⟨rfl, rfl⟩) | (go_at_call 54; refine (K2.out _ (by repeat (first | exact HR.out.1 | (with_reducible refine RH.alloc ?_ _) | (with_reducible refine RH.drew ?_) | (with_reducible refine RH.drewN ?_ _)))).mono ?_; rintro e w' ⟨rfl, rfl⟩) | (go_at_call 55; refine (K3.out _ (by repeat (first | exact HR.out.1 | (with_reducible refine RH.alloc ?_ _) | (with_reducible refine RH.drew ?_) | (with_reducible refine RH.drewN ?_ _)))).mono ?_; rintro e w' ⟨rfl, rfl⟩))
            go_quiet (fail)
            rcases a with _ | _ <;> rcases b with _ | _
            all_goals
              go_wp2_with fail
              go_roundw
              case rel =>
                refine ⟨k + 1, l ++ [p], rr, _, _, rfl, rfl, by go_num, by omega, hide ⟨by rw [HP.out.1]; simp, by simp [HP.out.2]⟩, hide ?_, hide ?_⟩
                · exact ⟨HA.out.1.trans (by first | rfl | simp), HA.out.2.trans (by first | rfl | simp)⟩
                · exact ⟨by rw [List.append_assoc]; exact (by repeat (first | exact HR.out.1 | (with_reducible refine RH.alloc ?_ _) | (with_reducible refine RH.drew ?_) | (with_reducible refine RH.drewN ?_ _))), by repeat (first | exact HR.out.2 | (with_reducible refine Below.drew ?_) | (with_reducible refine below_drewN ?_ _) | ((with_reducible refine Below.alloc ?_ ?_ _); rotate_left; (focus (first | (simp; done) | (simp; omega) | omega))))⟩
              case measure => simp [intOf]; omega
          · have HT := hide (show tgt room tm p = some p.f by simp [tgt, hr, hw, hrm])
            have K1 := hide (fun w2 (h2 : RH B w2 r g g' (some ⟨bc, 0, none⟩) n cc co cf (l ++ p :: rr) fl h N lf) => riding_v B r g g' n cc co cf k (some ⟨bc, 0, none⟩) l rr p fl h N lf false w2 hn HP.out.2 hr h2)
            have K2 := hide (fun w2 (h2 : RH B w2 r g g' (some ⟨bc, 0, none⟩) n cc co cf (l ++ p :: rr) fl h N lf) => hasRoom_v B r g g' n cc co cf (some ⟨bc, 0, none⟩) (l ++ p :: rr) fl h lf N true w2 hRm h2)
            have K3 := hide (fun w2 (h2 : RH B w2 r g g' (some ⟨bc, 0, none⟩) n cc co cf (l ++ p :: rr) fl h N lf) => waiting_v B r g g' n cc co cf k (some ⟨bc, 0, none⟩) l rr p fl h N lf tm true w2 hn HP.out.2 hw h2)
            clear hr hw hRm hrm
            obtain ⟨W, hW⟩ : ∃ W, (p.f - fl) * h = W := ⟨_, rfl⟩
            have hq1 : IntKind.i64.wrap (p.f - fl) = p.f - fl := IntWalk.i64_in _ (by omega)
            have hW2 : -15 ≤ W ∧ W ≤ 15 := by have h1 := Hh.out; rcases h1 with rfl | rfl <;> omega
            have hq2 : IntKind.i64.wrap ((p.f - fl) * h) = W := by rw [hW]; exact IntWalk.i64_in _ (by omega)
            have HA := hide (show ahd (l ++ [p]) room tm fl h = (a || decide (0 < W)) ∧ ahd (l ++ [p]) room tm fl (-h) = (b || decide (W < 0)) from ⟨by rw [ahd_snoc, Ha.out.1, HT.out, ahT, hW], by rw [ahd_snoc, Ha.out.2, HT.out, ahT, Int.mul_neg, hW]; congr 1; simp⟩)
            obtain ⟨_, _⟩ := hW2
            clear hW
            go_wp2_with (first | (go_at_call 53; refine (K1.out _ (by repeat (first | exact HR.out.1 | (with_reducible refine RH.alloc ?_ _) | (with_reducible refine RH.drew ?_) | (with_reducible refine RH.drewN ?_ _)))).mono ?_; rintro e w' ⟨rfl, rfl⟩) | (go_at_call 54; refine (K2.out _ (by repeat (first | exact HR.out.1 | (with_reducible refine RH.alloc ?_ _) | (with_reducible refine RH.drew ?_) | (with_reducible refine RH.drewN ?_ _)))).mono ?_; rintro e w' ⟨rfl, rfl⟩) | (go_at_call 55; refine (K3.out _ (by repeat (first | exact HR.out.1 | (with_reducible refine RH.alloc ?_ _) | (with_reducible refine RH.drew ?_) | (with_reducible refine RH.drewN ?_ _)))).mono ?_; rintro e w' ⟨rfl, rfl⟩))
            go_quiet (fail)
            rcases a with _ | _ <;> rcases b with _ | _
            all_goals
              go_wp2_with fail
              go_roundw
              case rel =>
                refine ⟨k + 1, l ++ [p], rr, _, _, rfl, rfl, by go_num, by omega, hide ⟨by rw [HP.out.1]; simp, by simp [HP.out.2]⟩, hide ?_, hide ?_⟩
                · exact ⟨HA.out.1.trans (by first | rfl | simp), HA.out.2.trans (by first | rfl | simp)⟩
                · exact ⟨by rw [List.append_assoc]; exact (by repeat (first | exact HR.out.1 | (with_reducible refine RH.alloc ?_ _) | (with_reducible refine RH.drew ?_) | (with_reducible refine RH.drewN ?_ _))), by repeat (first | exact HR.out.2 | (with_reducible refine Below.drew ?_) | (with_reducible refine below_drewN ?_ _) | ((with_reducible refine Below.alloc ?_ ?_ _); rotate_left; (focus (first | (simp; done) | (simp; omega) | omega))))⟩
              case measure => simp [intOf]; omega
        · have hRm : decide (N < 4) = false := by simpa using hRm
          have HT := hide (show tgt room tm p = none by simp [tgt, hr, ← hRoom, hRm])
          have K1 := hide (fun w2 (h2 : RH B w2 r g g' (some ⟨bc, 0, none⟩) n cc co cf (l ++ p :: rr) fl h N lf) => riding_v B r g g' n cc co cf k (some ⟨bc, 0, none⟩) l rr p fl h N lf false w2 hn HP.out.2 hr h2)
          have K2 := hide (fun w2 (h2 : RH B w2 r g g' (some ⟨bc, 0, none⟩) n cc co cf (l ++ p :: rr) fl h N lf) => hasRoom_v B r g g' n cc co cf (some ⟨bc, 0, none⟩) (l ++ p :: rr) fl h lf N false w2 hRm h2)
          clear hr hRm
          have HA := hide (show ahd (l ++ [p]) room tm fl h = a ∧ ahd (l ++ [p]) room tm fl (-h) = b from ⟨by rw [ahd_snoc, Ha.out.1, HT.out]; simp [ahT], by rw [ahd_snoc, Ha.out.2, HT.out]; simp [ahT]⟩)
          have hq1 : IntKind.i64.wrap (fl - fl) = 0 := by rw [Int.sub_self]; exact IntWalk.i64_in _ (by omega)
          have hq2 : IntKind.i64.wrap (0 * h) = 0 := by rw [Int.zero_mul]; exact IntWalk.i64_in _ (by omega)
          have hq3 : IntKind.i64.wrap 0 = 0 := IntWalk.i64_in _ (by omega)
          go_wp2_with (first | (go_at_call 53; refine (K1.out _ (by repeat (first | exact HR.out.1 | (with_reducible refine RH.alloc ?_ _) | (with_reducible refine RH.drew ?_) | (with_reducible refine RH.drewN ?_ _)))).mono ?_; rintro e w' ⟨rfl, rfl⟩) | (go_at_call 54; refine (K2.out _ (by repeat (first | exact HR.out.1 | (with_reducible refine RH.alloc ?_ _) | (with_reducible refine RH.drew ?_) | (with_reducible refine RH.drewN ?_ _)))).mono ?_; rintro e w' ⟨rfl, rfl⟩))
          go_quiet (fail)
          rcases a with _ | _ <;> rcases b with _ | _
          all_goals
            go_wp2_with fail
            go_roundw
            case rel =>
              refine ⟨k + 1, l ++ [p], rr, _, _, rfl, rfl, by go_num, by omega, hide ⟨by rw [HP.out.1]; simp, by simp [HP.out.2]⟩, hide ?_, hide ?_⟩
              · exact ⟨HA.out.1.trans (by first | rfl | simp), HA.out.2.trans (by first | rfl | simp)⟩
              · exact ⟨by rw [List.append_assoc]; exact (by repeat (first | exact HR.out.1 | (with_reducible refine RH.alloc ?_ _) | (with_reducible refine RH.drew ?_) | (with_reducible refine RH.drewN ?_ _))), by repeat (first | exact HR.out.2 | (with_reducible refine Below.drew ?_) | (with_reducible refine below_drewN ?_ _) | ((with_reducible refine Below.alloc ?_ ?_ _); rotate_left; (focus (first | (simp; done) | (simp; omega) | omega))))⟩
            case measure => simp [intOf]; omega
      · have HT := hide (show tgt room tm p = some p.t by simp [tgt, hr])
        have K1 := hide (fun w2 (h2 : RH B w2 r g g' (some ⟨bc, 0, none⟩) n cc co cf (l ++ p :: rr) fl h N lf) => riding_v B r g g' n cc co cf k (some ⟨bc, 0, none⟩) l rr p fl h N lf true w2 hn HP.out.2 hr h2)
        clear hr
        obtain ⟨W, hW⟩ : ∃ W, (p.t - fl) * h = W := ⟨_, rfl⟩
        have hq1 : IntKind.i64.wrap (p.t - fl) = p.t - fl := IntWalk.i64_in _ (by omega)
        have hW2 : -15 ≤ W ∧ W ≤ 15 := by have h1 := Hh.out; rcases h1 with rfl | rfl <;> omega
        have hq2 : IntKind.i64.wrap ((p.t - fl) * h) = W := by rw [hW]; exact IntWalk.i64_in _ (by omega)
        have HA := hide (show ahd (l ++ [p]) room tm fl h = (a || decide (0 < W)) ∧ ahd (l ++ [p]) room tm fl (-h) = (b || decide (W < 0)) from ⟨by rw [ahd_snoc, Ha.out.1, HT.out, ahT, hW], by rw [ahd_snoc, Ha.out.2, HT.out, ahT, Int.mul_neg, hW]; congr 1; simp⟩)
        obtain ⟨_, _⟩ := hW2
        clear hW
        go_wp2_with (go_at_call 53; refine (K1.out _ (by repeat (first | exact HR.out.1 | (with_reducible refine RH.alloc ?_ _) | (with_reducible refine RH.drew ?_) | (with_reducible refine RH.drewN ?_ _)))).mono ?_; rintro e w' ⟨rfl, rfl⟩)
        go_quiet (fail)
        rcases a with _ | _ <;> rcases b with _ | _
        all_goals
          go_wp2_with fail
          go_roundw
          case rel =>
            refine ⟨k + 1, l ++ [p], rr, _, _, rfl, rfl, by go_num, by omega, hide ⟨by rw [HP.out.1]; simp, by simp [HP.out.2]⟩, hide ?_, hide ?_⟩
            · exact ⟨HA.out.1.trans (by first | rfl | simp), HA.out.2.trans (by first | rfl | simp)⟩
            · exact ⟨by rw [List.append_assoc]; exact (by repeat (first | exact HR.out.1 | (with_reducible refine RH.alloc ?_ _) | (with_reducible refine RH.drew ?_) | (with_reducible refine RH.drewN ?_ _))), by repeat (first | exact HR.out.2 | (with_reducible refine Below.drew ?_) | (with_reducible refine below_drewN ?_ _) | ((with_reducible refine Below.alloc ?_ ?_ _); rotate_left; (focus (first | (simp; done) | (simp; omega) | omega))))⟩
          case measure => simp [intOf]; omega
    · obtain rfl : k = n := by omega
      have hrr : rr = [] := by
        have h1 := HP.out.1
        have h2 := HP.out.2
        have h3 := Hlen.out
        rw [h1, List.length_append] at h3
        exact List.eq_nil_of_length_eq_zero (by omega)
      subst hrr
      have hps : l = ps := by have := HP.out.1; simpa using this.symm
      subst hps
      have HF := hide (by have := HR.out; rw [List.append_nil] at this; exact this)
      clear HR
      have hrB := HF.out.1.rB
      obtain ⟨_, _, _, _, _, _, _, _, _, _, _, _, _, _⟩ := blk7 HF.out.1.blk
      have hdr := HDR.out
      rw [Ha.out.1, Ha.out.2] at hdr
      have hq1 : IntKind.i64.wrap (-h) = -h := IntWalk.i64_in _ (by omega)
      have hq2 : IntKind.i64.wrap (fl + h) = fl + h := IntWalk.i64_in _ (by omega)
      have hq3 : IntKind.i64.wrap (fl + -h) = fl + -h := IntWalk.i64_in _ (by omega)
      cases a
      · cases b
        · have hdr2 := hide (show driveR l tm fl h = (fl, h) by rw [hdr]; rfl)
          clear hdr
          go_wp2_with fail
          go_end0
          rw [hdr2.out]
          exact ⟨rfl, HF.out.1, HF.out.2⟩
        · have hdr2 := hide (show driveR l tm fl h = (fl + -h, -h) by rw [hdr]; rfl)
          clear hdr
          go_wp2_with fail
          go_region
          all_goals
            go_wp2_with fail
            go_end0
            rw [hdr2.out]
            exact ⟨rfl, by dsimp only; first | exact (RH.floor (RH.heading HF.out.1 _) _).drew | exact (RH.floor (RH.heading HF.out.1 _) _).drewN _, by repeat (first | exact HF.out.2 | (with_reducible refine Below.drew ?_) | (with_reducible refine below_drewN ?_ _) | (with_reducible refine Below.setCell ?_ hrB _))⟩
      · have hdr2 := hide (show driveR l tm fl h = (fl + h, h) by rw [hdr]; rfl)
        clear hdr
        cases b
        all_goals
          go_wp2_with fail
          go_region
          all_goals
            go_wp2_with fail
            go_end0
            rw [hdr2.out]
            exact ⟨rfl, by dsimp only; first | exact (RH.floor HF.out.1 _).drew | exact (RH.floor HF.out.1 _).drewN _, by repeat (first | exact HF.out.2 | (with_reducible refine Below.drew ?_) | (with_reducible refine below_drewN ?_ _) | (with_reducible refine Below.setCell ?_ hrB _))⟩
end Go.Proofs.Ythgbbfcpnmpjgaa
