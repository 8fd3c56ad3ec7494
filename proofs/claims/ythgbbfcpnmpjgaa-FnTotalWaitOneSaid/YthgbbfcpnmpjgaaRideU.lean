/-
  The sum of the waits; the specification's ride.
-/
import Derived.Test.YthgbbfcpnmpjgaaRideT
import Derived.Test.YthgbbfcpnmpjgaaRideS
namespace Go.Proofs.Ythgbbfcpnmpjgaa
open Go.RowKit
set_option linter.unusedSimpArgs false
set_option linter.unusedVariables false

theorem SH.blocks {B : Nat} {w : World} {g g' : Nat} {Ac : Option Addr} {n cc co cf : Nat} {ps : List Pn} (H : SH B w g g' Ac n cc co cf ps) : g < w.heap.size ∧ g' < w.heap.size ∧ ∀ b, Ac = some ⟨b, 0, none⟩ → b < w.heap.size ∧ ¬ b = g ∧ ¬ b = g' := by
  refine ⟨(H.on_.lt g rfl).2, (H.off_.lt g' rfl).2, ?_⟩
  rintro b rfl
  refine ⟨(H.cal.lt b rfl).2, ?_, ?_⟩
  · intro e
    exact own_ne_own H.cal H.on_ (by decide) (by rw [e]; rfl)
  · intro e
    exact own_ne_own H.cal H.off_ (by decide) (by rw [e]; rfl)

set_option maxRecDepth 20000 in
set_option maxHeartbeats 8000000 in
theorem ride_any (B n cc : Nat) (Ac : Option Addr) (cs : List CallQ) (start : Int) (w : World) (hn : n ≤ 12) (hB : B ≤ w.heap.size) (hv : ∀ c ∈ cs, vCall c = true) (s0 : 0 ≤ start) (s1 : start ≤ 15) (ho : w.ownsRow B 40 3 (.slice Ac n cc) n (cellsC cs)) :
    Calls Try.prog 30 #[.slice Ac n cc, .int .i64 start] w (fun e w' => ∃ g g', e = .returned (.tuple #[.slice (some ⟨g, 0, none⟩) n n, .slice (some ⟨g', 0, none⟩) n n]) ∧ SH B w' g g' Ac n cc n n (rideR cs start) ∧ Below B w w' ∧ w.heap.size ≤ g ∧ w.heap.size ≤ g' ∧ Below w.heap.size w w') := by
  obtain ⟨i0, hi0, iz0, iz1, iz2⟩ := info_parts int_info
  have hlc : cs.length = n := RdC.len (Rd.of_own ho)
  have Hlc := hide hlc
  have HO := hide ho
  have HBB := hide hB
  have HI0 := hide (start_inv hv s0 s1)
  have hrep : (madeCells (Value.cells (.int .i64 0)) (n * 1)).toList = List.replicate n (.int .i64 0) := by rw [Nat.mul_one]; exact toList_madeCells_one _ _
  have Hrep := hide hrep
  clear ho hlc hrep hv
  go_enter Try.func30, Try.ntmps30
  go_wp2_with (first
    | (at_make
       refine wpList_make_full _ rfl _ _ 29 rfl w.heap.size 3 i0 (.int .i64 0) 1 Try.underlying29 hi0 iz0 iz1 _ _ _ _ n rfl rfl rfl rfl (by rw [iz2]; omega) (by unfold maxLen; omega) (by have := H1.out.2.2; omega) ?_
       intro w2 hown2 hgrow2
       generalize hg2 : w1.heap.size = g2 at hown2 ⊢
       have H2 := hide (show SH B w2 w.heap.size g2 Ac n cc n n (cs.map zeroP) ∧ Below w.heap.size w w2 ∧ w.heap.size < g2 from by
         have hb2 := H1.out.2.1.grown hgrow2 (by have := H1.out.2.2; omega) (by intro j hj; cases hj)
         refine ⟨⟨?_, ?_, ?_, ?_⟩, hb2, ?_⟩
         · rw [on_zero, Hlc.out, List.map_replicate]
           exact own_base (H1.out.1.kept hgrow2 (by simp [Value.ownBlock])) HBB.out
         · rw [off_zero, Hlc.out, List.map_replicate, ← Hrep.out]
           exact own_base hown2 HBB.out
         · rw [callOf_zero]
           exact own_below HO.out hb2 (Nat.le_refl _)
         · intro e; have h1 := H1.out.2.2; rw [hg2] at h1; omega
         · rw [← hg2]; exact H1.out.2.2)
       clear hown2 hgrow2 H1 hg2)
    | (at_make
       refine wpList_make_full _ rfl _ _ 29 rfl w.heap.size 3 i0 (.int .i64 0) 1 Try.underlying29 hi0 iz0 iz1 _ _ _ _ n rfl rfl rfl rfl (by rw [iz2]; omega) (by unfold maxLen; omega) (Nat.le_refl _) ?_
       intro w1 hown1 hgrow1
       have H1 := hide (show w1.ownsRow w.heap.size 3 1 (.slice (some ⟨w.heap.size, 0, none⟩) n n) n (List.replicate n (.int .i64 0)) ∧ Below w.heap.size w w1 ∧ w.heap.size < w1.heap.size from by
         rw [Hrep.out] at hown1
         exact ⟨hown1, below_of_only hgrow1 (Nat.le_refl _) (by intro k hk; cases hk), (hown1.lt _ rfl).2⟩)
       clear hown1 hgrow1))
  have hne2 : g2 ≠ w.heap.size := by have := H2.out.2.2; omega
  have hgB : w.heap.size ≤ g2 := by have := H2.out.2.2; omega
  go_loopw [8] (fun vi wr => ∃ (k : Nat) (l rr : List CallQ), vi = .int .i64 k ∧ k ≤ n ∧ Hid (cs = l ++ rr ∧ l.length = k) ∧ Hid (SH B wr w.heap.size g2 Ac n cc n n (l.map newP ++ rr.map zeroP) ∧ Below w.heap.size w wr)) (fun vi _ => n - (intOf vi).toNat)
  case atStart => exact ⟨0, [], cs, rfl, Nat.zero_le _, hide ⟨rfl, rfl⟩, hide ⟨H2.out.1, H2.out.2.1⟩⟩
  case round =>
    obtain ⟨k, l, rr, rfl, hk, HP, HR⟩ := hrel
    clear H2
    by_cases hlt : k < n
    · obtain ⟨c, rr, rfl⟩ : ∃ c rr', rr = c :: rr' := by
        cases rr with
        | nil =>
          have h1 := HP.out.1
          have h2 := HP.out.2
          have h3 := Hlc.out
          rw [h1, List.append_nil] at h3
          omega
        | cons c rr => exact ⟨c, rr, rfl⟩
      have HLK := hide (show (l.map newP).length = k by rw [List.length_map]; exact HP.out.2)
      have HZ := hide (show SH B wr w.heap.size g2 Ac n cc n n (l.map newP ++ zeroP c :: rr.map zeroP) from HR.out.1)
      obtain ⟨c1, c2, f1, f2, bc, hAc, _, _, _⟩ := HZ.out.at_ HLK.out
      clear hAc
      have hltz : (k : Int) < (n : Int) := by omega
      have n1 : ¬ g2 = w.heap.size := hne2
      have n2 : ¬ w.heap.size = g2 := fun e => hne2 e.symm
      have HS1 := hide (show SH B ((wr.setCell ⟨w.heap.size, k, none⟩ (.int .i64 (-1))).setCell ⟨g2, k, none⟩ (.int .i64 (-1))) w.heap.size g2 Ac n cc n n ((l ++ [c]).map newP ++ rr.map zeroP) from by
        rw [List.map_append, List.append_assoc]
        exact SH.setOff (p := halfP c) (q := newP c) (SH.setOn (q := halfP c) HZ.out HLK.out rfl rfl rfl) HLK.out rfl rfl rfl)
      go_wp2_with fail
      go_roundw
      case rel => exact ⟨k + 1, l ++ [c], rr, by go_num, by omega, hide ⟨by rw [HP.out.1]; simp, by simp [HP.out.2]⟩, hide ⟨HS1.out, (HR.out.2.setCell (p := ⟨w.heap.size, k, none⟩) (Nat.le_refl _) _).setCell (p := ⟨g2, k, none⟩) hgB _⟩⟩
      case measure => simp [intOf]; omega
    · obtain rfl : k = n := by omega
      have hrr : rr = [] := by
        have h1 := HP.out.1
        have h2 := HP.out.2
        have h3 := Hlc.out
        rw [h1, List.length_append] at h3
        exact List.eq_nil_of_length_eq_zero (by omega)
      subst hrr
      have hps : l = cs := by have := HP.out.1; simpa using this.symm
      subst hps
      have HR3 := hide (by have := HR.out; rw [List.map_nil, List.append_nil] at this; exact this)
      clear HR HP hlt hk
      go_wp2_with fail
      go_loopw [9, 10, 11] (fun vf vh vt wr => ∃ (tm : Nat) (s : RS), vf = .int .i64 s.fl ∧ vh = .int .i64 s.h ∧ vt = .int .i64 tm ∧ tm ≤ 901 ∧ Hid (SH B wr w.heap.size g2 Ac k cc k k s.ps ∧ Below w.heap.size w wr) ∧ Hid (Inv tm s) ∧ Hid (runR (901 - tm) s (tm : Int) = runR 901 ⟨start, 1, l.map newP⟩ 0)) (fun _ _ vt _ => 901 - (intOf vt).toNat)
      case atStart => exact ⟨0, ⟨start, 1, l.map newP⟩, rfl, rfl, rfl, by omega, HR3, HI0, rfl⟩
      case round =>
        clear HR3
        obtain ⟨tm, s, rfl, rfl, rfl, htm, HR, HI, HRUN⟩ := hrel
        have hlen := HR.out.1.len
        have Hlen := hide hlen
        have hzr := HR.out.2.size
        have hdn := contains_off HI.out.ok
        have Hdn := hide hdn
        clear hlen hdn
        by_cases hgo : tm ≤ 900
        · have hz1' : (tm : Int) ≤ 900 := by omega
          cases hd : doneR s.ps
          · have HNEXT := hide (run_left HRUN.out hgo hd)
            have HIN := hide (HI.out.step (by omega))
            have KW := hide (waitingS_any (some ⟨g2, 0, none⟩) k k _ true wr (by omega) (by rw [Hdn.out, hd]; rfl) (Rd.of_own HR.out.1.off_))
            obtain ⟨b1, hb1⟩ : ∃ b1, outC s.ps s.fl = b1 := ⟨_, rfl⟩
            obtain ⟨b2, hb2⟩ : ∃ b2, inC (outA s.ps s.fl tm) s.fl tm = b2 := ⟨_, rfl⟩
            have HB1 := hide hb1
            have HB2 := hide hb2
            clear hb1 hb2 hd
            go_wp2_with fail
            refine KW.out.mono ?_
            rintro e w' ⟨rfl, rfl⟩
            go_wp2_with fail
            go_loopw [12, 13] (fun ch vi w3 => ∃ (i : Nat) (l1 rr : List Pn), ch = .bool (outC l1 s.fl) ∧ vi = .int .i64 i ∧ i ≤ k ∧ Hid (s.ps = l1 ++ rr ∧ l1.length = i) ∧ Hid (SH B w3 w.heap.size g2 Ac k cc k k (outA l1 s.fl tm ++ rr) ∧ Below w.heap.size w w3)) (fun _ vi _ => k - (intOf vi).toNat)
            case atStart => exact ⟨0, [], s.ps, rfl, rfl, Nat.zero_le _, hide ⟨rfl, rfl⟩, HR⟩
            case round =>
              obtain ⟨i, l1, rr, rfl, rfl, hi, HP, HR1⟩ := hrel
              by_cases hlt : i < k
              · obtain ⟨p, rr, rfl⟩ := next_pn HP.out.1 HP.out.2 Hlen.out hlt
                have HLK := hide (show (outA l1 s.fl tm).length = i by rw [len_out]; exact HP.out.2)
                obtain ⟨c1, c2, f1, f2, bc, hAc, d1, d2, d3⟩ := HR1.out.1.at_ HLK.out
                subst hAc
                have hltz : (i : Int) < (k : Int) := by omega
                cases hr : rid p
                · have HS := hide (show outA (l1 ++ [p]) s.fl tm ++ rr = outA l1 s.fl tm ++ p :: rr ∧ outC (l1 ++ [p]) s.fl = outC l1 s.fl by rw [outA_snoc, outP_no (by simp [hr]), outC_snoc, hr]; simp)
                  by_cases hon : 0 ≤ p.on
                  · have ho1 : ¬ p.off < 0 := by intro h2; rw [rid_iff.2 ⟨hon, h2⟩] at hr; cases hr
                    have ho2 : decide (p.off < 0) = false := by simp; omega
                    have ho3 : decide (0 ≤ p.on) = true := by simp; omega
                    clear hr
                    go_wp2_with fail
                    go_roundw
                    case rel => exact ⟨i + 1, l1 ++ [p], rr, by rw [HS.out.2], by go_num, by omega, hide ⟨by rw [HP.out.1]; simp, by simp [HP.out.2]⟩, hide (by rw [HS.out.1]; exact HR1.out)⟩
                    case measure => simp [intOf]; omega
                  · have ho3 : decide (0 ≤ p.on) = false := by simp; omega
                    clear hr
                    go_wp2_with fail
                    go_roundw
                    case rel => exact ⟨i + 1, l1 ++ [p], rr, by rw [HS.out.2], by go_num, by omega, hide ⟨by rw [HP.out.1]; simp, by simp [HP.out.2]⟩, hide (by rw [HS.out.1]; exact HR1.out)⟩
                    case measure => simp [intOf]; omega
                · have Hr := hide hr
                  have ho := rid_iff.1 hr
                  obtain ⟨ho1, ho2⟩ := ho
                  have ho3 : decide (p.off < 0) = true := by simp; omega
                  have ho4 : decide (0 ≤ p.on) = true := by simp; omega
                  clear hr
                  by_cases hf : p.t = s.fl
                  · have hf2 : (p.t == s.fl) = true := by simp [hf]
                    have Hf := hide hf
                    have HS := hide (show outA (l1 ++ [p]) s.fl tm ++ rr = outA l1 s.fl tm ++ { p with off := (tm : Int) } :: rr ∧ outC (l1 ++ [p]) s.fl = true by rw [outA_snoc, outP_yes Hr.out Hf.out, outC_snoc, Hr.out]; simp [Hf.out])
                    clear hf
                    go_wp2_with fail
                    go_roundw
                    case rel => exact ⟨i + 1, l1 ++ [p], rr, by rw [HS.out.2], by go_num, by omega, hide ⟨by rw [HP.out.1]; simp, by simp [HP.out.2]⟩, hide (by rw [HS.out.1]; exact ⟨SH.setOff (q := { p with off := (tm : Int) }) HR1.out.1 HLK.out rfl rfl rfl, HR1.out.2.setCell (p := ⟨g2, i, none⟩) hgB _⟩)⟩
                    case measure => simp [intOf]; omega
                  · have hf2 : (p.t == s.fl) = false := by simp [hf]
                    have HS := hide (show outA (l1 ++ [p]) s.fl tm ++ rr = outA l1 s.fl tm ++ p :: rr ∧ outC (l1 ++ [p]) s.fl = outC l1 s.fl by rw [outA_snoc, outP_no (by simp [hf]), outC_snoc, hf2]; simp)
                    clear hf
                    go_wp2_with fail
                    go_roundw
                    case rel => exact ⟨i + 1, l1 ++ [p], rr, by rw [HS.out.2], by go_num, by omega, hide ⟨by rw [HP.out.1]; simp, by simp [HP.out.2]⟩, hide (by rw [HS.out.1]; exact HR1.out)⟩
                    case measure => simp [intOf]; omega
              · obtain ⟨hrr, hll⟩ := no_next HP.out.1 HP.out.2 Hlen.out hlt
                subst hrr
                rw [hll, HB1.out]
                have HR2 := hide (show SH B wr w.heap.size g2 Ac k cc k k (outA s.ps s.fl tm) ∧ Below w.heap.size w wr from by have := HR1.out; rw [hll, List.append_nil] at this; exact this)
                clear HR1 HP hll
                have hik : k = i := by omega
                subst hik
                have hlo := hide (show (outA s.ps s.fl tm).length = k by rw [len_out]; exact Hlen.out)
                have HOFF := hide (show ∀ p ∈ outA s.ps s.fl tm, p.on < 0 → p.off < 0 from fun p hp hon => by
                  have hm := outA_mid HI.out (by omega) p hp
                  have h1 := hm.on_
                  have h2 := hm.off_
                  omega)
                obtain ⟨ps1, hps1⟩ : ∃ ps1, outA s.ps s.fl tm = ps1 := ⟨_, rfl⟩
                have HPS1 := hide hps1
                rw [hps1] at HR2 hlo HOFF HB2
                clear hps1
                go_wp2_with fail
                go_loopw [12, 14] (fun ch vi w4 => ∃ (i : Nat) (l1 rr : List Pn), ch = .bool (b1 || decide (0 < ent s.fl tm (nRid ps1) l1)) ∧ vi = .int .i64 i ∧ i ≤ k ∧ Hid (ps1 = l1 ++ rr ∧ l1.length = i) ∧ Hid (SH B w4 w.heap.size g2 Ac k cc k k (inGo s.fl tm (nRid ps1) l1 ++ rr) ∧ Below w.heap.size w w4)) (fun _ vi _ => k - (intOf vi).toNat)
                case atStart => exact ⟨0, [], ps1, by simp [ent], rfl, Nat.zero_le _, hide ⟨rfl, rfl⟩, HR2⟩
                case round =>
                  clear HR2
                  obtain ⟨i, l1, rr, rfl, rfl, hi, HP, HR1⟩ := hrel
                  by_cases hlt : i < k
                  · obtain ⟨p, rr, rfl⟩ := next_pn HP.out.1 HP.out.2 hlo.out hlt
                    have HLK := hide (show (inGo s.fl tm (nRid ps1) l1).length = i by rw [inGo_len]; exact HP.out.2)
                    obtain ⟨c1, c2, f1, f2, bc, hAc, d1, d2, d3⟩ := HR1.out.1.at_ HLK.out
                    subst hAc
                    have hltz : (i : Int) < (k : Int) := by omega
                    obtain ⟨N, hN⟩ : ∃ N, nRid ps1 + ent s.fl tm (nRid ps1) l1 = N := ⟨_, rfl⟩
                    have HN := hide hN
                    have KI := hide (inside_any B w.heap.size g2 k cc k k N (some ⟨bc, 0, none⟩) (inGo s.fl tm (nRid ps1) l1 ++ p :: rr) wr hn (by
                      rw [nRid_app, nRid_in s.fl tm (by omega) l1 _ (fun q hq => HOFF.out q (by rw [HP.out.1]; exact List.mem_append_left _ hq)), ← hN]
                      have : nRid ps1 = nRid l1 + nRid (p :: rr) := by rw [← nRid_app, ← HP.out.1]
                      omega) HR1.out.1)
                    clear hN
                    have NOSAME := hide (fun (hE : entC s.fl tm N p = false) => (show inGo s.fl tm (nRid ps1) (l1 ++ [p]) ++ rr = inGo s.fl tm (nRid ps1) l1 ++ p :: rr ∧ ent s.fl tm (nRid ps1) (l1 ++ [p]) = ent s.fl tm (nRid ps1) l1 from by rw [inGo_snoc, ent_snoc, HN.out, hE]; simp))
                    by_cases hon : p.on < 0
                    · have ho3 : decide (p.on < 0) = true := by simp; omega
                      by_cases hc : p.c ≤ tm
                      · have hw : wai tm p = true := wai_iff.2 ⟨hon, hc⟩
                        have hc3 : decide (p.c ≤ (tm : Int)) = true := by simp; omega
                        by_cases hf : p.f = s.fl
                        · have hf2 : (p.f == s.fl) = true := by simp [hf]
                          by_cases hRm : N < 4
                          · have hE : entC s.fl tm N p = true := by simp [entC, hw, hf, hRm]
                            have HS := hide (show inGo s.fl tm (nRid ps1) (l1 ++ [p]) ++ rr = inGo s.fl tm (nRid ps1) l1 ++ { p with on := (tm : Int) } :: rr ∧ ent s.fl tm (nRid ps1) (l1 ++ [p]) = ent s.fl tm (nRid ps1) l1 + 1 by rw [inGo_snoc, ent_snoc, HN.out, hE]; simp)
                            have hRz : (N : Int) < 4 := by omega
                            have hRz2 : decide ((N : Int) < 4) = true := by simp; omega
                            clear hE hw hf
                            go_wp2_with (go_at_call 48; refine KI.out.mono ?_; rintro e w' ⟨rfl, hw'⟩; have hw2 := hw'.symm; clear hw'; subst hw2)
                            go_roundw
                            case rel => exact ⟨i + 1, l1 ++ [p], rr, by rw [HS.out.2]; simp, by go_num, by omega, hide ⟨by rw [HP.out.1]; simp, by simp [HP.out.2]⟩, hide (by rw [HS.out.1]; exact ⟨SH.setOn (q := { p with on := (tm : Int) }) HR1.out.1 HLK.out rfl rfl rfl, HR1.out.2.setCell (p := ⟨w.heap.size, i, none⟩) (Nat.le_refl _) _⟩)⟩
                            case measure => simp [intOf]; omega
                          · have hRz : ¬ (N : Int) < 4 := by omega
                            have hRz2 : decide ((N : Int) < 4) = false := by simp; omega
                            have HS := NOSAME.out (by simp [entC, hRm])
                            clear hw hf
                            go_wp2_with (go_at_call 48; refine KI.out.mono ?_; rintro e w' ⟨rfl, hw'⟩; have hw2 := hw'.symm; clear hw'; subst hw2)
                            go_roundw
                            case rel => exact ⟨i + 1, l1 ++ [p], rr, by rw [HS.2], by go_num, by omega, hide ⟨by rw [HP.out.1]; simp, by simp [HP.out.2]⟩, hide (by rw [HS.1]; exact HR1.out)⟩
                            case measure => simp [intOf]; omega
                        · have hf2 : (p.f == s.fl) = false := by simp [hf]
                          have HS := NOSAME.out (by simp [entC, hf])
                          clear hw hf
                          go_wp2_with fail
                          go_roundw
                          case rel => exact ⟨i + 1, l1 ++ [p], rr, by rw [HS.2], by go_num, by omega, hide ⟨by rw [HP.out.1]; simp, by simp [HP.out.2]⟩, hide (by rw [HS.1]; exact HR1.out)⟩
                          case measure => simp [intOf]; omega
                      · have hc3 : decide (p.c ≤ (tm : Int)) = false := by simp; omega
                        have HS := NOSAME.out (by simp [entC, wai, hc])
                        go_wp2_with fail
                        go_roundw
                        case rel => exact ⟨i + 1, l1 ++ [p], rr, by rw [HS.2], by go_num, by omega, hide ⟨by rw [HP.out.1]; simp, by simp [HP.out.2]⟩, hide (by rw [HS.1]; exact HR1.out)⟩
                        case measure => simp [intOf]; omega
                    · have ho3 : decide (p.on < 0) = false := by simp; omega
                      have HS := NOSAME.out (by simp [entC, wai, hon])
                      go_wp2_with fail
                      go_roundw
                      case rel => exact ⟨i + 1, l1 ++ [p], rr, by rw [HS.2], by go_num, by omega, hide ⟨by rw [HP.out.1]; simp, by simp [HP.out.2]⟩, hide (by rw [HS.1]; exact HR1.out)⟩
                      case measure => simp [intOf]; omega
                  · obtain ⟨hrr, hll⟩ := no_next HP.out.1 HP.out.2 hlo.out hlt
                    subst hrr
                    rw [hll]
                    have hb2 : decide (0 < ent s.fl tm (nRid ps1) ps1) = b2 := HB2.out
                    rw [hb2]
                    have HPS := hide (show (stepR s tm).ps = inA ps1 s.fl tm by rw [step_ps, HPS1.out])
                    have HR4 := hide (show SH B wr w.heap.size g2 Ac k cc k k (stepR s tm).ps ∧ Below w.heap.size w wr from by
                      have := HR1.out
                      rw [hll, List.append_nil] at this
                      rw [HPS.out]
                      exact this)
                    clear HR1 HP hll hb2
                    have hik : k = i := by omega
                    subst hik
                    cases hbb : (b1 || b2)
                    · have HST := hide (stepR_quiet (s := s) (tm := tm) (step_ps s tm).symm (by rw [HB1.out, HPS1.out, HB2.out]; exact hbb))
                      have hcar := HI.out.car
                      have HMID := hide (inA_mid HI.out (by omega))
                      rw [← step_ps] at HMID
                      obtain ⟨hn1, hh1⟩ : ∃ h1, (if (!ahd (stepR s tm).ps (roomOf (stepR s tm).ps) tm s.fl s.h && ahd (stepR s tm).ps (roomOf (stepR s tm).ps) tm s.fl (-s.h)) = true then -s.h else s.h) = h1 := ⟨_, rfl⟩
                      have HDS := hide (drive_spec _ _ _ _ _ hh1)
                      have hh2 := h_turn hcar.h1 hh1
                      have hzz := HR4.out.2.size
                      have hgg := HR4.out.1.blocks
                      have KT := hide (turnAround_any B w.heap.size g2 k cc k k Ac (stepR s tm).ps tm s.fl s.h wr hn (by have := HBB.out; omega) HMID.out hcar.f0 hcar.f1 hcar.h1 HR4.out.1)
                      rw [hh1] at KT
                      have HH := hide (And.intro hh2 (And.intro hcar hgg))
                      clear hh1 hh2 hcar hgg
                      go_wp2_with fail
                      refine KT.out.mono ?_
                      rintro e w5 ⟨rfl, hb⟩
                      have HR5 := hide (And.intro (HR4.out.1.below hb (Nat.le_refl _)) (HR4.out.2.trans (hb.mono hzz)))
                      have hz5 := HR5.out.2.size
                      clear hb
                      have KM := hide (moveOf_any B w.heap.size g2 k cc k k Ac (stepR s tm).ps tm s.fl hn1 w5 hn (by have := HBB.out; omega) HMID.out HH.out.2.1.f0 HH.out.2.1.f1 HH.out.1 HR5.out.1)
                      obtain ⟨mv, hmv⟩ : ∃ mv, (if ahd (stepR s tm).ps (roomOf (stepR s tm).ps) tm s.fl hn1 = true then hn1 else 0) = mv := ⟨_, rfl⟩
                      rw [hmv] at KM HDS
                      have hmv2 : -1 ≤ mv ∧ mv ≤ 1 := by have := HH.out.1; split at hmv <;> omega
                      have hcf := HH.out.2.1.f0
                      have hcf1 := HH.out.2.1.f1
                      have hq : IntKind.i64.wrap (s.fl + mv) = s.fl + mv := IntWalk.i64_in _ (by omega)
                      clear hmv
                      go_wp2_with fail
                      refine KM.out.mono ?_
                      rintro e w6 ⟨rfl, hb⟩
                      have HR6 := hide (And.intro (HR5.out.1.below hb (Nat.le_refl _)) (HR5.out.2.trans (hb.mono hz5)))
                      clear hb
                      have HEQ := hide (show (stepR s tm).fl = s.fl + mv ∧ (stepR s tm).h = hn1 from by
                        have e1 := congrArg RS.fl HST.out
                        have e2 := congrArg RS.h HST.out
                        rw [HDS.out] at e1 e2
                        exact ⟨e1, e2⟩)
                      go_wp2_with fail
                      go_roundw
                      case rel => exact ⟨tm + 1, stepR s tm, by rw [HEQ.out.1], by rw [HEQ.out.2], by go_num, by omega, HR6, HIN, HNEXT⟩
                      case measure => simp [intOf]; omega
                    · have HST := hide (stepR_stay (s := s) (tm := tm) (step_ps s tm).symm (by rw [HB1.out, HPS1.out, HB2.out]; exact hbb))
                      have HEQ := hide (show (stepR s tm).fl = s.fl ∧ (stepR s tm).h = s.h from by
                        have e1 := congrArg RS.fl HST.out
                        have e2 := congrArg RS.h HST.out
                        exact ⟨e1, e2⟩)
                      go_wp2_with fail
                      go_roundw
                      case rel => exact ⟨tm + 1, stepR s tm, by rw [HEQ.out.1], by rw [HEQ.out.2], by go_num, by omega, HR4, HIN, HNEXT⟩
                      case measure => simp [intOf]; omega
          · have HEND := hide (show s.ps = rideR l start by
              have h1 := HRUN.out
              unfold rideR
              rw [← h1, runR_done hd])
            have KW := hide (waitingS_any (some ⟨g2, 0, none⟩) k k _ false wr (by omega) (by rw [Hdn.out, hd]; rfl) (Rd.of_own HR.out.1.off_))
            clear hd
            go_wp2_with fail
            refine KW.out.mono ?_
            rintro e w' ⟨rfl, hw'⟩
            have hw2 := hw'.symm
            clear hw'
            subst hw2
            go_wp2_with fail
            go_ret2
            exact ⟨_, _, rfl, by rw [← HEND.out]; exact HR.out.1, HR.out.2.mono HBB.out, Nat.le_refl _, hgB, HR.out.2⟩
        · have HEND := hide (show s.ps = rideR l start by
            have h1 := HRUN.out
            unfold rideR
            rw [← h1]
            have : tm = 901 := by omega
            subst this
            rfl)
          have hz1' : decide ((tm : Int) ≤ 900) = false := by simp; omega
          have hz2' : ¬ (tm : Int) ≤ 900 := by omega
          go_wp2_with fail
          go_ret2
          exact ⟨_, _, rfl, by rw [← HEND.out]; exact HR.out.1, HR.out.2.mono HBB.out, Nat.le_refl _, hgB, HR.out.2⟩
end Go.Proofs.Ythgbbfcpnmpjgaa
