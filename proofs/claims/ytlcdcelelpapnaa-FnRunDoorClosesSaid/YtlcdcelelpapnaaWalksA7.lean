/-
  The walk of the law that a door runs step by step.
-/
import Derived.Test.YtlcdcelelpapnaaRunDoorI
import Derived.Test.YtlcdcelelpapnaaDrawRun
import Derived.Test.YtlcdcelelpapnaaTrack
namespace Go.Proofs.Ytlcdcelelpapnaa
open Go.RowKit
set_option linter.unusedSimpArgs false
set_option linter.unusedVariables false

theorem dRun_len (s l : Int) (ws bs : List Bool) : (dRun s l ws bs).length = 0 ∨ (vD s l = true ∧ ws.length ≤ 40 ∧ ws.length = bs.length ∧ dRun s l ws bs = dStates (s, l) ws bs ws.length) := by
  unfold dRun; split
  · rename_i h; exact .inr ⟨h.1, h.2.1, h.2.2, rfl⟩
  · exact .inl rfl

theorem dRun_small (s l : Int) (ws bs : List Bool) : (dRun s l ws bs).length ≤ ws.length := by
  unfold dRun; split
  · rw [dStates_len]; omega
  · simp

set_option maxHeartbeats 2000000 in
theorem fnRunDoor_walk (A : Option Addr) (n c : Nat) (zs : List Int) (w : World) (hl : n ≤ c) (hr : RdI w .u8 A n zs) (hz : ∀ z ∈ zs, (Lit.int .u8 z).wf = true) :
    Calls Try.prog 11 #[.slice A n c] w fun e w' => e = .returned (.bool true) ∧ Below w.heap.size w w' := by
  have Ha := hide (code8_of hl hr hz)
  clear hr hz
  by_cases hn : 1048576 < n
  · have hn' : (1048576 : Int) < (n : Int) := by omega
    go_enter Try.func11, Try.ntmps11
    go_wp2_with fail
    go_ret
    exact ⟨rfl, Below.refl _ _⟩
  have hn' : (n : Int) ≤ 1048576 := by omega
  go_enter Try.func11, Try.ntmps11
  go_wp2_with fail
  refine (DrawRunDoor_any _ A n c _ (Nat.le_refl _) Ha.out).mono ?_
  rintro e w1 ⟨s, l, A1, A2, n1, c1, n2, c2, z1, z2, rfl, m1, m2, r1, r2, hb⟩
  have hz1 : w.heap.size ≤ w1.heap.size := hb.size
  have HB1 := hide hb
  have R_ws := hide r1
  have R_bs := hide r2
  have hl1 := RdB.len r1
  have hl2 := RdB.len r2
  clear hb r1 r2 Ha
  go_wp2_with fail
  refine (RunDoor_i s l A1 A2 n1 c1 n2 c2 z1 z2 _ (by omega) (by omega) (R_ws.out.alloc _) (R_bs.out.alloc _)).mono ?_
  rintro e w2 ⟨A_g, n_g, c_g, rfl, ho, hb⟩
  have hz2 : w1.heap.size + 1 ≤ w2.heap.size := by have := hb.size; simpa using this
  have HB := hide (Below.trans (HB1.out.alloc (by omega) _) (hb.mono (by simp; omega)))
  have X_d := (Blk.new w1 26 #[.int .i64 s, .int .i64 l]).below hb (by simp)
  replace R_ws := hide (Rd.below (R_ws.out.alloc (.cells #[.int .i64 s, .int .i64 l] 26)) hb (Nat.le_refl _))
  replace R_bs := hide (Rd.below (R_bs.out.alloc (.cells #[.int .i64 s, .int .i64 l] 26)) hb (Nat.le_refl _))
  have R_g := hide (Rd.of_own ho)
  have N_g := RdLEN_int (Rd.of_own ho)
  clear hb ho HB1
  obtain ⟨_, _, _, _⟩ := blk2 X_d
  have hgl : n_g ≤ 42 := by have h := dRun_small s l z1 z2; omega
  go_wp2_with fail
  refine (RunDoor_s s l A1 A2 n1 c1 n2 c2 z1 z2 _ (by omega) (by omega) R_ws.out R_bs.out).mono ?_
  rintro e w3 ⟨A_W, n_W, c_W, rfl, ho, hb⟩
  have hz3 : w2.heap.size ≤ w3.heap.size := hb.size
  replace HB := hide (Below.trans HB.out (hb.mono (by omega)))
  replace R_ws := hide (Rd.below R_ws.out hb (Nat.le_refl _))
  replace R_bs := hide (Rd.below R_bs.out hb (Nat.le_refl _))
  replace R_g := hide (Rd.below R_g.out hb (Nat.le_refl _))
  replace X_d := X_d.below hb X_d.lt
  clear hb
  obtain ⟨_, _, _, _⟩ := blk2 X_d
  have R_W := hide (Rd.of_own ho)
  clear ho
  go_wp2_with fail
  refine (equalInts_same A_g _ n_g c_g _ _ (dRun s l z1 z2) _ (by omega) R_g.out R_W.out).mono ?_
  rintro e w4 ⟨rfl, q, hq⟩
  have hb := below_of_drewN hq
  clear hq
  have hz4 : w3.heap.size ≤ w4.heap.size := hb.size
  replace HB := hide (Below.trans HB.out (hb.mono (by omega)))
  replace R_ws := hide (Rd.below R_ws.out hb (Nat.le_refl _))
  replace R_bs := hide (Rd.below R_bs.out hb (Nat.le_refl _))
  replace R_g := hide (Rd.below R_g.out hb (Nat.le_refl _))
  replace R_W := hide (Rd.below R_W.out hb (Nat.le_refl _))
  replace X_d := X_d.below hb X_d.lt
  clear hb
  obtain ⟨_, _, _, _⟩ := blk2 X_d
  clear R_W
  by_cases h0 : n_g = 0
  · have h0' : ((n_g : Int) == 0) = true := by simp [h0]
    clear h0
    go_wp2_with fail
    refine (RunDoor_s s l A1 A2 n1 c1 n2 c2 z1 z2 _ (by omega) (by omega) R_ws.out R_bs.out).mono ?_
    rintro e w5 ⟨A_W, n_W, c_W, rfl, ho, hb⟩
    have hz5 : w4.heap.size ≤ w5.heap.size := hb.size
    replace HB := hide (Below.trans HB.out (hb.mono (by omega)))
    replace R_ws := hide (Rd.below R_ws.out hb (Nat.le_refl _))
    replace R_bs := hide (Rd.below R_bs.out hb (Nat.le_refl _))
    replace R_g := hide (Rd.below R_g.out hb (Nat.le_refl _))
    replace X_d := X_d.below hb X_d.lt
    clear hb
    obtain ⟨_, _, _, _⟩ := blk2 X_d
    have R_W := hide (Rd.of_own ho)
    clear ho
    go_wp2_with fail
    refine (equalInts_same A_g _ n_g c_g _ _ (dRun s l z1 z2) _ (by omega) R_g.out R_W.out).mono ?_
    rintro e w6 ⟨rfl, q, hq⟩
    have hb := below_of_drewN hq
    clear hq
    have hz6 : w5.heap.size ≤ w6.heap.size := hb.size
    replace HB := hide (Below.trans HB.out (hb.mono (by omega)))
    replace R_ws := hide (Rd.below R_ws.out hb (Nat.le_refl _))
    replace R_bs := hide (Rd.below R_bs.out hb (Nat.le_refl _))
    replace R_g := hide (Rd.below R_g.out hb (Nat.le_refl _))
    replace R_W := hide (Rd.below R_W.out hb (Nat.le_refl _))
    replace X_d := X_d.below hb X_d.lt
    clear hb
    obtain ⟨_, _, _, _⟩ := blk2 X_d
    clear R_W
    go_wp2_with fail
    go_ret
    exact ⟨rfl, HB.out⟩
  obtain ⟨hv, h40, h12, hd⟩ : vD s l = true ∧ z1.length ≤ 40 ∧ z1.length = z2.length ∧ dRun s l z1 z2 = dStates (s, l) z1 z2 z1.length := by
    rcases dRun_len s l z1 z2 with h | h
    · omega
    · exact h
  have e0 : n_g = n1 := by rw [hd, dStates_len] at N_g; omega
  have e1 : n1 = n2 := by omega
  subst e0 e1
  have Hv := hide hv
  rw [hd, hl1] at R_g
  clear hd hv h12 N_g
  have h0' : ((n_g : Int) == 0) = false := by rw [beq_eq_false_iff_ne]; omega
  have H0 := hide h0
  clear h0
  have hx0 : Blk (w4.alloc (.cells #[.int .i64 s, .int .i64 l] 26)) w4.heap.size 26 #[.int .i64 s, .int .i64 l] := Blk.new _ _ _
  have H1 := hide (And.intro hl1 hl2)
  clear hl1 hl2
  go_wp2_with fail
  go_loopw [8] (fun i wr => ∃ k : Nat, k ≤ n_g ∧ i = .int .i64 k ∧ Blk wr w4.heap.size 26 #[.int .i64 (doorAt (s, l) z1 z2 k).1, .int .i64 (doorAt (s, l) z1 z2 k).2] ∧ Hid (Below w4.heap.size w4 wr)) (fun i _ => n_g - (intOf i).toNat)
  case atStart => exact ⟨0, by omega, rfl, hx0, hide ((Below.refl _ _).alloc (Nat.le_refl _) _)⟩
  case round =>
    clear hx0
    obtain ⟨k, hk, rfl, hx, hr⟩ := hrel
    have hlt := hx.lt
    by_cases hkn : k < n_g
    · obtain ⟨b1, o1, y1, rfl, hb1, hz1', hc1'⟩ := RdB.at_ R_ws.out hkn
      obtain ⟨b2, o2, y2, rfl, hb2, hz2', hc2'⟩ := RdB.at_ R_bs.out hkn
      obtain ⟨b3, o3, y3, rfl, hb3, hz3', hc3'⟩ := RdI.at_ R_g.out hkn
      have hc1 := (hr.out.cell (p := ⟨b1, o1 + k, none⟩) hb1).trans hc1'
      have hc2 := (hr.out.cell (p := ⟨b2, o2 + k, none⟩) hb2).trans hc2'
      have hc3 := (hr.out.cell (p := ⟨b3, o3 + k, none⟩) hb3).trans hc3'
      have hy3 : y3 = (doorAt (s, l) z1 z2 (k + 1)).1 := by
        have h : (dStates (s, l) z1 z2 n_g)[k]? = some (doorAt (s, l) z1 z2 (k + 1)).1 := by simp [dStates, hkn]
        rw [h] at hz3'
        exact (Option.some.inj hz3').symm
      generalize hq : doorAt (s, l) z1 z2 k = q at hx
      generalize hq' : doorAt (s, l) z1 z2 (k + 1) = q' at hy3
      have hst : dStep q.1 q.2 y1 y2 = q' := by rw [← hq', ← hq]; simp [doorAt, hz1', hz2']
      have Hst := hide hst
      have Hq' := hide hq'
      subst hy3
      clear hst hq hq' hz1' hz2' hz3' hc1' hc2' hc3'
      have hlt' : (k : Int) < (n_g : Int) := by omega
      have hne3 : ¬ b3 = w4.heap.size := by omega
      obtain ⟨_, _, _, _⟩ := blk2 hx
      go_wp2_with fail
      go_still_tail 9, (by kernel_rfl)
      go_wp2_with fail
      refine (StepDoor_i q.1 q.2 y1 y2 _).mono ?_
      rintro e w8 ⟨rfl, hb⟩
      rw [Hst.out]
      have hc8 := (hb.cell (p := ⟨b3, o3 + k, none⟩) (by have := hr.out.size; show b3 < wr.heap.size; omega)).trans hc3
      replace hx := (hx.drew).below hb hlt
      replace hr := hide ((Below.drew hr.out).trans (hb.mono (Nat.le_of_lt hlt)))
      have hlt8 := hx.lt
      clear hb hc1 hc2 hc3 hlt
      obtain ⟨_, _, _, _⟩ := blk2 hx
      go_wp2_with fail
      go_quiet (fail)
      go_wp2_with fail
      go_roundw
      case rel =>
        refine ⟨k + 1, by omega, by go_num, ?_, hide ?_⟩
        · rw [Hq'.out]
          have h := (hx.set_ 0 (.int .i64 q'.1)).set_ 1 (.int .i64 q'.2)
          exact Blk.drewN (by simpa using h) _
        · exact below_drewN ((hr.out.setCell (p := ⟨w4.heap.size, 0, none⟩) (Nat.le_refl _) _).setCell (p := ⟨w4.heap.size, 1, none⟩) (Nat.le_refl _) _) _
      case measure => simp [intOf]; omega
    · obtain rfl : k = n_g := by omega
      go_wp2_with fail
      go_ret
      exact ⟨rfl, Below.trans HB.out (hr.out.mono HB.out.size)⟩

end Go.Proofs.Ytlcdcelelpapnaa
