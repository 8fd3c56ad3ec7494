/-
  The walk of the law that doors close if nobody needs them.
-/
import Derived.Test.YtlcdcelelpapnaaRunDoorI
import Derived.Test.YtlcdcelelpapnaaDrawRun
import Derived.Test.YtlcdcelelpapnaaWalksA7
import Derived.Deep.RegionWith
import Derived.Deep.RegionHeld3
namespace Go.Proofs.Ytlcdcelelpapnaa
open Go.RowKit
set_option linter.unusedSimpArgs false
set_option linter.unusedVariables false

theorem make12 (W : World) : Sem.run Try.prog (Instr.makeSlice 32 (Value.int .i64 12) (Value.int .i64 12)) W = .ok (.slice (some ⟨W.heap.size, 0, none⟩) 12 12) (W.alloc (.cells (Array.replicate 12 (.bool false)) 4)) := by kernel_rfl

theorem RdB.blk12 (w : World) (b : Nat) (hb : b = w.heap.size) : RdB (w.alloc (.cells (Array.replicate 12 (.bool false)) 4)) (some ⟨b, 0, none⟩) 12 (List.replicate 12 false) := by
  subst hb
  refine ⟨by decide, fun _ => ⟨w.heap.size, 0, rfl, (Blk.new w _ _).lt, fun j u hu => ?_⟩⟩
  rw [(Blk.new w _ _).cell, Nat.zero_add]
  simpa only [← Array.getElem?_toList, Array.toList_replicate, List.map_replicate] using hu

theorem blk12_1 (w : World) (b : Nat) (hb : b = w.heap.size) : RdB ((w.alloc (.cells (Array.replicate 12 (.bool false)) 4)).alloc (.cells (Array.replicate 12 (.bool false)) 4)).drew (some ⟨b, 0, none⟩) 12 (List.replicate 12 false) :=
  Rd.drew (Rd.alloc (RdB.blk12 w b hb) _)
theorem blk12_2 (w : World) (b : Nat) (hb : b = w.heap.size + 1) : RdB ((w.alloc (.cells (Array.replicate 12 (.bool false)) 4)).alloc (.cells (Array.replicate 12 (.bool false)) 4)).drew (some ⟨b, 0, none⟩) 12 (List.replicate 12 false) :=
  Rd.drew (RdB.blk12 _ b (by simp [hb]))

theorem first_blk {w : World} {g : Nat} {t : TypeId} {cs : Array Value} {o o' : Obj} (h : Blk w g t cs) : Blk ((w.alloc o).alloc o').drew g t cs := ((h.alloc o).alloc o').drew

theorem calm12 {s l : Int} (hv : vD s l = true) : dRun s l (List.replicate 12 false) (List.replicate 12 false) = dStates (s, l) (List.replicate 12 false) (List.replicate 12 false) 12 := by
  simp [dRun, hv]
theorem calm_last {s l : Int} (hv : vD s l = true) : (dStates (s, l) (List.replicate 12 false) (List.replicate 12 false) 12)[11]? = some 0 := by
  obtain ⟨⟨s0, s1⟩, l0, l1⟩ := vD_iff.1 hv
  have hs : s = 0 ∨ s = 1 ∨ s = 2 ∨ s = 3 := by omega
  have hl : l = 0 ∨ l = 1 ∨ l = 2 ∨ l = 3 := by omega
  rcases hs with rfl | rfl | rfl | rfl <;> rcases hl with rfl | rfl | rfl | rfl <;> first | decide | (exfalso; revert hv; decide)

set_option maxHeartbeats 2000000 in
theorem fnRunDoorCloses_walk (A : Option Addr) (n c : Nat) (zs : List Int) (w : World) (hl : n ≤ c) (hr : RdI w .u8 A n zs) (hz : ∀ z ∈ zs, (Lit.int .u8 z).wf = true) :
    Calls Try.prog 12 #[.slice A n c] w fun e w' => e = .returned (.bool true) ∧ Below w.heap.size w w' := by
  have Ha := hide (code8_of hl hr hz)
  clear hr hz
  by_cases hn : 1048576 < n
  · have hn' : (1048576 : Int) < (n : Int) := by omega
    go_enter Try.func12, Try.ntmps12
    go_wp2_with fail
    go_ret
    exact ⟨rfl, Below.refl _ _⟩
  have hn' : (n : Int) ≤ 1048576 := by omega
  go_enter Try.func12, Try.ntmps12
  go_wp2_with fail
  refine (DrawRunDoor_any _ A n c _ (Nat.le_refl _) Ha.out).mono ?_
  rintro e w1 ⟨s, l, A1, A2, n1, c1, n2, c2, z1, z2, rfl, m1, m2, r1, r2, hb⟩
  have hz1 : w.heap.size ≤ w1.heap.size := hb.size
  have HB1 := hide hb
  have R_ws := hide r1
  have R_bs := hide r2
  have hl1 := RdB.len r1
  have hl2 := RdB.len r2
  clear hb r1 r2 Ha
  go_wp2_with fail
  refine (RunDoor_i s l A1 A2 n1 c1 n2 c2 z1 z2 _ (by omega) (by omega) (R_ws.out.alloc _) (R_bs.out.alloc _)).mono ?_
  rintro e w2 ⟨A_g, n_g, c_g, rfl, ho, hb⟩
  have hz2 : w1.heap.size + 1 ≤ w2.heap.size := by have := hb.size; simpa using this
  have HB := hide (Below.trans (HB1.out.alloc (by omega) _) (hb.mono (by simp; omega)))
  have X_d := (Blk.new w1 26 #[.int .i64 s, .int .i64 l]).below hb (by simp)
  replace R_ws := hide (Rd.below (R_ws.out.alloc (.cells #[.int .i64 s, .int .i64 l] 26)) hb (Nat.le_refl _))
  replace R_bs := hide (Rd.below (R_bs.out.alloc (.cells #[.int .i64 s, .int .i64 l] 26)) hb (Nat.le_refl _))
  have R_g := hide (Rd.of_own ho)
  have N_g := RdLEN_int (Rd.of_own ho)
  clear hb ho HB1
  obtain ⟨_, _, _, _⟩ := blk2 X_d
  have hgl : n_g ≤ 42 := by have h := dRun_small s l z1 z2; omega
  go_wp2_with fail
  refine (RunDoor_s s l A1 A2 n1 c1 n2 c2 z1 z2 _ (by omega) (by omega) R_ws.out R_bs.out).mono ?_
  rintro e w3 ⟨A_W, n_W, c_W, rfl, ho, hb⟩
  have hz3 : w2.heap.size ≤ w3.heap.size := hb.size
  replace HB := hide (Below.trans HB.out (hb.mono (by omega)))
  replace R_ws := hide (Rd.below R_ws.out hb (Nat.le_refl _))
  replace R_bs := hide (Rd.below R_bs.out hb (Nat.le_refl _))
  replace R_g := hide (Rd.below R_g.out hb (Nat.le_refl _))
  replace X_d := X_d.below hb X_d.lt
  clear hb
  obtain ⟨_, _, _, _⟩ := blk2 X_d
  have R_W := hide (Rd.of_own ho)
  clear ho
  go_wp2_with fail
  refine (equalInts_same A_g _ n_g c_g _ _ (dRun s l z1 z2) _ (by omega) R_g.out R_W.out).mono ?_
  rintro e w4 ⟨rfl, q, hq⟩
  have hb := below_of_drewN hq
  clear hq
  have hz4 : w3.heap.size ≤ w4.heap.size := hb.size
  replace HB := hide (Below.trans HB.out (hb.mono (by omega)))
  replace R_ws := hide (Rd.below R_ws.out hb (Nat.le_refl _))
  replace R_bs := hide (Rd.below R_bs.out hb (Nat.le_refl _))
  replace R_g := hide (Rd.below R_g.out hb (Nat.le_refl _))
  replace R_W := hide (Rd.below R_W.out hb (Nat.le_refl _))
  replace X_d := X_d.below hb X_d.lt
  clear hb
  obtain ⟨_, _, _, _⟩ := blk2 X_d
  clear R_W
  by_cases hv : vD s l = true
  · have Hv := hide hv
    clear hv
    go_wp2_with fail
    refine (ValidDoor_iq s l true _ Hv.out).mono ?_
    rintro e w5 ⟨rfl, rfl⟩
    have HB5 := hide (Below.alloc HB.out (by have := HB.out.size; omega) (.cells #[.int .i64 s, .int .i64 l] 26))
    have R_ws5 := hide (R_ws.out.alloc (.cells #[.int .i64 s, .int .i64 l] 26))
    have R_bs5 := hide (R_bs.out.alloc (.cells #[.int .i64 s, .int .i64 l] 26))
    have R_g5 := hide (R_g.out.alloc (.cells #[.int .i64 s, .int .i64 l] 26))
    replace X_d := X_d.alloc (.cells #[.int .i64 s, .int .i64 l] 26)
    clear HB R_ws R_bs R_g
    obtain ⟨_, _, _, _⟩ := blk2 X_d
    have hmk := make12
    obtain ⟨_, _, _, _, _, _, _, _⟩ := sz (show w1.heap.size < w4.heap.size by omega)
    go_wp2_with fail
    go_region_held3 (fun w' => w'.cell? ⟨w1.heap.size, 0, none⟩ = some (.int .i64 s) ∧ w'.cell? ⟨w1.heap.size, 1, none⟩ = some (.int .i64 l)) (first | go_keep | exact ⟨by assumption, by assumption⟩)
      (first
       | ( go_at_call 21
           refine (RunDoor_i s l _ _ 12 12 12 12 (List.replicate 12 false) (List.replicate 12 false) _ (by omega) (by omega) ?_ ?_).mono ?_
           focus (first | (apply blk12_1; simp; done) | (apply blk12_2; simp; done))
           focus (first | (apply blk12_1; simp; done) | (apply blk12_2; simp; done))
           rintro e w6 ⟨A_c, n_c, c_c, rfl, ho, hb⟩
           have HB6 := hide (Below.trans (((HB5.out.alloc (HB5.out.size) (.cells (Array.replicate 12 (.bool false)) 4)).alloc (by have := HB5.out.size; simp; omega) (.cells (Array.replicate 12 (.bool false)) 4)).drew) (hb.mono (by have := HB5.out.size; simp at this ⊢; omega)))
           have hnc : n_c = 12 := by have h := RdLEN_int (Rd.of_own ho); rw [calm12 Hv.out, dStates_len] at h; exact h.symm
           subst hnc
           obtain ⟨b_c, o_c, z_c, rfl, hbc, hzc, hcc⟩ := RdI.at_ (Rd.of_own ho) (i := 11) (by omega)
           rw [calm12 Hv.out, calm_last Hv.out] at hzc
           obtain rfl := Option.some.inj hzc
           have hX6 := Blk.below (first_blk X_d) hb (by have := X_d.lt; simp at this ⊢; omega)
           obtain ⟨_, _, _, _⟩ := blk2 hX6
           clear ho hb hzc hbc hX6
         ))
    all_goals
      go_wp2_with fail
      go_ret
      exact ⟨rfl, HB6.out⟩
  · have Hv := hide (show vD s l = false by simpa using hv)
    clear hv
    go_wp2_with fail
    refine (ValidDoor_iq s l false _ Hv.out).mono ?_
    rintro e w5 ⟨rfl, rfl⟩
    have HB5 := hide (Below.alloc HB.out (by have := HB.out.size; omega) (.cells #[.int .i64 s, .int .i64 l] 26))
    have R_ws5 := hide (R_ws.out.alloc (.cells #[.int .i64 s, .int .i64 l] 26))
    have R_bs5 := hide (R_bs.out.alloc (.cells #[.int .i64 s, .int .i64 l] 26))
    have R_g5 := hide (R_g.out.alloc (.cells #[.int .i64 s, .int .i64 l] 26))
    replace X_d := X_d.alloc (.cells #[.int .i64 s, .int .i64 l] 26)
    clear HB R_ws R_bs R_g
    obtain ⟨_, _, _, _⟩ := blk2 X_d
    go_wp2_with fail
    refine (RunDoor_s s l A1 A2 n1 c1 n2 c2 z1 z2 _ (by omega) (by omega) R_ws5.out R_bs5.out).mono ?_
    rintro e w6 ⟨A_W, n_W, c_W, rfl, ho, hb⟩
    replace HB5 := hide (Below.trans HB5.out (hb.mono (by have := HB5.out.size; omega)))
    replace R_g5 := hide (Rd.below R_g5.out hb (Nat.le_refl _))
    replace X_d := X_d.below hb X_d.lt
    clear hb
    obtain ⟨_, _, _, _⟩ := blk2 X_d
    have R_W := hide (Rd.of_own ho)
    clear ho
    go_wp2_with fail
    refine (equalInts_same A_g _ n_g c_g _ _ (dRun s l z1 z2) _ (by omega) R_g5.out R_W.out).mono ?_
    rintro e w7 ⟨rfl, q, hq⟩
    have hb := below_of_drewN hq
    clear hq
    replace HB5 := hide (Below.trans HB5.out (hb.mono (by have := HB5.out.size; omega)))
    clear hb
    go_wp2_with fail
    go_ret
    exact ⟨rfl, HB5.out⟩

end Go.Proofs.Ytlcdcelelpapnaa
