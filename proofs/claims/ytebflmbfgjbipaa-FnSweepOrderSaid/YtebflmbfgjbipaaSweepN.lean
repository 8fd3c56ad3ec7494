/-
  NextStop and BestHeading, of the program and of the specification.
-/
import Derived.Test.YtebflmbfgjbipaaSweepO
import Derived.Test.YtebflmbfgjbipaaFloorsB
import Derived.Test.YtebflmbfgjbipaaRdl
namespace Go.Proofs.Ytebflmbfgjbipaa
open Go.RowKit
set_option linter.unusedSimpArgs false
set_option linter.unusedVariables false

def nextF (zs : List Int) (a h : Int) : Int := (sweepK zs a h).headD 0
def nextB (zs : List Int) (a h : Int) : Bool := !(sweepK zs a h).isEmpty
def bestW (zs : List Int) (a h : Int) : Nat := wayL a (sweepL zs a h)
def bestK (zs : List Int) (a : Int) : Int := if zs.length ≤ 12 ∧ allB zs 0 15 = true ∧ inB a 0 15 = true then (if bestW zs a (-1) < bestW zs a 1 then -1 else 1) else 0
set_option maxHeartbeats 1000000 in
theorem NextStop_i (A : Option Addr) (n c : Nat) (zs : List Int) (a h f : Int) (b : Bool) (w : World) (hn : n ≤ 1048576) (hA : Sl A n) (ha : RdI w .i64 A n zs) (hf : nextF zs a h = f) (hb : nextB zs a h = b) :
    Calls Try.prog 21 #[.slice A n c, .int .i64 a, .int .i64 h] w fun e w' => e = .returned (.tuple #[.int .i64 f, .bool b]) ∧ Below w.heap.size w w' := by
  subst hf hb
  have K := hide (SweepOrder_i A n c zs a h w hn hA ha)
  clear ha
  unfold nextF nextB
  cases hs : sweepK zs a h
  · go_enter Try.func21, Try.ntmps21
    go_wp2_with fail
    refine K.out.mono ?_
    rintro e w1 ⟨A1, n1, c1, rfl, ho, hb⟩
    rw [hs] at ho
    have hn0 : n1 ≤ 0 := by have := ho.1; simp at this; omega
    obtain rfl : n1 = 0 := by omega
    have Hb1 := hide hb
    clear ho hb hs
    go_wp2_with fail
    go_ret2
    exact ⟨rfl, Hb1.out⟩
  · rename_i f r
    go_enter Try.func21, Try.ntmps21
    go_wp2_with fail
    refine K.out.mono ?_
    rintro e w1 ⟨A1, n1, c1, rfl, ho, hb⟩
    rw [hs] at ho
    have hl := ho.1
    simp at hl
    obtain ⟨b1, o1, z, rfl, hb1, hz, d1⟩ := RdI.at_ (Rd.of_own ho) (show 0 < n1 by omega)
    rw [Nat.add_zero] at d1
    have hzf : f = z := by simpa using hz
    subst hzf
    have h0 : ((n1 : Int) == 0) = false := by rw [beq_eq_false_iff_ne]; omega
    have h1 : (0 : Int) < (n1 : Int) := by omega
    have h1' : 0 < n1 := by omega
    have Hb1 := hide hb
    clear ho hb hs hz hl hb1
    go_wp2_with fail
    go_ret2
    exact ⟨rfl, Hb1.out⟩
set_option maxHeartbeats 1000000 in
theorem NextStop_s (A : Option Addr) (n c : Nat) (zs : List Int) (a h f : Int) (b : Bool) (w : World) (hn : n ≤ 1048576) (ha : RdI w .i64 A n zs) (hf : nextF zs a h = f) (hb : nextB zs a h = b) :
    Calls Try.prog 20 #[.slice A n c, .int .i64 a, .int .i64 h] w fun e w' => e = .returned (.tuple #[.int .i64 f, .bool b]) ∧ Below w.heap.size w w' := by
  subst hf hb
  have K := hide (SweepOrder_s A n c zs a h w hn  ha)
  clear ha
  unfold nextF nextB
  cases hs : sweepK zs a h
  · go_enter Try.func20, Try.ntmps20
    go_wp2_with fail
    refine K.out.mono ?_
    rintro e w1 ⟨A1, n1, c1, rfl, ho, hb⟩
    rw [hs] at ho
    have hn0 : n1 ≤ 0 := by have := ho.1; simp at this; omega
    obtain rfl : n1 = 0 := by omega
    have Hb1 := hide hb
    clear ho hb hs
    go_wp2_with fail
    go_ret2
    exact ⟨rfl, Hb1.out⟩
  · rename_i f r
    go_enter Try.func20, Try.ntmps20
    go_wp2_with fail
    refine K.out.mono ?_
    rintro e w1 ⟨A1, n1, c1, rfl, ho, hb⟩
    rw [hs] at ho
    have hl := ho.1
    simp at hl
    obtain ⟨b1, o1, z, rfl, hb1, hz, d1⟩ := RdI.at_ (Rd.of_own ho) (show 0 < n1 by omega)
    rw [Nat.add_zero] at d1
    have hzf : f = z := by simpa using hz
    subst hzf
    have h0 : ((n1 : Int) == 0) = false := by rw [beq_eq_false_iff_ne]; omega
    have h1 : (0 : Int) < (n1 : Int) := by omega
    have h1' : 0 < n1 := by omega
    have Hb1 := hide hb
    clear ho hb hs hz hl hb1
    go_wp2_with fail
    go_ret2
    exact ⟨rfl, Hb1.out⟩
theorem allB_sweepL {zs : List Int} {a h : Int} (a0 : 0 ≤ a ∧ a ≤ 15) (hh : h = 1 ∨ h = -1) : allB (sweepL zs a h) 0 15 = true := allB_iff.2 fun x hx => ((mem_sweepL a0 hh).1 hx).1
theorem sweepL_len12 {n : Nat} {zs : List Int} {a h : Int} (hl : zs.length = n) (h12 : n ≤ 12) (a0 : 0 ≤ a ∧ a ≤ 15) (hh : h = 1 ∨ h = -1) : (sweepL zs a h).length ≤ 12 := Nat.le_trans (sweepL_len a0 hh) (by omega)
theorem wayF_sweepL {n : Nat} {zs : List Int} {a h : Int} (hl : zs.length = n) (h12 : n ≤ 12) (a0 : 0 ≤ a ∧ a ≤ 15) (hh : h = 1 ∨ h = -1) : wayF (sweepL zs a h) a = (bestW zs a h : Int) := by
  have := sweepL_len12 hl h12 a0 hh
  exact if_pos ⟨by omega, allB_sweepL a0 hh, inB_iff.2 a0⟩
set_option maxHeartbeats 2000000 in
theorem BestHeading_i (A : Option Addr) (n c : Nat) (zs : List Int) (a : Int) (m : Int) (w : World) (hn : n ≤ 1048576) (hA : Sl A n) (ha : RdI w .i64 A n zs) (hm : bestK zs a = m) :
    Calls Try.prog 27 #[.slice A n c, .int .i64 a] w fun e w' => e = .returned (.int .i64 m) ∧ Below w.heap.size w w' := by
  subst hm
  have hl := ha.len
  have Ha := hide ha
  clear ha
  by_cases h12 : n ≤ 12
  · have h12' : (n : Int) ≤ 12 := by omega
    cases hv : allB zs 0 15
    · have e := hide (show bestK zs a = 0 from if_neg (by rw [hv]; simp))
      have Hv := hide hv
      rw [e.out]
      clear hv e hl
      go_enter Try.func27, Try.ntmps27
      go_wp2_with fail
      refine (validFloors_any _ _ _ _ _ hn Ha.out).mono ?_
      rintro e w' ⟨rfl, rfl⟩
      rw [Hv.out]
      go_wp2_with fail
      go_ret
      exact ⟨rfl, Below.refl _ _⟩
    · cases hi : inB a 0 15
      · have e := hide (show bestK zs a = 0 from if_neg (by rw [hi]; simp))
        have Hv := hide hv
        have Hi := hide hi
        rw [e.out]
        clear hv hi e hl
        go_enter Try.func27, Try.ntmps27
        go_wp2_with fail
        refine (validFloors_any _ _ _ _ _ hn Ha.out).mono ?_
        rintro e w' ⟨rfl, rfl⟩
        rw [Hv.out]
        go_wp2_with fail
        refine (validFloorF_any _ _).mono ?_
        rintro e w' ⟨rfl, rfl⟩
        rw [Hi.out]
        go_wp2_with fail
        go_ret
        exact ⟨rfl, Below.refl _ _⟩
      · have a0 := inB_iff.1 hi
        have e := hide (show bestK zs a = if bestW zs a (-1) < bestW zs a 1 then -1 else 1 from if_pos ⟨by omega, hv, hi⟩)
        rw [e.out]
        have hk : ∀ h, h = 1 ∨ h = -1 → sweepK zs a h = sweepL zs a h := fun h hh => sweepK_pos (vSw_iff.2 ⟨by omega, allB_iff.1 hv, a0, hh⟩)
        have hS : ∀ h w', (h = 1 ∨ h = -1) → Below w.heap.size w w' → Calls Try.prog 23 #[.slice A n c, .int .i64 a, .int .i64 h] w' (RetI w' (sweepL zs a h)) := fun h w' hh hb => by
          have hr : RdI w' .i64 A n zs := Rd.below Ha.out hb (Nat.le_refl _)
          have h1 := SweepOrder_i A n c zs a h w' hn hA hr; rw [hk h hh] at h1; exact h1
        have hW : ∀ h A2 n2 c2 w', (h = 1 ∨ h = -1) → RdI w' .i64 A2 n2 (sweepL zs a h) → Calls Try.prog 18 #[.slice A2 n2 c2, .int .i64 a] w' fun e w2 => e = .returned (.int .i64 (bestW zs a h : Int)) ∧ w' = w2 := fun h A2 n2 c2 w' hh hr => by
          have h2 : n2 ≤ 12 := by rw [← hr.len]; exact sweepL_len12 hl h12 a0 hh
          have h1 := WayOf_i A2 n2 c2 _ a w' (by omega) hr; rw [wayF_sweepL hl h12 a0 hh] at h1; exact h1
        have HS := hide hS
        have HW := hide hW
        have Hv := hide hv
        have Hi := hide hi
        clear hS hW hv hi e hl hk
        obtain ⟨d, hd⟩ : ∃ d, bestW zs a (-1) = d := ⟨_, rfl⟩
        obtain ⟨u, hu⟩ : ∃ u, bestW zs a 1 = u := ⟨_, rfl⟩
        rw [hd, hu]
        have Hd := hide hd
        have Hu := hide hu
        clear hd hu
        go_enter Try.func27, Try.ntmps27
        go_wp2_with fail
        refine (validFloors_any _ _ _ _ _ hn Ha.out).mono ?_
        rintro e w' ⟨rfl, rfl⟩
        rw [Hv.out]
        go_wp2_with fail
        refine (validFloorF_any _ _).mono ?_
        rintro e w' ⟨rfl, rfl⟩
        rw [Hi.out]
        go_wp2_with fail
        refine (HS.out (-1) _ (.inr rfl) (Below.refl _ _)).mono ?_
        rintro e w1 ⟨A1, n1, c1, rfl, ho, hb⟩
        have H1 := hide (And.intro (show RdI w1 .i64 A1 n1 (sweepL zs a (-1)) from Rd.of_own ho) hb)
        clear ho hb
        go_wp2_with fail
        refine (HW.out (-1) _ _ _ _ (.inr rfl) H1.out.1).mono ?_
        rintro e w' ⟨rfl, rfl⟩
        rw [Hd.out]
        go_wp2_with fail
        refine (HS.out 1 _ (.inl rfl) H1.out.2).mono ?_
        rintro e w2 ⟨A2, n2, c2, rfl, ho, hb⟩
        have H2 := hide (And.intro (show RdI w2 .i64 A2 n2 (sweepL zs a 1) from Rd.of_own ho) (H1.out.2.trans (hb.mono H1.out.2.size)))
        clear ho hb
        go_wp2_with fail
        refine (HW.out 1 _ _ _ _ (.inl rfl) H2.out.1).mono ?_
        rintro e w' ⟨rfl, rfl⟩
        rw [Hu.out]
        by_cases hdu : d < u
        · have hdu' : (d : Int) < (u : Int) := by omega
          go_wp2_with fail
          go_ret
          exact ⟨by simp [hdu], H2.out.2⟩
        · have hdu' : ¬ (d : Int) < (u : Int) := by omega
          go_wp2_with fail
          go_ret
          exact ⟨by simp [hdu], H2.out.2⟩
  · have h12' : (12 : Int) < (n : Int) := by omega
    have e := hide (show bestK zs a = 0 from if_neg (by omega))
    rw [e.out]
    clear e hl
    go_enter Try.func27, Try.ntmps27
    go_wp2_with fail
    go_ret
    exact ⟨rfl, Below.refl _ _⟩
set_option maxHeartbeats 2000000 in
theorem BestHeading_s (A : Option Addr) (n c : Nat) (zs : List Int) (a : Int) (m : Int) (w : World) (hn : n ≤ 1048576) (ha : RdI w .i64 A n zs) (hm : bestK zs a = m) :
    Calls Try.prog 26 #[.slice A n c, .int .i64 a] w fun e w' => e = .returned (.int .i64 m) ∧ Below w.heap.size w w' := by
  subst hm
  have hl := ha.len
  have Ha := hide ha
  clear ha
  by_cases h12 : n ≤ 12
  · have h12' : (n : Int) ≤ 12 := by omega
    cases hv : allB zs 0 15
    · have e := hide (show bestK zs a = 0 from if_neg (by rw [hv]; simp))
      have Hv := hide hv
      rw [e.out]
      clear hv e hl
      go_enter Try.func26, Try.ntmps26
      go_wp2_with fail
      refine (allIn_any _ _ _ _ _ _ _ hn Ha.out).mono ?_
      rintro e w' ⟨rfl, rfl⟩
      rw [Hv.out]
      go_wp2_with fail
      go_ret
      exact ⟨rfl, Below.refl _ _⟩
    · cases hi : inB a 0 15
      · have e := hide (show bestK zs a = 0 from if_neg (by rw [hi]; simp))
        have Hv := hide hv
        have Hi := hide hi
        rw [e.out]
        clear hv hi e hl
        go_enter Try.func26, Try.ntmps26
        go_wp2_with fail
        refine (allIn_any _ _ _ _ _ _ _ hn Ha.out).mono ?_
        rintro e w' ⟨rfl, rfl⟩
        rw [Hv.out]
        go_wp2_with fail
        refine (inRange_any _ _ _ _).mono ?_
        rintro e w' ⟨rfl, rfl⟩
        rw [Hi.out]
        go_wp2_with fail
        go_ret
        exact ⟨rfl, Below.refl _ _⟩
      · have a0 := inB_iff.1 hi
        have e := hide (show bestK zs a = if bestW zs a (-1) < bestW zs a 1 then -1 else 1 from if_pos ⟨by omega, hv, hi⟩)
        rw [e.out]
        have hk : ∀ h, h = 1 ∨ h = -1 → sweepK zs a h = sweepL zs a h := fun h hh => sweepK_pos (vSw_iff.2 ⟨by omega, allB_iff.1 hv, a0, hh⟩)
        have hS : ∀ h w', (h = 1 ∨ h = -1) → Below w.heap.size w w' → Calls Try.prog 42 #[.slice A n c, .int .i64 a, .int .i64 h] w' (RetI w' (sweepL zs a h)) := fun h w' hh hb => by
          have hr : RdI w' .i64 A n zs := Rd.below Ha.out hb (Nat.le_refl _)
          exact sweep_s A n c zs a h w' hn hr a0 hh
        have hW : ∀ h A2 n2 c2 w', (h = 1 ∨ h = -1) → RdI w' .i64 A2 n2 (sweepL zs a h) → Calls Try.prog 38 #[.slice A2 n2 c2, .int .i64 a] w' fun e w2 => e = .returned (.int .i64 (bestW zs a h : Int)) ∧ w' = w2 := fun h A2 n2 c2 w' hh hr => by
          have h2 : n2 ≤ 12 := by rw [← hr.len]; exact sweepL_len12 hl h12 a0 hh
          exact wayOf_s A2 n2 c2 _ a w' (by omega) hr (allB_sweepL a0 hh) a0.1 a0.2
        have HS := hide hS
        have HW := hide hW
        have Hv := hide hv
        have Hi := hide hi
        clear hS hW hv hi e hl hk
        obtain ⟨d, hd⟩ : ∃ d, bestW zs a (-1) = d := ⟨_, rfl⟩
        obtain ⟨u, hu⟩ : ∃ u, bestW zs a 1 = u := ⟨_, rfl⟩
        rw [hd, hu]
        have Hd := hide hd
        have Hu := hide hu
        clear hd hu
        go_enter Try.func26, Try.ntmps26
        go_wp2_with fail
        refine (allIn_any _ _ _ _ _ _ _ hn Ha.out).mono ?_
        rintro e w' ⟨rfl, rfl⟩
        rw [Hv.out]
        go_wp2_with fail
        refine (inRange_any _ _ _ _).mono ?_
        rintro e w' ⟨rfl, rfl⟩
        rw [Hi.out]
        go_wp2_with fail
        refine (HS.out (-1) _ (.inr rfl) (Below.refl _ _)).mono ?_
        rintro e w1 ⟨A1, n1, c1, rfl, ho, hb⟩
        have H1 := hide (And.intro (show RdI w1 .i64 A1 n1 (sweepL zs a (-1)) from Rd.of_own ho) hb)
        clear ho hb
        go_wp2_with fail
        refine (HW.out (-1) _ _ _ _ (.inr rfl) H1.out.1).mono ?_
        rintro e w' ⟨rfl, rfl⟩
        rw [Hd.out]
        go_wp2_with fail
        refine (HS.out 1 _ (.inl rfl) H1.out.2).mono ?_
        rintro e w2 ⟨A2, n2, c2, rfl, ho, hb⟩
        have H2 := hide (And.intro (show RdI w2 .i64 A2 n2 (sweepL zs a 1) from Rd.of_own ho) (H1.out.2.trans (hb.mono H1.out.2.size)))
        clear ho hb
        go_wp2_with fail
        refine (HW.out 1 _ _ _ _ (.inl rfl) H2.out.1).mono ?_
        rintro e w' ⟨rfl, rfl⟩
        rw [Hu.out]
        by_cases hdu : d < u
        · have hdu' : (d : Int) < (u : Int) := by omega
          go_wp2_with fail
          go_ret
          exact ⟨by simp [hdu], H2.out.2⟩
        · have hdu' : ¬ (d : Int) < (u : Int) := by omega
          go_wp2_with fail
          go_ret
          exact ⟨by simp [hdu], H2.out.2⟩
  · have h12' : (12 : Int) < (n : Int) := by omega
    have e := hide (show bestK zs a = 0 from if_neg (by omega))
    rw [e.out]
    clear e hl
    go_enter Try.func26, Try.ntmps26
    go_wp2_with fail
    go_ret
    exact ⟨rfl, Below.refl _ _⟩
end Go.Proofs.Ytebflmbfgjbipaa
