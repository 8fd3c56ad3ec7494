/-
  SweepOrder, of the program and of the specification.
-/
import Derived.Test.YtebflmbfgjbipaaSweepI
namespace Go.Proofs.Ytebflmbfgjbipaa
open Go.Shelf Go.RowKit Go.Lib Go.Sort
set_option linter.unusedSimpArgs false
set_option linter.unusedVariables false

theorem vSw_no1 {zs : List Int} {a h : Int} (h1 : ¬ zs.length ≤ 12) : sweepK zs a h = [] := sweepK_neg (by unfold vSw; simp [h1])
theorem vSw_no2 {zs : List Int} {a h : Int} (h1 : allB zs 0 15 = false) : sweepK zs a h = [] := sweepK_neg (by unfold vSw; simp [h1])
theorem vSw_no3 {zs : List Int} {a h : Int} (h1 : inB a 0 15 = false) : sweepK zs a h = [] := sweepK_neg (by unfold vSw; simp [h1])
theorem vSw_no4 {zs : List Int} {a h : Int} (h1 : ¬ (h = 1 ∨ h = -1)) : sweepK zs a h = [] := sweepK_neg (by unfold vSw; simp; intro _ _ _; exact ⟨fun e => h1 (.inl e), fun e => h1 (.inr e)⟩)
theorem ret_nil (w : World) : RetI w [] (.returned (.slice none 0 0)) w := ⟨none, 0, 0, rfl, World.ownsRow_nil _ _ _ _, Below.refl _ _⟩
theorem sweepO_cases {n : Nat} {zs : List Int} (hl : zs.length = n) (a h : Int) :
    (12 < n ∧ sweepK zs a h = []) ∨ (n ≤ 12 ∧ allB zs 0 15 = false ∧ sweepK zs a h = []) ∨ (n ≤ 12 ∧ allB zs 0 15 = true ∧ inB a 0 15 = false ∧ sweepK zs a h = []) ∨
    (n ≤ 12 ∧ allB zs 0 15 = true ∧ inB a 0 15 = true ∧ h ≠ 1 ∧ h ≠ -1 ∧ sweepK zs a h = []) ∨ (n ≤ 12 ∧ allB zs 0 15 = true ∧ inB a 0 15 = true ∧ (h = 1 ∨ h = -1) ∧ sweepK zs a h = sweepL zs a h) := by
  by_cases h12 : n ≤ 12
  · cases hv : allB zs 0 15
    · exact .inr (.inl ⟨h12, rfl, vSw_no2 hv⟩)
    · cases hi : inB a 0 15
      · exact .inr (.inr (.inl ⟨h12, rfl, rfl, vSw_no3 hi⟩))
      · by_cases hh : h = 1 ∨ h = -1
        · exact .inr (.inr (.inr (.inr ⟨h12, rfl, rfl, hh, sweepK_pos (by unfold vSw; rw [hv, hi]; simp; exact ⟨by omega, hh⟩)⟩)))
        · exact .inr (.inr (.inr (.inl ⟨h12, rfl, rfl, fun e => hh (.inl e), fun e => hh (.inr e), vSw_no4 hh⟩)))
  · exact .inl ⟨by omega, vSw_no1 (by omega)⟩


set_option maxHeartbeats 1000000 in
theorem SweepOrder_s (A : Option Addr) (n c : Nat) (zs : List Int) (a h : Int) (w : World) (hn : n ≤ 1048576) (ha : RdI w .i64 A n zs) :
    Calls Try.prog 22 #[.slice A n c, .int .i64 a, .int .i64 h] w (RetI w (sweepK zs a h)) := by
  have hcs := sweepO_cases ha.len a h
  have Ha := hide ha
  clear ha
  rcases hcs with ⟨h12, e⟩ | ⟨h12, hv, e⟩ | ⟨h12, hv, hi, e⟩ | ⟨h12, hv, hi, x1, x2, e⟩ | ⟨h12, hv, hi, hh, e⟩
  · have h12' : (12 : Int) < (n : Int) := by omega
    rw [e]
    go_enter Try.func22, Try.ntmps22
    go_wp2_with fail
    go_ret
    exact ret_nil w
  · have h12' : (n : Int) ≤ 12 := by omega
    have Hv := hide hv
    rw [e]
    clear hv e
    go_enter Try.func22, Try.ntmps22
    go_wp2_with fail
    refine (allIn_any _ _ _ _ _ _ _ hn Ha.out).mono ?_
    rintro e w' ⟨rfl, rfl⟩
    rw [Hv.out]
    go_wp2_with fail
    go_ret
    exact ret_nil w
  · have h12' : (n : Int) ≤ 12 := by omega
    have Hv := hide hv
    have Hi := hide hi
    rw [e]
    clear hv hi e
    go_enter Try.func22, Try.ntmps22
    go_wp2_with fail
    refine (allIn_any _ _ _ _ _ _ _ hn Ha.out).mono ?_
    rintro e w' ⟨rfl, rfl⟩
    rw [Hv.out]
    go_wp2_with fail
    refine (inRange_any _ _ _ _).mono ?_
    rintro e w' ⟨rfl, rfl⟩
    rw [Hi.out]
    go_wp2_with fail
    go_ret
    exact ret_nil w
  · have h12' : (n : Int) ≤ 12 := by omega
    have Hv := hide hv
    have Hi := hide hi
    have hb1 : (h != 1) = true := by simpa using x1
    have hb2 : (h != -1) = true := by simpa using x2
    rw [e]
    clear hv hi e x1 x2
    go_enter Try.func22, Try.ntmps22
    go_wp2_with fail
    refine (allIn_any _ _ _ _ _ _ _ hn Ha.out).mono ?_
    rintro e w' ⟨rfl, rfl⟩
    rw [Hv.out]
    go_wp2_with fail
    refine (inRange_any _ _ _ _).mono ?_
    rintro e w' ⟨rfl, rfl⟩
    rw [Hi.out]
    go_wp2_with fail
    go_ret
    exact ret_nil w
  · skip
    have h12' : (n : Int) ≤ 12 := by omega
    have a0 := inB_iff.1 hi
    have Hv := hide hv
    have Hi := hide hi
    have E := hide e
    rw [E.out]
    clear hv hi e
    have K := hide (sweep_s A n c zs a h w hn Ha.out a0 hh)
    rcases hh with rfl | rfl
    all_goals
      go_enter Try.func22, Try.ntmps22
      go_wp2_with fail
      refine (allIn_any _ _ _ _ _ _ _ hn Ha.out).mono ?_
      rintro e w' ⟨rfl, rfl⟩
      rw [Hv.out]
      go_wp2_with fail
      refine (inRange_any _ _ _ _).mono ?_
      rintro e w' ⟨rfl, rfl⟩
      rw [Hi.out]
      go_wp2_with fail
      refine K.out.mono ?_
      rintro e w2 ⟨A2, n2, c2, rfl, ho, hb⟩
      have HF := hide (And.intro ho hb)
      clear ho hb
      go_wp2_with fail
      go_ret
      exact ⟨_, _, _, rfl, HF.out.1, HF.out.2⟩

/-- The address of a slice: none only if it has no element. -/
def Sl (A : Option Addr) (n : Nat) : Prop := (A = none ∨ ∃ b off, A = some ⟨b, off, none⟩) ∧ (A = none → n = 0)
theorem Sl.of_own {w : World} {base : Nat} {e : TypeId} {size n c : Nat} {A : Option Addr} {xs : List Value} (h : w.ownsRow base e size (.slice A n c) n xs) : Sl A n := by
  rcases h.2 with ⟨h1, h2⟩ | ⟨g, cap, cur, hv, _⟩
  · injection h1 with a b d
    exact ⟨.inl a, fun _ => h2⟩
  · injection hv with a b d
    subst a
    exact ⟨.inr ⟨g, 0, rfl⟩, fun h => by cases h⟩
theorem flo_len (zs : List Int) : (flo zs).length ≤ 16 := Nat.le_trans (List.length_filter_le _ _) (by decide)
set_option maxHeartbeats 2000000 in
theorem SweepOrder_up (b off n c : Nat) (zs : List Int) (a : Int) (w : World) (hn : n ≤ 1048576) (ha : RdI w .i64 (some ⟨b, off, none⟩) n zs) (h12 : n ≤ 12) (hv : allB zs 0 15 = true) (hi : inB a 0 15 = true) :
    Calls Try.prog 23 #[.slice (some ⟨b, off, none⟩) n c, .int .i64 a, .int .i64 1] w (RetI w (sweepL zs a 1)) := by
  obtain ⟨i0, hi0, iz0, iz1, iz2⟩ := info_parts int_info
  have h12' : (n : Int) ≤ 12 := by omega
  have a0 := inB_iff.1 hi
  have Ha := hide ha
  have Hv := hide hv
  have Hi := hide hi
  have hD : Lib.compact (zs.mergeSort fun x y => decide (x ≤ y)) = flo zs := compact_flo zs _ (List.mergeSort_perm _ _) (by
    have := List.pairwise_mergeSort (le := fun x y : Int => decide (x ≤ y)) (by intro x y z; simp; omega) (by intro x y; simp; omega) zs
    exact List.pairwise_iff_getElem.2 fun i j hi hj hij => of_decide_eq_true (List.pairwise_iff_getElem.1 this i j hi hj hij)) hv
  have hsw := sweepL_up zs a
  have hcut := asc_cut a (flo zs) (asc_flo zs)
  rw [← hcut.1, ← hcut.2] at hsw
  have hfl := flo_len zs
  have hcl : (flo zs).countP (fun x => decide (x < a)) ≤ (flo zs).length := List.countP_le_length
  have hasc := asc_flo zs
  rw [hsw]
  have HD := hide hD
  have Hasc := hide hasc
  clear hcut hsw hD ha hv hi hasc
  obtain ⟨D, hDD⟩ : ∃ D, flo zs = D := ⟨_, rfl⟩
  rw [hDD] at HD Hasc hfl hcl ⊢
  clear hDD
  obtain ⟨m, hm⟩ : ∃ m, D.countP (fun x => decide (x < a)) = m := ⟨_, rfl⟩
  rw [hm] at hcl ⊢
  have Hm := hide hm
  clear hm
  obtain ⟨k, hk⟩ : ∃ k, D.length = k := ⟨_, rfl⟩
  rw [hk] at hcl hfl
  have Hk := hide hk
  clear hk
  go_enter Try.func23, Try.ntmps23
  go_wp2_with fail
  refine (validFloors_any _ _ _ _ _ hn Ha.out).mono ?_
  rintro e w' ⟨rfl, rfl⟩
  rw [Hv.out]
  go_wp2_with fail
  refine (validFloorF_any _ _).mono ?_
  rintro e w' ⟨rfl, rfl⟩
  rw [Hi.out]
  go_wp2_with fail
  refine (CloneI_some b off n c zs _ hn Ha.out).mono ?_
  rintro e w1 ⟨g, cap, rfl, hg, ho1, hb1⟩
  have H1 := hide (And.intro ho1 hb1)
  clear ho1 hb1
  go_wp2_with fail
  refine (SortI_some _ g n cap zs _ hn H1.out.1).mono ?_
  rintro e w2 ⟨rfl, ho2, hgr2⟩
  have H2 := hide (And.intro ho2 (H1.out.2.grown hgr2 H1.out.2.size (by intro j hj; cases hj; exact hg)))
  clear ho2 hgr2 H1
  go_wp2_with fail
  refine (CompactI_some _ g n cap _ _ hn H2.out.1).mono ?_
  rintro e w3 ⟨rfl, ho3, hgr3⟩
  rw [HD.out, Hk.out] at ho3
  rw [HD.out, Hk.out]
  have H3 := hide (And.intro ho3 (H2.out.2.grown hgr3 H2.out.2.size (by intro j hj; cases hj; exact hg)))
  have hgl : g < w3.heap.size ∧ k ≤ cap := by
    rcases ho3.2 with ⟨e0, _⟩ | ⟨g', cap', cur, e0, _, hgg, hn', _⟩
    · cases e0
    · cases e0
      exact ⟨(Array.getElem?_eq_some_iff.1 hgg).1, hn'⟩
  obtain ⟨hgl, hkc⟩ := hgl
  clear ho3 hgr3 H2
  go_wp2_with fail
  refine (SearchI_some _ g k cap D a _ (by omega) H3.out.1 Hasc.out).mono ?_
  rintro e w4 ⟨bb, rfl, q, rfl⟩
  rw [Hm.out]
  have H4 := hide (show (w3.drewN q).ownsRow w.heap.size 3 1 (.slice (some ⟨g, 0, none⟩) k cap) k (D.map (Value.int .i64)) ∧ Below w.heap.size w (w3.drewN q) from ⟨own_drewN H3.out.1 _, below_drewN H3.out.2 _⟩)
  have hgl4 : g < (w3.drewN q).heap.size := hgl
  clear H3 hgl
  generalize w3.drewN q = w4 at *
  have mk : (m : Int) ≤ (k : Int) := by omega
  have mc : (m : Int) ≤ (cap : Int) := by omega
  have kc : (k : Int) ≤ (cap : Int) := by omega
  have hcells : ∀ j u, (D.map (Value.int .i64))[j]? = some u → w4.cell? ⟨g, 0 + j, none⟩ = some u := fun j u hu => by
    have h3 := H4.out.1.cells (g := g) rfl j u hu
    rw [Addr.add_lit] at h3
    exact h3
  have Hce := hide hcells
  clear hcells
  have FIN : Hid (∀ Av cv w5, w5.ownsRow w4.heap.size 3 1 (.slice Av (k - m) cv) (k - m) ((D.drop m).map (Value.int .i64)) → Below w4.heap.size w4 w5 →
      Calls Try.prog 47 #[.slice Av (k - m) cv, .slice (some ⟨g, 0, none⟩) m cap] w5 fun e w' => ∃ A' c', e = .returned (.slice A' (k) c') ∧ w'.ownsRow w.heap.size 3 1 (.slice A' (k) c') (k) ((D.drop m ++ (D.take m).reverse).map (Value.int .i64)) ∧ Below w.heap.size w w') := hide fun Av cv w5 ho hb => by
    have hz4 := H4.out.2.size
    have hM : RdI w5 .i64 (some ⟨g, 0, none⟩) m (D.take m) := Rd.below (RdI.take (Rd.of_own H4.out.1) m hcl) hb (Nat.le_refl _)
    have hAR := appendReversed_any w4.heap.size Av (some ⟨g, 0, none⟩) (k - m) cv m cap (D.drop m) (D.take m) w5 (by omega) hb.size ho hM (fun _ b off e => by cases e; exact hgl4)
    rw [show k - m + m = k by omega] at hAR
    refine hAR.mono ?_
    rintro e w' ⟨A', c', rfl, ho2, hb2⟩
    exact ⟨A', c', rfl, own_base ho2 hz4, H4.out.2.trans ((hb.trans hb2).mono hz4)⟩
  rcases Nat.lt_or_ge m cap with hmc | hmc
  · have mc2 : (m : Int) < (cap : Int) := by omega
    have mc3 : ¬ (cap : Int) ≤ (m : Int) := by omega
    go_wp2_with (at_builtin; refine wpList_append_own _ rfl (.tmp 46) (.tmp 49) _ rfl w4.heap.size 3 i0 (.int .i64 0) 1 8 Try.underlying22 hi0 iz0 iz1 iz2 rfl (by decide) _ _ _ rfl (World.ownsRow_nil _ _ _ _) _ (k - m) _ ((D.drop m).map (Value.int .i64)) rfl (by simp; have := Hk.out; omega) (fun j u hu => by rw [Addr.add_lit]; exact (by have h3 := Hce.out (m + j) u (by rw [List.map_drop, List.getElem?_drop] at hu; exact hu); rw [Nat.zero_add] at h3; exact h3)) (by intro u hu; (try cases hu; done); (try (obtain ⟨y, _, rfl⟩ := List.mem_map.1 hu; rfl))) (by unfold maxLen; omega) (by omega) (by omega) ?_; intro v5 w5 hown hgrow _)
    have hb5 : Below w4.heap.size w4 w5 := (Below.refl _ _).grown hgrow (Nat.le_refl _) (by intro j hj; cases hj)
    obtain ⟨Av, cv, rfl⟩ := own_form hown
    have hown2 : w5.ownsRow w4.heap.size 3 1 (.slice Av (k - m) cv) (k - m) ((D.drop m).map (Value.int .i64)) := by simpa using hown
    have H5 := hide (FIN.out Av cv w5 hown2 hb5)
    rw [Nat.zero_add]
    clear hown hgrow hb5 hown2 FIN
    go_wp2_with fail
    refine H5.out.mono ?_
    rintro e w6 ⟨A', c', rfl, ho2, hb2⟩
    have HF := hide (And.intro ho2 hb2)
    clear ho2 hb2
    go_wp2_with fail
    go_ret
    exact ⟨_, _, _, rfl, HF.out.1, HF.out.2⟩
  · obtain rfl : cap = m := by omega
    obtain rfl : k = cap := by omega
    have kk : ¬ (k : Int) < (k : Int) := by omega
    go_wp2_with (at_builtin; refine wpList_append_own _ rfl (.tmp 46) (.tmp 49) _ rfl w4.heap.size 3 i0 (.int .i64 0) 1 8 Try.underlying22 hi0 iz0 iz1 iz2 rfl (by decide) _ _ _ rfl (World.ownsRow_nil _ _ _ _) _ 0 _ [] rfl rfl (fun j u hu => by cases hu) (by intro u hu; cases hu) (by unfold maxLen; omega) (by omega) (by omega) ?_; intro v5 w5 hown hgrow _)
    have hb5 : Below w4.heap.size w4 w5 := (Below.refl _ _).grown hgrow (Nat.le_refl _) (by intro j hj; cases hj)
    obtain ⟨Av, cv, rfl⟩ := own_form hown
    have hown2 : w5.ownsRow w4.heap.size 3 1 (.slice Av (k - k) cv) (k - k) ((D.drop k).map (Value.int .i64)) := by rw [Nat.sub_self, List.drop_of_length_le (by have := Hk.out; omega)]; simpa using hown
    have H5 := hide (FIN.out Av cv w5 hown2 hb5)
    rw [Nat.zero_add]
    rw [Nat.sub_self] at H5
    clear hown hgrow hb5 hown2 FIN
    go_wp2_with fail
    refine H5.out.mono ?_
    rintro e w6 ⟨A', c', rfl, ho2, hb2⟩
    have HF := hide (And.intro ho2 hb2)
    clear ho2 hb2
    go_wp2_with fail
    go_ret
    exact ⟨_, _, _, rfl, HF.out.1, HF.out.2⟩
set_option maxHeartbeats 2000000 in
theorem SweepOrder_down (b off n c : Nat) (zs : List Int) (a : Int) (w : World) (hn : n ≤ 1048576) (ha : RdI w .i64 (some ⟨b, off, none⟩) n zs) (h12 : n ≤ 12) (hv : allB zs 0 15 = true) (hi : inB a 0 15 = true) :
    Calls Try.prog 23 #[.slice (some ⟨b, off, none⟩) n c, .int .i64 a, .int .i64 (-1)] w (RetI w (sweepL zs a (-1))) := by
  obtain ⟨i0, hi0, iz0, iz1, iz2⟩ := info_parts int_info
  have h12' : (n : Int) ≤ 12 := by omega
  have a0 := inB_iff.1 hi
  have Ha := hide ha
  have Hv := hide hv
  have Hi := hide hi
  have hD : Lib.compact (zs.mergeSort fun x y => decide (x ≤ y)) = flo zs := compact_flo zs _ (List.mergeSort_perm _ _) (by
    have := List.pairwise_mergeSort (le := fun x y : Int => decide (x ≤ y)) (by intro x y z; simp; omega) (by intro x y; simp; omega) zs
    exact List.pairwise_iff_getElem.2 fun i j hi hj hij => of_decide_eq_true (List.pairwise_iff_getElem.1 this i j hi hj hij)) hv
  have hsw := sweepL_down zs a
  have hcut := asc_cut (a + 1) (flo zs) (asc_flo zs)
  rw [← hcut.1, ← hcut.2] at hsw
  have hfl := flo_len zs
  have hcl : (flo zs).countP (fun x => decide (x < a + 1)) ≤ (flo zs).length := List.countP_le_length
  have hasc := asc_flo zs
  rw [hsw]
  have HD := hide hD
  have Hasc := hide hasc
  clear hcut hsw hD ha hv hi hasc
  obtain ⟨D, hDD⟩ : ∃ D, flo zs = D := ⟨_, rfl⟩
  rw [hDD] at HD Hasc hfl hcl ⊢
  clear hDD
  obtain ⟨m, hm⟩ : ∃ m, D.countP (fun x => decide (x < a + 1)) = m := ⟨_, rfl⟩
  rw [hm] at hcl ⊢
  have Hm := hide hm
  clear hm
  obtain ⟨k, hk⟩ : ∃ k, D.length = k := ⟨_, rfl⟩
  rw [hk] at hcl hfl
  have Hk := hide hk
  clear hk
  go_enter Try.func23, Try.ntmps23
  go_wp2_with fail
  refine (validFloors_any _ _ _ _ _ hn Ha.out).mono ?_
  rintro e w' ⟨rfl, rfl⟩
  rw [Hv.out]
  go_wp2_with fail
  refine (validFloorF_any _ _).mono ?_
  rintro e w' ⟨rfl, rfl⟩
  rw [Hi.out]
  go_wp2_with fail
  refine (CloneI_some b off n c zs _ hn Ha.out).mono ?_
  rintro e w1 ⟨g, cap, rfl, hg, ho1, hb1⟩
  have H1 := hide (And.intro ho1 hb1)
  clear ho1 hb1
  go_wp2_with fail
  refine (SortI_some _ g n cap zs _ hn H1.out.1).mono ?_
  rintro e w2 ⟨rfl, ho2, hgr2⟩
  have H2 := hide (And.intro ho2 (H1.out.2.grown hgr2 H1.out.2.size (by intro j hj; cases hj; exact hg)))
  clear ho2 hgr2 H1
  go_wp2_with fail
  refine (CompactI_some _ g n cap _ _ hn H2.out.1).mono ?_
  rintro e w3 ⟨rfl, ho3, hgr3⟩
  rw [HD.out, Hk.out] at ho3
  rw [HD.out, Hk.out]
  have H3 := hide (And.intro ho3 (H2.out.2.grown hgr3 H2.out.2.size (by intro j hj; cases hj; exact hg)))
  have hgl : g < w3.heap.size ∧ k ≤ cap := by
    rcases ho3.2 with ⟨e0, _⟩ | ⟨g', cap', cur, e0, _, hgg, hn', _⟩
    · cases e0
    · cases e0
      exact ⟨(Array.getElem?_eq_some_iff.1 hgg).1, hn'⟩
  obtain ⟨hgl, hkc⟩ := hgl
  clear ho3 hgr3 H2
  go_wp2_with fail
  refine (SearchI_some _ g k cap D (a + 1) _ (by omega) H3.out.1 Hasc.out).mono ?_
  rintro e w4 ⟨bb, rfl, q, rfl⟩
  rw [Hm.out]
  have H4 := hide (show (w3.drewN q).ownsRow w.heap.size 3 1 (.slice (some ⟨g, 0, none⟩) k cap) k (D.map (Value.int .i64)) ∧ Below w.heap.size w (w3.drewN q) from ⟨own_drewN H3.out.1 _, below_drewN H3.out.2 _⟩)
  have hgl4 : g < (w3.drewN q).heap.size := hgl
  clear H3 hgl
  generalize w3.drewN q = w4 at *
  have mk : (m : Int) ≤ (k : Int) := by omega
  have mc : (m : Int) ≤ (cap : Int) := by omega
  have kc : (k : Int) ≤ (cap : Int) := by omega
  have hcells : ∀ j u, (D.map (Value.int .i64))[j]? = some u → w4.cell? ⟨g, 0 + j, none⟩ = some u := fun j u hu => by
    have h3 := H4.out.1.cells (g := g) rfl j u hu
    rw [Addr.add_lit] at h3
    exact h3
  have Hce := hide hcells
  clear hcells
  go_wp2_with fail
  have hz4 := H4.out.2.size
  have hAR := appendReversed_any w4.heap.size none (some ⟨g, 0, none⟩) 0 0 m cap [] (D.take m) w4 (by omega) (Nat.le_refl _) (World.ownsRow_nil _ _ _ _) (RdI.take (Rd.of_own H4.out.1) m hcl) (fun _ b off e => by cases e; exact hgl4)
  rw [Nat.zero_add, List.nil_append] at hAR
  have HAR := hide hAR
  clear hAR
  refine HAR.out.mono ?_
  rintro e w5 ⟨A5, c5, rfl, ho5, hb5⟩
  have hzz := hb5.size
  have H5 := hide (And.intro ho5 hb5)
  clear ho5 hb5 HAR
  rcases Nat.lt_or_ge m cap with hmc | hmc
  · have mc2 : (m : Int) < (cap : Int) := by omega
    have mc3 : ¬ (cap : Int) ≤ (m : Int) := by omega
    go_wp2_with (at_builtin; refine wpList_append_own _ rfl (.tmp 68) (.tmp 71) _ rfl w4.heap.size 3 i0 (.int .i64 0) 1 8 Try.underlying22 hi0 iz0 iz1 iz2 rfl (by decide) _ _ _ rfl H5.out.1 _ (k - m) _ ((D.drop m).map (Value.int .i64)) rfl (by simp; have := Hk.out; omega) (fun j u hu => by rw [Addr.add_lit]; exact (by have h3 := Hce.out (m + j) u (by rw [List.map_drop, List.getElem?_drop] at hu; exact hu); rw [Nat.zero_add] at h3; exact (H5.out.2.cell (p := ⟨g, m + j, none⟩) hgl4).trans h3)) (by intro u hu; obtain ⟨y, _, rfl⟩ := List.mem_map.1 hu; rfl) (by unfold maxLen; omega) (by omega) (by omega) ?_; intro v6 w6 hown hgrow _)
    have hb6 : Below w4.heap.size w4 w6 := H5.out.2.grown hgrow hzz (fun j hj => (H5.out.1.lt j hj).1)
    obtain ⟨Av, cv, rfl⟩ := own_form hown
    rw [show m + (k - m) = k by omega] at hown ⊢
    have HF := hide (show w6.ownsRow w.heap.size 3 1 (.slice Av k cv) k (((D.take m).reverse ++ D.drop m).map (Value.int .i64)) ∧ Below w.heap.size w w6 from ⟨by rw [List.map_append]; exact own_base hown hz4, H4.out.2.trans (hb6.mono hz4)⟩)
    clear hown hgrow hb6
    go_wp2_with fail
    go_ret
    exact ⟨_, _, _, rfl, HF.out.1, HF.out.2⟩
  · obtain rfl : cap = m := by omega
    obtain rfl : k = cap := by omega
    have kk : ¬ (k : Int) < (k : Int) := by omega
    go_wp2_with (at_builtin; refine wpList_append_own _ rfl (.tmp 68) (.tmp 71) _ rfl w4.heap.size 3 i0 (.int .i64 0) 1 8 Try.underlying22 hi0 iz0 iz1 iz2 rfl (by decide) _ _ _ rfl H5.out.1 _ 0 _ [] rfl rfl (fun j u hu => by cases hu) (by intro u hu; cases hu) (by unfold maxLen; omega) (by omega) (by omega) ?_; intro v6 w6 hown hgrow _)
    have hb6 : Below w4.heap.size w4 w6 := H5.out.2.grown hgrow hzz (fun j hj => (H5.out.1.lt j hj).1)
    obtain ⟨Av, cv, rfl⟩ := own_form hown
    have HF := hide (show w6.ownsRow w.heap.size 3 1 (.slice Av k cv) k (((D.take k).reverse ++ D.drop k).map (Value.int .i64)) ∧ Below w.heap.size w w6 from ⟨by rw [List.drop_of_length_le (by have := Hk.out; omega), List.append_nil]; exact own_base (by simpa using hown) hz4, H4.out.2.trans (hb6.mono hz4)⟩)
    clear hown hgrow hb6
    rw [Nat.add_zero]
    go_wp2_with fail
    go_ret
    exact ⟨_, _, _, rfl, HF.out.1, HF.out.2⟩
theorem sweepL_nil (a h : Int) : sweepL [] a h = [] := by
  unfold sweepL
  rw [List.filter_eq_nil_iff]
  intro x _
  simp
set_option maxHeartbeats 1000000 in
theorem SweepOrder_nilUp (c : Nat) (a : Int) (w : World) (ha : RdI w .i64 none 0 []) (hi : inB a 0 15 = true) :
    Calls Try.prog 23 #[.slice none 0 c, .int .i64 a, .int .i64 1] w (RetI w []) := by
  have a0 := inB_iff.1 hi
  have Ha := hide ha
  have Hi := hide hi
  have Hv := hide (show allB [] 0 15 = true from rfl)
  obtain ⟨i0, hi0, iz0, iz1, iz2⟩ := info_parts int_info
  have HAR := hide (fun (q : Nat) => appendReversed_any w.heap.size none none 0 0 0 0 [] [] (w.drewN q) (by decide) (Nat.le_refl _) (World.ownsRow_nil _ _ _ _) (show RdI (w.drewN q) .i64 none 0 [] from Rd.drewN Ha.out q) (fun h => absurd h (by decide)))
  clear ha hi
  go_enter Try.func23, Try.ntmps23
  go_wp2_with fail
  refine (validFloors_any _ _ _ _ _ (Nat.zero_le _) Ha.out).mono ?_
  rintro e w' ⟨rfl, rfl⟩
  rw [Hv.out]
  go_wp2_with fail
  refine (validFloorF_any _ _).mono ?_
  rintro e w' ⟨rfl, rfl⟩
  rw [Hi.out]
  go_wp2_with fail
  refine (CloneI_nil 0 c _).mono ?_
  rintro e w1 ⟨rfl, rfl⟩
  go_wp2_with fail
  refine (SortI_nil 0 _).mono ?_
  rintro e w1 ⟨rfl, rfl⟩
  go_wp2_with fail
  refine (CompactI_nil 0 _).mono ?_
  rintro e w1 ⟨rfl, rfl⟩
  go_wp2_with fail
  refine (SearchI_nil 0 _ _).mono ?_
  rintro e w4 ⟨rfl, q, rfl⟩
  go_wp2_with fail
  go_wp2_with (at_builtin; refine wpList_append_own_none rfl (.tmp 46) (.tmp 49) _ rfl w1.heap.size 3 i0 1 Try.underlying22 hi0 _ _ _ rfl (World.ownsRow_nil _ _ _ _) rfl ?_)
  refine (HAR.out q).mono ?_
  rintro e w5 ⟨A5, c5, rfl, ho5, hb5⟩
  have H5 := hide (And.intro ho5 (Below.trans (below_drewN (Below.refl _ _) q) hb5))
  clear ho5 hb5
  go_wp2_with fail
  go_ret
  exact ⟨_, _, _, rfl, H5.out.1, H5.out.2⟩
set_option maxHeartbeats 1000000 in
theorem SweepOrder_nilDown (c : Nat) (a : Int) (w : World) (ha : RdI w .i64 none 0 []) (hi : inB a 0 15 = true) :
    Calls Try.prog 23 #[.slice none 0 c, .int .i64 a, .int .i64 (-1)] w (RetI w []) := by
  have a0 := inB_iff.1 hi
  have Ha := hide ha
  have Hi := hide hi
  have Hv := hide (show allB [] 0 15 = true from rfl)
  obtain ⟨i0, hi0, iz0, iz1, iz2⟩ := info_parts int_info
  have HAR := hide (fun (q : Nat) => appendReversed_any w.heap.size none none 0 0 0 0 [] [] (w.drewN q) (by decide) (Nat.le_refl _) (World.ownsRow_nil _ _ _ _) (show RdI (w.drewN q) .i64 none 0 [] from Rd.drewN Ha.out q) (fun h => absurd h (by decide)))
  clear ha hi
  go_enter Try.func23, Try.ntmps23
  go_wp2_with fail
  refine (validFloors_any _ _ _ _ _ (Nat.zero_le _) Ha.out).mono ?_
  rintro e w' ⟨rfl, rfl⟩
  rw [Hv.out]
  go_wp2_with fail
  refine (validFloorF_any _ _).mono ?_
  rintro e w' ⟨rfl, rfl⟩
  rw [Hi.out]
  go_wp2_with fail
  refine (CloneI_nil 0 c _).mono ?_
  rintro e w1 ⟨rfl, rfl⟩
  go_wp2_with fail
  refine (SortI_nil 0 _).mono ?_
  rintro e w1 ⟨rfl, rfl⟩
  go_wp2_with fail
  refine (CompactI_nil 0 _).mono ?_
  rintro e w1 ⟨rfl, rfl⟩
  go_wp2_with fail
  refine (SearchI_nil 0 _ _).mono ?_
  rintro e w4 ⟨rfl, q, rfl⟩
  go_wp2_with fail
  refine (HAR.out q).mono ?_
  rintro e w5 ⟨A5, c5, rfl, ho5, hb5⟩
  have H5 := hide (And.intro ho5 (Below.trans (below_drewN (Below.refl _ _) q) hb5))
  clear ho5 hb5
  go_wp2_with (at_builtin; refine wpList_append_own_none rfl (.tmp 68) (.tmp 71) _ rfl w1.heap.size 3 i0 1 Try.underlying22 hi0 _ _ _ rfl H5.out.1 rfl ?_)
  go_ret
  exact ⟨_, _, _, rfl, H5.out.1, H5.out.2⟩
/-- The program's SweepOrder. -/
theorem SweepOrder_i (A : Option Addr) (n c : Nat) (zs : List Int) (a h : Int) (w : World) (hn : n ≤ 1048576) (hA : Sl A n) (ha : RdI w .i64 A n zs) :
    Calls Try.prog 23 #[.slice A n c, .int .i64 a, .int .i64 h] w (RetI w (sweepK zs a h)) := by
  have hcs := sweepO_cases ha.len a h
  have Ha := hide ha
  clear ha
  rcases hcs with ⟨h12, e⟩ | ⟨h12, hv, e⟩ | ⟨h12, hv, hi, e⟩ | ⟨h12, hv, hi, x1, x2, e⟩ | ⟨h12, hv, hi, hh, e⟩
  · have h12' : (12 : Int) < (n : Int) := by omega
    rw [e]
    go_enter Try.func23, Try.ntmps23
    go_wp2_with fail
    go_ret
    exact ret_nil w
  · have h12' : (n : Int) ≤ 12 := by omega
    have Hv := hide hv
    rw [e]
    clear hv e
    go_enter Try.func23, Try.ntmps23
    go_wp2_with fail
    refine (validFloors_any _ _ _ _ _ hn Ha.out).mono ?_
    rintro e w' ⟨rfl, rfl⟩
    rw [Hv.out]
    go_wp2_with fail
    go_ret
    exact ret_nil w
  · have h12' : (n : Int) ≤ 12 := by omega
    have Hv := hide hv
    have Hi := hide hi
    rw [e]
    clear hv hi e
    go_enter Try.func23, Try.ntmps23
    go_wp2_with fail
    refine (validFloors_any _ _ _ _ _ hn Ha.out).mono ?_
    rintro e w' ⟨rfl, rfl⟩
    rw [Hv.out]
    go_wp2_with fail
    refine (validFloorF_any _ _).mono ?_
    rintro e w' ⟨rfl, rfl⟩
    rw [Hi.out]
    go_wp2_with fail
    go_ret
    exact ret_nil w
  · have h12' : (n : Int) ≤ 12 := by omega
    have Hv := hide hv
    have Hi := hide hi
    have hb1 : (h != 1) = true := by simpa using x1
    have hb2 : (h != -1) = true := by simpa using x2
    rw [e]
    clear hv hi e x1 x2
    go_enter Try.func23, Try.ntmps23
    go_wp2_with fail
    refine (validFloors_any _ _ _ _ _ hn Ha.out).mono ?_
    rintro e w' ⟨rfl, rfl⟩
    rw [Hv.out]
    go_wp2_with fail
    refine (validFloorF_any _ _).mono ?_
    rintro e w' ⟨rfl, rfl⟩
    rw [Hi.out]
    go_wp2_with fail
    go_ret
    exact ret_nil w
  · rw [e]
    obtain ⟨hA1, hA0⟩ := hA
    rcases hA1 with rfl | ⟨b, off, rfl⟩
    · have hz := hA0 rfl
      subst hz
      have hzs : zs = [] := List.eq_nil_of_length_eq_zero (RdI.len Ha.out)
      subst hzs
      rw [sweepL_nil]
      rcases hh with rfl | rfl
      · exact SweepOrder_nilUp c a w Ha.out hi
      · exact SweepOrder_nilDown c a w Ha.out hi
    · rcases hh with rfl | rfl
      · exact SweepOrder_up b off n c zs a w hn Ha.out h12 hv hi
      · exact SweepOrder_down b off n c zs a w hn Ha.out h12 hv hi
end Go.Proofs.Ytebflmbfgjbipaa
