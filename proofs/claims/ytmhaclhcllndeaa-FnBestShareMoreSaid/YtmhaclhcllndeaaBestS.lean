/-
  The best share: the reference's walk.
-/
import Derived.Test.YtmhaclhcllndeaaBestP
import Derived.Test.YtmhaclhcllndeaaGreedyS
namespace Go.Proofs.Ytmhaclhcllndeaa
open Go.RowKit
set_option linter.unusedSimpArgs false
set_option linter.unusedVariables false

theorem pow_le (k m : Nat) (hk : k ≤ 3) (hm : m ≤ 6) : k ^ m ≤ 729 :=
  Nat.le_trans (Nat.pow_le_pow_left hk m) (Nat.pow_le_pow_right (n := 3) (by omega) hm)
set_option maxHeartbeats 1000000 in
theorem power_any (k m P : Nat) (w : World) (hk : k ≤ 3) (hm : m ≤ 6) (hP : k ^ m = P) :
    Calls Try.prog 52 #[.int .i64 k, .int .i64 m] w fun e w' => e = .returned (.int .i64 (P : Nat)) ∧ w = w' := by
  have HP := hide hP
  clear hP
  go_enter Try.func52, Try.ntmps52
  go_wp2_with fail
  go_loop [5, 6] (fun ov i => ∃ j Q : Nat, j ≤ m ∧ i = .int .i64 j ∧ ov = .int .i64 (Q : Nat) ∧ Hid (k ^ j = Q)) (fun _ i => m - (intOf i).toNat)
  case atStart => exact ⟨0, 1, Nat.zero_le _, rfl, rfl, hide rfl⟩
  case round =>
    obtain ⟨j, Q, hj, rfl, rfl, HQ⟩ := hrel
    by_cases hlt : j < m
    · have hltz : (j : Int) < (m : Int) := by omega
      have h1 := pow_le k (j + 1) hk (by omega)
      obtain ⟨R, hR⟩ : ∃ R, k ^ (j + 1) = R := ⟨_, rfl⟩
      have hQR : Q * k = R := by rw [← HQ.out, ← hR, Nat.pow_succ]
      rw [hR] at h1
      have HR := hide hR
      have hqi : (Q : Int) * (k : Int) = (R : Int) := by rw [← hQR, Int.natCast_mul]
      have hw : IntKind.i64.wrap ((Q : Int) * (k : Int)) = (R : Int) := by rw [hqi]; exact IntWalk.i64_in _ (by omega)
      clear hR hQR hqi
      go_wp2_with fail
      go_round
      case rel => exact ⟨j + 1, R, by omega, by go_num, rfl, HR⟩
      case measure => simp [intOf]; omega
    · obtain rfl : j = m := by omega
      have HE := hide (show Q = P by rw [← HQ.out]; exact HP.out)
      go_wp2_with fail
      go_ret
      exact ⟨ret_int (by rw [HE.out]), rfl⟩
set_option maxHeartbeats 2000000 in
theorem digits_1 (n m : Nat) (w : World) (hn : n ≤ 1000) (hm : m ≤ 6) :
    Calls Try.prog 53 #[.int .i64 n, .int .i64 1, .int .i64 m] w (RetI w (dg 1 m n)) := by
  obtain ⟨i0, hi0, iz0, iz1, iz2⟩ := info_parts int_info
  go_enter Try.func53, Try.ntmps53
  go_wp2_with (at_make; refine wpList_make_full _ rfl _ _ 22 rfl w.heap.size 3 i0 (.int .i64 0) 1 Try.underlying22 hi0 iz0 iz1 _ _ _ _ m rfl rfl rfl rfl (by rw [iz2]; omega) (by unfold maxLen; omega) (Nat.le_refl _) ?_; intro w1 hown hgrow)
  have q1 : (madeCells (Value.cells (.int .i64 0)) (m * 1)).toList = List.replicate m (.int .i64 0) := by rw [Nat.mul_one]; exact toList_madeCells_one _ _
  rw [q1] at hown
  have hb := below_of_only hgrow (Nat.le_refl _) (by intro k hk; cases hk)
  have H1 := hide (And.intro hown hb)
  clear hown hgrow q1 hb
  go_wp2_with fail
  go_loopw [0, 8] (fun nv iv wr => ∃ (j r : Nat) (x : Int) (suf : List Int), j ≤ m ∧ iv = .int .i64 x ∧ x = (j : Int) - 1 ∧ nv = .int .i64 r ∧ r ≤ 1000 ∧ suf.length = m - j ∧ Hid (dg 1 m n = dg 1 j r ++ suf) ∧ Hid (wr.ownsRow w.heap.size 3 1 (.slice (some ⟨w.heap.size, 0, none⟩) m m) m ((List.replicate j 0 ++ suf).map (Value.int .i64))) ∧ Hid (Below w.heap.size w wr)) (fun _ iv _ => (intOf iv + 1).toNat)
  case atStart => exact ⟨m, n, _, [], Nat.le_refl _, rfl, by omega, rfl, hn, by simp, hide (by simp), hide (by simpa using H1.out.1), hide H1.out.2⟩
  case round =>
    obtain ⟨j, r, x, suf, hj, rfl, hx, rfl, hr, hsl, HD, HO, HB⟩ := hrel
    by_cases hj0 : j = 0
    · subst hj0
      obtain rfl : x = -1 := by omega
      clear hx hsl hj
      have HF := hide (show suf = dg 1 m n by rw [HD.out]; rfl)
      go_wp2_with fail
      go_ret
      exact ⟨_, _, _, rfl, by have h := HO.out; rw [List.replicate_zero, List.nil_append] at h; rw [← HF.out]; exact h, HB.out⟩
    · obtain ⟨j, rfl⟩ : ∃ j', j = j' + 1 := ⟨j - 1, by omega⟩
      obtain rfl : x = (j : Int) := by omega
      have hs := HO.out.stored j (.int .i64 0)
      rw [← List.map_set, show (List.replicate (j + 1) (0 : Int) ++ suf).set j 0 = List.replicate j 0 ++ (((r % 1 : Nat) : Int) :: suf) by
        rw [List.set_append_left _ _ (by simp), List.replicate_succ', List.set_append_right _ _ (by simp)]
        simp] at hs
      have hcell := HO.out.cellAt j (by omega)
      have hlen : ((List.replicate (j + 1) (0 : Int) ++ suf).map (Value.int .i64)).length = m := by simp [hsl]; omega
      obtain ⟨u, hu⟩ : ∃ u, ((List.replicate (j + 1) (0 : Int) ++ suf).map (Value.int .i64))[j]? = some u := ⟨_, List.getElem?_eq_getElem (by omega)⟩
      rw [hu] at hcell
      have hfr := HO.out.frozenAt j
      have Hs := hide hs
      have HD2 := hide (show dg 1 m n = dg 1 j (r / 1) ++ (((r % 1 : Nat) : Int) :: suf) by rw [HD.out]; simp [dg])
      have hjz : (j : Int) < (m : Int) := by omega
      have hj1 : (0 : Int) ≤ (j : Int) := by omega
      clear hs hu hlen hx hj0 HO
      go_wp2_with fail
      go_roundw
      case rel =>
        exact ⟨j, r / 1, _, _, by omega, rfl, by omega, int_eq (by omega), by omega, by simp [hsl]; omega, HD2, hide Hs.out.1, hide (Below.grown HB.out Hs.out.2 HB.out.size (by intro kk hk; cases hk; exact Nat.le_refl _))⟩
      case measure => first | (simp [intOf]; done) | (simp [intOf]; omega)
set_option maxHeartbeats 2000000 in
theorem digits_2 (n m : Nat) (w : World) (hn : n ≤ 1000) (hm : m ≤ 6) :
    Calls Try.prog 53 #[.int .i64 n, .int .i64 2, .int .i64 m] w (RetI w (dg 2 m n)) := by
  obtain ⟨i0, hi0, iz0, iz1, iz2⟩ := info_parts int_info
  go_enter Try.func53, Try.ntmps53
  go_wp2_with (at_make; refine wpList_make_full _ rfl _ _ 22 rfl w.heap.size 3 i0 (.int .i64 0) 1 Try.underlying22 hi0 iz0 iz1 _ _ _ _ m rfl rfl rfl rfl (by rw [iz2]; omega) (by unfold maxLen; omega) (Nat.le_refl _) ?_; intro w1 hown hgrow)
  have q1 : (madeCells (Value.cells (.int .i64 0)) (m * 1)).toList = List.replicate m (.int .i64 0) := by rw [Nat.mul_one]; exact toList_madeCells_one _ _
  rw [q1] at hown
  have hb := below_of_only hgrow (Nat.le_refl _) (by intro k hk; cases hk)
  have H1 := hide (And.intro hown hb)
  clear hown hgrow q1 hb
  go_wp2_with fail
  go_loopw [0, 8] (fun nv iv wr => ∃ (j r : Nat) (x : Int) (suf : List Int), j ≤ m ∧ iv = .int .i64 x ∧ x = (j : Int) - 1 ∧ nv = .int .i64 r ∧ r ≤ 1000 ∧ suf.length = m - j ∧ Hid (dg 2 m n = dg 2 j r ++ suf) ∧ Hid (wr.ownsRow w.heap.size 3 1 (.slice (some ⟨w.heap.size, 0, none⟩) m m) m ((List.replicate j 0 ++ suf).map (Value.int .i64))) ∧ Hid (Below w.heap.size w wr)) (fun _ iv _ => (intOf iv + 1).toNat)
  case atStart => exact ⟨m, n, _, [], Nat.le_refl _, rfl, by omega, rfl, hn, by simp, hide (by simp), hide (by simpa using H1.out.1), hide H1.out.2⟩
  case round =>
    obtain ⟨j, r, x, suf, hj, rfl, hx, rfl, hr, hsl, HD, HO, HB⟩ := hrel
    by_cases hj0 : j = 0
    · subst hj0
      obtain rfl : x = -1 := by omega
      clear hx hsl hj
      have HF := hide (show suf = dg 2 m n by rw [HD.out]; rfl)
      go_wp2_with fail
      go_ret
      exact ⟨_, _, _, rfl, by have h := HO.out; rw [List.replicate_zero, List.nil_append] at h; rw [← HF.out]; exact h, HB.out⟩
    · obtain ⟨j, rfl⟩ : ∃ j', j = j' + 1 := ⟨j - 1, by omega⟩
      obtain rfl : x = (j : Int) := by omega
      have hs := HO.out.stored j (.int .i64 ((r : Int) % 2))
      rw [← List.map_set, show (List.replicate (j + 1) (0 : Int) ++ suf).set j ((r : Int) % 2) = List.replicate j 0 ++ (((r % 2 : Nat) : Int) :: suf) by
        rw [List.set_append_left _ _ (by simp), List.replicate_succ', List.set_append_right _ _ (by simp)]
        simp] at hs
      have hcell := HO.out.cellAt j (by omega)
      have hlen : ((List.replicate (j + 1) (0 : Int) ++ suf).map (Value.int .i64)).length = m := by simp [hsl]; omega
      obtain ⟨u, hu⟩ : ∃ u, ((List.replicate (j + 1) (0 : Int) ++ suf).map (Value.int .i64))[j]? = some u := ⟨_, List.getElem?_eq_getElem (by omega)⟩
      rw [hu] at hcell
      have hfr := HO.out.frozenAt j
      have Hs := hide hs
      have HD2 := hide (show dg 2 m n = dg 2 j (r / 2) ++ (((r % 2 : Nat) : Int) :: suf) by rw [HD.out]; simp [dg])
      have hjz : (j : Int) < (m : Int) := by omega
      have hj1 : (0 : Int) ≤ (j : Int) := by omega
      clear hs hu hlen hx hj0 HO
      go_wp2_with fail
      go_roundw
      case rel =>
        exact ⟨j, r / 2, _, _, by omega, rfl, by omega, int_eq (by omega), by omega, by simp [hsl]; omega, HD2, hide Hs.out.1, hide (Below.grown HB.out Hs.out.2 HB.out.size (by intro kk hk; cases hk; exact Nat.le_refl _))⟩
      case measure => first | (simp [intOf]; done) | (simp [intOf]; omega)
set_option maxHeartbeats 2000000 in
theorem digits_3 (n m : Nat) (w : World) (hn : n ≤ 1000) (hm : m ≤ 6) :
    Calls Try.prog 53 #[.int .i64 n, .int .i64 3, .int .i64 m] w (RetI w (dg 3 m n)) := by
  obtain ⟨i0, hi0, iz0, iz1, iz2⟩ := info_parts int_info
  go_enter Try.func53, Try.ntmps53
  go_wp2_with (at_make; refine wpList_make_full _ rfl _ _ 22 rfl w.heap.size 3 i0 (.int .i64 0) 1 Try.underlying22 hi0 iz0 iz1 _ _ _ _ m rfl rfl rfl rfl (by rw [iz2]; omega) (by unfold maxLen; omega) (Nat.le_refl _) ?_; intro w1 hown hgrow)
  have q1 : (madeCells (Value.cells (.int .i64 0)) (m * 1)).toList = List.replicate m (.int .i64 0) := by rw [Nat.mul_one]; exact toList_madeCells_one _ _
  rw [q1] at hown
  have hb := below_of_only hgrow (Nat.le_refl _) (by intro k hk; cases hk)
  have H1 := hide (And.intro hown hb)
  clear hown hgrow q1 hb
  go_wp2_with fail
  go_loopw [0, 8] (fun nv iv wr => ∃ (j r : Nat) (x : Int) (suf : List Int), j ≤ m ∧ iv = .int .i64 x ∧ x = (j : Int) - 1 ∧ nv = .int .i64 r ∧ r ≤ 1000 ∧ suf.length = m - j ∧ Hid (dg 3 m n = dg 3 j r ++ suf) ∧ Hid (wr.ownsRow w.heap.size 3 1 (.slice (some ⟨w.heap.size, 0, none⟩) m m) m ((List.replicate j 0 ++ suf).map (Value.int .i64))) ∧ Hid (Below w.heap.size w wr)) (fun _ iv _ => (intOf iv + 1).toNat)
  case atStart => exact ⟨m, n, _, [], Nat.le_refl _, rfl, by omega, rfl, hn, by simp, hide (by simp), hide (by simpa using H1.out.1), hide H1.out.2⟩
  case round =>
    obtain ⟨j, r, x, suf, hj, rfl, hx, rfl, hr, hsl, HD, HO, HB⟩ := hrel
    by_cases hj0 : j = 0
    · subst hj0
      obtain rfl : x = -1 := by omega
      clear hx hsl hj
      have HF := hide (show suf = dg 3 m n by rw [HD.out]; rfl)
      go_wp2_with fail
      go_ret
      exact ⟨_, _, _, rfl, by have h := HO.out; rw [List.replicate_zero, List.nil_append] at h; rw [← HF.out]; exact h, HB.out⟩
    · obtain ⟨j, rfl⟩ : ∃ j', j = j' + 1 := ⟨j - 1, by omega⟩
      obtain rfl : x = (j : Int) := by omega
      have hs := HO.out.stored j (.int .i64 ((r : Int) % 3))
      rw [← List.map_set, show (List.replicate (j + 1) (0 : Int) ++ suf).set j ((r : Int) % 3) = List.replicate j 0 ++ (((r % 3 : Nat) : Int) :: suf) by
        rw [List.set_append_left _ _ (by simp), List.replicate_succ', List.set_append_right _ _ (by simp)]
        simp] at hs
      have hcell := HO.out.cellAt j (by omega)
      have hlen : ((List.replicate (j + 1) (0 : Int) ++ suf).map (Value.int .i64)).length = m := by simp [hsl]; omega
      obtain ⟨u, hu⟩ : ∃ u, ((List.replicate (j + 1) (0 : Int) ++ suf).map (Value.int .i64))[j]? = some u := ⟨_, List.getElem?_eq_getElem (by omega)⟩
      rw [hu] at hcell
      have hfr := HO.out.frozenAt j
      have Hs := hide hs
      have HD2 := hide (show dg 3 m n = dg 3 j (r / 3) ++ (((r % 3 : Nat) : Int) :: suf) by rw [HD.out]; simp [dg])
      have hjz : (j : Int) < (m : Int) := by omega
      have hj1 : (0 : Int) ≤ (j : Int) := by omega
      clear hs hu hlen hx hj0 HO
      go_wp2_with fail
      go_roundw
      case rel =>
        exact ⟨j, r / 3, _, _, by omega, rfl, by omega, int_eq (by omega), by omega, by simp [hsl]; omega, HD2, hide Hs.out.1, hide (Below.grown HB.out Hs.out.2 HB.out.size (by intro kk hk; cases hk; exact Nat.le_refl _))⟩
      case measure => first | (simp [intOf]; done) | (simp [intOf]; omega)
theorem digitsOf_any (k n m : Nat) (w : World) (h1 : 1 ≤ k) (h3 : k ≤ 3) (hn : n ≤ 1000) (hm : m ≤ 6) :
    Calls Try.prog 53 #[.int .i64 n, .int .i64 k, .int .i64 m] w (RetI w (dg k m n)) := by
  rcases (by omega : k = 1 ∨ k = 2 ∨ k = 3) with rfl | rfl | rfl
  · exact digits_1 n m w hn hm
  · exact digits_2 n m w hn hm
  · exact digits_3 n m w hn hm
theorem dg_zero (k : Nat) : ∀ m, dg k m 0 = List.replicate m 0
  | 0 => rfl
  | m + 1 => by rw [dg, Nat.zero_div, Nat.zero_mod, dg_zero k m, List.replicate_succ']; rfl
set_option maxHeartbeats 8000000 in
theorem BestShare_s (A1 A2 : Option Addr) (n1 c1 n2 c2 : Nat) (zs : List Int) (cs : List CallQ) (w : World) (hn1 : n1 ≤ 1048576) (hn2 : n2 ≤ 1048576)
    (h1 : RdI w .i64 A1 n1 zs) (h2 : RdC w A2 n2 cs) :
    Calls Try.prog 27 #[.slice A1 n1 c1, .slice A2 n2 c2] w (RetI w (bestK zs cs)) := by
  have Hl1 := hide h1.len
  have Hl2 := hide h2.len
  have H1 := hide h1
  have H2 := hide h2
  clear h1 h2
  obtain ⟨i0, hi0, iz0, iz1, iz2⟩ := info_parts int_info
  obtain ⟨bv, hbv⟩ : ∃ b, vSh zs cs = b := ⟨_, rfl⟩
  have Hbv := hide hbv
  have Hbs := hide (show vShare zs cs (List.replicate n2 0) = bv by rw [← Hl2.out, vShare_zero]; exact Hbv.out)
  clear hbv
  go_enter Try.func27, Try.ntmps27
  go_wp2_with (at_make; refine wpList_make_full _ rfl _ _ 22 rfl w.heap.size 3 i0 (.int .i64 0) 1 Try.underlying22 hi0 iz0 iz1 _ _ _ _ n2 rfl rfl rfl rfl (by rw [iz2]; omega) (by unfold maxLen; omega) (Nat.le_refl _) ?_; intro w1 hown hgrow)
  have q1 : (madeCells (Value.cells (.int .i64 0)) (n2 * 1)).toList = List.replicate n2 (.int .i64 0) := by rw [Nat.mul_one]; exact toList_madeCells_one _ _
  rw [q1] at hown
  have hb := below_of_only hgrow (Nat.le_refl _) (by intro k hk; cases hk)
  have RZ := hide (show RdI w1 .i64 (some ⟨w.heap.size, 0, none⟩) n2 (List.replicate n2 0) from by have h := Rd.of_own hown; unfold RdI; rw [List.map_replicate]; exact h)
  have R1 := hide (RdI.below H1.out hb (Nat.le_refl _))
  have R2 := hide (RdC.below H2.out hb (Nat.le_refl _))
  have hz1 := hb.size
  have Hb1 := hide hb
  clear hown hgrow q1 hb
  go_wp2_with fail
  refine (validShare_any A1 A2 (some ⟨w.heap.size, 0, none⟩) n1 c1 n2 c2 n2 n2 zs cs (List.replicate n2 0) bv _ hn1 hn2 hn2 R1.out R2.out RZ.out Hbs.out).mono ?_
  rintro e w2 ⟨rfl, hb⟩
  have S1 := hide (RdI.below R1.out hb (Nat.le_refl _))
  have S2 := hide (RdC.below R2.out hb (Nat.le_refl _))
  have hz2 := hb.size
  have Hb2 := hide (Hb1.out.trans (hb.mono hz1))
  clear hb R1 R2 RZ H1 H2
  cases bv
  · have e1 := hide (show bestK zs cs = [] from if_neg (by rw [Hbv.out]; simp))
    have Done := hide (show ∀ w', Below w.heap.size w w' → RetI w (bestK zs cs) (.returned (.slice none 0 0)) w' from fun w' h => ⟨none, 0, 0, rfl, by rw [e1.out]; exact World.ownsRow_nil _ _ _ _, h⟩)
    go_wp2_with fail
    go_ret
    exact Done.out _ Hb2.out
  obtain ⟨hv1, hv2, hv3⟩ := vSh_iff.1 Hbv.out
  obtain ⟨⟨m1, m2⟩, hall⟩ := vFl_iff.1 hv1
  have hn1a : 1 ≤ n1 := by have := Hl1.out; omega
  have hn1b : n1 ≤ 3 := by have := Hl1.out; omega
  have hn2b : n2 ≤ 6 := by have := Hl2.out; omega
  have e1 := hide (show bestK zs cs = bmin (fun s => gre zs cs s) n1 n2 (n1 ^ n2) by unfold bestK; rw [if_pos Hbv.out, Hl1.out, Hl2.out])
  have Hv3 := hide hv3
  have Hall := hide hall
  have hP := pow_le n1 n2 hn1b hn2b
  have hP1 : 0 < n1 ^ n2 := Nat.pow_pos hn1a
  obtain ⟨P, hPP⟩ : ∃ P, n1 ^ n2 = P := ⟨_, rfl⟩
  rw [hPP] at hP hP1
  have HPP := hide hPP
  have KP := hide (fun w' => power_any n1 n2 P w' hn1b hn2b hPP)
  clear hv1 hv2 hv3 m1 m2 hall hPP
  go_wp2_with (at_make; refine wpList_make_full _ rfl _ _ 22 rfl w2.heap.size 3 i0 (.int .i64 0) 1 Try.underlying22 hi0 iz0 iz1 _ _ _ _ n2 rfl rfl rfl rfl (by rw [iz2]; omega) (by unfold maxLen; omega) (Nat.le_refl _) ?_; intro w3 hown hgrow)
  have q1 : (madeCells (Value.cells (.int .i64 0)) (n2 * 1)).toList = List.replicate n2 (.int .i64 0) := by rw [Nat.mul_one]; exact toList_madeCells_one _ _
  rw [q1] at hown
  have hb := below_of_only hgrow (Nat.le_refl _) (by intro k hk; cases hk)
  have H3 := hide (And.intro hown hb)
  clear hown hgrow q1 hb
  go_wp2_with fail
  go_loopw [5, 6] (fun v iv wr => ∃ (j : Nat) (b : List Int), 1 ≤ j ∧ j ≤ P ∧ iv = .int .i64 j ∧ Hid (bmin (fun s => gre zs cs s) n1 n2 j = b) ∧ Hid (wr.ownsRow w2.heap.size 3 1 v n2 (b.map (Value.int .i64))) ∧ Hid (Below w2.heap.size w2 wr)) (fun _ iv _ => P - (intOf iv).toNat)
  case atStart => exact ⟨1, List.replicate n2 0, Nat.le_refl _, hP1, rfl, hide (by rw [bmin_one, dg_zero]), hide (by rw [List.map_replicate]; exact H3.out.1), hide H3.out.2⟩
  case round =>
    obtain ⟨j, b, hj1, hj, rfl, HM, HO, HB⟩ := hrel
    obtain ⟨Av, cv, rfl⟩ := own_form HO.out
    have hB1 := HB.out.size
    by_cases hlt : j < P
    · have hltz : (j : Int) < (P : Int) := by omega
      obtain ⟨X, hX⟩ : ∃ X, gre zs cs (dg n1 n2 j) = X := ⟨_, rfl⟩
      obtain ⟨Y, hY⟩ : ∃ Y, gre zs cs b = Y := ⟨_, rfl⟩
      have HXY := hide (show bmin (fun s => gre zs cs s) n1 n2 (j + 1) = if X < Y then dg n1 n2 j else b by
        show (if gre zs cs (dg n1 n2 j) < gre zs cs (bmin (fun s => gre zs cs s) n1 n2 j) then dg n1 n2 j else bmin (fun s => gre zs cs s) n1 n2 j) = _
        rw [HM.out, hX, hY])
      have HX := hide hX
      have HY := hide hY
      have HLD := hide (dg_len n1 n2 j)
      clear hX hY
      by_cases hd : X < Y
      all_goals
        go_wp2_with fail
        refine (KP.out _).mono ?_
        rintro e w' ⟨rfl, rfl⟩
        go_wp2_with fail
        refine (digitsOf_any n1 j n2 _ hn1a hn1b (by omega) hn2b).mono ?_
        rintro e w5 ⟨A5, n5, c5, rfl, ho5, hb⟩
        obtain rfl : n2 = n5 := by have h := ho5.1; rw [List.length_map, HLD.out] at h; omega
        have HB5 := hide (HB.out.trans (hb.mono hB1))
        have HO5 := hide (own_base ho5 hB1)
        have HO6 := hide (own_below HO.out hb (Nat.le_refl _))
        have T1 := hide (RdI.below S1.out HB5.out (Nat.le_refl _))
        have T2 := hide (RdC.below S2.out HB5.out (Nat.le_refl _))
        have K5 := hide (show RdI w5 .i64 A5 n2 (dg n1 n2 j) from Rd.of_own ho5)
        have K6 := hide (show RdI w5 .i64 Av n2 b from Rd.of_own HO6.out)
        have hz5 := HB5.out.size
        clear hb ho5
        go_wp2_with fail
        refine (greatest_any A1 A2 A5 n1 c1 n2 c2 c5 zs cs (dg n1 n2 j) X _ (by omega) (by omega) T1.out T2.out K5.out (fun z hz => allB_mem Hall.out hz) (fun c hc => vCs_mem Hv3.out hc) HX.out).mono ?_
        rintro e w6 ⟨rfl, q6, rfl⟩
        go_wp2_with fail
        refine (greatest_any A1 A2 Av n1 c1 n2 c2 cv zs cs b Y _ (by omega) (by omega) (RdI.drN T1.out _) (RdC.drN T2.out _) (RdI.drN K6.out _) (fun z hz => allB_mem Hall.out hz) (fun c hc => vCs_mem Hv3.out hc) HY.out).mono ?_
        rintro e w7 ⟨rfl, q7, rfl⟩
        go_wp2_with fail
      · go_roundw
        case rel => exact ⟨j + 1, dg n1 n2 j, by omega, by omega, by go_num, hide (by rw [HXY.out, if_pos hd]), hide (own_drewN HO5.out _), hide (below_drewN HB5.out _)⟩
        case measure => simp [intOf]; omega
      · go_roundw
        case rel => exact ⟨j + 1, b, by omega, by omega, by go_num, hide (by rw [HXY.out, if_neg (by omega)]), hide (own_drewN HO6.out _), hide (below_drewN HB5.out _)⟩
        case measure => simp [intOf]; omega
    · obtain rfl : j = P := by omega
      have Hb := hide (show b = bestK zs cs by rw [e1.out, HPP.out]; exact HM.out.symm)
      go_wp2_with fail
      refine (KP.out _).mono ?_
      rintro e w' ⟨rfl, rfl⟩
      go_wp2_with fail
      go_ret
      exact ⟨Av, n2, cv, rfl, by rw [← Hb.out]; exact own_base HO.out (by omega), Hb2.out.trans (HB.out.mono (by omega))⟩
end Go.Proofs.Ytmhaclhcllndeaa
