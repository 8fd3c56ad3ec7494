/-
  The specification's sweep.
-/
import Derived.Test.YtebflmbfgjbipaaSweepLaw
import Derived.Test.YtebflmbfgjbipaaDs
namespace Go.Proofs.Ytebflmbfgjbipaa
open Go.RowKit
set_option linter.unusedSimpArgs false
set_option linter.unusedVariables false

/-- Is x in the list? (A word of its own, so that the walk keeps it.) -/
def isB (zs : List Int) (x : Int) : Bool := zs.contains x
set_option maxHeartbeats 400000 in
theorem isIn_s (A : Option Addr) (n c : Nat) (zs : List Int) (x : Int) (w : World) (hn : n ≤ 1048576) (ha : RdI w .i64 A n zs) :
    Calls Try.prog 55 #[.slice A n c, .int .i64 x] w fun e w' => e = .returned (.bool (isB zs x)) ∧ w = w' := by
  have Hl := hide ha.len
  have Ha := hide ha
  clear ha
  go_enter Try.func55, Try.ntmps55
  go_wp2_with fail
  go_loop [5] (fun i => ∃ k : Nat, k ≤ n ∧ i = .int .i64 k ∧ Hid ((zs.take k).contains x = false)) (fun i => n - (intOf i).toNat)
  case atStart => exact ⟨0, Nat.zero_le _, rfl, hide (by simp)⟩
  case round =>
    obtain ⟨k, hk, rfl, HA⟩ := hrel
    by_cases hlt : k < n
    · obtain ⟨b1, o1, z, rfl, _, hz, hc1⟩ := RdI.at_ Ha.out hlt
      have Hz := hide hz
      clear hz
      have hlt' : (k : Int) < (n : Int) := by omega
      by_cases he : z = x
      · have e1 := hide (show isB zs x = true by unfold isB; rw [List.contains_iff_mem, ← he]; exact List.mem_of_getElem? Hz.out)
        subst he
        go_wp2_with fail
        go_ret
        exact ⟨show Ending.returned (.bool true) = .returned (.bool (isB zs z)) from by rw [e1.out], rfl⟩
      · have hb : (z == x) = false := by rw [beq_eq_false_iff_ne]; exact he
        go_wp2_with fail
        go_round
        case rel => exact ⟨k + 1, by omega, by go_num, hide (by
          have h := HA.out
          rw [take_snoc _ _ _ Hz.out]
          have hb2 : (x == z) = false := by rw [beq_eq_false_iff_ne]; exact fun h => he h.symm
          simp only [List.contains_eq_mem, List.mem_append, List.mem_singleton, decide_eq_false_iff_not] at h ⊢
          rintro (h2 | h2)
          · exact h h2
          · exact he h2.symm)⟩
        case measure => simp [intOf]; omega
    · obtain rfl : k = n := by omega
      have e1 := hide (show isB zs x = false by
        have h := HA.out
        rw [List.take_of_length_le (by have := Hl.out; omega)] at h
        exact h)
      go_wp2_with fail
      go_ret
      exact ⟨show Ending.returned (.bool false) = .returned (.bool (isB zs x)) from by rw [e1.out], rfl⟩
set_option maxHeartbeats 400000 in
theorem isIn_l (A : Option Addr) (n c : Nat) (zs : List Int) (x : Int) (w : World) (hn : n ≤ 1048576) (ha : RdI w .i64 A n zs) :
    Calls Try.prog 29 #[.slice A n c, .int .i64 x] w fun e w' => e = .returned (.bool (isB zs x)) ∧ w = w' := by
  have Hl := hide ha.len
  have Ha := hide ha
  clear ha
  go_enter Try.func29, Try.ntmps29
  go_wp2_with fail
  go_loop [5] (fun i => ∃ k : Nat, k ≤ n ∧ i = .int .i64 k ∧ Hid ((zs.take k).contains x = false)) (fun i => n - (intOf i).toNat)
  case atStart => exact ⟨0, Nat.zero_le _, rfl, hide (by simp)⟩
  case round =>
    obtain ⟨k, hk, rfl, HA⟩ := hrel
    by_cases hlt : k < n
    · obtain ⟨b1, o1, z, rfl, _, hz, hc1⟩ := RdI.at_ Ha.out hlt
      have Hz := hide hz
      clear hz
      have hlt' : (k : Int) < (n : Int) := by omega
      by_cases he : z = x
      · have e1 := hide (show isB zs x = true by unfold isB; rw [List.contains_iff_mem, ← he]; exact List.mem_of_getElem? Hz.out)
        subst he
        go_wp2_with fail
        go_ret
        exact ⟨show Ending.returned (.bool true) = .returned (.bool (isB zs z)) from by rw [e1.out], rfl⟩
      · have hb : (z == x) = false := by rw [beq_eq_false_iff_ne]; exact he
        go_wp2_with fail
        go_round
        case rel => exact ⟨k + 1, by omega, by go_num, hide (by
          have h := HA.out
          rw [take_snoc _ _ _ Hz.out]
          have hb2 : (x == z) = false := by rw [beq_eq_false_iff_ne]; exact fun h => he h.symm
          simp only [List.contains_eq_mem, List.mem_append, List.mem_singleton, decide_eq_false_iff_not] at h ⊢
          rintro (h2 | h2)
          · exact h h2
          · exact he h2.symm)⟩
        case measure => simp [intOf]; omega
    · obtain rfl : k = n := by omega
      have e1 := hide (show isB zs x = false by
        have h := HA.out
        rw [List.take_of_length_le (by have := Hl.out; omega)] at h
        exact h)
      go_wp2_with fail
      go_ret
      exact ⟨show Ending.returned (.bool false) = .returned (.bool (isB zs x)) from by rw [e1.out], rfl⟩

theorem path1_at {a h : Int} (ha : 0 ≤ a ∧ a ≤ 15) (hh : h = 1 ∨ h = -1) : (path1 a h).length ≤ 16 ∧ ∀ k : Nat, k ≤ (path1 a h).length → (path1 a h)[k]? = if inB (a + (k : Int) * h) 0 15 then some (a + (k : Int) * h) else none := by
  have p : (path1 a h).length ≤ 16 ∧ ∀ k : Fin 17, (path1 a h)[k.val]? = if inB (a + (k.val : Int) * h) 0 15 then some (a + (k.val : Int) * h) else none :=
    at16 (p := fun a h => (path1 a h).length ≤ 16 ∧ ∀ k : Fin 17, (path1 a h)[k.val]? = if inB (a + (k.val : Int) * h) 0 15 then some (a + (k.val : Int) * h) else none) (by decide +kernel) (by decide +kernel) a h ha hh
  exact ⟨p.1, fun k hk => p.2 ⟨k, by omega⟩⟩
theorem path2_at {a h : Int} (ha : 0 ≤ a ∧ a ≤ 15) (hh : h = 1 ∨ h = -1) : (path2 a h).length ≤ 16 ∧ ∀ k : Nat, k ≤ (path2 a h).length → (path2 a h)[k]? = if inB (a - h - (k : Int) * h) 0 15 then some (a - h - (k : Int) * h) else none := by
  have p : (path2 a h).length ≤ 16 ∧ ∀ k : Fin 17, (path2 a h)[k.val]? = if inB (a - h - (k.val : Int) * h) 0 15 then some (a - h - (k.val : Int) * h) else none :=
    at16 (p := fun a h => (path2 a h).length ≤ 16 ∧ ∀ k : Fin 17, (path2 a h)[k.val]? = if inB (a - h - (k.val : Int) * h) 0 15 then some (a - h - (k.val : Int) * h) else none) (by decide +kernel) (by decide +kernel) a h ha hh
  exact ⟨p.1, fun k hk => p.2 ⟨k, by omega⟩⟩
def sub_ (L zs : List Int) : List Int := L.filter fun f => zs.contains f
theorem sub_snoc {L zs : List Int} {k : Nat} {f : Int} (h : L[k]? = some f) : sub_ (L.take (k + 1)) zs = sub_ (L.take k) zs ++ (if isB zs f then [f] else []) := by
  unfold sub_
  rw [take_snoc _ _ _ h, List.filter_append]
  congr 1
  show [f].filter _ = _
  unfold isB
  cases hc : zs.contains f <;> simp at hc ⊢ <;> simp [hc]
theorem sub_len (L zs : List Int) (k : Nat) : (sub_ (L.take k) zs).length ≤ k := Nat.le_trans (List.length_filter_le _ _) (List.length_take_le _ _)

theorem own_snoc {w : World} {base : Nat} {v : Value} {L : List Int} {x : Int} (h : w.ownsRow base 3 1 v (L.length + 1) (L.map (Value.int .i64) ++ [.int .i64 x])) : w.ownsRow base 3 1 v (L ++ [x]).length ((L ++ [x]).map (Value.int .i64)) := by simpa using h
set_option maxHeartbeats 2000000 in
theorem sweep_s (A : Option Addr) (n c : Nat) (zs : List Int) (a h : Int) (w : World) (hn : n ≤ 1048576) (ha : RdI w .i64 A n zs) (a0 : 0 ≤ a ∧ a ≤ 15) (hh : h = 1 ∨ h = -1) :
    Calls Try.prog 42 #[.slice A n c, .int .i64 a, .int .i64 h] w (RetI w (sweepL zs a h)) := by
  obtain ⟨i0, hi0, iz0, iz1, iz2⟩ := info_parts int_info
  have hL1 := path1_at a0 hh
  have hL2 := path2_at a0 hh
  have hsw := hide (sweepL_parts zs a h)
  have P1 := hide hL1.2
  have P2 := hide hL2.2
  have hc1 := hL1.1
  have hc2 := hL2.1
  have e1 : sw1 zs a h = sub_ (path1 a h) zs := rfl
  have e2 : sw2 zs a h = sub_ (path2 a h) zs := rfl
  have E1 := hide e1
  have E2 := hide e2
  have hhb : -1 ≤ h ∧ h ≤ 1 := by omega
  obtain ⟨h1, h2⟩ := hhb
  obtain ⟨a1, a2⟩ := a0
  have Ha := hide ha
  have hlit := World.ownsRow_lit (e := 3) (size := 1) (base := w.heap.size) w #[] 0 (Nat.le_refl _) (by unfold maxLen; omega) rfl
  have Hlit := hide hlit
  have Hh := hide hh
  clear hL1 hL2 e1 e2 ha hlit hh
  generalize path1 a h = L1 at *
  generalize path2 a h = L2 at *
  go_enter Try.func42, Try.ntmps42
  go_wp2_with fail
  go_loopw [7, 8] (fun v i wr => ∃ (k : Nat) (f : Int), k ≤ L1.length ∧ i = .int .i64 f ∧ -1 ≤ f ∧ f ≤ 16 ∧ Hid (f = a + (k : Int) * h) ∧ Hid (wr.ownsRow w.heap.size 3 1 v (sub_ (L1.take k) zs).length ((sub_ (L1.take k) zs).map (Value.int .i64)) ∧ Below w.heap.size w wr)) (fun _ i _ => match i with | .int _ f => if h = 1 then (17 - f).toNat else (f + 1).toNat | _ => 0)
  case atStart => exact ⟨0, a, Nat.zero_le _, rfl, by omega, by omega, hide (by simp), hide ⟨by simpa [sub_] using Hlit.out, (by repeat (first | (with_reducible exact Below.refl _ _) | (with_reducible refine Below.drew ?_) | (with_reducible refine below_drewN ?_ _) | ((with_reducible refine Below.alloc ?_ ?_ _); rotate_left; (focus (first | (simp; done) | (simp; omega) | omega))) | ((with_reducible refine Below.setCell ?_ ?_ _); rotate_left; (focus (first | (simp; done) | (simp; omega) | omega))) | ((with_reducible refine Below.trans ?_ (Below.mono Hb.out ?_)); rotate_left; (focus (first | (simp; done) | (simp; omega) | omega))) | ((with_reducible refine Below.trans ?_ (Below.mono Hb16.out ?_)); rotate_left; (focus (first | (simp; done) | (simp; omega) | omega))) | ((with_reducible refine Below.trans ?_ (Below.mono Hb15.out ?_)); rotate_left; (focus (first | (simp; done) | (simp; omega) | omega))) | ((with_reducible refine Below.trans ?_ (Below.mono Hb14.out ?_)); rotate_left; (focus (first | (simp; done) | (simp; omega) | omega))) | ((with_reducible refine Below.trans ?_ (Below.mono Hb13.out ?_)); rotate_left; (focus (first | (simp; done) | (simp; omega) | omega))) | ((with_reducible refine Below.trans ?_ (Below.mono Hb12.out ?_)); rotate_left; (focus (first | (simp; done) | (simp; omega) | omega))) | ((with_reducible refine Below.trans ?_ (Below.mono Hb11.out ?_)); rotate_left; (focus (first | (simp; done) | (simp; omega) | omega))) | ((with_reducible refine Below.trans ?_ (Below.mono Hb10.out ?_)); rotate_left; (focus (first | (simp; done) | (simp; omega) | omega))) | ((with_reducible refine Below.trans ?_ (Below.mono Hb9.out ?_)); rotate_left; (focus (first | (simp; done) | (simp; omega) | omega))) | ((with_reducible refine Below.trans ?_ (Below.mono Hb8.out ?_)); rotate_left; (focus (first | (simp; done) | (simp; omega) | omega))) | ((with_reducible refine Below.trans ?_ (Below.mono Hb7.out ?_)); rotate_left; (focus (first | (simp; done) | (simp; omega) | omega))) | ((with_reducible refine Below.trans ?_ (Below.mono Hb6.out ?_)); rotate_left; (focus (first | (simp; done) | (simp; omega) | omega))) | ((with_reducible refine Below.trans ?_ (Below.mono Hb5.out ?_)); rotate_left; (focus (first | (simp; done) | (simp; omega) | omega))) | ((with_reducible refine Below.trans ?_ (Below.mono Hb4.out ?_)); rotate_left; (focus (first | (simp; done) | (simp; omega) | omega))) | ((with_reducible refine Below.trans ?_ (Below.mono Hb3.out ?_)); rotate_left; (focus (first | (simp; done) | (simp; omega) | omega))) | ((with_reducible refine Below.trans ?_ (Below.mono Hb2.out ?_)); rotate_left; (focus (first | (simp; done) | (simp; omega) | omega))) | ((with_reducible refine Below.trans ?_ (Below.mono Hb1.out ?_)); rotate_left; (focus (first | (simp; done) | (simp; omega) | omega))) | ((with_reducible refine Below.trans ?_ (below_of_only Hg16.out ?_ ?_)); rotate_left; (focus (first | (simp; done) | (simp; omega) | omega)); (intro k hk; cases hk; omega)) | ((with_reducible refine Below.trans ?_ (below_of_only Hg15.out ?_ ?_)); rotate_left; (focus (first | (simp; done) | (simp; omega) | omega)); (intro k hk; cases hk; omega)) | ((with_reducible refine Below.trans ?_ (below_of_only Hg14.out ?_ ?_)); rotate_left; (focus (first | (simp; done) | (simp; omega) | omega)); (intro k hk; cases hk; omega)) | ((with_reducible refine Below.trans ?_ (below_of_only Hg13.out ?_ ?_)); rotate_left; (focus (first | (simp; done) | (simp; omega) | omega)); (intro k hk; cases hk; omega)) | ((with_reducible refine Below.trans ?_ (below_of_only Hg12.out ?_ ?_)); rotate_left; (focus (first | (simp; done) | (simp; omega) | omega)); (intro k hk; cases hk; omega)) | ((with_reducible refine Below.trans ?_ (below_of_only Hg11.out ?_ ?_)); rotate_left; (focus (first | (simp; done) | (simp; omega) | omega)); (intro k hk; cases hk; omega)) | ((with_reducible refine Below.trans ?_ (below_of_only Hg10.out ?_ ?_)); rotate_left; (focus (first | (simp; done) | (simp; omega) | omega)); (intro k hk; cases hk; omega)) | ((with_reducible refine Below.trans ?_ (below_of_only Hg9.out ?_ ?_)); rotate_left; (focus (first | (simp; done) | (simp; omega) | omega)); (intro k hk; cases hk; omega)) | ((with_reducible refine Below.trans ?_ (below_of_only Hg8.out ?_ ?_)); rotate_left; (focus (first | (simp; done) | (simp; omega) | omega)); (intro k hk; cases hk; omega)) | ((with_reducible refine Below.trans ?_ (below_of_only Hg7.out ?_ ?_)); rotate_left; (focus (first | (simp; done) | (simp; omega) | omega)); (intro k hk; cases hk; omega)) | ((with_reducible refine Below.trans ?_ (below_of_only Hg6.out ?_ ?_)); rotate_left; (focus (first | (simp; done) | (simp; omega) | omega)); (intro k hk; cases hk; omega)) | ((with_reducible refine Below.trans ?_ (below_of_only Hg5.out ?_ ?_)); rotate_left; (focus (first | (simp; done) | (simp; omega) | omega)); (intro k hk; cases hk; omega)) | ((with_reducible refine Below.trans ?_ (below_of_only Hg4.out ?_ ?_)); rotate_left; (focus (first | (simp; done) | (simp; omega) | omega)); (intro k hk; cases hk; omega)) | ((with_reducible refine Below.trans ?_ (below_of_only Hg3.out ?_ ?_)); rotate_left; (focus (first | (simp; done) | (simp; omega) | omega)); (intro k hk; cases hk; omega)) | ((with_reducible refine Below.trans ?_ (below_of_only Hg2.out ?_ ?_)); rotate_left; (focus (first | (simp; done) | (simp; omega) | omega)); (intro k hk; cases hk; omega)) | ((with_reducible refine Below.trans ?_ (below_of_only Hg1.out ?_ ?_)); rotate_left; (focus (first | (simp; done) | (simp; omega) | omega)); (intro k hk; cases hk; omega))))⟩⟩
  case round =>
    obtain ⟨k, f, hk, rfl, f0, f1, HF, hr⟩ := hrel
    have hat := P1.out k hk
    rw [← HF.out] at hat
    have hul := sub_len L1 zs k
    have hzr := hr.out.2.size
    cases hi : inB f 0 15
    · -- the first part is through
      have hkL : k = L1.length := by
        rw [hi] at hat
        have h3 := List.getElem?_eq_none_iff.1 (by simpa using hat)
        omega
      subst hkL
      have h3 := hr.out
      rw [List.take_length] at h3
      have HR := hide h3
      clear h3
      have hul1 : (sub_ L1 zs).length ≤ 16 := Nat.le_trans (List.length_filter_le _ _) hc1
      have Hi := hide hi
      clear hi hat hul hr
      go_wp2_with fail
      refine (inRange_any _ _ _ _).mono ?_
      rintro e w' ⟨rfl, rfl⟩
      rw [Hi.out]
      go_wp2_with fail
      go_loopw [7, 9] (fun v i wr => ∃ (k : Nat) (f : Int), k ≤ L2.length ∧ i = .int .i64 f ∧ -1 ≤ f ∧ f ≤ 16 ∧ Hid (f = a - h - (k : Int) * h) ∧ Hid (wr.ownsRow w.heap.size 3 1 v (sub_ L1 zs ++ sub_ (L2.take k) zs).length ((sub_ L1 zs ++ sub_ (L2.take k) zs).map (Value.int .i64)) ∧ Below w.heap.size w wr)) (fun _ i _ => match i with | .int _ f => if h = 1 then (f + 1).toNat else (17 - f).toNat | _ => 0)
      case atStart => exact ⟨0, a - h, Nat.zero_le _, by first | rfl | go_num, by omega, by omega, hide (by simp), hide ⟨by simpa [sub_] using HR.out.1, HR.out.2⟩⟩
      case round =>
        obtain ⟨k, f, hk, rfl, f0, f1, HF, hr⟩ := hrel
        have hat := P2.out k hk
        rw [← HF.out] at hat
        have hul := sub_len L2 zs k
        have hzr := hr.out.2.size
        cases hi : inB f 0 15
        · have hkL : k = L2.length := by
            rw [hi] at hat
            have h3 := List.getElem?_eq_none_iff.1 (by simpa using hat)
            omega
          subst hkL
          have h3 := hr.out
          rw [List.take_length, ← E1.out, ← E2.out, ← hsw.out] at h3
          have HR2 := hide h3
          clear h3
          obtain ⟨Av, cv, rfl⟩ := own_form HR2.out.1
          have Hi := hide hi
          clear hi hat hul hr
          go_wp2_with fail
          refine (inRange_any _ _ _ _).mono ?_
          rintro e w' ⟨rfl, rfl⟩
          rw [Hi.out]
          go_wp2_with fail
          go_ret
          exact ⟨_, _, _, rfl, HR2.out.1, HR2.out.2⟩
        · rw [hi] at hat
          have Hat := hide hat
          obtain ⟨f2, f3⟩ := inB_iff.1 hi
          have Hi := hide hi
          have hFn : a - h - ((k + 1 : Nat) : Int) * h = f - h := by
            have h3 := HF.out
            have h4 : ((k + 1 : Nat) : Int) * h = (k : Int) * h + h := by
              rw [show ((k + 1 : Nat) : Int) = (k : Int) + 1 from rfl, Int.add_mul, Int.one_mul]
            omega
          have HFn := hide hFn
          have hk2 : k < L2.length := getElem?_lt Hat.out
          have hsn := hide (sub_snoc (L := L2) (zs := zs) Hat.out)
          have hmes : (if h = 1 then (f - h + 1).toNat else (17 - (f - h)).toNat) < (if h = 1 then (f + 1).toNat else (17 - f).toNat) := by
            have hh2 := Hh.out; split <;> omega
          have Hmes := hide hmes
          clear hi hat hFn hmes
          cases hc : isB zs f
          all_goals
            have Hc := hide hc
            clear hc
            go_wp2_with fail
            refine (inRange_any _ _ _ _).mono ?_
            rintro e w' ⟨rfl, rfl⟩
            rw [Hi.out]
            go_wp2_with fail
            refine (isIn_s A n c zs f _ hn (Rd.below Ha.out hr.out.2 (Nat.le_refl _))).mono ?_
            rintro e w' ⟨rfl, rfl⟩
            rw [Hc.out]
          · go_wp2_with fail
            go_roundw
            case rel => exact ⟨k + 1, f - h, hk2, by first | rfl | go_num, by omega, by omega, hide HFn.out.symm, hide (by have h3 := hsn.out; rw [Hc.out] at h3; simp only [Bool.false_eq_true, if_false, List.append_nil] at h3; rw [h3]; exact hr.out)⟩
            case measure => exact Hmes.out
          · go_wp2_with (at_builtin; refine wpList_append_own _ rfl (.tmp 35) (.tmp 37) _ rfl w.heap.size 3 i0 (.int .i64 0) 1 8 Try.underlying22 hi0 iz0 iz1 iz2 rfl (by decide) _ _ _ rfl (hr.out.1.alloc _) _ 1 1 [.int .i64 f] rfl rfl (cell_one_at _ _ _ _ (by simp)) (by intro u hu; simp at hu; subst hu; rfl) (by unfold maxLen; (try simp only [List.length_append]); omega) (by (try simp only [List.length_append]); omega) (by (try simp); omega) ?_; intro v5 w5 hown hgrow _)
            have HR3 := hide (show w5.ownsRow w.heap.size 3 1 v5 (sub_ L1 zs ++ sub_ (L2.take (k + 1)) zs).length ((sub_ L1 zs ++ sub_ (L2.take (k + 1)) zs).map (Value.int .i64)) ∧ Below w.heap.size w w5 from by
              have h3 := hsn.out
              rw [Hc.out] at h3
              rw [h3]
              simp only [if_true]
              rw [← List.append_assoc]
              exact ⟨own_snoc hown, Below.grown (hr.out.2.alloc hzr _) hgrow (by simp; omega) (fun j hj => (hr.out.1.lt j hj).1)⟩)
            clear hown hgrow hr
            go_wp2_with fail
            go_roundw
            case rel => exact ⟨k + 1, f - h, hk2, by first | rfl | go_num, by omega, by omega, hide HFn.out.symm, HR3⟩
            case measure => exact Hmes.out
    · rw [hi] at hat
      have Hat := hide hat
      obtain ⟨f2, f3⟩ := inB_iff.1 hi
      have Hi := hide hi
      have hFn : a + ((k + 1 : Nat) : Int) * h = f + h := by
        have h3 := HF.out
        have h4 : ((k + 1 : Nat) : Int) * h = (k : Int) * h + h := by
          rw [show ((k + 1 : Nat) : Int) = (k : Int) + 1 from rfl, Int.add_mul, Int.one_mul]
        omega
      have HFn := hide hFn
      have hk2 : k < L1.length := getElem?_lt Hat.out
      have hsn := hide (sub_snoc (L := L1) (zs := zs) Hat.out)
      have hmes : (if h = 1 then (17 - (f + h)).toNat else (f + h + 1).toNat) < (if h = 1 then (17 - f).toNat else (f + 1).toNat) := by
        have hh2 := Hh.out; split <;> omega
      have Hmes := hide hmes
      clear hi hat hFn hmes
      cases hc : isB zs f
      all_goals
        have Hc := hide hc
        clear hc
        go_wp2_with fail
        refine (inRange_any _ _ _ _).mono ?_
        rintro e w' ⟨rfl, rfl⟩
        rw [Hi.out]
        go_wp2_with fail
        refine (isIn_s A n c zs f _ hn (Rd.below Ha.out hr.out.2 (Nat.le_refl _))).mono ?_
        rintro e w' ⟨rfl, rfl⟩
        rw [Hc.out]
      · go_wp2_with fail
        go_roundw
        case rel => exact ⟨k + 1, f + h, hk2, by first | rfl | go_num, by omega, by omega, hide HFn.out.symm, hide (by have h3 := hsn.out; rw [Hc.out] at h3; simp only [Bool.false_eq_true, if_false, List.append_nil] at h3; rw [h3]; exact hr.out)⟩
        case measure => exact Hmes.out
      · go_wp2_with (at_builtin; refine wpList_append_own _ rfl (.tmp 20) (.tmp 22) _ rfl w.heap.size 3 i0 (.int .i64 0) 1 8 Try.underlying22 hi0 iz0 iz1 iz2 rfl (by decide) _ _ _ rfl (hr.out.1.alloc _) _ 1 1 [.int .i64 f] rfl rfl (cell_one_at _ _ _ _ (by simp)) (by intro u hu; simp at hu; subst hu; rfl) (by unfold maxLen; (try simp only [List.length_append]); omega) (by (try simp only [List.length_append]); omega) (by (try simp); omega) ?_; intro v5 w5 hown hgrow _)
        have HR3 := hide (show w5.ownsRow w.heap.size 3 1 v5 (sub_ (L1.take (k + 1)) zs).length ((sub_ (L1.take (k + 1)) zs).map (Value.int .i64)) ∧ Below w.heap.size w w5 from by
          have h3 := hsn.out
          rw [Hc.out] at h3
          rw [h3]
          simp only [if_true]
          exact ⟨own_snoc hown, Below.grown (hr.out.2.alloc hzr _) hgrow (by simp; omega) (fun j hj => (hr.out.1.lt j hj).1)⟩)
        clear hown hgrow hr
        go_wp2_with fail
        go_roundw
        case rel => exact ⟨k + 1, f + h, hk2, by first | rfl | go_num, by omega, by omega, hide HFn.out.symm, HR3⟩
        case measure => exact Hmes.out
end Go.Proofs.Ytebflmbfgjbipaa
