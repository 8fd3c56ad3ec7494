/-
  What a share costs, as the reference reckons it.
-/
import Derived.Test.YtmhaclhcllndeaaFleetB
import Derived.Test.YtmhaclhcllndeaaNearS
namespace Go.Proofs.Ytmhaclhcllndeaa
open Go.RowKit
set_option linter.unusedSimpArgs false
set_option linter.unusedVariables false

theorem run_max2 {P : Program} (w : World) (ts : Array TypeId) (t : TypeId) (x y : Int) :
    (Builtin.max_ ts t #[.int .i64 x, .int .i64 y]).run P w = .ok (.int .i64 (max x y)) w := by
  have e : ∀ x y : Int, (if y > x then y else x) = max x y := by
    intro x y
    rw [Int.max_def]
    split <;> split <;> omega
  simp [Builtin.max_, Builtin.max2, e]
theorem drop_consC {cs : List CallQ} {k : Nat} {c : CallQ} (h : cs[k]? = some c) : cs.drop k = c :: cs.drop (k + 1) := by
  obtain ⟨hlt, e⟩ := List.getElem?_eq_some_iff.1 h
  rw [List.drop_eq_getElem_cons hlt, e]

set_option maxHeartbeats 4000000 in
theorem tripCost_any (A2 A3 : Option Addr) (n c2 c3 : Nat) (cs : List CallQ) (ss : List Int) (a car M : Int) (w : World) (hn : n ≤ 100) (a0 : 0 ≤ a) (a1 : a ≤ 15)
    (h2 : RdC w A2 n cs) (h3 : RdI w .i64 A3 n ss) (hv : ∀ c ∈ cs, vK c.1 c.2.1 c.2.2 = true) (hM : trp car a cs ss = M) :
    Calls Try.prog 65 #[.int .i64 a, .slice A2 n c2, .slice A3 n c3, .int .i64 car] w fun e w' => e = .returned (.int .i64 M) ∧ ∃ q, w' = w.drewN q := by
  have Hl2 := hide h2.len
  have Hl3 := hide h3.len
  have H2 := hide h2
  have H3 := hide h3
  have Hv := hide hv
  have HM := hide hM
  clear h2 h3 hv hM
  go_enter Try.func65, Try.ntmps65
  go_wp2_with fail
  go_loopw [0, 9, 10] (fun av mv i wr => ∃ (k : Nat) (b m : Int), k ≤ n ∧ i = .int .i64 k ∧ av = .int .i64 b ∧ mv = .int .i64 m ∧ 0 ≤ b ∧ b ≤ 15 ∧ 0 ≤ m ∧ m ≤ 30 * k ∧ Hid (M = m + trp car b (cs.drop k) (ss.drop k)) ∧ ∃ q, wr = w.drewN q) (fun _ _ i _ => n - (intOf i).toNat)
  case atStart => exact ⟨0, a, 0, Nat.zero_le _, rfl, rfl, rfl, a0, a1, by omega, by omega, hide (by rw [List.drop_zero, List.drop_zero, HM.out]; omega), 0, rfl⟩
  case round =>
    obtain ⟨k, b, m, hk, rfl, rfl, rfl, b0, b1, m0, m1, HW, q, rfl⟩ := hrel
    by_cases hlt : k < n
    · obtain ⟨b2, o2, f, t, c, rfl, hb2, hzc, d1, d2, d3⟩ := RdC.at_ H2.out hlt
      obtain ⟨b3, o3, s, rfl, hb3, hzs, d4⟩ := RdI.at_ H3.out hlt
      obtain ⟨⟨f0, f1⟩, ⟨t0, t1⟩, _⟩ := vK_iff.1 (Hv.out _ (List.mem_of_getElem? hzc))
      have hw := HW.out
      rw [drop_consC hzc, drop_consI hzs, trp_cons] at hw
      simp only at f0 f1 t0 t1 hw
      have hltz : (k : Int) < (n : Int) := by omega
      by_cases he : s = car
      · have he' : (s == car) = true := by simp [he]
        rw [if_pos he] at hw
        obtain ⟨D1, hD1⟩ : ∃ D, (f - b).natAbs = D := ⟨_, rfl⟩
        obtain ⟨D2, hD2⟩ : ∃ D, (t - f).natAbs = D := ⟨_, rfl⟩
        have hd1 : dI f b = (D1 : Int) := by unfold dI; rw [hD1]
        have hd2 : dI t f = (D2 : Int) := by unfold dI; rw [hD2]
        rw [hd1, hd2] at hw
        have HW2 := hide (show M = m + (D1 : Int) + (D2 : Int) + trp car t (cs.drop (k + 1)) (ss.drop (k + 1)) by omega)
        have l1 : D1 ≤ 15 := by omega
        have l2 : D2 ≤ 15 := by omega
        have J1 := hide (fun q' => distance_sq (f - b) D1 (w.drewN (q + q')) (by omega) (by omega) hD1)
        have J2 := hide (fun q' => distance_sq (t - f) D2 (w.drewN (q + q')) (by omega) (by omega) hD2)
        have hw1 : IntKind.i64.wrap (f - b) = f - b := IntWalk.i64_in _ (by omega)
        have hw2 : IntKind.i64.wrap (t - f) = t - f := IntWalk.i64_in _ (by omega)
        have hw3 : IntKind.i64.wrap (m + (D1 : Int)) = m + (D1 : Int) := IntWalk.i64_in _ (by omega)
        have hw4 : IntKind.i64.wrap (m + (D1 : Int) + (D2 : Int)) = m + (D1 : Int) + (D2 : Int) := IntWalk.i64_in _ (by omega)
        clear hzc hzs hw hD1 hD2 hd1 hd2 he
        go_wp2_with fail
        go_quiet ((go_at_call 38; first | (with_reducible exact quiet_add_same (J1.out _)) | (with_reducible exact quiet_add_same (J2.out _))))
        clear hw1 hw2 hw3 hw4
        go_wp2_with fail
        go_roundw
        case rel => exact ⟨k + 1, t, m + D1 + D2, by omega, by go_num, rfl, rfl, t0, t1, by omega, by omega, HW2, _, rfl⟩
        case measure => simp [intOf]; omega
      · have he' : (s == car) = false := by simp [he]
        rw [if_neg he] at hw
        have HW2 := hide hw
        clear hzc hzs hw he
        go_wp2_with fail
        go_roundw
        case rel => exact ⟨k + 1, b, m, by omega, by go_num, rfl, rfl, b0, b1, by omega, by omega, HW2, _, rfl⟩
        case measure => simp [intOf]; omega
    · obtain rfl : k = n := by omega
      have hw := HW.out
      rw [List.drop_eq_nil_of_le (by have := Hl2.out; omega)] at hw
      have HW2 := hide (show m = M by simp only [trp] at hw; omega)
      clear hw
      go_wp2_with fail
      go_ret
      exact ⟨ret_int HW2.out, q, rfl⟩
theorem gre_in {zs : List Int} {cs : List CallQ} {ss : List Int} (hz : ∀ z ∈ zs, 0 ≤ z ∧ z ≤ 15) (hv : ∀ c ∈ cs, vK c.1 c.2.1 c.2.2 = true) : ∀ k, 0 ≤ greK zs cs ss k ∧ greK zs cs ss k ≤ 30 * cs.length
  | 0 => by simp only [greK]; omega
  | k + 1 => by
    have ih := gre_in hz hv (ss := ss) k
    have hg : 0 ≤ zs.getD k 0 ∧ zs.getD k 0 ≤ 15 := by
      rw [List.getD_eq_getElem?_getD]
      cases e : zs[k]? with
      | none => simp
      | some z => exact hz z (List.mem_of_getElem? e)
    have h1 := trp_nonneg k cs ss (zs.getD k 0)
    have h2 := trp_le k cs ss (zs.getD k 0) hg.1 hg.2 hv
    simp only [greK]
    omega
set_option maxHeartbeats 4000000 in
theorem greatest_any (A1 A2 A3 : Option Addr) (n1 c1 n c2 c3 : Nat) (zs : List Int) (cs : List CallQ) (ss : List Int) (M : Int) (w : World) (hn1 : n1 ≤ 100) (hn : n ≤ 100)
    (h1 : RdI w .i64 A1 n1 zs) (h2 : RdC w A2 n cs) (h3 : RdI w .i64 A3 n ss) (hz : ∀ z ∈ zs, 0 ≤ z ∧ z ≤ 15) (hv : ∀ c ∈ cs, vK c.1 c.2.1 c.2.2 = true) (hM : gre zs cs ss = M) :
    Calls Try.prog 43 #[.slice A1 n1 c1, .slice A2 n c2, .slice A3 n c3] w fun e w' => e = .returned (.int .i64 M) ∧ ∃ q, w' = w.drewN q := by
  subst hM
  have Hl1 := hide h1.len
  have Hl2 := hide h2.len
  have H1 := hide h1
  have H2 := hide h2
  have H3 := hide h3
  have Hv := hide hv
  have Hz := hide hz
  clear h1 h2 h3 hv hz
  go_enter Try.func43, Try.ntmps43
  go_wp2_with fail
  go_loopw [7, 8] (fun mv i wr => ∃ (k : Nat) (m : Int), k ≤ n1 ∧ i = .int .i64 k ∧ mv = .int .i64 m ∧ Hid (greK zs cs ss k = m) ∧ ∃ q, wr = w.drewN q) (fun _ i _ => n1 - (intOf i).toNat)
  case atStart => exact ⟨0, 0, Nat.zero_le _, rfl, rfl, hide rfl, 0, rfl⟩
  case round =>
    obtain ⟨k, m, hk, rfl, rfl, HG, q, rfl⟩ := hrel
    by_cases hlt : k < n1
    · obtain ⟨b1, o1, z, rfl, hb1, hzz, d1⟩ := RdI.at_ H1.out hlt
      have hz1 := Hz.out z (List.mem_of_getElem? hzz)
      obtain ⟨z0, z1⟩ := hz1
      obtain ⟨T, hT⟩ : ∃ T, trp k z cs ss = T := ⟨_, rfl⟩
      obtain ⟨m', hm'⟩ : ∃ m', max m T = m' := ⟨_, rfl⟩
      have HG2 := hide (show greK zs cs ss (k + 1) = m' by simp only [greK]; rw [HG.out, getD_of hzz, hT, hm'])
      have HT := hide hT
      have hmax := fun (w : World) (ts : Array TypeId) (t : TypeId) => run_max2 (P := Try.prog) w ts t m T
      rw [hm'] at hmax
      have hltz : (k : Int) < (n1 : Int) := by omega
      clear hT hm' hzz
      go_wp2_with fail
      refine (tripCost_any A2 A3 n c2 c3 cs ss z k T _ hn z0 z1 (RdC.drN H2.out q) (RdI.drN H3.out q) Hv.out HT.out).mono ?_
      rintro e w' ⟨rfl, q2, rfl⟩
      go_wp2_with fail
      go_roundw
      case rel => exact ⟨k + 1, m', by omega, by go_num, rfl, HG2, _, rfl⟩
      case measure => simp [intOf]; omega
    · obtain rfl : k = n1 := by omega
      have HE := hide (show m = gre zs cs ss by unfold gre; rw [Hl1.out]; exact HG.out.symm)
      go_wp2_with fail
      go_ret
      exact ⟨ret_int HE.out, q, rfl⟩
set_option maxHeartbeats 4000000 in
theorem validShare_any (A1 A2 A3 : Option Addr) (n1 c1 n2 c2 n3 c3 : Nat) (zs : List Int) (cs : List CallQ) (ss : List Int) (b : Bool) (w : World) (hn1 : n1 ≤ 1048576) (hn2 : n2 ≤ 1048576) (hn3 : n3 ≤ 1048576)
    (h1 : RdI w .i64 A1 n1 zs) (h2 : RdC w A2 n2 cs) (h3 : RdI w .i64 A3 n3 ss) (hb : vShare zs cs ss = b) :
    Calls Try.prog 42 #[.slice A1 n1 c1, .slice A2 n2 c2, .slice A3 n3 c3] w fun e w' => e = .returned (.bool b) ∧ Below w.heap.size w w' := by
  subst hb
  have Hl1 := hide h1.len
  have Hl2 := hide h2.len
  have Hl3 := hide h3.len
  have H1 := hide h1
  have H2 := hide h2
  have H3 := hide h3
  clear h1 h2 h3
  cases hv : vFl zs
  · have e1 := hide (show vShare zs cs ss = false by simp [vShare, vSh, hv])
    have Hv := hide hv
    clear hv
    go_enter Try.func42, Try.ntmps42
    go_wp2_with fail
    refine (validFleet_any A1 n1 c1 zs _ hn1 H1.out).mono ?_
    rintro e w' ⟨rfl, rfl⟩
    rw [Hv.out]
    go_wp2_with fail
    go_ret
    exact ⟨show Ending.returned (.bool false) = _ from by rw [e1.out], Below.refl _ _⟩
  obtain ⟨⟨m1, m2⟩, _⟩ := vFl_iff.1 hv
  have hn1a : 1 ≤ n1 := by have := Hl1.out; omega
  have hn1b : n1 ≤ 3 := by have := Hl1.out; omega
  have Hv := hide hv
  clear hv m1 m2
  cases hvc : vCs cs
  · have e1 := hide (show vShare zs cs ss = false by simp [vShare, vSh, hvc])
    have Hvc := hide hvc
    clear hvc
    go_enter Try.func42, Try.ntmps42
    go_wp2_with fail
    refine (validFleet_any A1 n1 c1 zs _ hn1 H1.out).mono ?_
    rintro e w' ⟨rfl, rfl⟩
    rw [Hv.out]
    go_wp2_with fail
    refine (validCalls_s A2 n2 c2 cs _ hn2 H2.out).mono ?_
    rintro e w1 ⟨rfl, hb⟩
    have Hb1 := hide hb
    clear hb
    rw [Hvc.out]
    go_wp2_with fail
    go_ret
    exact ⟨show Ending.returned (.bool false) = _ from by rw [e1.out], Hb1.out⟩
  have Hvc := hide hvc
  clear hvc
  by_cases h6 : n2 ≤ 6
  · have h6' : (n2 : Int) ≤ 6 := by omega
    have h6b : decide ((n2 : Int) ≤ 6) = true := by simp; omega
    by_cases hl : n3 = n2
    · subst hl
      have e1 := hide (show vShare zs cs ss = allB ss 0 ((n1 : Int) - 1) by unfold vShare vSh; rw [Hv.out, Hvc.out, Hl1.out, Hl2.out, Hl3.out]; simp [h6])
      have q1 : ((n3 : Int) == (n3 : Int)) = true := by simp
      go_enter Try.func42, Try.ntmps42
      go_wp2_with fail
      refine (validFleet_any A1 n1 c1 zs _ hn1 H1.out).mono ?_
      rintro e w' ⟨rfl, rfl⟩
      rw [Hv.out]
      go_wp2_with fail
      refine (validCalls_s A2 n3 c2 cs _ hn2 H2.out).mono ?_
      rintro e w1 ⟨rfl, hb⟩
      have R3 := hide (RdI.below H3.out hb (Nat.le_refl _))
      have Hb1 := hide hb
      clear hb
      rw [Hvc.out]
      go_wp2_with fail
      refine (allIn_any A3 n3 c3 ss 0 ((n1 : Int) - 1) _ hn3 R3.out).mono ?_
      rintro e w' ⟨rfl, rfl⟩
      go_wp2_with fail
      go_ret
      exact ⟨ret_bool e1.out.symm, Hb1.out⟩
    · have e1 := hide (show vShare zs cs ss = false by unfold vShare; rw [Hl2.out, Hl3.out]; simp [hl])
      have q1 : ((n3 : Int) == (n2 : Int)) = false := by simp; omega
      clear hl
      go_enter Try.func42, Try.ntmps42
      go_wp2_with fail
      refine (validFleet_any A1 n1 c1 zs _ hn1 H1.out).mono ?_
      rintro e w' ⟨rfl, rfl⟩
      rw [Hv.out]
      go_wp2_with fail
      refine (validCalls_s A2 n2 c2 cs _ hn2 H2.out).mono ?_
      rintro e w1 ⟨rfl, hb⟩
      have Hb1 := hide hb
      clear hb
      rw [Hvc.out]
      go_wp2_with fail
      go_ret
      exact ⟨show Ending.returned (.bool false) = _ from by rw [e1.out], Hb1.out⟩
  · have h6' : (6 : Int) < (n2 : Int) := by omega
    have e1 := hide (show vShare zs cs ss = false by unfold vShare vSh; rw [Hl2.out]; simp [h6])
    go_enter Try.func42, Try.ntmps42
    go_wp2_with fail
    refine (validFleet_any A1 n1 c1 zs _ hn1 H1.out).mono ?_
    rintro e w' ⟨rfl, rfl⟩
    rw [Hv.out]
    go_wp2_with fail
    refine (validCalls_s A2 n2 c2 cs _ hn2 H2.out).mono ?_
    rintro e w1 ⟨rfl, hb⟩
    have Hb1 := hide hb
    clear hb
    rw [Hvc.out]
    go_wp2_with fail
    go_ret
    exact ⟨show Ending.returned (.bool false) = _ from by rw [e1.out], Hb1.out⟩
set_option maxHeartbeats 4000000 in
theorem ShareCost_s (A1 A2 A3 : Option Addr) (n1 c1 n2 c2 n3 c3 : Nat) (zs : List Int) (cs : List CallQ) (ss : List Int) (M : Int) (w : World) (hn1 : n1 ≤ 1048576) (hn2 : n2 ≤ 1048576) (hn3 : n3 ≤ 1048576)
    (h1 : RdI w .i64 A1 n1 zs) (h2 : RdC w A2 n2 cs) (h3 : RdI w .i64 A3 n3 ss) (hM : shareF zs cs ss = M) :
    Calls Try.prog 18 #[.slice A1 n1 c1, .slice A2 n2 c2, .slice A3 n3 c3] w fun e w' => e = .returned (.int .i64 M) ∧ Below w.heap.size w w' := by
  subst hM
  have Hl1 := hide h1.len
  have Hl2 := hide h2.len
  have Hl3 := hide h3.len
  have H1 := hide h1
  have H2 := hide h2
  have H3 := hide h3
  clear h1 h2 h3
  cases hv : vShare zs cs ss
  · have e1 := hide (show shareF zs cs ss = -1 from if_neg (by simp [hv]))
    have Hv := hide hv
    clear hv
    go_enter Try.func18, Try.ntmps18
    go_wp2_with fail
    refine (validShare_any A1 A2 A3 n1 c1 n2 c2 n3 c3 zs cs ss false _ hn1 hn2 hn3 H1.out H2.out H3.out Hv.out).mono ?_
    rintro e w1 ⟨rfl, hb⟩
    have Hb1 := hide hb
    clear hb
    go_wp2_with fail
    go_ret
    exact ⟨show Ending.returned (.int .i64 (-1)) = _ from by rw [e1.out], Hb1.out⟩
  · have e1 := hide (show shareF zs cs ss = gre zs cs ss from if_pos hv)
    obtain ⟨hv0, hv4, hv5⟩ := vShare_iff.1 hv
    obtain ⟨hv1, hv2, hv3⟩ := vSh_iff.1 hv0
    obtain ⟨⟨m1, m2⟩, hall⟩ := vFl_iff.1 hv1
    have hn1a : 1 ≤ n1 := by have := Hl1.out; omega
    have hn1b : n1 ≤ 3 := by have := Hl1.out; omega
    have hn2b : n2 ≤ 6 := by have := Hl2.out; omega
    obtain rfl : n3 = n2 := by have := Hl2.out; have := Hl3.out; omega
    have Hv := hide hv
    have Hvc := hide hv3
    have Hall := hide hall
    clear hv hv0 hv1 hv2 hv3 hv4 hv5 m1 m2 hall
    go_enter Try.func18, Try.ntmps18
    go_wp2_with fail
    refine (validShare_any A1 A2 A3 n1 c1 n3 c2 n3 c3 zs cs ss true _ hn1 hn2 hn3 H1.out H2.out H3.out Hv.out).mono ?_
    rintro e w1 ⟨rfl, hb⟩
    have R1 := hide (RdI.below H1.out hb (Nat.le_refl _))
    have R2 := hide (RdC.below H2.out hb (Nat.le_refl _))
    have R3 := hide (RdI.below H3.out hb (Nat.le_refl _))
    have Hb1 := hide hb
    clear hb
    go_wp2_with fail
    refine (greatest_any A1 A2 A3 n1 c1 n3 c2 c3 zs cs ss _ _ (by omega) (by omega) R1.out R2.out R3.out (fun z hz => allB_mem Hall.out hz) (fun c hc => vCs_mem Hvc.out hc) rfl).mono ?_
    rintro e w2 ⟨rfl, q, rfl⟩
    go_wp2_with fail
    go_ret
    exact ⟨ret_int e1.out.symm, below_drewN Hb1.out _⟩
end Go.Proofs.Ytmhaclhcllndeaa
