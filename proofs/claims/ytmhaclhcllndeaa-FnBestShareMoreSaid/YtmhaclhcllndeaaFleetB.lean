/-
  What a share costs, as the program reckons it.
-/
import Derived.Test.YtmhaclhcllndeaaFleetA
import Derived.Test.YtmhaclhcllndeaaRdlC
namespace Go.Proofs.Ytmhaclhcllndeaa
open Go.RowKit
set_option linter.unusedSimpArgs false
set_option linter.unusedVariables false

def vSh (zs : List Int) (cs : List CallQ) : Bool := vFl zs && (decide (cs.length ≤ 6) && vCs cs)
theorem vSh_iff {zs : List Int} {cs : List CallQ} : vSh zs cs = true ↔ vFl zs = true ∧ cs.length ≤ 6 ∧ vCs cs = true := by simp [vSh]
theorem vCs_mem {cs : List CallQ} (h : vCs cs = true) {c : CallQ} (hc : c ∈ cs) : vK c.1 c.2.1 c.2.2 = true := by
  unfold vCs at h
  simp only [Bool.and_eq_true, List.all_eq_true] at h
  exact h.2 c hc
def vShare (zs : List Int) (cs : List CallQ) (ss : List Int) : Bool := vSh zs cs && (decide (ss.length = cs.length) && allB ss 0 ((zs.length : Int) - 1))
theorem vShare_iff {zs : List Int} {cs : List CallQ} {ss : List Int} : vShare zs cs ss = true ↔ vSh zs cs = true ∧ ss.length = cs.length ∧ allB ss 0 ((zs.length : Int) - 1) = true := by simp [vShare]
def shareF (zs : List Int) (cs : List CallQ) (ss : List Int) : Int := if vShare zs cs ss = true then gre zs cs ss else -1

set_option maxHeartbeats 1000000 in
theorem validShares_any (A1 A2 : Option Addr) (n1 c1 n2 c2 : Nat) (zs : List Int) (cs : List CallQ) (b : Bool) (w : World) (hn1 : n1 ≤ 1048576) (hn2 : n2 ≤ 1048576) (h1 : RdI w .i64 A1 n1 zs) (h2 : RdC w A2 n2 cs) (hb : vSh zs cs = b) :
    Calls Try.prog 45 #[.slice A1 n1 c1, .slice A2 n2 c2] w fun e w' => e = .returned (.bool b) ∧ Below w.heap.size w w' := by
  subst hb
  have Hl := hide h2.len
  have H1 := hide h1
  have H2 := hide h2
  clear h1 h2
  cases hv : vFl zs
  · have e1 := hide (show vSh zs cs = false by simp [vSh, hv])
    have Hv := hide hv
    clear hv
    go_enter Try.func45, Try.ntmps45
    go_wp2_with fail
    refine (validCars_any A1 n1 c1 zs _ hn1 H1.out).mono ?_
    rintro e w' ⟨rfl, rfl⟩
    rw [Hv.out]
    go_wp2_with fail
    go_ret
    exact ⟨show Ending.returned (.bool false) = _ from by rw [e1.out], Below.refl _ _⟩
  · have Hv := hide hv
    clear hv
    by_cases h6 : n2 ≤ 6
    · have h6' : (n2 : Int) ≤ 6 := by omega
      have e1 := hide (show vSh zs cs = vCs cs by unfold vSh; rw [Hv.out, Hl.out]; simp [h6])
      go_enter Try.func45, Try.ntmps45
      go_wp2_with fail
      refine (validCars_any A1 n1 c1 zs _ hn1 H1.out).mono ?_
      rintro e w' ⟨rfl, rfl⟩
      rw [Hv.out]
      go_wp2_with fail
      refine (ValidCalls_i A2 n2 c2 cs _ hn2 H2.out).mono ?_
      rintro e w1 ⟨rfl, hb⟩
      have Hb1 := hide hb
      clear hb
      go_wp2_with fail
      go_ret
      exact ⟨ret_bool e1.out.symm, Hb1.out⟩
    · have h6' : (6 : Int) < (n2 : Int) := by omega
      have e1 := hide (show vSh zs cs = false by unfold vSh; rw [Hl.out]; simp [h6])
      go_enter Try.func45, Try.ntmps45
      go_wp2_with fail
      refine (validCars_any A1 n1 c1 zs _ hn1 H1.out).mono ?_
      rintro e w' ⟨rfl, rfl⟩
      rw [Hv.out]
      go_wp2_with fail
      go_ret
      exact ⟨show Ending.returned (.bool false) = _ from by rw [e1.out], Below.refl _ _⟩
theorem ex6 (f : Ft) : ∃ a0 a1 a2 p0 p1 p2, f = ⟨a0, a1, a2, p0, p1, p2⟩ := ⟨_, _, _, _, _, _, rfl⟩
theorem srvs_snoc {f : Ft} {cs : List CallQ} {ss : List Int} {k : Nat} {c : CallQ} {s : Int} (hc : cs[k]? = some c) (hs : ss[k]? = some s) : srvs f (cs.take (k + 1)) (ss.take (k + 1)) = srv (srvs f (cs.take k) (ss.take k)) s.toNat c := by
  have h1 := (List.getElem?_eq_some_iff.1 hc).1
  have h2 := (List.getElem?_eq_some_iff.1 hs).1
  rw [take_snoc _ _ _ hc, take_snoc _ _ _ hs, srvs_app _ _ _ _ _ (by simp; omega)]
  rfl
theorem Ft.ok.mono {f : Ft} {M N : Int} (h : f.ok M) (hMN : M ≤ N) : f.ok N := by
  obtain ⟨a, b, c, d, e, g⟩ := h
  exact ⟨a, b, c, ⟨d.1, by omega⟩, ⟨e.1, by omega⟩, ⟨g.1, by omega⟩⟩
theorem srvs_ok : ∀ (cs : List CallQ) (ss : List Int) (f : Ft) (M : Int), f.ok M → (∀ c ∈ cs, vK c.1 c.2.1 c.2.2 = true) → (srvs f cs ss).ok (M + 30 * cs.length)
  | [], ss, f, M, h, _ => by simpa [srvs] using h
  | c :: cs, [], f, M, h, _ => h.mono (by simp only [List.length_cons]; omega)
  | c :: cs, s :: ss, f, M, h, hc => (srvs_ok cs ss _ _ (h.srv s.toNat (hc c (by simp))) fun x hx => hc x (List.mem_cons_of_mem _ hx)).mono (by simp only [List.length_cons]; omega)
set_option maxHeartbeats 4000000 in
theorem ShareCost_i (A1 A2 A3 : Option Addr) (n1 c1 n2 c2 n3 c3 : Nat) (zs : List Int) (cs : List CallQ) (ss : List Int) (M : Int) (w : World) (hn1 : n1 ≤ 1048576) (hn2 : n2 ≤ 1048576) (hn3 : n3 ≤ 1048576)
    (h1 : RdI w .i64 A1 n1 zs) (h2 : RdC w A2 n2 cs) (h3 : RdI w .i64 A3 n3 ss) (hM : shareF zs cs ss = M) :
    Calls Try.prog 20 #[.slice A1 n1 c1, .slice A2 n2 c2, .slice A3 n3 c3] w fun e w' => e = .returned (.int .i64 M) ∧ Below w.heap.size w w' := by
  subst hM
  have Hl1 := hide h1.len
  have Hl2 := hide h2.len
  have Hl3 := hide h3.len
  have H1 := hide h1
  have H2 := hide h2
  have H3 := hide h3
  clear h1 h2 h3
  cases hv : vSh zs cs
  · have e1 := hide (show shareF zs cs ss = -1 from if_neg (by simp [vShare, hv]))
    have Hv := hide hv
    clear hv
    go_enter Try.func20, Try.ntmps20
    go_wp2_with fail
    refine (validShares_any A1 A2 n1 c1 n2 c2 zs cs false _ hn1 hn2 H1.out H2.out Hv.out).mono ?_
    rintro e w1 ⟨rfl, hb⟩
    have Hb1 := hide hb
    clear hb
    go_wp2_with fail
    go_ret
    exact ⟨show Ending.returned (.int .i64 (-1)) = _ from by rw [e1.out], Hb1.out⟩
  obtain ⟨hv1, hv2, hv3⟩ := vSh_iff.1 hv
  obtain ⟨⟨m1, m2⟩, hall⟩ := vFl_iff.1 hv1
  have hn1a : 1 ≤ n1 := by have := Hl1.out; omega
  have hn1b : n1 ≤ 3 := by have := Hl1.out; omega
  have hn2b : n2 ≤ 6 := by have := Hl2.out; omega
  have Hv := hide hv
  have Hv3 := hide hv3
  have Hall := hide hall
  clear hv hv1 hv2 hv3 m1 m2 hall
  by_cases hl : n3 = n2
  · subst hl
    have q1 : ((n3 : Int) != (n3 : Int)) = false := by simp
    cases ha : allB ss 0 ((n1 : Int) - 1)
    · have e1 := hide (show shareF zs cs ss = -1 from if_neg (by simp [vShare, Hl1.out, ha]))
      have Ha := hide ha
      clear ha
      go_enter Try.func20, Try.ntmps20
      go_wp2_with fail
      refine (validShares_any A1 A2 n1 c1 n3 c2 zs cs true _ hn1 hn2 H1.out H2.out Hv.out).mono ?_
      rintro e w1 ⟨rfl, hb⟩
      have R3 := hide (RdI.below H3.out hb (Nat.le_refl _))
      have Hb1 := hide hb
      clear hb
      go_wp2_with fail
      refine (allWithin_any A3 n3 c3 ss 0 ((n1 : Int) - 1) _ hn3 R3.out).mono ?_
      rintro e w' ⟨rfl, rfl⟩
      rw [Ha.out]
      go_wp2_with fail
      go_ret
      exact ⟨show Ending.returned (.int .i64 (-1)) = _ from by rw [e1.out], Hb1.out⟩
    · have e1 := hide (show shareF zs cs ss = gre zs cs ss from if_pos (vShare_iff.2 ⟨Hv.out, by rw [Hl2.out, Hl3.out], by rw [Hl1.out]; exact ha⟩))
      have hs3 : ∀ s ∈ ss, 0 ≤ s ∧ s < n1 := fun s hs => by have := allB_mem ha hs; omega
      have Hs3 := hide hs3
      have Hgre := hide (gre_eq zs cs ss (by rw [Hl1.out]; exact hn1a) (by rw [Hl1.out]; exact hn1b) (by rw [Hl1.out]; exact hs3))
      have Ha := hide ha
      obtain ⟨z0, z1, z2, hz⟩ : ∃ a0 a1 a2, newF zs = ⟨a0, a1, a2, 0, 0, 0⟩ := ⟨_, _, _, rfl⟩
      have Hz := hide hz
      have HOK := hide (newF_ok (zs := zs) (fun z hz => allB_mem Hall.out hz))
      clear ha hs3 hz
      go_enter Try.func20, Try.ntmps20
      go_wp2_with fail
      refine (validShares_any A1 A2 n1 c1 n3 c2 zs cs true _ hn1 hn2 H1.out H2.out Hv.out).mono ?_
      rintro e w1 ⟨rfl, hb⟩
      have R1 := hide (RdI.below H1.out hb (Nat.le_refl _))
      have R2 := hide (RdC.below H2.out hb (Nat.le_refl _))
      have R3 := hide (RdI.below H3.out hb (Nat.le_refl _))
      have hz1 := hb.size
      have Hb1 := hide hb
      clear hb H1 H2 H3
      go_wp2_with fail
      refine (allWithin_any A3 n3 c3 ss 0 ((n1 : Int) - 1) _ hn3 R3.out).mono ?_
      rintro e w' ⟨rfl, rfl⟩
      rw [Ha.out]
      go_wp2_with fail
      refine (newFleet_any A1 n1 c1 zs z0 z1 z2 _ hn1b R1.out Hz.out).mono ?_
      rintro e w2 ⟨rfl, hb⟩
      have S2 := hide (RdC.below R2.out hb (Nat.le_refl _))
      have S3 := hide (RdI.below R3.out hb (Nat.le_refl _))
      have hz2 := hb.size
      have Hb2 := hide hb
      clear hb R1 R2 R3
      go_wp2_with fail
      go_loopw [33] (fun i wr => ∃ k : Nat, k ≤ n3 ∧ i = .int .i64 k ∧ ∃ a0 a1 a2 p0 p1 p2 : Int, Hid (srvs (newF zs) (cs.take k) (ss.take k) = ⟨a0, a1, a2, p0, p1, p2⟩) ∧ Blk wr w2.heap.size 59 #[.int .i64 a0, .int .i64 a1, .int .i64 a2, .int .i64 p0, .int .i64 p1, .int .i64 p2] ∧ Hid (Below w2.heap.size w2 wr)) (fun i _ => n3 - (intOf i).toNat)
      case atStart => exact ⟨0, Nat.zero_le _, rfl, z0, z1, z2, 0, 0, 0, hide (by rw [Hz.out]; rfl), Blk.new _ _ _, hide (by repeat (first | (with_reducible exact Below.refl _ _) | (with_reducible refine Below.drew ?_) | (with_reducible refine below_drewN ?_ _) | ((with_reducible refine Below.alloc ?_ ?_ _); rotate_left; (focus (first | (simp; done) | (simp; omega) | omega))) | ((with_reducible refine Below.setCell ?_ ?_ _); rotate_left; (focus (first | (simp; done) | (simp; omega) | omega))) | ((with_reducible refine Below.trans ?_ (Below.mono Hb.out ?_)); rotate_left; (focus (first | (simp; done) | (simp; omega) | omega))) | ((with_reducible refine Below.trans ?_ (Below.mono Hb16.out ?_)); rotate_left; (focus (first | (simp; done) | (simp; omega) | omega))) | ((with_reducible refine Below.trans ?_ (Below.mono Hb15.out ?_)); rotate_left; (focus (first | (simp; done) | (simp; omega) | omega))) | ((with_reducible refine Below.trans ?_ (Below.mono Hb14.out ?_)); rotate_left; (focus (first | (simp; done) | (simp; omega) | omega))) | ((with_reducible refine Below.trans ?_ (Below.mono Hb13.out ?_)); rotate_left; (focus (first | (simp; done) | (simp; omega) | omega))) | ((with_reducible refine Below.trans ?_ (Below.mono Hb12.out ?_)); rotate_left; (focus (first | (simp; done) | (simp; omega) | omega))) | ((with_reducible refine Below.trans ?_ (Below.mono Hb11.out ?_)); rotate_left; (focus (first | (simp; done) | (simp; omega) | omega))) | ((with_reducible refine Below.trans ?_ (Below.mono Hb10.out ?_)); rotate_left; (focus (first | (simp; done) | (simp; omega) | omega))) | ((with_reducible refine Below.trans ?_ (Below.mono Hb9.out ?_)); rotate_left; (focus (first | (simp; done) | (simp; omega) | omega))) | ((with_reducible refine Below.trans ?_ (Below.mono Hb8.out ?_)); rotate_left; (focus (first | (simp; done) | (simp; omega) | omega))) | ((with_reducible refine Below.trans ?_ (Below.mono Hb7.out ?_)); rotate_left; (focus (first | (simp; done) | (simp; omega) | omega))) | ((with_reducible refine Below.trans ?_ (Below.mono Hb6.out ?_)); rotate_left; (focus (first | (simp; done) | (simp; omega) | omega))) | ((with_reducible refine Below.trans ?_ (Below.mono Hb5.out ?_)); rotate_left; (focus (first | (simp; done) | (simp; omega) | omega))) | ((with_reducible refine Below.trans ?_ (Below.mono Hb4.out ?_)); rotate_left; (focus (first | (simp; done) | (simp; omega) | omega))) | ((with_reducible refine Below.trans ?_ (Below.mono Hb3.out ?_)); rotate_left; (focus (first | (simp; done) | (simp; omega) | omega))) | ((with_reducible refine Below.trans ?_ (Below.mono Hb2.out ?_)); rotate_left; (focus (first | (simp; done) | (simp; omega) | omega))) | ((with_reducible refine Below.trans ?_ (Below.mono Hb1.out ?_)); rotate_left; (focus (first | (simp; done) | (simp; omega) | omega))) | ((with_reducible refine Below.trans ?_ (below_of_only Hg16.out ?_ ?_)); rotate_left; (focus (first | (simp; done) | (simp; omega) | omega)); (intro k hk; cases hk; omega)) | ((with_reducible refine Below.trans ?_ (below_of_only Hg15.out ?_ ?_)); rotate_left; (focus (first | (simp; done) | (simp; omega) | omega)); (intro k hk; cases hk; omega)) | ((with_reducible refine Below.trans ?_ (below_of_only Hg14.out ?_ ?_)); rotate_left; (focus (first | (simp; done) | (simp; omega) | omega)); (intro k hk; cases hk; omega)) | ((with_reducible refine Below.trans ?_ (below_of_only Hg13.out ?_ ?_)); rotate_left; (focus (first | (simp; done) | (simp; omega) | omega)); (intro k hk; cases hk; omega)) | ((with_reducible refine Below.trans ?_ (below_of_only Hg12.out ?_ ?_)); rotate_left; (focus (first | (simp; done) | (simp; omega) | omega)); (intro k hk; cases hk; omega)) | ((with_reducible refine Below.trans ?_ (below_of_only Hg11.out ?_ ?_)); rotate_left; (focus (first | (simp; done) | (simp; omega) | omega)); (intro k hk; cases hk; omega)) | ((with_reducible refine Below.trans ?_ (below_of_only Hg10.out ?_ ?_)); rotate_left; (focus (first | (simp; done) | (simp; omega) | omega)); (intro k hk; cases hk; omega)) | ((with_reducible refine Below.trans ?_ (below_of_only Hg9.out ?_ ?_)); rotate_left; (focus (first | (simp; done) | (simp; omega) | omega)); (intro k hk; cases hk; omega)) | ((with_reducible refine Below.trans ?_ (below_of_only Hg8.out ?_ ?_)); rotate_left; (focus (first | (simp; done) | (simp; omega) | omega)); (intro k hk; cases hk; omega)) | ((with_reducible refine Below.trans ?_ (below_of_only Hg7.out ?_ ?_)); rotate_left; (focus (first | (simp; done) | (simp; omega) | omega)); (intro k hk; cases hk; omega)) | ((with_reducible refine Below.trans ?_ (below_of_only Hg6.out ?_ ?_)); rotate_left; (focus (first | (simp; done) | (simp; omega) | omega)); (intro k hk; cases hk; omega)) | ((with_reducible refine Below.trans ?_ (below_of_only Hg5.out ?_ ?_)); rotate_left; (focus (first | (simp; done) | (simp; omega) | omega)); (intro k hk; cases hk; omega)) | ((with_reducible refine Below.trans ?_ (below_of_only Hg4.out ?_ ?_)); rotate_left; (focus (first | (simp; done) | (simp; omega) | omega)); (intro k hk; cases hk; omega)) | ((with_reducible refine Below.trans ?_ (below_of_only Hg3.out ?_ ?_)); rotate_left; (focus (first | (simp; done) | (simp; omega) | omega)); (intro k hk; cases hk; omega)) | ((with_reducible refine Below.trans ?_ (below_of_only Hg2.out ?_ ?_)); rotate_left; (focus (first | (simp; done) | (simp; omega) | omega)); (intro k hk; cases hk; omega)) | ((with_reducible refine Below.trans ?_ (below_of_only Hg1.out ?_ ?_)); rotate_left; (focus (first | (simp; done) | (simp; omega) | omega)); (intro k hk; cases hk; omega))))⟩
      case round =>
        obtain ⟨k, hk, rfl, a0, a1, a2, p0, p1, p2, HF, hx, HB⟩ := hrel
        have hlx := hx.lt
        have hB1 := HB.out.size
        by_cases hlt : k < n3
        · obtain ⟨b2, o2, f, t, c, rfl, hb2, hzc, d1, d2, d3⟩ := RdC.at_ S2.out hlt
          obtain ⟨b3, o3, s, rfl, hb3, hzs, d4⟩ := RdI.at_ S3.out hlt
          have d1' := (HB.out.cell (p := ⟨b2, o2 + k * 3, none⟩) hb2).trans d1
          have d2' := (HB.out.cell (p := ⟨b2, o2 + k * 3 + 1, none⟩) hb2).trans d2
          have d3' := (HB.out.cell (p := ⟨b2, o2 + k * 3 + 2, none⟩) hb2).trans d3
          have d4' := (HB.out.cell (p := ⟨b3, o3 + k, none⟩) hb3).trans d4
          have hsb := Hs3.out s (List.mem_of_getElem? hzs)
          obtain ⟨car, rfl⟩ : ∃ car : Nat, s = (car : Int) := ⟨s.toNat, by omega⟩
          have hcar : car < 3 := by omega
          have hok : Ft.ok ⟨a0, a1, a2, p0, p1, p2⟩ 1000 := by
            rw [← HF.out]
            exact (srvs_ok _ _ _ _ HOK.out fun x hx => vCs_mem Hv3.out (List.mem_of_mem_take hx)).mono (by rw [List.length_take]; omega)
          have hvk : vK f t c = true := vCs_mem Hv3.out (List.mem_of_getElem? hzc)
          obtain ⟨b0, b1, b2', q0, q1', q2, hF'⟩ := ex6 (srv ⟨a0, a1, a2, p0, p1, p2⟩ car (f, t, c))
          have HN := hide (show srvs (newF zs) (cs.take (k + 1)) (ss.take (k + 1)) = ⟨b0, b1, b2', q0, q1', q2⟩ by rw [srvs_snoc hzc hzs, HF.out]; exact hF')
          have HS := hide (And.intro hok (And.intro hvk hF'))
          have hltz : (k : Int) < (n3 : Int) := by omega
          obtain ⟨_, _, _, _, _, _, _, _, _, _, _, _⟩ := blk6 hx
          clear d1 d2 d3 d4 hzc hzs hsb hok hvk hF'
          go_wp2_with fail
          go_still_tail 6, (by kernel_rfl)
          go_wp2_with fail
          refine (serve_any a0 a1 a2 p0 p1 p2 b0 b1 b2' q0 q1' q2 car f t c _ hcar HS.out.1 HS.out.2.1 HS.out.2.2).mono ?_
          rintro e w3 ⟨rfl, hb⟩
          have hx3 : Blk w3 w2.heap.size 59 #[.int .i64 a0, .int .i64 a1, .int .i64 a2, .int .i64 p0, .int .i64 p1, .int .i64 p2] := Blk.below (Blk.drew hx) hb hlx
          have hz3 := hb.size
          try simp at hz3
          have Hb3 := hide (show Below w2.heap.size wr w3 from Below.trans (b := wr.drew) ((Below.refl _ _).drew) (hb.mono (Nat.le_of_lt hlx)))
          have HB3 := hide (HB.out.trans Hb3.out)
          clear hb
          obtain ⟨_, _, _, _, _, _, _, _, _, _, _, _⟩ := blk6 hx3
          go_wp2_with fail
          go_roundw
          case rel =>
            refine ⟨k + 1, by omega, by go_num, b0, b1, b2', q0, q1', q2, HN, ?_, hide ?_⟩
            · simpa using (((((hx3.set_ 0 (.int .i64 b0)).set_ 1 (.int .i64 b1)).set_ 2 (.int .i64 b2')).set_ 3 (.int .i64 q0)).set_ 4 (.int .i64 q1')).set_ 5 (.int .i64 q2)
            · exact ((((((HB3.out.setCell (p := ⟨w2.heap.size, 0, none⟩) (Nat.le_refl _) _).setCell (p := ⟨w2.heap.size, 1, none⟩) (Nat.le_refl _) _).setCell (p := ⟨w2.heap.size, 2, none⟩) (Nat.le_refl _) _).setCell (p := ⟨w2.heap.size, 3, none⟩) (Nat.le_refl _) _).setCell (p := ⟨w2.heap.size, 4, none⟩) (Nat.le_refl _) _).setCell (p := ⟨w2.heap.size, 5, none⟩) (Nat.le_refl _) _)
          case measure => simp [intOf]; omega
        · obtain rfl : k = n3 := by omega
          have hM : cst ⟨a0, a1, a2, p0, p1, p2⟩ = gre zs cs ss := by
            have h := HF.out
            rw [List.take_of_length_le (by have := Hl2.out; omega), List.take_of_length_le (by have := Hl3.out; omega)] at h
            rw [← h]; exact Hgre.out
          have HM := hide hM
          obtain ⟨_, _, _, _, _, _, _, _, _, _, _, _⟩ := blk6 hx
          clear hM
          go_wp2_with fail
          refine (cost_any a0 a1 a2 p0 p1 p2 _ _ HM.out).mono ?_
          rintro e w3 ⟨rfl, rfl⟩
          go_wp2_with fail
          go_ret
          refine ⟨ret_int e1.out.symm, ?_⟩
          exact (Hb1.out.trans (Hb2.out.mono hz1)).trans ((HB.out.alloc (by omega) _).mono (by omega))
  · have q1 : ((n3 : Int) != (n2 : Int)) = true := by simp; omega
    have q2 : ((n3 : Int) == (n2 : Int)) = false := by simp; omega
    have e1 := hide (show shareF zs cs ss = -1 from if_neg (by rw [vShare_iff, Hl2.out, Hl3.out]; exact fun h => hl h.2.1))
    clear hl
    go_enter Try.func20, Try.ntmps20
    go_wp2_with fail
    refine (validShares_any A1 A2 n1 c1 n2 c2 zs cs true _ hn1 hn2 H1.out H2.out Hv.out).mono ?_
    rintro e w1 ⟨rfl, hb⟩
    have Hb1 := hide hb
    clear hb
    go_wp2_with fail
    go_ret
    exact ⟨show Ending.returned (.int .i64 (-1)) = _ from by rw [e1.out], Hb1.out⟩
end Go.Proofs.Ytmhaclhcllndeaa
