/-
  Greedy shares: the program's walk.
-/
import Derived.Test.YtmhaclhcllndeaaGreedyP
import Derived.Test.YtmhaclhcllndeaaDs
namespace Go.Proofs.Ytmhaclhcllndeaa
open Go.RowKit
set_option linter.unusedSimpArgs false
set_option linter.unusedVariables false

theorem cost_b (a0 a1 a2 p0 p1 p2 M : Int) (w : World) (hM : cst ⟨a0, a1, a2, p0, p1, p2⟩ = M) :
    Calls Try.prog 49 #[.agg #[.int .i64 a0, .int .i64 a1, .int .i64 a2, .int .i64 p0, .int .i64 p1, .int .i64 p2]] w fun e w' => e = .returned (.int .i64 M) ∧ Below w.heap.size w w' :=
  (cost_any a0 a1 a2 p0 p1 p2 M w hM).mono fun e w' h => ⟨h.1, by rw [← h.2]; exact (Below.refl _ _).alloc (Nat.le_refl _) _⟩
theorem fs_mk {w' W : World} {B g gc : Nat} {a0 a1 a2 p0 p1 p2 f t c : Int} (h1 : Blk w' g 59 #[.int .i64 a0, .int .i64 a1, .int .i64 a2, .int .i64 p0, .int .i64 p1, .int .i64 p2]) (h2 : Blk w' gc 45 #[.int .i64 f, .int .i64 t, .int .i64 c]) (h3 : Below B W w') :
    w'.cell? ⟨g, 0, none⟩ = some (.int .i64 a0) ∧ w'.cell? ⟨g, 1, none⟩ = some (.int .i64 a1) ∧ w'.cell? ⟨g, 2, none⟩ = some (.int .i64 a2) ∧ w'.cell? ⟨g, 3, none⟩ = some (.int .i64 p0) ∧ w'.cell? ⟨g, 4, none⟩ = some (.int .i64 p1) ∧ w'.cell? ⟨g, 5, none⟩ = some (.int .i64 p2) ∧ w'.cell? ⟨gc, 0, none⟩ = some (.int .i64 f) ∧ w'.cell? ⟨gc, 1, none⟩ = some (.int .i64 t) ∧ w'.cell? ⟨gc, 2, none⟩ = some (.int .i64 c) ∧ Blk w' (g) 59 #[.int .i64 a0, .int .i64 a1, .int .i64 a2, .int .i64 p0, .int .i64 p1, .int .i64 p2] ∧ Blk w' (gc) 45 #[.int .i64 f, .int .i64 t, .int .i64 c] ∧ Below B W w' :=
  ⟨h1.cell 0, h1.cell 1, h1.cell 2, h1.cell 3, h1.cell 4, h1.cell 5, h2.cell 0, h2.cell 1, h2.cell 2, h1, h2, h3⟩

set_option maxHeartbeats 8000000 in
theorem GreedyShare_i (A1 A2 : Option Addr) (n1 c1 n2 c2 : Nat) (zs : List Int) (cs : List CallQ) (w : World) (hn1 : n1 ≤ 1048576) (hn2 : n2 ≤ 1048576)
    (h1 : RdI w .i64 A1 n1 zs) (h2 : RdC w A2 n2 cs) :
    Calls Try.prog 23 #[.slice A1 n1 c1, .slice A2 n2 c2] w (RetI w (grdK zs cs)) := by
  have Hl1 := hide h1.len
  have Hl2 := hide h2.len
  have H1 := hide h1
  have H2 := hide h2
  clear h1 h2
  cases hv : vSh zs cs
  · have e1 := hide (show grdK zs cs = [] from if_neg (by simp [hv]))
    have Hv := hide hv
    have Done := hide (show ∀ w', Below w.heap.size w w' → RetI w (grdK zs cs) (.returned (.slice none 0 0)) w' from fun w' h => ⟨none, 0, 0, rfl, by rw [e1.out]; exact World.ownsRow_nil _ _ _ _, h⟩)
    clear hv
    go_enter Try.func23, Try.ntmps23
    go_wp2_with fail
    refine (validShares_any A1 A2 n1 c1 n2 c2 zs cs false _ hn1 hn2 H1.out H2.out Hv.out).mono ?_
    rintro e w1 ⟨rfl, hb⟩
    have Hb1 := hide hb
    clear hb
    go_wp2_with fail
    go_ret
    exact Done.out _ Hb1.out
  obtain ⟨hv1, hv2, hv3⟩ := vSh_iff.1 hv
  obtain ⟨⟨m1, m2⟩, hall⟩ := vFl_iff.1 hv1
  have hn1a : 1 ≤ n1 := by have := Hl1.out; omega
  have hn1b : n1 ≤ 3 := by have := Hl1.out; omega
  have hn2b : n2 ≤ 6 := by have := Hl2.out; omega
  have e1 := hide (show grdK zs cs = grd n1 (newF zs) cs by unfold grdK; rw [if_pos hv, Hl1.out])
  have Hv := hide hv
  have Hv3 := hide hv3
  have Hall := hide hall
  obtain ⟨z0, z1, z2, hz⟩ : ∃ a0 a1 a2, newF zs = ⟨a0, a1, a2, 0, 0, 0⟩ := ⟨_, _, _, rfl⟩
  have Hz := hide hz
  have HOK := hide (newF_ok (zs := zs) (fun z hz => allB_mem Hall.out hz))
  obtain ⟨i0, hi0, iz0, iz1, iz2⟩ := info_parts int_info
  clear hv hv1 hv2 hv3 m1 m2 hall hz
  go_enter Try.func23, Try.ntmps23
  go_wp2_with fail
  refine (validShares_any A1 A2 n1 c1 n2 c2 zs cs true _ hn1 hn2 H1.out H2.out Hv.out).mono ?_
  rintro e w1 ⟨rfl, hb⟩
  have R1 := hide (RdI.below H1.out hb (Nat.le_refl _))
  have R2 := hide (RdC.below H2.out hb (Nat.le_refl _))
  have hz1 := hb.size
  have Hb1 := hide hb
  clear hb H1 H2
  go_wp2_with fail
  refine (newFleet_any A1 n1 c1 zs z0 z1 z2 _ hn1b R1.out Hz.out).mono ?_
  rintro e w2 ⟨rfl, hb⟩
  have S2 := hide (RdC.below R2.out hb (Nat.le_refl _))
  have hz2 := hb.size
  have Hb2 := hide (Hb1.out.trans (hb.mono hz1))
  clear hb R1 R2
  go_wp2_with fail
  go_loopw [6, 19] (fun v i wr => ∃ (k : Nat) (sh : List Int), k ≤ n2 ∧ i = .int .i64 k ∧ sh.length = k ∧ Hid (grd n1 (newF zs) (cs.take k) = sh) ∧ ∃ a0 a1 a2 p0 p1 p2 : Int, Hid (srvs (newF zs) (cs.take k) sh = ⟨a0, a1, a2, p0, p1, p2⟩) ∧ Blk wr w2.heap.size 59 #[.int .i64 a0, .int .i64 a1, .int .i64 a2, .int .i64 p0, .int .i64 p1, .int .i64 p2] ∧ Hid (Below w2.heap.size w2 wr) ∧ Hid (wr.ownsRow w2.heap.size 3 1 v k (sh.map (Value.int .i64)))) (fun _ i _ => n2 - (intOf i).toNat)
  case atStart => exact ⟨0, [], Nat.zero_le _, rfl, rfl, hide rfl, z0, z1, z2, 0, 0, 0, hide (by rw [Hz.out]; rfl), Blk.new _ _ _, hide (by repeat (first | (with_reducible exact Below.refl _ _) | (with_reducible refine Below.drew ?_) | (with_reducible refine below_drewN ?_ _) | ((with_reducible refine Below.alloc ?_ ?_ _); rotate_left; (focus (first | (simp; done) | (simp; omega) | omega))) | ((with_reducible refine Below.setCell ?_ ?_ _); rotate_left; (focus (first | (simp; done) | (simp; omega) | omega))) | ((with_reducible refine Below.trans ?_ (Below.mono Hb.out ?_)); rotate_left; (focus (first | (simp; done) | (simp; omega) | omega))) | ((with_reducible refine Below.trans ?_ (Below.mono Hb16.out ?_)); rotate_left; (focus (first | (simp; done) | (simp; omega) | omega))) | ((with_reducible refine Below.trans ?_ (Below.mono Hb15.out ?_)); rotate_left; (focus (first | (simp; done) | (simp; omega) | omega))) | ((with_reducible refine Below.trans ?_ (Below.mono Hb14.out ?_)); rotate_left; (focus (first | (simp; done) | (simp; omega) | omega))) | ((with_reducible refine Below.trans ?_ (Below.mono Hb13.out ?_)); rotate_left; (focus (first | (simp; done) | (simp; omega) | omega))) | ((with_reducible refine Below.trans ?_ (Below.mono Hb12.out ?_)); rotate_left; (focus (first | (simp; done) | (simp; omega) | omega))) | ((with_reducible refine Below.trans ?_ (Below.mono Hb11.out ?_)); rotate_left; (focus (first | (simp; done) | (simp; omega) | omega))) | ((with_reducible refine Below.trans ?_ (Below.mono Hb10.out ?_)); rotate_left; (focus (first | (simp; done) | (simp; omega) | omega))) | ((with_reducible refine Below.trans ?_ (Below.mono Hb9.out ?_)); rotate_left; (focus (first | (simp; done) | (simp; omega) | omega))) | ((with_reducible refine Below.trans ?_ (Below.mono Hb8.out ?_)); rotate_left; (focus (first | (simp; done) | (simp; omega) | omega))) | ((with_reducible refine Below.trans ?_ (Below.mono Hb7.out ?_)); rotate_left; (focus (first | (simp; done) | (simp; omega) | omega))) | ((with_reducible refine Below.trans ?_ (Below.mono Hb6.out ?_)); rotate_left; (focus (first | (simp; done) | (simp; omega) | omega))) | ((with_reducible refine Below.trans ?_ (Below.mono Hb5.out ?_)); rotate_left; (focus (first | (simp; done) | (simp; omega) | omega))) | ((with_reducible refine Below.trans ?_ (Below.mono Hb4.out ?_)); rotate_left; (focus (first | (simp; done) | (simp; omega) | omega))) | ((with_reducible refine Below.trans ?_ (Below.mono Hb3.out ?_)); rotate_left; (focus (first | (simp; done) | (simp; omega) | omega))) | ((with_reducible refine Below.trans ?_ (Below.mono Hb2.out ?_)); rotate_left; (focus (first | (simp; done) | (simp; omega) | omega))) | ((with_reducible refine Below.trans ?_ (Below.mono Hb1.out ?_)); rotate_left; (focus (first | (simp; done) | (simp; omega) | omega))) | ((with_reducible refine Below.trans ?_ (below_of_only Hg16.out ?_ ?_)); rotate_left; (focus (first | (simp; done) | (simp; omega) | omega)); (intro k hk; cases hk; omega)) | ((with_reducible refine Below.trans ?_ (below_of_only Hg15.out ?_ ?_)); rotate_left; (focus (first | (simp; done) | (simp; omega) | omega)); (intro k hk; cases hk; omega)) | ((with_reducible refine Below.trans ?_ (below_of_only Hg14.out ?_ ?_)); rotate_left; (focus (first | (simp; done) | (simp; omega) | omega)); (intro k hk; cases hk; omega)) | ((with_reducible refine Below.trans ?_ (below_of_only Hg13.out ?_ ?_)); rotate_left; (focus (first | (simp; done) | (simp; omega) | omega)); (intro k hk; cases hk; omega)) | ((with_reducible refine Below.trans ?_ (below_of_only Hg12.out ?_ ?_)); rotate_left; (focus (first | (simp; done) | (simp; omega) | omega)); (intro k hk; cases hk; omega)) | ((with_reducible refine Below.trans ?_ (below_of_only Hg11.out ?_ ?_)); rotate_left; (focus (first | (simp; done) | (simp; omega) | omega)); (intro k hk; cases hk; omega)) | ((with_reducible refine Below.trans ?_ (below_of_only Hg10.out ?_ ?_)); rotate_left; (focus (first | (simp; done) | (simp; omega) | omega)); (intro k hk; cases hk; omega)) | ((with_reducible refine Below.trans ?_ (below_of_only Hg9.out ?_ ?_)); rotate_left; (focus (first | (simp; done) | (simp; omega) | omega)); (intro k hk; cases hk; omega)) | ((with_reducible refine Below.trans ?_ (below_of_only Hg8.out ?_ ?_)); rotate_left; (focus (first | (simp; done) | (simp; omega) | omega)); (intro k hk; cases hk; omega)) | ((with_reducible refine Below.trans ?_ (below_of_only Hg7.out ?_ ?_)); rotate_left; (focus (first | (simp; done) | (simp; omega) | omega)); (intro k hk; cases hk; omega)) | ((with_reducible refine Below.trans ?_ (below_of_only Hg6.out ?_ ?_)); rotate_left; (focus (first | (simp; done) | (simp; omega) | omega)); (intro k hk; cases hk; omega)) | ((with_reducible refine Below.trans ?_ (below_of_only Hg5.out ?_ ?_)); rotate_left; (focus (first | (simp; done) | (simp; omega) | omega)); (intro k hk; cases hk; omega)) | ((with_reducible refine Below.trans ?_ (below_of_only Hg4.out ?_ ?_)); rotate_left; (focus (first | (simp; done) | (simp; omega) | omega)); (intro k hk; cases hk; omega)) | ((with_reducible refine Below.trans ?_ (below_of_only Hg3.out ?_ ?_)); rotate_left; (focus (first | (simp; done) | (simp; omega) | omega)); (intro k hk; cases hk; omega)) | ((with_reducible refine Below.trans ?_ (below_of_only Hg2.out ?_ ?_)); rotate_left; (focus (first | (simp; done) | (simp; omega) | omega)); (intro k hk; cases hk; omega)) | ((with_reducible refine Below.trans ?_ (below_of_only Hg1.out ?_ ?_)); rotate_left; (focus (first | (simp; done) | (simp; omega) | omega)); (intro k hk; cases hk; omega)))), hide (World.ownsRow_nil _ _ _ _)⟩
  case round =>
    obtain ⟨k, sh, hk, rfl, hlk, HG, a0, a1, a2, p0, p1, p2, HF, hx, HB, HO⟩ := hrel
    obtain ⟨Av, cv, rfl⟩ := own_form HO.out
    have hlx := hx.lt
    have hB1 := HB.out.size
    by_cases hlt : k < n2
    · obtain ⟨b2, o2, f, t, c, rfl, hb2, hzc, d1, d2, d3⟩ := RdC.at_ S2.out hlt
      have d1' := (HB.out.cell (p := ⟨b2, o2 + k * 3, none⟩) hb2).trans d1
      have d2' := (HB.out.cell (p := ⟨b2, o2 + k * 3 + 1, none⟩) hb2).trans d2
      have d3' := (HB.out.cell (p := ⟨b2, o2 + k * 3 + 2, none⟩) hb2).trans d3
      have hsi : ∀ s ∈ sh, 0 ≤ s ∧ s < 3 := by
        rw [← HG.out]
        intro s hs
        have := grd_in n1 (by omega) _ _ s hs
        omega
      have hok : Ft.ok ⟨a0, a1, a2, p0, p1, p2⟩ 900 := by
        rw [← HF.out]
        exact (srvs_ok _ _ _ _ HOK.out fun x hx => vCs_mem Hv3.out (List.mem_of_mem_take hx)).mono (by rw [List.length_take]; omega)
      have hvk : vK f t c = true := vCs_mem Hv3.out (List.mem_of_getElem? hzc)
      have Hok := hide hok
      have Hvk := hide hvk
      have Hzc := hide hzc
      have hltz : (k : Int) < (n2 : Int) := by omega
      clear d1 d2 d3 hzc hsi hok hvk
      go_wp2_with fail
      have hx1 : Blk (wr.alloc (.cells #[.int .i64 f, .int .i64 t, .int .i64 c] 45)) w2.heap.size 59 #[.int .i64 a0, .int .i64 a1, .int .i64 a2, .int .i64 p0, .int .i64 p1, .int .i64 p2] := hx.alloc _
      have hy1 : Blk (wr.alloc (.cells #[.int .i64 f, .int .i64 t, .int .i64 c] 45)) wr.heap.size 45 #[.int .i64 f, .int .i64 t, .int .i64 c] := Blk.new _ _ _
      obtain ⟨wc, hwc⟩ : ∃ wc, wr.alloc (.cells #[.int .i64 f, .int .i64 t, .int .i64 c] 45) = wc := ⟨_, rfl⟩
      have HBc := hide (show Below wr.heap.size wr wc from by rw [← hwc]; exact (Below.refl _ _).alloc (Nat.le_refl _) _)
      have HOc := hide (show wc.ownsRow w2.heap.size 3 1 (.slice Av k cv) k (sh.map (Value.int .i64)) from by rw [← hwc]; exact HO.out.alloc _)
      rw [hwc] at hx1 hy1
      obtain ⟨gc, hgc⟩ : ∃ gc, wr.heap.size = gc := ⟨_, rfl⟩
      have hgcl : wr.heap.size ≤ gc := Nat.le_of_eq hgc
      rw [hwc, hgc]
      rw [hgc] at hy1
      have hsz0 : w2.heap.size < wc.heap.size := hx1.lt
      have hsz1 : gc < wc.heap.size := hy1.lt
      clear hwc hx HO hgc
      go_loopw [9, 25] (fun cv iv w9 => ∃ ch j : Nat, j ≤ n1 ∧ iv = .int .i64 j ∧ cv = .int .i64 ch ∧ ch < 3 ∧ Hid (pickK ⟨a0, a1, a2, p0, p1, p2⟩ (f, t, c) j = ch) ∧ Blk w9 w2.heap.size 59 #[.int .i64 a0, .int .i64 a1, .int .i64 a2, .int .i64 p0, .int .i64 p1, .int .i64 p2] ∧ Blk w9 gc 45 #[.int .i64 f, .int .i64 t, .int .i64 c] ∧ Hid (Below wc.heap.size wc w9)) (fun _ iv _ => n1 - (intOf iv).toNat)
      case atStart => exact ⟨0, 0, Nat.zero_le _, rfl, rfl, by omega, hide rfl, hx1, hy1, hide (Below.refl _ _)⟩
      case round =>
        obtain ⟨ch, j, hj, rfl, rfl, hch, HP, hx, hy, HB9⟩ := hrel
        have hlx9 := hx.lt
        have hly9 := hy.lt
        have hB9 := HB9.out
        have hsz9 := HB9.out.size
        by_cases hjn : j < n1
        · obtain ⟨b0, b1, b2', q0, q1, q2, hFj⟩ := ex6 (srv ⟨a0, a1, a2, p0, p1, p2⟩ j (f, t, c))
          obtain ⟨d0, d1, d2, e0, e1', e2, hFc⟩ := ex6 (srv ⟨a0, a1, a2, p0, p1, p2⟩ ch (f, t, c))
          obtain ⟨X, hX⟩ : ∃ X, cst ⟨b0, b1, b2', q0, q1, q2⟩ = X := ⟨_, rfl⟩
          obtain ⟨Y, hY⟩ : ∃ Y, cst ⟨d0, d1, d2, e0, e1', e2⟩ = Y := ⟨_, rfl⟩
          have HXY := hide (show pickK ⟨a0, a1, a2, p0, p1, p2⟩ (f, t, c) (j + 1) = if X < Y then j else ch by
            show (if cst (srv ⟨a0, a1, a2, p0, p1, p2⟩ j (f, t, c)) < cst (srv ⟨a0, a1, a2, p0, p1, p2⟩ (pickK ⟨a0, a1, a2, p0, p1, p2⟩ (f, t, c) j) (f, t, c)) then j else pickK ⟨a0, a1, a2, p0, p1, p2⟩ (f, t, c) j) = _
            rw [HP.out, hFj, hFc, hX, hY])
          have K1 := hide (fun w' => serve_any a0 a1 a2 p0 p1 p2 b0 b1 b2' q0 q1 q2 j f t c w' (by omega) (Hok.out.mono (by omega)) Hvk.out hFj)
          have K2 := hide (fun w' => serve_any a0 a1 a2 p0 p1 p2 d0 d1 d2 e0 e1' e2 ch f t c w' hch (Hok.out.mono (by omega)) Hvk.out hFc)
          have C1 := hide (fun w' => cost_b b0 b1 b2' q0 q1 q2 X w' hX)
          have C2 := hide (fun w' => cost_b d0 d1 d2 e0 e1' e2 Y w' hY)
          have hjz : (j : Int) < (n1 : Int) := by omega
          clear hFj hFc hX hY
          obtain ⟨_, _, _, _, _, _, _, _, _, _, _, _⟩ := blk6 hx
          obtain ⟨_, _, _, _, _, _⟩ := blk3 hy
          by_cases hd : X < Y
          · go_wp2_with fail
            go_region_held3 (fun w' => w'.cell? ⟨w2.heap.size, 0, none⟩ = some (.int .i64 a0) ∧ w'.cell? ⟨w2.heap.size, 1, none⟩ = some (.int .i64 a1) ∧ w'.cell? ⟨w2.heap.size, 2, none⟩ = some (.int .i64 a2) ∧ w'.cell? ⟨w2.heap.size, 3, none⟩ = some (.int .i64 p0) ∧ w'.cell? ⟨w2.heap.size, 4, none⟩ = some (.int .i64 p1) ∧ w'.cell? ⟨w2.heap.size, 5, none⟩ = some (.int .i64 p2) ∧ w'.cell? ⟨gc, 0, none⟩ = some (.int .i64 f) ∧ w'.cell? ⟨gc, 1, none⟩ = some (.int .i64 t) ∧ w'.cell? ⟨gc, 2, none⟩ = some (.int .i64 c) ∧ Blk w' (w2.heap.size) 59 #[.int .i64 a0, .int .i64 a1, .int .i64 a2, .int .i64 p0, .int .i64 p1, .int .i64 p2] ∧ Blk w' (gc) 45 #[.int .i64 f, .int .i64 t, .int .i64 c] ∧ Below wc.heap.size wc w')
              (first | (exact fs_mk (by repeat (first | (with_reducible assumption) | (with_reducible refine Blk.drew ?_) | (with_reducible refine Blk.drewN ?_ _) | (with_reducible refine Blk.alloc ?_ _))) (by repeat (first | (with_reducible assumption) | (with_reducible refine Blk.drew ?_) | (with_reducible refine Blk.drewN ?_ _) | (with_reducible refine Blk.alloc ?_ _))) (by repeat (first | (with_reducible assumption) | (with_reducible refine Below.drew ?_) | (with_reducible refine below_drewN ?_ _) | ((with_reducible refine Below.alloc ?_ ?_ _); rotate_left; (focus (first | (simp; done) | (simp; omega) | omega)))))))
              (first
               | ( go_at_call 48
                   first
                     | with_reducible refine (K1.out _).mono ?_
                     | with_reducible refine (K2.out _).mono ?_
                   rintro e w8 ⟨rfl, hb⟩
                   have hx8 : Blk w8 w2.heap.size 59 #[.int .i64 a0, .int .i64 a1, .int .i64 a2, .int .i64 p0, .int .i64 p1, .int .i64 p2] := by
                     refine Blk.below ?_ hb ?_
                     · repeat (first | (with_reducible assumption) | (with_reducible refine Blk.drew ?_) | (with_reducible refine Blk.drewN ?_ _) | (with_reducible refine Blk.alloc ?_ _))
                     · refine Blk.lt (t := 59) (cs := #[.int .i64 a0, .int .i64 a1, .int .i64 a2, .int .i64 p0, .int .i64 p1, .int .i64 p2]) ?_
                       repeat (first | (with_reducible assumption) | (with_reducible refine Blk.drew ?_) | (with_reducible refine Blk.drewN ?_ _) | (with_reducible refine Blk.alloc ?_ _))
                   have hy8 : Blk w8 gc 45 #[.int .i64 f, .int .i64 t, .int .i64 c] := by
                     refine Blk.below ?_ hb ?_
                     · repeat (first | (with_reducible assumption) | (with_reducible refine Blk.drew ?_) | (with_reducible refine Blk.drewN ?_ _) | (with_reducible refine Blk.alloc ?_ _))
                     · refine Blk.lt (t := 45) (cs := #[.int .i64 f, .int .i64 t, .int .i64 c]) ?_
                       repeat (first | (with_reducible assumption) | (with_reducible refine Blk.drew ?_) | (with_reducible refine Blk.drewN ?_ _) | (with_reducible refine Blk.alloc ?_ _))
                   have hB8 : Below wc.heap.size wc w8 := by
                     refine Below.trans ?_ (hb.mono ?_)
                     · repeat (first | (with_reducible assumption) | (with_reducible refine Below.drew ?_) | (with_reducible refine below_drewN ?_ _) | ((with_reducible refine Below.alloc ?_ ?_ _); rotate_left; (focus (first | (simp; done) | (simp; omega) | omega))))
                     · refine Below.size (w := wc) (B := wc.heap.size) ?_
                       repeat (first | (with_reducible assumption) | (with_reducible refine Below.drew ?_) | (with_reducible refine below_drewN ?_ _) | ((with_reducible refine Below.alloc ?_ ?_ _); rotate_left; (focus (first | (simp; done) | (simp; omega) | omega))))
                   clear hb )
               | ( go_at_call 49
                   first
                     | with_reducible refine (C1.out _).mono ?_
                     | with_reducible refine (C2.out _).mono ?_
                   rintro e w8 ⟨rfl, hb⟩
                   have hx8 : Blk w8 w2.heap.size 59 #[.int .i64 a0, .int .i64 a1, .int .i64 a2, .int .i64 p0, .int .i64 p1, .int .i64 p2] := by
                     refine Blk.below ?_ hb ?_
                     · repeat (first | (with_reducible assumption) | (with_reducible refine Blk.drew ?_) | (with_reducible refine Blk.drewN ?_ _) | (with_reducible refine Blk.alloc ?_ _))
                     · refine Blk.lt (t := 59) (cs := #[.int .i64 a0, .int .i64 a1, .int .i64 a2, .int .i64 p0, .int .i64 p1, .int .i64 p2]) ?_
                       repeat (first | (with_reducible assumption) | (with_reducible refine Blk.drew ?_) | (with_reducible refine Blk.drewN ?_ _) | (with_reducible refine Blk.alloc ?_ _))
                   have hy8 : Blk w8 gc 45 #[.int .i64 f, .int .i64 t, .int .i64 c] := by
                     refine Blk.below ?_ hb ?_
                     · repeat (first | (with_reducible assumption) | (with_reducible refine Blk.drew ?_) | (with_reducible refine Blk.drewN ?_ _) | (with_reducible refine Blk.alloc ?_ _))
                     · refine Blk.lt (t := 45) (cs := #[.int .i64 f, .int .i64 t, .int .i64 c]) ?_
                       repeat (first | (with_reducible assumption) | (with_reducible refine Blk.drew ?_) | (with_reducible refine Blk.drewN ?_ _) | (with_reducible refine Blk.alloc ?_ _))
                   have hB8 : Below wc.heap.size wc w8 := by
                     refine Below.trans ?_ (hb.mono ?_)
                     · repeat (first | (with_reducible assumption) | (with_reducible refine Below.drew ?_) | (with_reducible refine below_drewN ?_ _) | ((with_reducible refine Below.alloc ?_ ?_ _); rotate_left; (focus (first | (simp; done) | (simp; omega) | omega))))
                     · refine Below.size (w := wc) (B := wc.heap.size) ?_
                       repeat (first | (with_reducible assumption) | (with_reducible refine Below.drew ?_) | (with_reducible refine below_drewN ?_ _) | ((with_reducible refine Below.alloc ?_ ?_ _); rotate_left; (focus (first | (simp; done) | (simp; omega) | omega))))
                   clear hb ))
            go_wp2_with fail
            go_roundw
            case rel => exact ⟨j, j + 1, by omega, by go_num, rfl, by omega, hide (by rw [HXY.out, if_pos hd]), (by repeat (first | (with_reducible assumption) | (with_reducible refine Blk.drew ?_) | (with_reducible refine Blk.drewN ?_ _) | (with_reducible refine Blk.alloc ?_ _))), (by repeat (first | (with_reducible assumption) | (with_reducible refine Blk.drew ?_) | (with_reducible refine Blk.drewN ?_ _) | (with_reducible refine Blk.alloc ?_ _))), hide (by repeat (first | (with_reducible assumption) | (with_reducible refine Below.drew ?_) | (with_reducible refine below_drewN ?_ _) | ((with_reducible refine Below.alloc ?_ ?_ _); rotate_left; (focus (first | (simp; done) | (simp; omega) | omega)))))⟩
            case measure => simp [intOf]; omega
          · go_wp2_with fail
            go_region_held3 (fun w' => w'.cell? ⟨w2.heap.size, 0, none⟩ = some (.int .i64 a0) ∧ w'.cell? ⟨w2.heap.size, 1, none⟩ = some (.int .i64 a1) ∧ w'.cell? ⟨w2.heap.size, 2, none⟩ = some (.int .i64 a2) ∧ w'.cell? ⟨w2.heap.size, 3, none⟩ = some (.int .i64 p0) ∧ w'.cell? ⟨w2.heap.size, 4, none⟩ = some (.int .i64 p1) ∧ w'.cell? ⟨w2.heap.size, 5, none⟩ = some (.int .i64 p2) ∧ w'.cell? ⟨gc, 0, none⟩ = some (.int .i64 f) ∧ w'.cell? ⟨gc, 1, none⟩ = some (.int .i64 t) ∧ w'.cell? ⟨gc, 2, none⟩ = some (.int .i64 c) ∧ Blk w' (w2.heap.size) 59 #[.int .i64 a0, .int .i64 a1, .int .i64 a2, .int .i64 p0, .int .i64 p1, .int .i64 p2] ∧ Blk w' (gc) 45 #[.int .i64 f, .int .i64 t, .int .i64 c] ∧ Below wc.heap.size wc w')
              (first | (exact fs_mk (by repeat (first | (with_reducible assumption) | (with_reducible refine Blk.drew ?_) | (with_reducible refine Blk.drewN ?_ _) | (with_reducible refine Blk.alloc ?_ _))) (by repeat (first | (with_reducible assumption) | (with_reducible refine Blk.drew ?_) | (with_reducible refine Blk.drewN ?_ _) | (with_reducible refine Blk.alloc ?_ _))) (by repeat (first | (with_reducible assumption) | (with_reducible refine Below.drew ?_) | (with_reducible refine below_drewN ?_ _) | ((with_reducible refine Below.alloc ?_ ?_ _); rotate_left; (focus (first | (simp; done) | (simp; omega) | omega)))))))
              (first
               | ( go_at_call 48
                   first
                     | with_reducible refine (K1.out _).mono ?_
                     | with_reducible refine (K2.out _).mono ?_
                   rintro e w8 ⟨rfl, hb⟩
                   have hx8 : Blk w8 w2.heap.size 59 #[.int .i64 a0, .int .i64 a1, .int .i64 a2, .int .i64 p0, .int .i64 p1, .int .i64 p2] := by
                     refine Blk.below ?_ hb ?_
                     · repeat (first | (with_reducible assumption) | (with_reducible refine Blk.drew ?_) | (with_reducible refine Blk.drewN ?_ _) | (with_reducible refine Blk.alloc ?_ _))
                     · refine Blk.lt (t := 59) (cs := #[.int .i64 a0, .int .i64 a1, .int .i64 a2, .int .i64 p0, .int .i64 p1, .int .i64 p2]) ?_
                       repeat (first | (with_reducible assumption) | (with_reducible refine Blk.drew ?_) | (with_reducible refine Blk.drewN ?_ _) | (with_reducible refine Blk.alloc ?_ _))
                   have hy8 : Blk w8 gc 45 #[.int .i64 f, .int .i64 t, .int .i64 c] := by
                     refine Blk.below ?_ hb ?_
                     · repeat (first | (with_reducible assumption) | (with_reducible refine Blk.drew ?_) | (with_reducible refine Blk.drewN ?_ _) | (with_reducible refine Blk.alloc ?_ _))
                     · refine Blk.lt (t := 45) (cs := #[.int .i64 f, .int .i64 t, .int .i64 c]) ?_
                       repeat (first | (with_reducible assumption) | (with_reducible refine Blk.drew ?_) | (with_reducible refine Blk.drewN ?_ _) | (with_reducible refine Blk.alloc ?_ _))
                   have hB8 : Below wc.heap.size wc w8 := by
                     refine Below.trans ?_ (hb.mono ?_)
                     · repeat (first | (with_reducible assumption) | (with_reducible refine Below.drew ?_) | (with_reducible refine below_drewN ?_ _) | ((with_reducible refine Below.alloc ?_ ?_ _); rotate_left; (focus (first | (simp; done) | (simp; omega) | omega))))
                     · refine Below.size (w := wc) (B := wc.heap.size) ?_
                       repeat (first | (with_reducible assumption) | (with_reducible refine Below.drew ?_) | (with_reducible refine below_drewN ?_ _) | ((with_reducible refine Below.alloc ?_ ?_ _); rotate_left; (focus (first | (simp; done) | (simp; omega) | omega))))
                   clear hb )
               | ( go_at_call 49
                   first
                     | with_reducible refine (C1.out _).mono ?_
                     | with_reducible refine (C2.out _).mono ?_
                   rintro e w8 ⟨rfl, hb⟩
                   have hx8 : Blk w8 w2.heap.size 59 #[.int .i64 a0, .int .i64 a1, .int .i64 a2, .int .i64 p0, .int .i64 p1, .int .i64 p2] := by
                     refine Blk.below ?_ hb ?_
                     · repeat (first | (with_reducible assumption) | (with_reducible refine Blk.drew ?_) | (with_reducible refine Blk.drewN ?_ _) | (with_reducible refine Blk.alloc ?_ _))
                     · refine Blk.lt (t := 59) (cs := #[.int .i64 a0, .int .i64 a1, .int .i64 a2, .int .i64 p0, .int .i64 p1, .int .i64 p2]) ?_
                       repeat (first | (with_reducible assumption) | (with_reducible refine Blk.drew ?_) | (with_reducible refine Blk.drewN ?_ _) | (with_reducible refine Blk.alloc ?_ _))
                   have hy8 : Blk w8 gc 45 #[.int .i64 f, .int .i64 t, .int .i64 c] := by
                     refine Blk.below ?_ hb ?_
                     · repeat (first | (with_reducible assumption) | (with_reducible refine Blk.drew ?_) | (with_reducible refine Blk.drewN ?_ _) | (with_reducible refine Blk.alloc ?_ _))
                     · refine Blk.lt (t := 45) (cs := #[.int .i64 f, .int .i64 t, .int .i64 c]) ?_
                       repeat (first | (with_reducible assumption) | (with_reducible refine Blk.drew ?_) | (with_reducible refine Blk.drewN ?_ _) | (with_reducible refine Blk.alloc ?_ _))
                   have hB8 : Below wc.heap.size wc w8 := by
                     refine Below.trans ?_ (hb.mono ?_)
                     · repeat (first | (with_reducible assumption) | (with_reducible refine Below.drew ?_) | (with_reducible refine below_drewN ?_ _) | ((with_reducible refine Below.alloc ?_ ?_ _); rotate_left; (focus (first | (simp; done) | (simp; omega) | omega))))
                     · refine Below.size (w := wc) (B := wc.heap.size) ?_
                       repeat (first | (with_reducible assumption) | (with_reducible refine Below.drew ?_) | (with_reducible refine below_drewN ?_ _) | ((with_reducible refine Below.alloc ?_ ?_ _); rotate_left; (focus (first | (simp; done) | (simp; omega) | omega))))
                   clear hb ))
            go_wp2_with fail
            go_roundw
            case rel => exact ⟨ch, j + 1, by omega, by go_num, rfl, by omega, hide (by rw [HXY.out, if_neg (by omega)]), (by repeat (first | (with_reducible assumption) | (with_reducible refine Blk.drew ?_) | (with_reducible refine Blk.drewN ?_ _) | (with_reducible refine Blk.alloc ?_ _))), (by repeat (first | (with_reducible assumption) | (with_reducible refine Blk.drew ?_) | (with_reducible refine Blk.drewN ?_ _) | (with_reducible refine Blk.alloc ?_ _))), hide (by repeat (first | (with_reducible assumption) | (with_reducible refine Below.drew ?_) | (with_reducible refine below_drewN ?_ _) | ((with_reducible refine Below.alloc ?_ ?_ _); rotate_left; (focus (first | (simp; done) | (simp; omega) | omega)))))⟩
            case measure => simp [intOf]; omega
        · obtain rfl : j = n1 := by omega
          obtain ⟨b0, b1, b2', q0, q1, q2, hFc⟩ := ex6 (srv ⟨a0, a1, a2, p0, p1, p2⟩ ch (f, t, c))
          have hgs := grd_succ (n := j) (f := newF zs) Hzc.out HG.out HF.out
          rw [HP.out] at hgs
          rw [hFc] at hgs
          have HGS := hide hgs
          have KS := hide (fun w' => serve_any a0 a1 a2 p0 p1 p2 b0 b1 b2' q0 q1 q2 ch f t c w' hch (Hok.out.mono (by omega)) Hvk.out hFc)
          have HOw := hide (own_below HOc.out HB9.out (Nat.le_refl _))
          clear hgs hFc
          obtain ⟨_, _, _, _, _, _, _, _, _, _, _, _⟩ := blk6 hx
          obtain ⟨_, _, _, _, _, _⟩ := blk3 hy
          go_wp2_with fail
          refine (KS.out _).mono ?_
          rintro e w8 ⟨rfl, hb⟩
          have hx8 : Blk w8 w2.heap.size 59 #[.int .i64 a0, .int .i64 a1, .int .i64 a2, .int .i64 p0, .int .i64 p1, .int .i64 p2] := Blk.below hx hb hlx9
          have ho8 := own_below HOw.out hb (Nat.le_refl _)
          have hz8 := hb.size
          have HB8 := hide (show Below w2.heap.size w2 w8 from (HB.out.trans (HBc.out.mono hB1)).trans ((HB9.out.mono (Nat.le_of_lt hsz0)).trans (hb.mono (Nat.le_of_lt hlx9))))
          have hlx8 := hx8.lt
          have ho9 := own_setOther (own_setOther (own_setOther (own_setOther (own_setOther (own_setOther ho8 (p := ⟨w2.heap.size, 0, none⟩) (own_blk_ne ho8 hx8 (by decide)) (.int .i64 b0)) (p := ⟨w2.heap.size, 1, none⟩) (own_blk_ne ho8 hx8 (by decide)) (.int .i64 b1)) (p := ⟨w2.heap.size, 2, none⟩) (own_blk_ne ho8 hx8 (by decide)) (.int .i64 b2')) (p := ⟨w2.heap.size, 3, none⟩) (own_blk_ne ho8 hx8 (by decide)) (.int .i64 q0)) (p := ⟨w2.heap.size, 4, none⟩) (own_blk_ne ho8 hx8 (by decide)) (.int .i64 q1)) (p := ⟨w2.heap.size, 5, none⟩) (own_blk_ne ho8 hx8 (by decide)) (.int .i64 q2)
          have HO9 := hide ho9
          have HX9 := hide ((((((hx8.set_ 0 (.int .i64 b0)).set_ 1 (.int .i64 b1)).set_ 2 (.int .i64 b2')).set_ 3 (.int .i64 q0)).set_ 4 (.int .i64 q1)).set_ 5 (.int .i64 q2))
          have hne := own_blk_ne ho8 hx8 (by decide)
          have HNE := hide hne
          clear hb ho8 ho9 hne
          obtain ⟨_, _, _, _, _, _, _, _, _, _, _, _⟩ := blk6 hx8
          go_wp2_with (at_builtin; refine wpList_append_own _ rfl (.tmp 45) (.tmp 47) _ rfl w2.heap.size 3 i0 (.int .i64 0) 1 8 Try.underlying22 hi0 iz0 iz1 iz2 rfl (by decide) _ _ _ rfl (HO9.out.alloc _) _ 1 1 [.int .i64 ch] rfl rfl (cell_one_at _ _ _ _ (by simp)) (by intro u hu; simp at hu; subst hu; rfl) (by unfold maxLen; omega) (by omega) (by simp; omega) ?_; intro v5 w5 hown hgrow _)
          have hx5 := (HX9.out.alloc (.cells #[.int .i64 ch] 3)).grown hgrow (Ne.symm HNE.out)
          have hb5 := ((((((HB8.out.setCell (p := ⟨w2.heap.size, 0, none⟩) (Nat.le_refl _) (.int .i64 b0)).setCell (p := ⟨w2.heap.size, 1, none⟩) (Nat.le_refl _) (.int .i64 b1)).setCell (p := ⟨w2.heap.size, 2, none⟩) (Nat.le_refl _) (.int .i64 b2')).setCell (p := ⟨w2.heap.size, 3, none⟩) (Nat.le_refl _) (.int .i64 q0)).setCell (p := ⟨w2.heap.size, 4, none⟩) (Nat.le_refl _) (.int .i64 q1)).setCell (p := ⟨w2.heap.size, 5, none⟩) (Nat.le_refl _) (.int .i64 q2)).alloc (by simp; omega) (.cells #[.int .i64 ch] 3)
          have HF5 := hide (And.intro hown (Below.grown hb5 hgrow (by simp; omega) (fun j hj => (HO9.out.lt j hj).1)))
          have HX5 := hide hx5
          clear hown hgrow hx5 hb5 hx8
          go_wp2_with fail
          go_roundw
          case rel => exact ⟨k + 1, sh ++ [(ch : Int)], by omega, by go_num, by simp [hlk], hide HGS.out.1, b0, b1, b2', q0, q1, q2, hide HGS.out.2, by simpa using HX5.out, hide HF5.out.2, hide (by simpa using HF5.out.1)⟩
          case measure => simp [intOf]; omega
    · obtain rfl : k = n2 := by omega
      have hsh : sh = grdK zs cs := by
        have h := HG.out
        rw [List.take_of_length_le (by have := Hl2.out; omega)] at h
        rw [e1.out, h]
      have Hsh := hide hsh
      clear hsh
      go_wp2_with fail
      go_ret
      exact ⟨Av, k, cv, rfl, by rw [← Hsh.out]; exact own_base HO.out (by omega), Hb2.out.trans (HB.out.mono (by omega))⟩
end Go.Proofs.Ytmhaclhcllndeaa
