/-
  What the laws on shares draw: cars, calls, a share.
-/
import Derived.Test.YtmhaclhcllndeaaDrawFl
import Derived.Test.YtmhaclhcllndeaaDrawCalls
import Derived.Test.YtmhaclhcllndeaaFleetS
namespace Go.Proofs.Ytmhaclhcllndeaa
open Go.RowKit
set_option linter.unusedSimpArgs false
set_option linter.unusedVariables false

set_option maxHeartbeats 2000000 in
theorem fewCalls_any (B g p : Nat) (w : World) (hp : p ≤ 800) (hr : RdU w B g p) :
    Calls Try.prog 58 #[.pointer (some ⟨g, 0, none⟩)] w (DrawnKs 7 B g (p + 30) w) := by
  have g1 := hr.lt
  have g2 := hr.ge
  obtain ⟨i0, hi0, iz0, iz1, iz2⟩ := info_parts call_info
  have ne0 : ¬ w.heap.size = g := by omega
  have H0 := hide (DR.lit (e := 45) (sz := 3) (B0 := B) (g := g) (w0 := w) (W := w) (by omega) (by decide) hr (World.grownBy.refl _ _) rfl)
  go_enter Try.func58, Try.ntmps58
  go_wp2_with fail
  refine (one_lit B g p _ _ _ _ [3, 4, 2, 5, 1, 0, 6, 7] _ (by simp) rfl rfl (by decide) (by omega) (by repeat (first | ((with_reducible refine RdU.mono hr16 ?_); omega) | ((with_reducible refine RdU.mono hr15 ?_); omega) | ((with_reducible refine RdU.mono hr14 ?_); omega) | ((with_reducible refine RdU.mono hr13 ?_); omega) | ((with_reducible refine RdU.mono hr12 ?_); omega) | ((with_reducible refine RdU.mono hr11 ?_); omega) | ((with_reducible refine RdU.mono hr10 ?_); omega) | ((with_reducible refine RdU.mono hr9 ?_); omega) | ((with_reducible refine RdU.mono hr8 ?_); omega) | ((with_reducible refine RdU.mono hr7 ?_); omega) | ((with_reducible refine RdU.mono hr6 ?_); omega) | ((with_reducible refine RdU.mono hr5 ?_); omega) | ((with_reducible refine RdU.mono hr4 ?_); omega) | ((with_reducible refine RdU.mono hr3 ?_); omega) | ((with_reducible refine RdU.mono hr2 ?_); omega) | ((with_reducible refine RdU.mono hr1 ?_); omega) | ((with_reducible refine RdU.mono hr ?_); omega) | (with_reducible refine RdU.drew ?_) | (with_reducible refine RdU.drewN ?_ _) | (with_reducible refine RdU.alloc ?_ _) | ((with_reducible refine RdU.setCell ?_ ?_ ?_ _); rotate_left; (focus (first | (simp; done) | (simp; omega) | omega)); (focus (first | (simp; done) | (simp; omega) | omega)))))).mono ?_
  rintro e w1 ⟨x1, rfl, x1a, hr1, hg⟩
  have H1 := hide ((H0.out.alloc _).pick hr1 hg)
  have hj : ∃ j : Nat, j ≤ 7 ∧ x1 = (j : Int) := by
    simp at x1a
    exact ⟨x1.toNat, by omega, by omega⟩
  obtain ⟨j0, hj0, rfl⟩ := hj
  clear x1a hg hr1 H0
  go_wp2_with fail
  go_loopw [3, 4] (fun v i wr => ∃ (j q : Nat) (cs : List CallQ), j ≤ 7 ∧ cs.length + j ≤ 7 ∧ i = .int .i64 j ∧ q + 3 * j ≤ p + 22 ∧ Hid (DR 45 3 B g w wr v cs.length (cellsC cs) q)) (fun _ i _ => (intOf i).toNat)
  case atStart => exact ⟨j0, p + 1, [], by omega, by simp; omega, rfl, by omega, hide (by simpa [cellsC] using H1.out)⟩
  case round =>
    obtain ⟨j, q, cs, h1, h2, rfl, h4, Hs⟩ := hrel
    obtain ⟨Av, cv, rfl⟩ := own_form Hs.out.o
    by_cases hj0' : 0 < j
    · have hj1 : (0 : Int) < (j : Int) := by omega
      have hr4 := Hs.out.rd
      go_wp2_with fail
      refine (randomCall_any B g q _ (by omega) hr4).mono ?_
      rintro e w4 ⟨f, t, x, rfl, hr5, hg⟩
      have Hs4 := hide (Hs.out.pick hr5 hg)
      clear hr5 hg hr4 Hs
      go_wp2_with (at_builtin; refine wpList_append_own _ rfl (.tmp 13) (.tmp 16) _ rfl w.heap.size 45 i0 (.agg #[.int .i64 0, .int .i64 0, .int .i64 0]) 3 24 Try.underlying30 hi0 iz0 iz1 iz2 rfl (by decide) _ _ _ rfl (Hs4.out.o.alloc _) _ 1 1 [.int .i64 f, .int .i64 t, .int .i64 x] rfl rfl (cells_new_at _ #[.int .i64 f, .int .i64 t, .int .i64 x] _ _ (by simp)) (one3 _ _ _) (by unfold maxLen; omega) (by omega) (by have hsz := Hs4.out.size; (try simp at hsz); (try simp); omega) ?_; intro v5 w5 hown hgrow _)
      have Hs5 := hide ((Hs4.out.alloc (.cells #[.int .i64 f, .int .i64 t, .int .i64 x] 45)).app (ks_app hown) hgrow)
      clear hown hgrow Hs4
      go_wp2_with fail
      go_roundw
      case rel => exact ⟨j - 1, q + 3, cs ++ [(f, t, x)], by omega, by simp; omega, int_eq (by omega), by omega, hide (by simpa using Hs5.out)⟩
      case measure => simp [intOf]; omega
    · obtain rfl : j = 0 := by omega
      cases cs with
      | nil =>
        have q1 : decide ((([] : List CallQ).length : Int) > 0) = false := by simp
        go_wp2_with fail
        go_ret
        exact ⟨_, _, _, [], rfl, by simp, Hs.out.o, Hs.out.rd.mono (by omega), Hs.out.gr⟩
      | cons c cs =>
        obtain ⟨f, t, x⟩ := c
        have hpos : (0 : Int) < (((f, t, x) :: cs).length : Int) := by simp only [List.length_cons]; omega
        have hposN : 0 < ((f, t, x) :: cs).length := by simp
        obtain ⟨n, hn⟩ : ∃ n, ((f, t, x) :: cs).length = n := ⟨_, rfl⟩
        have Hn := hide hn
        rw [hn] at hpos hposN Hs h2
        rw [hn]
        clear hn
        have hr4 := Hs.out.rd
        go_wp2_with fail
        refine (pick_u B g q _ _ (by omega) hr4).mono ?_
        rintro e w4 ⟨x4, rfl, x4a, x4b, hr5, hg⟩
        have Hs4 := hide (Hs.out.pick hr5 hg)
        clear hr5 hg hr4 Hs x4b
        by_cases hx0 : x4 = 0
        · subst hx0
          obtain ⟨b, rfl, hbl⟩ : ∃ b, Av = some ⟨b, 0, none⟩ ∧ n ≤ cv := by
            rcases own_formA Hs4.out.o with ⟨_, h, _⟩ | ⟨b, e, h, _⟩
            · omega
            · exact ⟨b, e, h⟩
          have e0 := Hs4.out.o.cells (g := b) rfl 0 (.int .i64 f) rfl
          have e1 := Hs4.out.o.cells (g := b) rfl 1 (.int .i64 t) rfl
          have f0 := Hs4.out.o.frozenAt 1
          have hs := Hs4.out.o.stored 1 (.int .i64 f)
          have H5 := hide (Hs4.out.app (xs' := cellsC ((f, f, x) :: cs)) hs.1 hs.2)
          simp only [Addr.add_lit, Nat.zero_add] at e0 e1 f0
          clear hs Hs4
          go_wp2_with fail
          go_ret
          exact ⟨_, _, _, _, rfl, by omega, H5.out.o, H5.out.rd.mono (by omega), H5.out.gr⟩
        · have hx1 : (x4 == 0) = false := by simpa using hx0
          clear hx0
          go_wp2_with fail
          go_ret
          exact ⟨_, _, _, _, rfl, by omega, Hs4.out.o, Hs4.out.rd.mono (by omega), Hs4.out.gr⟩

def DrawnSh (w : World) (e : Ending) (w' : World) : Prop :=
  ∃ (A1 : Option Addr) (n1 c1 : Nat) (zs : List Int) (A2 : Option Addr) (n2 c2 : Nat) (cs : List CallQ) (A3 : Option Addr) (n3 c3 : Nat) (ss : List Int), e = .returned (.tuple #[.slice A1 n1 c1, .slice A2 n2 c2, .slice A3 n3 c3]) ∧
    n1 ≤ 5 ∧ n2 ≤ 7 ∧ n3 ≤ 8 ∧ SlA A1 n1 c1 ∧ OwnA A2 n2 c2 ∧ SlA A3 n3 c3 ∧ RdI w' .i64 A1 n1 zs ∧ RdC w' A2 n2 cs ∧ RdI w' .i64 A3 n3 ss ∧ Below w.heap.size w w'
def DrawnBe (w : World) (e : Ending) (w' : World) : Prop :=
  ∃ (A1 : Option Addr) (n1 c1 : Nat) (zs : List Int) (A2 : Option Addr) (n2 c2 : Nat) (cs : List CallQ), e = .returned (.tuple #[.slice A1 n1 c1, .slice A2 n2 c2]) ∧
    n1 ≤ 5 ∧ n2 ≤ 7 ∧ SlA A1 n1 c1 ∧ OwnA A2 n2 c2 ∧ RdI w' .i64 A1 n1 zs ∧ RdC w' A2 n2 cs ∧ Below w.heap.size w w'
set_option maxHeartbeats 2000000 in
theorem DrawShareCost_any (B : Nat) (A : Option Addr) (n c : Nat) (w : World) (hB : B ≤ w.heap.size) (ha : Code8 w B A n c) :
    Calls Try.prog 31 #[.slice A n c] w (DrawnSh w) := by
  have Ha := hide ha
  obtain ⟨i0, hi0, iz0, iz1, iz2⟩ := info_parts int_info
  clear ha
  go_enter Try.func31, Try.ntmps31
  go_wp2_with fail
  refine (newReader_u B A n c _ hB Ha.out).mono ?_
  rintro e w1 ⟨g, rfl, hr1, g2, hb⟩
  have Hb1 := hide hb
  have hz1 := hb.size
  clear hb
  go_wp2_with fail
  refine (anyFleet_any B g 0 _ (by omega) hr1).mono ?_
  rintro e w2 ⟨A1, n1, c1, zs, rfl, hn1, hs, hr2, hg⟩
  have hz2 := hg.size
  have Hb2 := hide (below_of_only (B := w.heap.size) hg hz1 (fun k hk => by cases hk; exact g2))
  have S2 := hide hs
  clear hg hs
  go_wp2_with fail
  refine (fewCalls_any B g 8 _ (by omega) hr2).mono ?_
  rintro e w3 ⟨A2, n2, c2, cs, rfl, hn2, ho, hr3, hg⟩
  have hz3 := hg.size
  have Hb3 := hide (below_of_only (B := w.heap.size) hg (by omega) (fun k hk => by cases hk; exact g2))
  have S3 := hide (SlB.grown S2.out hg hr2.not_int)
  have O3 := hide ho
  have H0 := hide (DR.lit (e := 3) (sz := 1) (B0 := B) (g := g) (w0 := w3) (W := w3) (by omega) (by decide) hr3 (World.grownBy.refl _ _) rfl)
  clear hg ho S2
  obtain ⟨m, hm⟩ : ∃ m, max (n1 : Int) 1 = m := ⟨_, rfl⟩
  have hmax := fun (w : World) (ts : Array TypeId) (t : TypeId) => run_max2 (P := Try.prog) w ts t n1 1
  rw [hm] at hmax
  have hm1 : 1 ≤ m := by omega
  clear hm
  go_wp2_with fail
  go_loopw [8, 9] (fun v i wr => ∃ (k q : Nat) (ss : List Int), k ≤ n2 ∧ i = .int .i64 k ∧ ss.length = k ∧ q ≤ 38 + k ∧ Hid (DR 3 1 B g w3 wr v k (ss.map (Value.int .i64)) q)) (fun _ i _ => n2 - (intOf i).toNat)
  case atStart => exact ⟨0, 8 + 30, [], Nat.zero_le _, rfl, rfl, by omega, hide (by simpa using H0.out)⟩
  case round =>
    obtain ⟨k, q, ss, hk, rfl, hl, hq, Hs⟩ := hrel
    obtain ⟨Av, cv, rfl⟩ := own_form Hs.out.o
    have hr4 := Hs.out.rd
    by_cases hlt : k < n2
    · have hltz : (k : Int) < (n2 : Int) := by omega
      go_wp2_with fail
      refine (pick_u B g q m _ (by omega) hr4).mono ?_
      rintro e w5 ⟨x, rfl, xa, xb, hr5, hg⟩
      have Hs4 := hide (Hs.out.pick hr5 hg)
      clear hr5 hg hr4 Hs xb
      go_wp2_with (at_builtin; refine wpList_append_own _ rfl (.tmp 23) (.tmp 29) _ rfl w3.heap.size 3 i0 (.int .i64 0) 1 8 Try.underlying22 hi0 iz0 iz1 iz2 rfl (by decide) _ _ _ rfl (Hs4.out.o.alloc _) _ 1 1 [.int .i64 x] rfl rfl (cell_one_at _ _ _ _ (by simp)) (by intro u hu; simp at hu; subst hu; rfl) (by unfold maxLen; omega) (by omega) (by have hsz := Hs4.out.size; (try simp at hsz); (try simp); omega) ?_; intro v5 w6 hown hgrow _)
      have Hs5 := hide ((Hs4.out.alloc (.cells #[.int .i64 x] 3)).app (xs' := (ss ++ [x]).map (Value.int .i64)) (by simpa using hown) hgrow)
      clear hown hgrow Hs4
      go_wp2_with fail
      go_roundw
      case rel => exact ⟨k + 1, q + 1, ss ++ [x], by omega, by go_num, by simp [hl], by omega, Hs5⟩
      case measure => simp [intOf]; omega
    · obtain rfl : k = n2 := by omega
      go_wp2_with fail
      refine (spoil_own B g q w3.heap.size Av k cv ss 3 _ (by omega) (by omega) hr4 Hs.out.o).mono ?_
      rintro e w5 ⟨A3, n3, c3, ss', rfl, hn3, hs, hr5, hg⟩
      have HG := hide (only_trans Hs.out.gr hg)
      have HF := hide (And.intro hs.sla hs.rd)
      have HZ := hide (And.intro S3.out.sla (SlB.grown S3.out HG.out hr3.not_int).rd)
      have HC := hide (And.intro (own_formA O3.out) (Rd.of_own (O3.out.kept HG.out (.inr fun e => (hr3.ne_own O3.out (by decide) (by omega) g e).1 rfl))))
      have Hb5 := hide (below_of_only (B := w.heap.size) HG.out (by omega) (fun k hk => by cases hk; exact g2))
      clear hs hg
      go_wp2_with fail
      first
        | (refine bodyPost_ret ?_ rfl ⟨A1, n1, c1, zs, A2, k, c2, cs, A3, n3, c3, ss', rfl, hn1, hn2, by omega, HZ.out.1, HC.out.1, HF.out.1, HZ.out.2, HC.out.2, HF.out.2, Below.trans Hb1.out (Below.trans Hb2.out (Below.trans Hb3.out Hb5.out))⟩
           simp [results, Try.results31, go_sem, *])
set_option maxHeartbeats 1000000 in
theorem DrawBestShare_any (B : Nat) (A : Option Addr) (n c : Nat) (w : World) (hB : B ≤ w.heap.size) (ha : Code8 w B A n c) :
    Calls Try.prog 35 #[.slice A n c] w (DrawnBe w) := by
  have K := hide (DrawShareCost_any B A n c w hB ha)
  clear ha
  go_enter Try.func35, Try.ntmps35
  go_wp2_with fail
  refine K.out.mono ?_
  rintro e w1 ⟨A1, n1, c1, zs, A2, n2, c2, cs, A3, n3, c3, ss, rfl, h1, h2, h3, h4, h5, h6, h7, h8, h9, hb⟩
  have H := hide (And.intro h4 (And.intro h5 (And.intro h7 (And.intro h8 hb))))
  clear h4 h5 h6 h7 h8 h9 hb
  go_wp2_with fail
  go_ret2
  exact ⟨A1, n1, c1, zs, A2, n2, c2, cs, rfl, h1, h2, H.out.1, H.out.2.1, H.out.2.2.1, H.out.2.2.2.1, H.out.2.2.2.2⟩
set_option maxHeartbeats 1000000 in
theorem DrawGreedyShare_any (B : Nat) (A : Option Addr) (n c : Nat) (w : World) (hB : B ≤ w.heap.size) (ha : Code8 w B A n c) :
    Calls Try.prog 33 #[.slice A n c] w (DrawnBe w) := by
  have K := hide (DrawBestShare_any B A n c w hB ha)
  clear ha
  go_enter Try.func33, Try.ntmps33
  go_wp2_with fail
  refine K.out.mono ?_
  rintro e w1 ⟨A1, n1, c1, zs, A2, n2, c2, cs, rfl, h1, h2, h4, h5, h7, h8, hb⟩
  have H := hide (And.intro h4 (And.intro h5 (And.intro h7 (And.intro h8 hb))))
  clear h4 h5 h7 h8 hb
  go_wp2_with fail
  first
    | (refine bodyPost_ret ?_ rfl ⟨A1, n1, c1, zs, A2, n2, c2, cs, rfl, h1, h2, H.out.1, H.out.2.1, H.out.2.2.1, H.out.2.2.2.1, H.out.2.2.2.2⟩
       simp [results, Try.results33, go_sem, *])
end Go.Proofs.Ytmhaclhcllndeaa
