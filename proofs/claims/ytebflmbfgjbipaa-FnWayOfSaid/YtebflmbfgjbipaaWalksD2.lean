/-
  The walks of the laws on ways.
-/
import Derived.Test.YtebflmbfgjbipaaDrawFl
import Derived.Test.YtebflmbfgjbipaaFloorsB
import Derived.Test.YtebflmbfgjbipaaLaw8
namespace Go.Proofs.Ytebflmbfgjbipaa
open Go.RowKit
set_option linter.unusedSimpArgs false
set_option linter.unusedVariables false

theorem WayOf_q (A : Option Addr) (n c : Nat) (zs : List Int) (a m : Int) (w : World) (hn : n ≤ 1048576) (ha : RdI w .i64 A n zs) (hm : wayF zs a = m) :
    Calls Try.prog 18 #[.slice A n c, .int .i64 a] w fun e w' => e = .returned (.int .i64 m) ∧ w' = w := by
  subst hm
  exact (WayOf_i A n c zs a w hn ha).mono fun e w' h => ⟨h.1, h.2.symm⟩
theorem WayOf_iv (A : Option Addr) (n c : Nat) (zs : List Int) (a m : Int) (w : World) (hn : n ≤ 1048576) (ha : RdI w .i64 A n zs) (hm : wayF zs a = m) :
    Calls Try.prog 18 #[.slice A n c, .int .i64 a] w fun e w' => e = .returned (.int .i64 m) ∧ w = w' := by
  subst hm
  exact WayOf_i A n c zs a w hn ha
theorem WayOf_sv (A : Option Addr) (n c : Nat) (zs : List Int) (a m : Int) (w : World) (hn : n ≤ 1048576) (ha : RdI w .i64 A n zs) (hm : wayF zs a = m) :
    Calls Try.prog 16 #[.slice A n c, .int .i64 a] w fun e w' => e = .returned (.int .i64 m) ∧ w = w' := by
  subst hm
  exact WayOf_s A n c zs a w hn ha
set_option maxHeartbeats 400000 in
theorem absolute_v (x : Int) (m : Nat) (w : World) (x0 : -1000000 ≤ x) (x1 : x ≤ 1000000) (hm : x.natAbs = m) :
    Calls Try.prog 34 #[.int .i64 x] w fun e w' => e = .returned (.int .i64 (m : Int)) ∧ w' = w := by
  subst hm
  go_enter Try.func34, Try.ntmps34
  go_wp2
  all_goals
    go_ret
    refine ⟨ret_int ?_, rfl⟩
    go_light
    omega
theorem wayF_ok {zs : List Int} {a : Int} (h : 0 ≤ wayF zs a) : zs.length ≤ 24 ∧ allB zs 0 15 = true ∧ (0 ≤ a ∧ a ≤ 15) ∧ wayF zs a = (wayL a zs : Int) := by
  unfold wayF at h ⊢
  split at h
  · rename_i hc
    exact ⟨hc.1, hc.2.1, inB_iff.1 hc.2.2, by rw [if_pos hc]⟩
  · omega
theorem wayF_of {zs : List Int} {a : Int} (h1 : zs.length ≤ 24) (h2 : allB zs 0 15 = true) (h3 : 0 ≤ a) (h4 : a ≤ 15) : wayF zs a = (wayL a zs : Int) := if_pos ⟨h1, h2, inB_iff.2 ⟨h3, h4⟩⟩
/-- Ways add up. -/
theorem wayL_app : ∀ (p q : List Int) (a l : Int), p.getLast? = some l → wayL a (p ++ q) = wayL a p + wayL l q
  | [], _, _, _, h => by simp at h
  | [z], q, a, l, h => by
    have : z = l := by simpa using h
    subst this
    simp [wayL]
  | z :: y :: p, q, a, l, h => by
    have h' : (y :: p).getLast? = some l := by simpa [List.getLast?_cons_cons] using h
    have := wayL_app (y :: p) q z l h'
    simp only [List.cons_append, wayL] at this ⊢
    omega
theorem wayL_ge : ∀ (zs : List Int) (a l : Int), zs.getLast? = some l → (l - a).natAbs ≤ wayL a zs
  | [], _, _, h => by simp at h
  | [z], a, l, h => by
    have : z = l := by simpa using h
    subst this
    simp [wayL]
    omega
  | z :: y :: p, a, l, h => by
    have h' : (y :: p).getLast? = some l := by simpa [List.getLast?_cons_cons] using h
    have := wayL_ge (y :: p) z l h'
    simp only [wayL] at this ⊢
    omega
theorem last_take {zs : List Int} {j : Nat} {z : Int} (h : zs[j]? = some z) : (zs.take (j + 1)).getLast? = some z := by
  rw [take_snoc _ _ _ h]; simp
theorem allB_take {zs : List Int} {l h : Int} (ha : allB zs l h = true) (k : Nat) : allB (zs.take k) l h = true := allB_iff.2 fun x hx => allB_mem ha (List.mem_of_mem_take hx)
theorem allB_drop {zs : List Int} {l h : Int} (ha : allB zs l h = true) (k : Nat) : allB (zs.drop k) l h = true := allB_iff.2 fun x hx => allB_mem ha (List.mem_of_mem_drop hx)

set_option maxHeartbeats 600000 in
theorem fnWayOf_walk (A : Option Addr) (n c : Nat) (zs : List Int) (w : World) (hl : n ≤ c) (hr : RdI w .u8 A n zs) (hz : ∀ z ∈ zs, (Lit.int .u8 z).wf = true) :
    Calls Try.prog 10 #[.slice A n c] w fun e w' => e = .returned (.bool true) ∧ Below w.heap.size w w' := by
  have Ha := hide (code8_of hl hr hz)
  clear hr hz
  by_cases hn : 1048576 < n
  · have hn' : (1048576 : Int) < (n : Int) := by omega
    go_enter Try.func10, Try.ntmps10
    go_wp2_with fail
    go_ret
    exact ⟨rfl, Below.refl _ _⟩
  have hn' : (n : Int) ≤ 1048576 := by omega
  go_enter Try.func10, Try.ntmps10
  go_wp2_with fail
  refine (DrawWayOf_any _ A n c _ (Nat.le_refl _) Ha.out).mono ?_
  rintro e w1 ⟨A1, n1, c1, zs1, x, rfl, hn1, sA1, x0, x1, r1, hb⟩
  have hz1 := hb.size
  try simp at hz1
  have Hb1 := hide hb
  clear hb
  have R1 := hide r1
  have Hl1 := hide (RdI.len r1)
  obtain ⟨b1, o1, rfl, hnc, hcm⟩ := sA1
  clear r1
  obtain ⟨m, hm⟩ : ∃ m, wayF zs1 x = m := ⟨_, rfl⟩
  have Hm := hide hm
  clear hm
  have hc2 : (n1 : Int) ≤ (c1 : Int) := by omega
  have Hcm := hide hcm
  clear hcm
  go_wp2_with fail
  refine (WayOf_iv _ n1 c1 zs1 x m _ (by omega) R1.out Hm.out).mono ?_
  rintro e w' ⟨rfl, rfl⟩
  go_wp2_with fail
  refine (WayOf_sv _ n1 c1 zs1 x m _ (by omega) R1.out Hm.out).mono ?_
  rintro e w' ⟨rfl, rfl⟩
  by_cases hneg : m < 0
  · go_wp2_with fail
    refine (WayOf_sv _ n1 c1 zs1 x m _ (by omega) R1.out Hm.out).mono ?_
    rintro e w' ⟨rfl, rfl⟩
    go_wp2_with fail
    go_ret
    exact ⟨rfl, (by repeat (first | (with_reducible exact Below.refl _ _) | (with_reducible refine Below.drew ?_) | (with_reducible refine below_drewN ?_ _) | ((with_reducible refine Below.alloc ?_ ?_ _); rotate_left; (focus (first | (simp; done) | (simp; omega) | omega))) | ((with_reducible refine Below.setCell ?_ ?_ _); rotate_left; (focus (first | (simp; done) | (simp; omega) | omega))) | ((with_reducible refine Below.trans ?_ (Below.mono Hb.out ?_)); rotate_left; (focus (first | (simp; done) | (simp; omega) | omega))) | ((with_reducible refine Below.trans ?_ (Below.mono Hb16.out ?_)); rotate_left; (focus (first | (simp; done) | (simp; omega) | omega))) | ((with_reducible refine Below.trans ?_ (Below.mono Hb15.out ?_)); rotate_left; (focus (first | (simp; done) | (simp; omega) | omega))) | ((with_reducible refine Below.trans ?_ (Below.mono Hb14.out ?_)); rotate_left; (focus (first | (simp; done) | (simp; omega) | omega))) | ((with_reducible refine Below.trans ?_ (Below.mono Hb13.out ?_)); rotate_left; (focus (first | (simp; done) | (simp; omega) | omega))) | ((with_reducible refine Below.trans ?_ (Below.mono Hb12.out ?_)); rotate_left; (focus (first | (simp; done) | (simp; omega) | omega))) | ((with_reducible refine Below.trans ?_ (Below.mono Hb11.out ?_)); rotate_left; (focus (first | (simp; done) | (simp; omega) | omega))) | ((with_reducible refine Below.trans ?_ (Below.mono Hb10.out ?_)); rotate_left; (focus (first | (simp; done) | (simp; omega) | omega))) | ((with_reducible refine Below.trans ?_ (Below.mono Hb9.out ?_)); rotate_left; (focus (first | (simp; done) | (simp; omega) | omega))) | ((with_reducible refine Below.trans ?_ (Below.mono Hb8.out ?_)); rotate_left; (focus (first | (simp; done) | (simp; omega) | omega))) | ((with_reducible refine Below.trans ?_ (Below.mono Hb7.out ?_)); rotate_left; (focus (first | (simp; done) | (simp; omega) | omega))) | ((with_reducible refine Below.trans ?_ (Below.mono Hb6.out ?_)); rotate_left; (focus (first | (simp; done) | (simp; omega) | omega))) | ((with_reducible refine Below.trans ?_ (Below.mono Hb5.out ?_)); rotate_left; (focus (first | (simp; done) | (simp; omega) | omega))) | ((with_reducible refine Below.trans ?_ (Below.mono Hb4.out ?_)); rotate_left; (focus (first | (simp; done) | (simp; omega) | omega))) | ((with_reducible refine Below.trans ?_ (Below.mono Hb3.out ?_)); rotate_left; (focus (first | (simp; done) | (simp; omega) | omega))) | ((with_reducible refine Below.trans ?_ (Below.mono Hb2.out ?_)); rotate_left; (focus (first | (simp; done) | (simp; omega) | omega))) | ((with_reducible refine Below.trans ?_ (Below.mono Hb1.out ?_)); rotate_left; (focus (first | (simp; done) | (simp; omega) | omega))) | ((with_reducible refine Below.trans ?_ (below_of_only Hg16.out ?_ ?_)); rotate_left; (focus (first | (simp; done) | (simp; omega) | omega)); (intro k hk; cases hk; omega)) | ((with_reducible refine Below.trans ?_ (below_of_only Hg15.out ?_ ?_)); rotate_left; (focus (first | (simp; done) | (simp; omega) | omega)); (intro k hk; cases hk; omega)) | ((with_reducible refine Below.trans ?_ (below_of_only Hg14.out ?_ ?_)); rotate_left; (focus (first | (simp; done) | (simp; omega) | omega)); (intro k hk; cases hk; omega)) | ((with_reducible refine Below.trans ?_ (below_of_only Hg13.out ?_ ?_)); rotate_left; (focus (first | (simp; done) | (simp; omega) | omega)); (intro k hk; cases hk; omega)) | ((with_reducible refine Below.trans ?_ (below_of_only Hg12.out ?_ ?_)); rotate_left; (focus (first | (simp; done) | (simp; omega) | omega)); (intro k hk; cases hk; omega)) | ((with_reducible refine Below.trans ?_ (below_of_only Hg11.out ?_ ?_)); rotate_left; (focus (first | (simp; done) | (simp; omega) | omega)); (intro k hk; cases hk; omega)) | ((with_reducible refine Below.trans ?_ (below_of_only Hg10.out ?_ ?_)); rotate_left; (focus (first | (simp; done) | (simp; omega) | omega)); (intro k hk; cases hk; omega)) | ((with_reducible refine Below.trans ?_ (below_of_only Hg9.out ?_ ?_)); rotate_left; (focus (first | (simp; done) | (simp; omega) | omega)); (intro k hk; cases hk; omega)) | ((with_reducible refine Below.trans ?_ (below_of_only Hg8.out ?_ ?_)); rotate_left; (focus (first | (simp; done) | (simp; omega) | omega)); (intro k hk; cases hk; omega)) | ((with_reducible refine Below.trans ?_ (below_of_only Hg7.out ?_ ?_)); rotate_left; (focus (first | (simp; done) | (simp; omega) | omega)); (intro k hk; cases hk; omega)) | ((with_reducible refine Below.trans ?_ (below_of_only Hg6.out ?_ ?_)); rotate_left; (focus (first | (simp; done) | (simp; omega) | omega)); (intro k hk; cases hk; omega)) | ((with_reducible refine Below.trans ?_ (below_of_only Hg5.out ?_ ?_)); rotate_left; (focus (first | (simp; done) | (simp; omega) | omega)); (intro k hk; cases hk; omega)) | ((with_reducible refine Below.trans ?_ (below_of_only Hg4.out ?_ ?_)); rotate_left; (focus (first | (simp; done) | (simp; omega) | omega)); (intro k hk; cases hk; omega)) | ((with_reducible refine Below.trans ?_ (below_of_only Hg3.out ?_ ?_)); rotate_left; (focus (first | (simp; done) | (simp; omega) | omega)); (intro k hk; cases hk; omega)) | ((with_reducible refine Below.trans ?_ (below_of_only Hg2.out ?_ ?_)); rotate_left; (focus (first | (simp; done) | (simp; omega) | omega)); (intro k hk; cases hk; omega)) | ((with_reducible refine Below.trans ?_ (below_of_only Hg1.out ?_ ?_)); rotate_left; (focus (first | (simp; done) | (simp; omega) | omega)); (intro k hk; cases hk; omega))))⟩
  by_cases h0 : n1 = 0
  · subst h0
    go_wp2_with fail
    refine (WayOf_sv _ 0 c1 zs1 x m _ (by omega) R1.out Hm.out).mono ?_
    rintro e w' ⟨rfl, rfl⟩
    go_wp2_with fail
    go_ret
    exact ⟨rfl, (by repeat (first | (with_reducible exact Below.refl _ _) | (with_reducible refine Below.drew ?_) | (with_reducible refine below_drewN ?_ _) | ((with_reducible refine Below.alloc ?_ ?_ _); rotate_left; (focus (first | (simp; done) | (simp; omega) | omega))) | ((with_reducible refine Below.setCell ?_ ?_ _); rotate_left; (focus (first | (simp; done) | (simp; omega) | omega))) | ((with_reducible refine Below.trans ?_ (Below.mono Hb.out ?_)); rotate_left; (focus (first | (simp; done) | (simp; omega) | omega))) | ((with_reducible refine Below.trans ?_ (Below.mono Hb16.out ?_)); rotate_left; (focus (first | (simp; done) | (simp; omega) | omega))) | ((with_reducible refine Below.trans ?_ (Below.mono Hb15.out ?_)); rotate_left; (focus (first | (simp; done) | (simp; omega) | omega))) | ((with_reducible refine Below.trans ?_ (Below.mono Hb14.out ?_)); rotate_left; (focus (first | (simp; done) | (simp; omega) | omega))) | ((with_reducible refine Below.trans ?_ (Below.mono Hb13.out ?_)); rotate_left; (focus (first | (simp; done) | (simp; omega) | omega))) | ((with_reducible refine Below.trans ?_ (Below.mono Hb12.out ?_)); rotate_left; (focus (first | (simp; done) | (simp; omega) | omega))) | ((with_reducible refine Below.trans ?_ (Below.mono Hb11.out ?_)); rotate_left; (focus (first | (simp; done) | (simp; omega) | omega))) | ((with_reducible refine Below.trans ?_ (Below.mono Hb10.out ?_)); rotate_left; (focus (first | (simp; done) | (simp; omega) | omega))) | ((with_reducible refine Below.trans ?_ (Below.mono Hb9.out ?_)); rotate_left; (focus (first | (simp; done) | (simp; omega) | omega))) | ((with_reducible refine Below.trans ?_ (Below.mono Hb8.out ?_)); rotate_left; (focus (first | (simp; done) | (simp; omega) | omega))) | ((with_reducible refine Below.trans ?_ (Below.mono Hb7.out ?_)); rotate_left; (focus (first | (simp; done) | (simp; omega) | omega))) | ((with_reducible refine Below.trans ?_ (Below.mono Hb6.out ?_)); rotate_left; (focus (first | (simp; done) | (simp; omega) | omega))) | ((with_reducible refine Below.trans ?_ (Below.mono Hb5.out ?_)); rotate_left; (focus (first | (simp; done) | (simp; omega) | omega))) | ((with_reducible refine Below.trans ?_ (Below.mono Hb4.out ?_)); rotate_left; (focus (first | (simp; done) | (simp; omega) | omega))) | ((with_reducible refine Below.trans ?_ (Below.mono Hb3.out ?_)); rotate_left; (focus (first | (simp; done) | (simp; omega) | omega))) | ((with_reducible refine Below.trans ?_ (Below.mono Hb2.out ?_)); rotate_left; (focus (first | (simp; done) | (simp; omega) | omega))) | ((with_reducible refine Below.trans ?_ (Below.mono Hb1.out ?_)); rotate_left; (focus (first | (simp; done) | (simp; omega) | omega))) | ((with_reducible refine Below.trans ?_ (below_of_only Hg16.out ?_ ?_)); rotate_left; (focus (first | (simp; done) | (simp; omega) | omega)); (intro k hk; cases hk; omega)) | ((with_reducible refine Below.trans ?_ (below_of_only Hg15.out ?_ ?_)); rotate_left; (focus (first | (simp; done) | (simp; omega) | omega)); (intro k hk; cases hk; omega)) | ((with_reducible refine Below.trans ?_ (below_of_only Hg14.out ?_ ?_)); rotate_left; (focus (first | (simp; done) | (simp; omega) | omega)); (intro k hk; cases hk; omega)) | ((with_reducible refine Below.trans ?_ (below_of_only Hg13.out ?_ ?_)); rotate_left; (focus (first | (simp; done) | (simp; omega) | omega)); (intro k hk; cases hk; omega)) | ((with_reducible refine Below.trans ?_ (below_of_only Hg12.out ?_ ?_)); rotate_left; (focus (first | (simp; done) | (simp; omega) | omega)); (intro k hk; cases hk; omega)) | ((with_reducible refine Below.trans ?_ (below_of_only Hg11.out ?_ ?_)); rotate_left; (focus (first | (simp; done) | (simp; omega) | omega)); (intro k hk; cases hk; omega)) | ((with_reducible refine Below.trans ?_ (below_of_only Hg10.out ?_ ?_)); rotate_left; (focus (first | (simp; done) | (simp; omega) | omega)); (intro k hk; cases hk; omega)) | ((with_reducible refine Below.trans ?_ (below_of_only Hg9.out ?_ ?_)); rotate_left; (focus (first | (simp; done) | (simp; omega) | omega)); (intro k hk; cases hk; omega)) | ((with_reducible refine Below.trans ?_ (below_of_only Hg8.out ?_ ?_)); rotate_left; (focus (first | (simp; done) | (simp; omega) | omega)); (intro k hk; cases hk; omega)) | ((with_reducible refine Below.trans ?_ (below_of_only Hg7.out ?_ ?_)); rotate_left; (focus (first | (simp; done) | (simp; omega) | omega)); (intro k hk; cases hk; omega)) | ((with_reducible refine Below.trans ?_ (below_of_only Hg6.out ?_ ?_)); rotate_left; (focus (first | (simp; done) | (simp; omega) | omega)); (intro k hk; cases hk; omega)) | ((with_reducible refine Below.trans ?_ (below_of_only Hg5.out ?_ ?_)); rotate_left; (focus (first | (simp; done) | (simp; omega) | omega)); (intro k hk; cases hk; omega)) | ((with_reducible refine Below.trans ?_ (below_of_only Hg4.out ?_ ?_)); rotate_left; (focus (first | (simp; done) | (simp; omega) | omega)); (intro k hk; cases hk; omega)) | ((with_reducible refine Below.trans ?_ (below_of_only Hg3.out ?_ ?_)); rotate_left; (focus (first | (simp; done) | (simp; omega) | omega)); (intro k hk; cases hk; omega)) | ((with_reducible refine Below.trans ?_ (below_of_only Hg2.out ?_ ?_)); rotate_left; (focus (first | (simp; done) | (simp; omega) | omega)); (intro k hk; cases hk; omega)) | ((with_reducible refine Below.trans ?_ (below_of_only Hg1.out ?_ ?_)); rotate_left; (focus (first | (simp; done) | (simp; omega) | omega)); (intro k hk; cases hk; omega))))⟩
  by_cases h11 : c1 = 1
  · subst h11
    obtain rfl : n1 = 1 := by omega
    clear h0
    obtain ⟨h24, hall, ⟨x0', x1'⟩, hwl⟩ := wayF_ok (show 0 ≤ wayF zs1 x by rw [Hm.out]; omega)
    rw [Hm.out] at hwl
    obtain ⟨b1', o1', z, e1, hb1, hz, hcz⟩ := RdI.at_ R1.out (show 0 < 1 from by omega)
    injection e1 with e1
    injection e1 with e1 e2 _
    subst e1 e2
    obtain ⟨z0, z1⟩ := allB_mem hall (List.mem_of_getElem? hz)
    have hzs : zs1 = [z] := by
      have hl := Hl1.out
      match zs1, hl with
      | [y], _ => simp at hz; rw [hz]
    subst hzs
    obtain ⟨m1, hm1⟩ : ∃ m1, (x - z).natAbs = m1 := ⟨_, rfl⟩
    have hmm : m = (m1 : Int) := by simp [wayL] at hwl; omega
    subst hmm
    have hf2 := hide (show wayF [] z = ((0 : Nat) : Int) from by rw [wayF_of (by simp) (by simp [allB]) z0 z1]; rfl)
    have RE := hide (show RdI w1 .i64 (some ⟨b1, o1, none⟩) 0 [] from ⟨rfl, fun h => absurd h (by omega)⟩)
    have Hm3 := hide (show (z - x).natAbs = m1 from by omega)
    have hq3 : IntKind.i64.wrap (z - x) = z - x := IntWalk.i64_in _ (by omega)
    have hm1b : m1 ≤ 1000 := by omega
    rw [Nat.add_zero] at hcz
    clear hneg hm1 hwl hz hall
    have K1 := hide (fun q => WayOf_q (some ⟨b1, o1, none⟩) 1 1 [z] x m1 (w1.drewN q) (by omega) (RdI.drN R1.out q) Hm.out)
    have K2 := hide (fun q => WayOf_q (some ⟨b1, o1, none⟩) 0 0 [] z ((0 : Nat) : Int) (w1.drewN q) (by omega) (RdI.drN RE.out q) hf2.out)
    have K3 := hide (fun q => absolute_v (z - x) m1 (w1.drewN q) (by omega) (by omega) Hm3.out)
    go_wp2_with fail
    go_quiet ((first
      | (go_at_call 18; first | (with_reducible exact Calls.quiet_of_same (K1.out _)) | (with_reducible exact Calls.quiet_of_same (K2.out _)))
      | (go_at_call 34; (with_reducible exact Calls.quiet_of_same (K3.out _)))))
    go_wp2_with fail
    go_ret
    exact ⟨rfl, (by repeat (first | (with_reducible exact Below.refl _ _) | (with_reducible refine Below.drew ?_) | (with_reducible refine below_drewN ?_ _) | ((with_reducible refine Below.alloc ?_ ?_ _); rotate_left; (focus (first | (simp; done) | (simp; omega) | omega))) | ((with_reducible refine Below.setCell ?_ ?_ _); rotate_left; (focus (first | (simp; done) | (simp; omega) | omega))) | ((with_reducible refine Below.trans ?_ (Below.mono Hb.out ?_)); rotate_left; (focus (first | (simp; done) | (simp; omega) | omega))) | ((with_reducible refine Below.trans ?_ (Below.mono Hb16.out ?_)); rotate_left; (focus (first | (simp; done) | (simp; omega) | omega))) | ((with_reducible refine Below.trans ?_ (Below.mono Hb15.out ?_)); rotate_left; (focus (first | (simp; done) | (simp; omega) | omega))) | ((with_reducible refine Below.trans ?_ (Below.mono Hb14.out ?_)); rotate_left; (focus (first | (simp; done) | (simp; omega) | omega))) | ((with_reducible refine Below.trans ?_ (Below.mono Hb13.out ?_)); rotate_left; (focus (first | (simp; done) | (simp; omega) | omega))) | ((with_reducible refine Below.trans ?_ (Below.mono Hb12.out ?_)); rotate_left; (focus (first | (simp; done) | (simp; omega) | omega))) | ((with_reducible refine Below.trans ?_ (Below.mono Hb11.out ?_)); rotate_left; (focus (first | (simp; done) | (simp; omega) | omega))) | ((with_reducible refine Below.trans ?_ (Below.mono Hb10.out ?_)); rotate_left; (focus (first | (simp; done) | (simp; omega) | omega))) | ((with_reducible refine Below.trans ?_ (Below.mono Hb9.out ?_)); rotate_left; (focus (first | (simp; done) | (simp; omega) | omega))) | ((with_reducible refine Below.trans ?_ (Below.mono Hb8.out ?_)); rotate_left; (focus (first | (simp; done) | (simp; omega) | omega))) | ((with_reducible refine Below.trans ?_ (Below.mono Hb7.out ?_)); rotate_left; (focus (first | (simp; done) | (simp; omega) | omega))) | ((with_reducible refine Below.trans ?_ (Below.mono Hb6.out ?_)); rotate_left; (focus (first | (simp; done) | (simp; omega) | omega))) | ((with_reducible refine Below.trans ?_ (Below.mono Hb5.out ?_)); rotate_left; (focus (first | (simp; done) | (simp; omega) | omega))) | ((with_reducible refine Below.trans ?_ (Below.mono Hb4.out ?_)); rotate_left; (focus (first | (simp; done) | (simp; omega) | omega))) | ((with_reducible refine Below.trans ?_ (Below.mono Hb3.out ?_)); rotate_left; (focus (first | (simp; done) | (simp; omega) | omega))) | ((with_reducible refine Below.trans ?_ (Below.mono Hb2.out ?_)); rotate_left; (focus (first | (simp; done) | (simp; omega) | omega))) | ((with_reducible refine Below.trans ?_ (Below.mono Hb1.out ?_)); rotate_left; (focus (first | (simp; done) | (simp; omega) | omega))) | ((with_reducible refine Below.trans ?_ (below_of_only Hg16.out ?_ ?_)); rotate_left; (focus (first | (simp; done) | (simp; omega) | omega)); (intro k hk; cases hk; omega)) | ((with_reducible refine Below.trans ?_ (below_of_only Hg15.out ?_ ?_)); rotate_left; (focus (first | (simp; done) | (simp; omega) | omega)); (intro k hk; cases hk; omega)) | ((with_reducible refine Below.trans ?_ (below_of_only Hg14.out ?_ ?_)); rotate_left; (focus (first | (simp; done) | (simp; omega) | omega)); (intro k hk; cases hk; omega)) | ((with_reducible refine Below.trans ?_ (below_of_only Hg13.out ?_ ?_)); rotate_left; (focus (first | (simp; done) | (simp; omega) | omega)); (intro k hk; cases hk; omega)) | ((with_reducible refine Below.trans ?_ (below_of_only Hg12.out ?_ ?_)); rotate_left; (focus (first | (simp; done) | (simp; omega) | omega)); (intro k hk; cases hk; omega)) | ((with_reducible refine Below.trans ?_ (below_of_only Hg11.out ?_ ?_)); rotate_left; (focus (first | (simp; done) | (simp; omega) | omega)); (intro k hk; cases hk; omega)) | ((with_reducible refine Below.trans ?_ (below_of_only Hg10.out ?_ ?_)); rotate_left; (focus (first | (simp; done) | (simp; omega) | omega)); (intro k hk; cases hk; omega)) | ((with_reducible refine Below.trans ?_ (below_of_only Hg9.out ?_ ?_)); rotate_left; (focus (first | (simp; done) | (simp; omega) | omega)); (intro k hk; cases hk; omega)) | ((with_reducible refine Below.trans ?_ (below_of_only Hg8.out ?_ ?_)); rotate_left; (focus (first | (simp; done) | (simp; omega) | omega)); (intro k hk; cases hk; omega)) | ((with_reducible refine Below.trans ?_ (below_of_only Hg7.out ?_ ?_)); rotate_left; (focus (first | (simp; done) | (simp; omega) | omega)); (intro k hk; cases hk; omega)) | ((with_reducible refine Below.trans ?_ (below_of_only Hg6.out ?_ ?_)); rotate_left; (focus (first | (simp; done) | (simp; omega) | omega)); (intro k hk; cases hk; omega)) | ((with_reducible refine Below.trans ?_ (below_of_only Hg5.out ?_ ?_)); rotate_left; (focus (first | (simp; done) | (simp; omega) | omega)); (intro k hk; cases hk; omega)) | ((with_reducible refine Below.trans ?_ (below_of_only Hg4.out ?_ ?_)); rotate_left; (focus (first | (simp; done) | (simp; omega) | omega)); (intro k hk; cases hk; omega)) | ((with_reducible refine Below.trans ?_ (below_of_only Hg3.out ?_ ?_)); rotate_left; (focus (first | (simp; done) | (simp; omega) | omega)); (intro k hk; cases hk; omega)) | ((with_reducible refine Below.trans ?_ (below_of_only Hg2.out ?_ ?_)); rotate_left; (focus (first | (simp; done) | (simp; omega) | omega)); (intro k hk; cases hk; omega)) | ((with_reducible refine Below.trans ?_ (below_of_only Hg1.out ?_ ?_)); rotate_left; (focus (first | (simp; done) | (simp; omega) | omega)); (intro k hk; cases hk; omega))))⟩
  obtain ⟨p, rfl⟩ : ∃ p, n1 = p + 1 := ⟨n1 - 1, by omega⟩
  have h0' : ((p : Int) + 1 == 0) = false := by rw [beq_eq_false_iff_ne]; omega
  obtain ⟨h24, hall, ⟨x0', x1'⟩, hwl⟩ := wayF_ok (show 0 ≤ wayF zs1 x by rw [Hm.out]; omega)
  rw [Hm.out] at hwl
  have hl := Hl1.out
  obtain ⟨j, hj⟩ : ∃ j, (p + 1 + 1) / 2 = j + 1 := ⟨(p + 1 + 1) / 2 - 1, by omega⟩
  obtain ⟨b1', o1', zj, e1, hb1, hzj, hcj⟩ := RdI.at_ R1.out (show j < p + 1 from by omega)
  injection e1 with e1
  injection e1 with e1 e2 _
  subst e1 e2
  obtain ⟨b1', o1', zl, e1, _, hzl, hcl⟩ := RdI.at_ R1.out (show p < p + 1 from by omega)
  injection e1 with e1
  injection e1 with e1 e2 _
  subst e1 e2
  obtain ⟨z0, z1⟩ := allB_mem hall (List.mem_of_getElem? hzj)
  obtain ⟨l0, l1⟩ := allB_mem hall (List.mem_of_getElem? hzl)
  have hsum := wayL_app (zs1.take (j + 1)) (zs1.drop (j + 1)) x zj (last_take hzj)
  rw [List.take_append_drop] at hsum
  have hge := wayL_ge zs1 x zl (by rw [List.getLast?_eq_getElem?, hl]; exact hzl)
  obtain ⟨m1, hm1⟩ : ∃ m1, wayL x (zs1.take (j + 1)) = m1 := ⟨_, rfl⟩
  obtain ⟨m2, hm2⟩ : ∃ m2, wayL zj (zs1.drop (j + 1)) = m2 := ⟨_, rfl⟩
  obtain ⟨m3, hm3⟩ : ∃ m3, (zl - x).natAbs = m3 := ⟨_, rfl⟩
  have hf1 := hide (show wayF (zs1.take (j + 1)) x = (m1 : Int) from by rw [wayF_of (by have := List.length_take_le (j + 1) zs1; omega) (allB_take hall _) x0' x1', hm1])
  have hf2 := hide (show wayF (zs1.drop (j + 1)) zj = (m2 : Int) from by rw [wayF_of (by rw [List.length_drop]; omega) (allB_drop hall _) z0 z1, hm2])
  have hle1 := wayL_le zs1 x x0' x1' hall
  have hmm : (m : Int) = (m1 : Int) + (m2 : Int) := by omega
  have hm3m : (m3 : Int) ≤ (m1 : Int) + (m2 : Int) := by omega
  have hm1b : m1 ≤ 1000 := by omega
  have hm2b : m2 ≤ 1000 := by omega
  obtain rfl : m = (m1 : Int) + (m2 : Int) := hmm
  have RT := hide (RdI.take R1.out (j + 1) (by omega))
  have RD := hide (RdI.drop (m := j + 1) R1.out (by omega))
  have Hm3 := hide hm3
  have Hbig := hide (And.intro hall (And.intro hwl (And.intro hzj (And.intro hzl (And.intro hsum (And.intro hge (And.intro hm1 (And.intro hm2 (And.intro hm3 (And.intro hj h0)))))))))) 
  have hjn : j + 1 ≤ p + 1 := by omega
  have hq1 : IntKind.i64.wrap ((j : Int) + 1 - 1) = (j : Int) := (IntWalk.i64_in _ (by omega)).trans (by omega)
  have hq2 : IntKind.i64.wrap ((p : Int) + 1 - 1) = (p : Int) := (IntWalk.i64_in _ (by omega)).trans (by omega)
  have hq3 : IntKind.i64.wrap (zl - x) = zl - x := IntWalk.i64_in _ (by omega)
  have hq4 : IntKind.i64.wrap ((m1 : Int) + (m2 : Int)) = (m1 : Int) + (m2 : Int) := IntWalk.i64_in _ (by omega)
  have hq5 : IntKind.i64.wrap (j : Int) = (j : Int) := IntWalk.i64_in _ (by omega)
  have hq6 : IntKind.i64.wrap (p : Int) = (p : Int) := IntWalk.i64_in _ (by omega)
  have i10 : (j : Int) ≤ (p : Int) := by omega
  have hpos : (0 : Int) ≤ (m1 : Int) + (m2 : Int) := by omega
  clear hneg
  have hd1 : ((p : Int) + 1 + 1) / 2 = (j : Int) + 1 := by omega
  have hd2 : ((p : Int) + 1 + 1).tdiv 2 = (j : Int) + 1 := by rw [Int.tdiv_eq_ediv_of_nonneg (by omega)]; omega
  have i1 : (0 : Int) ≤ (j : Int) + 1 := by omega
  have i2 : (j : Int) + 1 ≤ (c1 : Int) := by omega
  have i3 : (j : Int) + 1 ≤ (p : Int) + 1 := by omega
  have i4 : (j : Int) < (p : Int) + 1 := by omega
  have i5 : (0 : Int) ≤ (j : Int) := by omega
  have i6 : (p : Int) < (p : Int) + 1 := by omega
  clear hm3 hall hwl hzj hzl hsum hge hm1 hm2 hj h0 hl
  have K1 := hide (fun q => WayOf_q (some ⟨b1, o1, none⟩) (j + 1) c1 (zs1.take (j + 1)) x m1 (w1.drewN q) (by omega) (RdI.drN RT.out q) hf1.out)
  have i11 : ¬ c1 = j + 1 := by have h := Hbig.out.2.2.2.2.2.2.2.2.2.1; omega
  have hpj : p + 1 - (j + 1) = p - j := by omega
  rw [hpj] at RD
  clear hpj
  have K2 := hide (fun q => WayOf_q (some ⟨b1, o1 + (j + 1), none⟩) (p - j) (c1 - (j + 1)) (zs1.drop (j + 1)) zj m2 (w1.drewN q) (by omega) (RdI.drN RD.out q) hf2.out)
  have K3 := hide (fun q => absolute_v (zl - x) m3 (w1.drewN q) (by omega) (by omega) Hm3.out)
  have i8 : (j : Int) + 1 < (c1 : Int) := by have h := Hbig.out.2.2.2.2.2.2.2.2.2.1; omega
  go_wp2_with fail
  go_quiet ((first
    | (go_at_call 18; first | (with_reducible exact Calls.quiet_of_same (K1.out _)) | (with_reducible exact Calls.quiet_of_same (K2.out _)))
    | (go_at_call 34; (with_reducible exact Calls.quiet_of_same (K3.out _)))))
  go_wp2_with fail
  go_ret
  exact ⟨rfl, (by repeat (first | (with_reducible exact Below.refl _ _) | (with_reducible refine Below.drew ?_) | (with_reducible refine below_drewN ?_ _) | ((with_reducible refine Below.alloc ?_ ?_ _); rotate_left; (focus (first | (simp; done) | (simp; omega) | omega))) | ((with_reducible refine Below.setCell ?_ ?_ _); rotate_left; (focus (first | (simp; done) | (simp; omega) | omega))) | ((with_reducible refine Below.trans ?_ (Below.mono Hb.out ?_)); rotate_left; (focus (first | (simp; done) | (simp; omega) | omega))) | ((with_reducible refine Below.trans ?_ (Below.mono Hb16.out ?_)); rotate_left; (focus (first | (simp; done) | (simp; omega) | omega))) | ((with_reducible refine Below.trans ?_ (Below.mono Hb15.out ?_)); rotate_left; (focus (first | (simp; done) | (simp; omega) | omega))) | ((with_reducible refine Below.trans ?_ (Below.mono Hb14.out ?_)); rotate_left; (focus (first | (simp; done) | (simp; omega) | omega))) | ((with_reducible refine Below.trans ?_ (Below.mono Hb13.out ?_)); rotate_left; (focus (first | (simp; done) | (simp; omega) | omega))) | ((with_reducible refine Below.trans ?_ (Below.mono Hb12.out ?_)); rotate_left; (focus (first | (simp; done) | (simp; omega) | omega))) | ((with_reducible refine Below.trans ?_ (Below.mono Hb11.out ?_)); rotate_left; (focus (first | (simp; done) | (simp; omega) | omega))) | ((with_reducible refine Below.trans ?_ (Below.mono Hb10.out ?_)); rotate_left; (focus (first | (simp; done) | (simp; omega) | omega))) | ((with_reducible refine Below.trans ?_ (Below.mono Hb9.out ?_)); rotate_left; (focus (first | (simp; done) | (simp; omega) | omega))) | ((with_reducible refine Below.trans ?_ (Below.mono Hb8.out ?_)); rotate_left; (focus (first | (simp; done) | (simp; omega) | omega))) | ((with_reducible refine Below.trans ?_ (Below.mono Hb7.out ?_)); rotate_left; (focus (first | (simp; done) | (simp; omega) | omega))) | ((with_reducible refine Below.trans ?_ (Below.mono Hb6.out ?_)); rotate_left; (focus (first | (simp; done) | (simp; omega) | omega))) | ((with_reducible refine Below.trans ?_ (Below.mono Hb5.out ?_)); rotate_left; (focus (first | (simp; done) | (simp; omega) | omega))) | ((with_reducible refine Below.trans ?_ (Below.mono Hb4.out ?_)); rotate_left; (focus (first | (simp; done) | (simp; omega) | omega))) | ((with_reducible refine Below.trans ?_ (Below.mono Hb3.out ?_)); rotate_left; (focus (first | (simp; done) | (simp; omega) | omega))) | ((with_reducible refine Below.trans ?_ (Below.mono Hb2.out ?_)); rotate_left; (focus (first | (simp; done) | (simp; omega) | omega))) | ((with_reducible refine Below.trans ?_ (Below.mono Hb1.out ?_)); rotate_left; (focus (first | (simp; done) | (simp; omega) | omega))) | ((with_reducible refine Below.trans ?_ (below_of_only Hg16.out ?_ ?_)); rotate_left; (focus (first | (simp; done) | (simp; omega) | omega)); (intro k hk; cases hk; omega)) | ((with_reducible refine Below.trans ?_ (below_of_only Hg15.out ?_ ?_)); rotate_left; (focus (first | (simp; done) | (simp; omega) | omega)); (intro k hk; cases hk; omega)) | ((with_reducible refine Below.trans ?_ (below_of_only Hg14.out ?_ ?_)); rotate_left; (focus (first | (simp; done) | (simp; omega) | omega)); (intro k hk; cases hk; omega)) | ((with_reducible refine Below.trans ?_ (below_of_only Hg13.out ?_ ?_)); rotate_left; (focus (first | (simp; done) | (simp; omega) | omega)); (intro k hk; cases hk; omega)) | ((with_reducible refine Below.trans ?_ (below_of_only Hg12.out ?_ ?_)); rotate_left; (focus (first | (simp; done) | (simp; omega) | omega)); (intro k hk; cases hk; omega)) | ((with_reducible refine Below.trans ?_ (below_of_only Hg11.out ?_ ?_)); rotate_left; (focus (first | (simp; done) | (simp; omega) | omega)); (intro k hk; cases hk; omega)) | ((with_reducible refine Below.trans ?_ (below_of_only Hg10.out ?_ ?_)); rotate_left; (focus (first | (simp; done) | (simp; omega) | omega)); (intro k hk; cases hk; omega)) | ((with_reducible refine Below.trans ?_ (below_of_only Hg9.out ?_ ?_)); rotate_left; (focus (first | (simp; done) | (simp; omega) | omega)); (intro k hk; cases hk; omega)) | ((with_reducible refine Below.trans ?_ (below_of_only Hg8.out ?_ ?_)); rotate_left; (focus (first | (simp; done) | (simp; omega) | omega)); (intro k hk; cases hk; omega)) | ((with_reducible refine Below.trans ?_ (below_of_only Hg7.out ?_ ?_)); rotate_left; (focus (first | (simp; done) | (simp; omega) | omega)); (intro k hk; cases hk; omega)) | ((with_reducible refine Below.trans ?_ (below_of_only Hg6.out ?_ ?_)); rotate_left; (focus (first | (simp; done) | (simp; omega) | omega)); (intro k hk; cases hk; omega)) | ((with_reducible refine Below.trans ?_ (below_of_only Hg5.out ?_ ?_)); rotate_left; (focus (first | (simp; done) | (simp; omega) | omega)); (intro k hk; cases hk; omega)) | ((with_reducible refine Below.trans ?_ (below_of_only Hg4.out ?_ ?_)); rotate_left; (focus (first | (simp; done) | (simp; omega) | omega)); (intro k hk; cases hk; omega)) | ((with_reducible refine Below.trans ?_ (below_of_only Hg3.out ?_ ?_)); rotate_left; (focus (first | (simp; done) | (simp; omega) | omega)); (intro k hk; cases hk; omega)) | ((with_reducible refine Below.trans ?_ (below_of_only Hg2.out ?_ ?_)); rotate_left; (focus (first | (simp; done) | (simp; omega) | omega)); (intro k hk; cases hk; omega)) | ((with_reducible refine Below.trans ?_ (below_of_only Hg1.out ?_ ?_)); rotate_left; (focus (first | (simp; done) | (simp; omega) | omega)); (intro k hk; cases hk; omega))))⟩

end Go.Proofs.Ytebflmbfgjbipaa
