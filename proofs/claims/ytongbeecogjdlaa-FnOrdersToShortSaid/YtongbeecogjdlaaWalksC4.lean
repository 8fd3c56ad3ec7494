/-
  The walks of the laws on runs of a car.
-/
import Derived.Test.YtongbeecogjdlaaRunCar
import Derived.Test.YtongbeecogjdlaaDrawRunCar
import Derived.Test.YtongbeecogjdlaaLaw8
import Derived.Laws.StructEq
namespace Go.Proofs.Ytongbeecogjdlaa
open Go.RowKit
set_option linter.unusedSimpArgs false
set_option linter.unusedVariables false

/-- What a run hands back, written out. -/
def RetR5 (d1 d2 d3 : Int) (d4 : Bool) (m : Int) (w : World) (e : Ending) (w' : World) : Prop := e = .returned (.tuple #[.agg #[.int .i64 d1, .int .i64 d2, .int .i64 d3, .bool d4], .int .i64 m]) ∧ Below w.heap.size w w'
theorem RunCar_i5 (f h l : Int) (o : Bool) (A : Option Addr) (n c : Nat) (zs : List Int) (d1 d2 d3 : Int) (d4 : Bool) (m : Int) (w : World) (hn : n ≤ 1048576) (ha : RdI w .i64 A n zs) (hq : cRun f h l o zs = ((d1, d2, d3, d4), m)) :
    Calls Try.prog 24 #[.agg #[.int .i64 f, .int .i64 h, .int .i64 l, .bool o], .slice A n c] w (RetR5 d1 d2 d3 d4 m w) := by
  have := RunCar_i f h l o A n c zs w hn ha
  rw [hq] at this
  exact this
theorem RunCar_s5 (f h l : Int) (o : Bool) (A : Option Addr) (n c : Nat) (zs : List Int) (d1 d2 d3 : Int) (d4 : Bool) (m : Int) (w : World) (hn : n ≤ 1048576) (ha : RdI w .i64 A n zs) (hq : cRun f h l o zs = ((d1, d2, d3, d4), m)) :
    Calls Try.prog 22 #[.agg #[.int .i64 f, .int .i64 h, .int .i64 l, .bool o], .slice A n c] w (RetR5 d1 d2 d3 d4 m w) := by
  have := RunCar_s f h l o A n c zs w hn ha
  rw [hq] at this
  exact this
theorem cRun_runC {f h l : Int} {o : Bool} {zs : List Int} {x : CarQ} {m : Int} (hq : cRun f h l o zs = (x, m)) (hm : 0 ≤ m) :
    vC f h l o = true ∧ zs.length ≤ 40 ∧ runC (f, h, l, o) zs = (x, m.toNat) := by
  unfold cRun at hq
  split at hq
  · rename_i hc
    injection hq with h1 h2
    refine ⟨hc.1, hc.2, ?_⟩
    rw [← h1, ← h2]
    simp
  · injection hq with h1 h2
    omega
theorem run_eq {q x y : CarQ} {zs : List Int} {m k : Nat} (h1 : runC q zs = (x, m)) (h2 : runC q zs = (y, k)) : x = y ∧ m = k := by
  rw [h1] at h2
  injection h2 with a b
  exact ⟨a, b⟩

set_option maxHeartbeats 4000000 in
theorem fnRunCar_walk (A : Option Addr) (n c : Nat) (zs : List Int) (w : World) (hl : n ≤ c) (hr : RdI w .u8 A n zs) (hz : ∀ z ∈ zs, (Lit.int .u8 z).wf = true) :
    Calls Try.prog 11 #[.slice A n c] w fun e w' => e = .returned (.bool true) ∧ Below w.heap.size w w' := by
  have Ha := hide (code8_of hl hr hz)
  clear hr hz
  by_cases hn : 1048576 < n
  · have hn' : (1048576 : Int) < (n : Int) := by omega
    go_enter Try.func11, Try.ntmps11
    go_wp2_with fail
    go_ret
    exact ⟨rfl, Below.refl _ _⟩
  have hn' : (n : Int) ≤ 1048576 := by omega
  go_enter Try.func11, Try.ntmps11
  go_wp2_with fail
  refine (DrawRunCar_any _ A n c _ (Nat.le_refl _) Ha.out).mono ?_
  rintro e w1 ⟨f, h, l, o, A1, n1, c1, zs1, rfl, m1, oA1, r1, hb⟩
  have hz1 := hb.size
  try simp at hz1
  have Hb1 := hide hb
  clear hb
  have R1 := hide r1
  have OA1 := hide oA1
  clear oA1
  have hl1 := r1.len
  clear r1
  obtain ⟨⟨⟨d1, d2, d3, d4⟩, m⟩, hq⟩ : ∃ q, cRun f h l o zs1 = q := ⟨_, rfl⟩
  have Hq := hide hq
  have Hl1 := hide hl1
  clear hq hl1
  go_wp2_with fail
  refine (RunCar_i5 f h l o A1 n1 c1 zs1 d1 d2 d3 d4 m _ (by omega) (R1.out.alloc _) Hq.out).mono ?_
  rintro e w2 ⟨rfl, hb⟩
  have hz2 := hb.size
  try simp at hz2
  obtain ⟨_, _, _, _, _, _, _, _⟩ := sz (show w1.heap.size < w2.heap.size from by omega)
  have hx : Blk _ (w1.heap.size) 25 #[.int .i64 f, .int .i64 h, .int .i64 l, .bool o] := Blk.below (by repeat (first | (with_reducible assumption) | (with_reducible exact Blk.new _ _ _) | ((with_reducible refine Blk.new_at ?_); (first | (simp; done) | (simp; omega))) | (with_reducible refine Blk.drew ?_) | (with_reducible refine Blk.drewN ?_ _) | (with_reducible refine Blk.alloc ?_ _) | ((with_reducible refine Blk.far ?_ ?_ _); rotate_left; (focus (first | (simp; done) | (simp; omega) | omega))))) hb (by (focus (first | (simp; done) | (simp; omega) | omega)))
  obtain ⟨_, _, _, _, _, _, _, _⟩ := blk4 hx
  have Hb2 := hide hb
  clear hb
  have R2 := hide (Rd.below (R1.out.alloc (.cells #[.int .i64 f, .int .i64 h, .int .i64 l, .bool o] 25)) Hb2.out (Nat.le_refl _))
  go_wp2_with fail
  refine (RunCar_s5 f h l o A1 n1 c1 zs1 d1 d2 d3 d4 m _ (by omega) (R2.out.alloc _) Hq.out).mono ?_
  rintro e w3 ⟨rfl, hb⟩
  have hz3 := hb.size
  try simp at hz3
  obtain ⟨_, _, _, _, _, _, _, _⟩ := sz (show w1.heap.size < w3.heap.size from by omega)
  obtain ⟨_, _, _, _, _, _, _, _⟩ := sz (show w2.heap.size < w3.heap.size from by omega)
  have hx : Blk _ (w1.heap.size) 25 #[.int .i64 f, .int .i64 h, .int .i64 l, .bool o] := Blk.below (by repeat (first | (with_reducible assumption) | (with_reducible exact Blk.new _ _ _) | ((with_reducible refine Blk.new_at ?_); (first | (simp; done) | (simp; omega))) | (with_reducible refine Blk.drew ?_) | (with_reducible refine Blk.drewN ?_ _) | (with_reducible refine Blk.alloc ?_ _) | ((with_reducible refine Blk.far ?_ ?_ _); rotate_left; (focus (first | (simp; done) | (simp; omega) | omega))))) hb (by (focus (first | (simp; done) | (simp; omega) | omega)))
  obtain ⟨_, _, _, _, _, _, _, _⟩ := blk4 hx
  have hx : Blk _ (w2.heap.size) 25 #[.int .i64 d1, .int .i64 d2, .int .i64 d3, .bool d4] := Blk.below (by repeat (first | (with_reducible assumption) | (with_reducible exact Blk.new _ _ _) | ((with_reducible refine Blk.new_at ?_); (first | (simp; done) | (simp; omega))) | (with_reducible refine Blk.drew ?_) | (with_reducible refine Blk.drewN ?_ _) | (with_reducible refine Blk.alloc ?_ _) | ((with_reducible refine Blk.far ?_ ?_ _); rotate_left; (focus (first | (simp; done) | (simp; omega) | omega))))) hb (by (focus (first | (simp; done) | (simp; omega) | omega)))
  obtain ⟨_, _, _, _, _, _, _, _⟩ := blk4 hx
  have Hb3 := hide hb
  clear hb
  have R3 := hide (Rd.below (R2.out.alloc (.cells #[.int .i64 d1, .int .i64 d2, .int .i64 d3, .bool d4] 25)) Hb3.out (Nat.le_refl _))
  by_cases hm : m < 0
  · go_wp2_with fail
    go_ret
    exact ⟨rfl, (by repeat (first | (with_reducible exact Below.refl _ _) | (with_reducible refine Below.drew ?_) | (with_reducible refine below_drewN ?_ _) | ((with_reducible refine Below.alloc ?_ ?_ _); rotate_left; (focus (first | (simp; done) | (simp; omega) | omega))) | ((with_reducible refine Below.setCell ?_ ?_ _); rotate_left; (focus (first | (simp; done) | (simp; omega) | omega))) | ((with_reducible refine Below.trans ?_ (Below.mono Hb.out ?_)); rotate_left; (focus (first | (simp; done) | (simp; omega) | omega))) | ((with_reducible refine Below.trans ?_ (Below.mono Hb16.out ?_)); rotate_left; (focus (first | (simp; done) | (simp; omega) | omega))) | ((with_reducible refine Below.trans ?_ (Below.mono Hb15.out ?_)); rotate_left; (focus (first | (simp; done) | (simp; omega) | omega))) | ((with_reducible refine Below.trans ?_ (Below.mono Hb14.out ?_)); rotate_left; (focus (first | (simp; done) | (simp; omega) | omega))) | ((with_reducible refine Below.trans ?_ (Below.mono Hb13.out ?_)); rotate_left; (focus (first | (simp; done) | (simp; omega) | omega))) | ((with_reducible refine Below.trans ?_ (Below.mono Hb12.out ?_)); rotate_left; (focus (first | (simp; done) | (simp; omega) | omega))) | ((with_reducible refine Below.trans ?_ (Below.mono Hb11.out ?_)); rotate_left; (focus (first | (simp; done) | (simp; omega) | omega))) | ((with_reducible refine Below.trans ?_ (Below.mono Hb10.out ?_)); rotate_left; (focus (first | (simp; done) | (simp; omega) | omega))) | ((with_reducible refine Below.trans ?_ (Below.mono Hb9.out ?_)); rotate_left; (focus (first | (simp; done) | (simp; omega) | omega))) | ((with_reducible refine Below.trans ?_ (Below.mono Hb8.out ?_)); rotate_left; (focus (first | (simp; done) | (simp; omega) | omega))) | ((with_reducible refine Below.trans ?_ (Below.mono Hb7.out ?_)); rotate_left; (focus (first | (simp; done) | (simp; omega) | omega))) | ((with_reducible refine Below.trans ?_ (Below.mono Hb6.out ?_)); rotate_left; (focus (first | (simp; done) | (simp; omega) | omega))) | ((with_reducible refine Below.trans ?_ (Below.mono Hb5.out ?_)); rotate_left; (focus (first | (simp; done) | (simp; omega) | omega))) | ((with_reducible refine Below.trans ?_ (Below.mono Hb4.out ?_)); rotate_left; (focus (first | (simp; done) | (simp; omega) | omega))) | ((with_reducible refine Below.trans ?_ (Below.mono Hb3.out ?_)); rotate_left; (focus (first | (simp; done) | (simp; omega) | omega))) | ((with_reducible refine Below.trans ?_ (Below.mono Hb2.out ?_)); rotate_left; (focus (first | (simp; done) | (simp; omega) | omega))) | ((with_reducible refine Below.trans ?_ (Below.mono Hb1.out ?_)); rotate_left; (focus (first | (simp; done) | (simp; omega) | omega))) | ((with_reducible refine Below.trans ?_ (below_of_only Hg16.out ?_ ?_)); rotate_left; (focus (first | (simp; done) | (simp; omega) | omega)); (intro k hk; cases hk; omega)) | ((with_reducible refine Below.trans ?_ (below_of_only Hg15.out ?_ ?_)); rotate_left; (focus (first | (simp; done) | (simp; omega) | omega)); (intro k hk; cases hk; omega)) | ((with_reducible refine Below.trans ?_ (below_of_only Hg14.out ?_ ?_)); rotate_left; (focus (first | (simp; done) | (simp; omega) | omega)); (intro k hk; cases hk; omega)) | ((with_reducible refine Below.trans ?_ (below_of_only Hg13.out ?_ ?_)); rotate_left; (focus (first | (simp; done) | (simp; omega) | omega)); (intro k hk; cases hk; omega)) | ((with_reducible refine Below.trans ?_ (below_of_only Hg12.out ?_ ?_)); rotate_left; (focus (first | (simp; done) | (simp; omega) | omega)); (intro k hk; cases hk; omega)) | ((with_reducible refine Below.trans ?_ (below_of_only Hg11.out ?_ ?_)); rotate_left; (focus (first | (simp; done) | (simp; omega) | omega)); (intro k hk; cases hk; omega)) | ((with_reducible refine Below.trans ?_ (below_of_only Hg10.out ?_ ?_)); rotate_left; (focus (first | (simp; done) | (simp; omega) | omega)); (intro k hk; cases hk; omega)) | ((with_reducible refine Below.trans ?_ (below_of_only Hg9.out ?_ ?_)); rotate_left; (focus (first | (simp; done) | (simp; omega) | omega)); (intro k hk; cases hk; omega)) | ((with_reducible refine Below.trans ?_ (below_of_only Hg8.out ?_ ?_)); rotate_left; (focus (first | (simp; done) | (simp; omega) | omega)); (intro k hk; cases hk; omega)) | ((with_reducible refine Below.trans ?_ (below_of_only Hg7.out ?_ ?_)); rotate_left; (focus (first | (simp; done) | (simp; omega) | omega)); (intro k hk; cases hk; omega)) | ((with_reducible refine Below.trans ?_ (below_of_only Hg6.out ?_ ?_)); rotate_left; (focus (first | (simp; done) | (simp; omega) | omega)); (intro k hk; cases hk; omega)) | ((with_reducible refine Below.trans ?_ (below_of_only Hg5.out ?_ ?_)); rotate_left; (focus (first | (simp; done) | (simp; omega) | omega)); (intro k hk; cases hk; omega)) | ((with_reducible refine Below.trans ?_ (below_of_only Hg4.out ?_ ?_)); rotate_left; (focus (first | (simp; done) | (simp; omega) | omega)); (intro k hk; cases hk; omega)) | ((with_reducible refine Below.trans ?_ (below_of_only Hg3.out ?_ ?_)); rotate_left; (focus (first | (simp; done) | (simp; omega) | omega)); (intro k hk; cases hk; omega)) | ((with_reducible refine Below.trans ?_ (below_of_only Hg2.out ?_ ?_)); rotate_left; (focus (first | (simp; done) | (simp; omega) | omega)); (intro k hk; cases hk; omega)) | ((with_reducible refine Below.trans ?_ (below_of_only Hg1.out ?_ ?_)); rotate_left; (focus (first | (simp; done) | (simp; omega) | omega)); (intro k hk; cases hk; omega))))⟩
  have hm0 : 0 ≤ m := by omega
  obtain ⟨mm, rfl⟩ := Int.eq_ofNat_of_zero_le hm0
  clear hm hm0
  have hr := cRun_runC Hq.out (by omega)
  have Hv := hide hr.1
  have Hr := hide (show runC (f, h, l, o) zs1 = ((d1, d2, d3, d4), mm) from by simpa using hr.2.2)
  have Hat := hide (At.zero (q := (f, h, l, o)) (zs := zs1) hr.1)
  clear hr
  have hx0 : Blk ((w3.alloc (.cells #[.int .i64 d1, .int .i64 d2, .int .i64 d3, .bool d4] 25)).alloc (.cells #[.int .i64 f, .int .i64 h, .int .i64 l, .bool o] 25)) (w3.heap.size + 1) 25 #[.int .i64 f, .int .i64 h, .int .i64 l, .bool o] := (by repeat (first | (with_reducible assumption) | (with_reducible exact Blk.new _ _ _) | ((with_reducible refine Blk.new_at ?_); (first | (simp; done) | (simp; omega))) | (with_reducible refine Blk.drew ?_) | (with_reducible refine Blk.drewN ?_ _) | (with_reducible refine Blk.alloc ?_ _) | ((with_reducible refine Blk.far ?_ ?_ _); rotate_left; (focus (first | (simp; done) | (simp; omega) | omega)))))
  have hd0 : Blk ((w3.alloc (.cells #[.int .i64 d1, .int .i64 d2, .int .i64 d3, .bool d4] 25)).alloc (.cells #[.int .i64 f, .int .i64 h, .int .i64 l, .bool o] 25)) w2.heap.size 25 #[.int .i64 d1, .int .i64 d2, .int .i64 d3, .bool d4] := (by repeat (first | (with_reducible assumption) | (with_reducible exact Blk.new _ _ _) | ((with_reducible refine Blk.new_at ?_); (first | (simp; done) | (simp; omega))) | (with_reducible refine Blk.drew ?_) | (with_reducible refine Blk.drewN ?_ _) | (with_reducible refine Blk.alloc ?_ _) | ((with_reducible refine Blk.far ?_ ?_ _); rotate_left; (focus (first | (simp; done) | (simp; omega) | omega)))))
  have HB := hide (show Below w.heap.size w ((w3.alloc (.cells #[.int .i64 d1, .int .i64 d2, .int .i64 d3, .bool d4] 25)).alloc (.cells #[.int .i64 f, .int .i64 h, .int .i64 l, .bool o] 25)) from (by repeat (first | (with_reducible exact Below.refl _ _) | (with_reducible refine Below.drew ?_) | (with_reducible refine below_drewN ?_ _) | ((with_reducible refine Below.alloc ?_ ?_ _); rotate_left; (focus (first | (simp; done) | (simp; omega) | omega))) | ((with_reducible refine Below.setCell ?_ ?_ _); rotate_left; (focus (first | (simp; done) | (simp; omega) | omega))) | ((with_reducible refine Below.trans ?_ (Below.mono Hb.out ?_)); rotate_left; (focus (first | (simp; done) | (simp; omega) | omega))) | ((with_reducible refine Below.trans ?_ (Below.mono Hb16.out ?_)); rotate_left; (focus (first | (simp; done) | (simp; omega) | omega))) | ((with_reducible refine Below.trans ?_ (Below.mono Hb15.out ?_)); rotate_left; (focus (first | (simp; done) | (simp; omega) | omega))) | ((with_reducible refine Below.trans ?_ (Below.mono Hb14.out ?_)); rotate_left; (focus (first | (simp; done) | (simp; omega) | omega))) | ((with_reducible refine Below.trans ?_ (Below.mono Hb13.out ?_)); rotate_left; (focus (first | (simp; done) | (simp; omega) | omega))) | ((with_reducible refine Below.trans ?_ (Below.mono Hb12.out ?_)); rotate_left; (focus (first | (simp; done) | (simp; omega) | omega))) | ((with_reducible refine Below.trans ?_ (Below.mono Hb11.out ?_)); rotate_left; (focus (first | (simp; done) | (simp; omega) | omega))) | ((with_reducible refine Below.trans ?_ (Below.mono Hb10.out ?_)); rotate_left; (focus (first | (simp; done) | (simp; omega) | omega))) | ((with_reducible refine Below.trans ?_ (Below.mono Hb9.out ?_)); rotate_left; (focus (first | (simp; done) | (simp; omega) | omega))) | ((with_reducible refine Below.trans ?_ (Below.mono Hb8.out ?_)); rotate_left; (focus (first | (simp; done) | (simp; omega) | omega))) | ((with_reducible refine Below.trans ?_ (Below.mono Hb7.out ?_)); rotate_left; (focus (first | (simp; done) | (simp; omega) | omega))) | ((with_reducible refine Below.trans ?_ (Below.mono Hb6.out ?_)); rotate_left; (focus (first | (simp; done) | (simp; omega) | omega))) | ((with_reducible refine Below.trans ?_ (Below.mono Hb5.out ?_)); rotate_left; (focus (first | (simp; done) | (simp; omega) | omega))) | ((with_reducible refine Below.trans ?_ (Below.mono Hb4.out ?_)); rotate_left; (focus (first | (simp; done) | (simp; omega) | omega))) | ((with_reducible refine Below.trans ?_ (Below.mono Hb3.out ?_)); rotate_left; (focus (first | (simp; done) | (simp; omega) | omega))) | ((with_reducible refine Below.trans ?_ (Below.mono Hb2.out ?_)); rotate_left; (focus (first | (simp; done) | (simp; omega) | omega))) | ((with_reducible refine Below.trans ?_ (Below.mono Hb1.out ?_)); rotate_left; (focus (first | (simp; done) | (simp; omega) | omega))) | ((with_reducible refine Below.trans ?_ (below_of_only Hg16.out ?_ ?_)); rotate_left; (focus (first | (simp; done) | (simp; omega) | omega)); (intro k hk; cases hk; omega)) | ((with_reducible refine Below.trans ?_ (below_of_only Hg15.out ?_ ?_)); rotate_left; (focus (first | (simp; done) | (simp; omega) | omega)); (intro k hk; cases hk; omega)) | ((with_reducible refine Below.trans ?_ (below_of_only Hg14.out ?_ ?_)); rotate_left; (focus (first | (simp; done) | (simp; omega) | omega)); (intro k hk; cases hk; omega)) | ((with_reducible refine Below.trans ?_ (below_of_only Hg13.out ?_ ?_)); rotate_left; (focus (first | (simp; done) | (simp; omega) | omega)); (intro k hk; cases hk; omega)) | ((with_reducible refine Below.trans ?_ (below_of_only Hg12.out ?_ ?_)); rotate_left; (focus (first | (simp; done) | (simp; omega) | omega)); (intro k hk; cases hk; omega)) | ((with_reducible refine Below.trans ?_ (below_of_only Hg11.out ?_ ?_)); rotate_left; (focus (first | (simp; done) | (simp; omega) | omega)); (intro k hk; cases hk; omega)) | ((with_reducible refine Below.trans ?_ (below_of_only Hg10.out ?_ ?_)); rotate_left; (focus (first | (simp; done) | (simp; omega) | omega)); (intro k hk; cases hk; omega)) | ((with_reducible refine Below.trans ?_ (below_of_only Hg9.out ?_ ?_)); rotate_left; (focus (first | (simp; done) | (simp; omega) | omega)); (intro k hk; cases hk; omega)) | ((with_reducible refine Below.trans ?_ (below_of_only Hg8.out ?_ ?_)); rotate_left; (focus (first | (simp; done) | (simp; omega) | omega)); (intro k hk; cases hk; omega)) | ((with_reducible refine Below.trans ?_ (below_of_only Hg7.out ?_ ?_)); rotate_left; (focus (first | (simp; done) | (simp; omega) | omega)); (intro k hk; cases hk; omega)) | ((with_reducible refine Below.trans ?_ (below_of_only Hg6.out ?_ ?_)); rotate_left; (focus (first | (simp; done) | (simp; omega) | omega)); (intro k hk; cases hk; omega)) | ((with_reducible refine Below.trans ?_ (below_of_only Hg5.out ?_ ?_)); rotate_left; (focus (first | (simp; done) | (simp; omega) | omega)); (intro k hk; cases hk; omega)) | ((with_reducible refine Below.trans ?_ (below_of_only Hg4.out ?_ ?_)); rotate_left; (focus (first | (simp; done) | (simp; omega) | omega)); (intro k hk; cases hk; omega)) | ((with_reducible refine Below.trans ?_ (below_of_only Hg3.out ?_ ?_)); rotate_left; (focus (first | (simp; done) | (simp; omega) | omega)); (intro k hk; cases hk; omega)) | ((with_reducible refine Below.trans ?_ (below_of_only Hg2.out ?_ ?_)); rotate_left; (focus (first | (simp; done) | (simp; omega) | omega)); (intro k hk; cases hk; omega)) | ((with_reducible refine Below.trans ?_ (below_of_only Hg1.out ?_ ?_)); rotate_left; (focus (first | (simp; done) | (simp; omega) | omega)); (intro k hk; cases hk; omega)))))
  have RW := hide ((R3.out.alloc (.cells #[.int .i64 d1, .int .i64 d2, .int .i64 d3, .bool d4] 25)).alloc (.cells #[.int .i64 f, .int .i64 h, .int .i64 l, .bool o] 25))
  go_wp2_with fail
  have hWs : ((w3.alloc (.cells #[.int .i64 d1, .int .i64 d2, .int .i64 d3, .bool d4] 25)).alloc (.cells #[.int .i64 f, .int .i64 h, .int .i64 l, .bool o] 25)).heap.size = w3.heap.size + 1 + 1 := by simp
  generalize hW : (w3.alloc (.cells #[.int .i64 d1, .int .i64 d2, .int .i64 d3, .bool d4] 25)).alloc (.cells #[.int .i64 f, .int .i64 h, .int .i64 l, .bool o] 25) = W at *
  clear hW
  have HWs := hide hWs
  clear hWs
  go_loopw [10] (fun i wr => ∃ (k : Nat) (x1 x2 x3 : Int) (x4 : Bool), k ≤ n1 ∧ i = .int .i64 k ∧ Blk wr (w3.heap.size + 1) 25 #[.int .i64 x1, .int .i64 x2, .int .i64 x3, .bool x4] ∧ Hid (At (f, h, l, o) zs1 k (x1, x2, x3, x4)) ∧ Hid (Below (w3.heap.size + 1) W wr)) (fun i _ => n1 - (intOf i).toNat)
  case atStart => exact ⟨0, f, h, l, o, Nat.zero_le _, rfl, hx0, Hat, hide (Below.refl _ _)⟩
  case round =>
    obtain ⟨k, x1, x2, x3, x4, hk, rfl, hx, HA, Hb⟩ := hrel
    have hlt := hx.lt
    have hdr := hd0.below Hb.out (by omega)
    obtain ⟨_, _, _, _, _, _, _, _⟩ := blk4 hdr
    obtain ⟨_, _, _, _, _, _, _, _⟩ := blk4 hx
    obtain ⟨_, _, _, _, _, _, _, _⟩ := sz hlt
    obtain ⟨_, _, _, _, _, _, _, _⟩ := sz (show w2.heap.size < wr.heap.size from by omega)
    by_cases hkn : k < n1
    · obtain ⟨b1, o1, z, rfl, hb1, hz', hc1'⟩ := RdI.at_ (w := W) RW.out hkn
      have hb1r : b1 < w3.heap.size := by
        have h1 := RdI.old R3.out (by omega) b1 o1 rfl
        exact h1
      have hc1 := (Hb.out.cell (p := ⟨b1, o1 + k, none⟩) (by show b1 < w3.heap.size + 1; omega)).trans hc1'
      have Hz := hide hz'
      obtain ⟨_, _, _, _, _, _, _, _⟩ := sz (show b1 < wr.heap.size from by omega)
      clear hz' hc1'
      obtain ⟨q, hq⟩ : ∃ q, cSt (x1, x2, x3, x4) z = q := ⟨_, rfl⟩
      have Hqq := hide hq
      clear hq
      have hlt' : (k : Int) < (n1 : Int) := by omega
      rcases q with _ | ⟨f', h', l', o'⟩
      · have hr2 := run_eq Hr.out (HA.out.no Hz.out Hqq.out)
        obtain ⟨e1, rfl⟩ := hr2
        injection e1 with a1 e1
        injection e1 with a2 e1
        injection e1 with a3 a4
        subst a1 a2 a3 a4
        go_wp2_with fail
        go_region_with
          ( go_at_call 20
            refine (StepCar_n4 d1 d2 d3 d4 z _ HA.out.v Hqq.out).mono ?_
            rintro e w5 ⟨rfl, hb⟩
            obtain ⟨hc5, hf5⟩ := bcell hb
            have hz5 := hb.size
            try simp at hz5
            have hx5 : Blk w5 (w3.heap.size + 1) 25 #[.int .i64 d1, .int .i64 d2, .int .i64 d3, .bool d4] := Blk.below (by repeat (first | (with_reducible assumption) | (with_reducible exact Blk.new _ _ _) | ((with_reducible refine Blk.new_at ?_); (first | (simp; done) | (simp; omega))) | (with_reducible refine Blk.drew ?_) | (with_reducible refine Blk.drewN ?_ _) | (with_reducible refine Blk.alloc ?_ _) | ((with_reducible refine Blk.far ?_ ?_ _); rotate_left; (focus (first | (simp; done) | (simp; omega) | omega))))) hb (by (focus (first | (simp; done) | (simp; omega) | omega)))
            have hd5 : Blk w5 w2.heap.size 25 #[.int .i64 d1, .int .i64 d2, .int .i64 d3, .bool d4] := Blk.below (by repeat (first | (with_reducible assumption) | (with_reducible exact Blk.new _ _ _) | ((with_reducible refine Blk.new_at ?_); (first | (simp; done) | (simp; omega))) | (with_reducible refine Blk.drew ?_) | (with_reducible refine Blk.drewN ?_ _) | (with_reducible refine Blk.alloc ?_ _) | ((with_reducible refine Blk.far ?_ ?_ _); rotate_left; (focus (first | (simp; done) | (simp; omega) | omega))))) hb (by (focus (first | (simp; done) | (simp; omega) | omega)))
            obtain ⟨_, _, _, _, _, _, _, _⟩ := blk4 hx5
            obtain ⟨_, _, _, _, _, _, _, _⟩ := blk4 hd5
            obtain ⟨_, _, _, _, _, _, _, _⟩ := sz (show w3.heap.size + 1 < w5.heap.size from by omega)
            obtain ⟨_, _, _, _, _, _, _, _⟩ := sz (show w2.heap.size < w5.heap.size from by omega)
            obtain ⟨_, _, _, _, _, _, _, _⟩ := sz (show w3.heap.size < w5.heap.size from by omega)
            have Hb5 := hide hb
            clear hb
          )
        all_goals
          go_wp2_with fail
          go_ret
          exact ⟨rfl, Below.trans HB.out (Below.mono (B := w3.heap.size + 1) (by repeat (first | (with_reducible exact Below.refl _ _) | (with_reducible refine Below.drew ?_) | (with_reducible refine below_drewN ?_ _) | ((with_reducible refine Below.alloc ?_ ?_ _); rotate_left; (focus (first | (simp; done) | (simp; omega) | omega))) | ((with_reducible refine Below.setCell ?_ ?_ _); rotate_left; (focus (first | (simp; done) | (simp; omega) | omega))) | ((with_reducible refine Below.trans ?_ (Below.mono Hb.out ?_)); rotate_left; (focus (first | (simp; done) | (simp; omega) | omega))) | ((with_reducible refine Below.trans ?_ (Below.mono Hb16.out ?_)); rotate_left; (focus (first | (simp; done) | (simp; omega) | omega))) | ((with_reducible refine Below.trans ?_ (Below.mono Hb15.out ?_)); rotate_left; (focus (first | (simp; done) | (simp; omega) | omega))) | ((with_reducible refine Below.trans ?_ (Below.mono Hb14.out ?_)); rotate_left; (focus (first | (simp; done) | (simp; omega) | omega))) | ((with_reducible refine Below.trans ?_ (Below.mono Hb13.out ?_)); rotate_left; (focus (first | (simp; done) | (simp; omega) | omega))) | ((with_reducible refine Below.trans ?_ (Below.mono Hb12.out ?_)); rotate_left; (focus (first | (simp; done) | (simp; omega) | omega))) | ((with_reducible refine Below.trans ?_ (Below.mono Hb11.out ?_)); rotate_left; (focus (first | (simp; done) | (simp; omega) | omega))) | ((with_reducible refine Below.trans ?_ (Below.mono Hb10.out ?_)); rotate_left; (focus (first | (simp; done) | (simp; omega) | omega))) | ((with_reducible refine Below.trans ?_ (Below.mono Hb9.out ?_)); rotate_left; (focus (first | (simp; done) | (simp; omega) | omega))) | ((with_reducible refine Below.trans ?_ (Below.mono Hb8.out ?_)); rotate_left; (focus (first | (simp; done) | (simp; omega) | omega))) | ((with_reducible refine Below.trans ?_ (Below.mono Hb7.out ?_)); rotate_left; (focus (first | (simp; done) | (simp; omega) | omega))) | ((with_reducible refine Below.trans ?_ (Below.mono Hb6.out ?_)); rotate_left; (focus (first | (simp; done) | (simp; omega) | omega))) | ((with_reducible refine Below.trans ?_ (Below.mono Hb5.out ?_)); rotate_left; (focus (first | (simp; done) | (simp; omega) | omega))) | ((with_reducible refine Below.trans ?_ (Below.mono Hb4.out ?_)); rotate_left; (focus (first | (simp; done) | (simp; omega) | omega))) | ((with_reducible refine Below.trans ?_ (Below.mono Hb3.out ?_)); rotate_left; (focus (first | (simp; done) | (simp; omega) | omega))) | ((with_reducible refine Below.trans ?_ (Below.mono Hb2.out ?_)); rotate_left; (focus (first | (simp; done) | (simp; omega) | omega))) | ((with_reducible refine Below.trans ?_ (Below.mono Hb1.out ?_)); rotate_left; (focus (first | (simp; done) | (simp; omega) | omega))) | ((with_reducible refine Below.trans ?_ (below_of_only Hg16.out ?_ ?_)); rotate_left; (focus (first | (simp; done) | (simp; omega) | omega)); (intro k hk; cases hk; omega)) | ((with_reducible refine Below.trans ?_ (below_of_only Hg15.out ?_ ?_)); rotate_left; (focus (first | (simp; done) | (simp; omega) | omega)); (intro k hk; cases hk; omega)) | ((with_reducible refine Below.trans ?_ (below_of_only Hg14.out ?_ ?_)); rotate_left; (focus (first | (simp; done) | (simp; omega) | omega)); (intro k hk; cases hk; omega)) | ((with_reducible refine Below.trans ?_ (below_of_only Hg13.out ?_ ?_)); rotate_left; (focus (first | (simp; done) | (simp; omega) | omega)); (intro k hk; cases hk; omega)) | ((with_reducible refine Below.trans ?_ (below_of_only Hg12.out ?_ ?_)); rotate_left; (focus (first | (simp; done) | (simp; omega) | omega)); (intro k hk; cases hk; omega)) | ((with_reducible refine Below.trans ?_ (below_of_only Hg11.out ?_ ?_)); rotate_left; (focus (first | (simp; done) | (simp; omega) | omega)); (intro k hk; cases hk; omega)) | ((with_reducible refine Below.trans ?_ (below_of_only Hg10.out ?_ ?_)); rotate_left; (focus (first | (simp; done) | (simp; omega) | omega)); (intro k hk; cases hk; omega)) | ((with_reducible refine Below.trans ?_ (below_of_only Hg9.out ?_ ?_)); rotate_left; (focus (first | (simp; done) | (simp; omega) | omega)); (intro k hk; cases hk; omega)) | ((with_reducible refine Below.trans ?_ (below_of_only Hg8.out ?_ ?_)); rotate_left; (focus (first | (simp; done) | (simp; omega) | omega)); (intro k hk; cases hk; omega)) | ((with_reducible refine Below.trans ?_ (below_of_only Hg7.out ?_ ?_)); rotate_left; (focus (first | (simp; done) | (simp; omega) | omega)); (intro k hk; cases hk; omega)) | ((with_reducible refine Below.trans ?_ (below_of_only Hg6.out ?_ ?_)); rotate_left; (focus (first | (simp; done) | (simp; omega) | omega)); (intro k hk; cases hk; omega)) | ((with_reducible refine Below.trans ?_ (below_of_only Hg5.out ?_ ?_)); rotate_left; (focus (first | (simp; done) | (simp; omega) | omega)); (intro k hk; cases hk; omega)) | ((with_reducible refine Below.trans ?_ (below_of_only Hg4.out ?_ ?_)); rotate_left; (focus (first | (simp; done) | (simp; omega) | omega)); (intro k hk; cases hk; omega)) | ((with_reducible refine Below.trans ?_ (below_of_only Hg3.out ?_ ?_)); rotate_left; (focus (first | (simp; done) | (simp; omega) | omega)); (intro k hk; cases hk; omega)) | ((with_reducible refine Below.trans ?_ (below_of_only Hg2.out ?_ ?_)); rotate_left; (focus (first | (simp; done) | (simp; omega) | omega)); (intro k hk; cases hk; omega)) | ((with_reducible refine Below.trans ?_ (below_of_only Hg1.out ?_ ?_)); rotate_left; (focus (first | (simp; done) | (simp; omega) | omega)); (intro k hk; cases hk; omega)))) (by have := HWs.out; have := HB.out.size; omega))⟩
      · go_wp2_with fail
        go_region_with
          ( go_at_call 20
            refine (StepCar_y4 x1 x2 x3 x4 z f' h' l' o' _ Hqq.out).mono ?_
            rintro e w5 ⟨rfl, hb⟩
            obtain ⟨hc5, hf5⟩ := bcell hb
            have hz5 := hb.size
            try simp at hz5
            have hx5 : Blk w5 (w3.heap.size + 1) 25 #[.int .i64 x1, .int .i64 x2, .int .i64 x3, .bool x4] := Blk.below (by repeat (first | (with_reducible assumption) | (with_reducible exact Blk.new _ _ _) | ((with_reducible refine Blk.new_at ?_); (first | (simp; done) | (simp; omega))) | (with_reducible refine Blk.drew ?_) | (with_reducible refine Blk.drewN ?_ _) | (with_reducible refine Blk.alloc ?_ _) | ((with_reducible refine Blk.far ?_ ?_ _); rotate_left; (focus (first | (simp; done) | (simp; omega) | omega))))) hb (by (focus (first | (simp; done) | (simp; omega) | omega)))
            have hd5 : Blk w5 w2.heap.size 25 #[.int .i64 d1, .int .i64 d2, .int .i64 d3, .bool d4] := Blk.below (by repeat (first | (with_reducible assumption) | (with_reducible exact Blk.new _ _ _) | ((with_reducible refine Blk.new_at ?_); (first | (simp; done) | (simp; omega))) | (with_reducible refine Blk.drew ?_) | (with_reducible refine Blk.drewN ?_ _) | (with_reducible refine Blk.alloc ?_ _) | ((with_reducible refine Blk.far ?_ ?_ _); rotate_left; (focus (first | (simp; done) | (simp; omega) | omega))))) hb (by (focus (first | (simp; done) | (simp; omega) | omega)))
            obtain ⟨_, _, _, _, _, _, _, _⟩ := blk4 hx5
            obtain ⟨_, _, _, _, _, _, _, _⟩ := blk4 hd5
            obtain ⟨_, _, _, _, _, _, _, _⟩ := sz (show w3.heap.size + 1 < w5.heap.size from by omega)
            obtain ⟨_, _, _, _, _, _, _, _⟩ := sz (show w2.heap.size < w5.heap.size from by omega)
            obtain ⟨_, _, _, _, _, _, _, _⟩ := sz (show w3.heap.size < w5.heap.size from by omega)
            have Hb5 := hide hb
            clear hb
          )
        all_goals
          have hx6 := ((((hx5.set_ 0 (.int .i64 f')).set_ 1 (.int .i64 h')).set_ 2 (.int .i64 l')).set_ 3 (.bool o')).alloc (.cells #[.int .i64 f', .int .i64 h', .int .i64 l', .bool o'] 25)
          have Hx6 := hide hx6
          have hx7 := (((((((hx5.far (p := ⟨wr.heap.size, 0, none⟩) (by simp; omega) (.int .i64 f')).far (p := ⟨wr.heap.size, 1, none⟩) (by simp; omega) (.int .i64 h')).far (p := ⟨wr.heap.size, 2, none⟩) (by simp; omega) (.int .i64 l')).far (p := ⟨wr.heap.size, 3, none⟩) (by simp; omega) (.bool o')).set_ 0 (.int .i64 f')).set_ 1 (.int .i64 h')).set_ 2 (.int .i64 l')).set_ 3 (.bool o')
          have Hx7 := hide hx7
          clear hx6 hx7
          go_wp2_with fail
          go_roundw
          case rel => exact ⟨k + 1, f', h', l', o', by omega, by go_num, (by first | (have hh := Hx6.out; simp at hh; (with_reducible exact hh)) | (have hh := Hx7.out; simp at hh; (with_reducible exact hh))), hide (HA.out.yes Hz.out Hqq.out), hide (by repeat (first | (with_reducible exact Below.refl _ _) | (with_reducible refine Below.drew ?_) | (with_reducible refine below_drewN ?_ _) | ((with_reducible refine Below.alloc ?_ ?_ _); rotate_left; (focus (first | (simp; done) | (simp; omega) | omega))) | ((with_reducible refine Below.setCell ?_ ?_ _); rotate_left; (focus (first | (simp; done) | (simp; omega) | omega))) | ((with_reducible refine Below.trans ?_ (Below.mono Hb.out ?_)); rotate_left; (focus (first | (simp; done) | (simp; omega) | omega))) | ((with_reducible refine Below.trans ?_ (Below.mono Hb16.out ?_)); rotate_left; (focus (first | (simp; done) | (simp; omega) | omega))) | ((with_reducible refine Below.trans ?_ (Below.mono Hb15.out ?_)); rotate_left; (focus (first | (simp; done) | (simp; omega) | omega))) | ((with_reducible refine Below.trans ?_ (Below.mono Hb14.out ?_)); rotate_left; (focus (first | (simp; done) | (simp; omega) | omega))) | ((with_reducible refine Below.trans ?_ (Below.mono Hb13.out ?_)); rotate_left; (focus (first | (simp; done) | (simp; omega) | omega))) | ((with_reducible refine Below.trans ?_ (Below.mono Hb12.out ?_)); rotate_left; (focus (first | (simp; done) | (simp; omega) | omega))) | ((with_reducible refine Below.trans ?_ (Below.mono Hb11.out ?_)); rotate_left; (focus (first | (simp; done) | (simp; omega) | omega))) | ((with_reducible refine Below.trans ?_ (Below.mono Hb10.out ?_)); rotate_left; (focus (first | (simp; done) | (simp; omega) | omega))) | ((with_reducible refine Below.trans ?_ (Below.mono Hb9.out ?_)); rotate_left; (focus (first | (simp; done) | (simp; omega) | omega))) | ((with_reducible refine Below.trans ?_ (Below.mono Hb8.out ?_)); rotate_left; (focus (first | (simp; done) | (simp; omega) | omega))) | ((with_reducible refine Below.trans ?_ (Below.mono Hb7.out ?_)); rotate_left; (focus (first | (simp; done) | (simp; omega) | omega))) | ((with_reducible refine Below.trans ?_ (Below.mono Hb6.out ?_)); rotate_left; (focus (first | (simp; done) | (simp; omega) | omega))) | ((with_reducible refine Below.trans ?_ (Below.mono Hb5.out ?_)); rotate_left; (focus (first | (simp; done) | (simp; omega) | omega))) | ((with_reducible refine Below.trans ?_ (Below.mono Hb4.out ?_)); rotate_left; (focus (first | (simp; done) | (simp; omega) | omega))) | ((with_reducible refine Below.trans ?_ (Below.mono Hb3.out ?_)); rotate_left; (focus (first | (simp; done) | (simp; omega) | omega))) | ((with_reducible refine Below.trans ?_ (Below.mono Hb2.out ?_)); rotate_left; (focus (first | (simp; done) | (simp; omega) | omega))) | ((with_reducible refine Below.trans ?_ (Below.mono Hb1.out ?_)); rotate_left; (focus (first | (simp; done) | (simp; omega) | omega))) | ((with_reducible refine Below.trans ?_ (below_of_only Hg16.out ?_ ?_)); rotate_left; (focus (first | (simp; done) | (simp; omega) | omega)); (intro k hk; cases hk; omega)) | ((with_reducible refine Below.trans ?_ (below_of_only Hg15.out ?_ ?_)); rotate_left; (focus (first | (simp; done) | (simp; omega) | omega)); (intro k hk; cases hk; omega)) | ((with_reducible refine Below.trans ?_ (below_of_only Hg14.out ?_ ?_)); rotate_left; (focus (first | (simp; done) | (simp; omega) | omega)); (intro k hk; cases hk; omega)) | ((with_reducible refine Below.trans ?_ (below_of_only Hg13.out ?_ ?_)); rotate_left; (focus (first | (simp; done) | (simp; omega) | omega)); (intro k hk; cases hk; omega)) | ((with_reducible refine Below.trans ?_ (below_of_only Hg12.out ?_ ?_)); rotate_left; (focus (first | (simp; done) | (simp; omega) | omega)); (intro k hk; cases hk; omega)) | ((with_reducible refine Below.trans ?_ (below_of_only Hg11.out ?_ ?_)); rotate_left; (focus (first | (simp; done) | (simp; omega) | omega)); (intro k hk; cases hk; omega)) | ((with_reducible refine Below.trans ?_ (below_of_only Hg10.out ?_ ?_)); rotate_left; (focus (first | (simp; done) | (simp; omega) | omega)); (intro k hk; cases hk; omega)) | ((with_reducible refine Below.trans ?_ (below_of_only Hg9.out ?_ ?_)); rotate_left; (focus (first | (simp; done) | (simp; omega) | omega)); (intro k hk; cases hk; omega)) | ((with_reducible refine Below.trans ?_ (below_of_only Hg8.out ?_ ?_)); rotate_left; (focus (first | (simp; done) | (simp; omega) | omega)); (intro k hk; cases hk; omega)) | ((with_reducible refine Below.trans ?_ (below_of_only Hg7.out ?_ ?_)); rotate_left; (focus (first | (simp; done) | (simp; omega) | omega)); (intro k hk; cases hk; omega)) | ((with_reducible refine Below.trans ?_ (below_of_only Hg6.out ?_ ?_)); rotate_left; (focus (first | (simp; done) | (simp; omega) | omega)); (intro k hk; cases hk; omega)) | ((with_reducible refine Below.trans ?_ (below_of_only Hg5.out ?_ ?_)); rotate_left; (focus (first | (simp; done) | (simp; omega) | omega)); (intro k hk; cases hk; omega)) | ((with_reducible refine Below.trans ?_ (below_of_only Hg4.out ?_ ?_)); rotate_left; (focus (first | (simp; done) | (simp; omega) | omega)); (intro k hk; cases hk; omega)) | ((with_reducible refine Below.trans ?_ (below_of_only Hg3.out ?_ ?_)); rotate_left; (focus (first | (simp; done) | (simp; omega) | omega)); (intro k hk; cases hk; omega)) | ((with_reducible refine Below.trans ?_ (below_of_only Hg2.out ?_ ?_)); rotate_left; (focus (first | (simp; done) | (simp; omega) | omega)); (intro k hk; cases hk; omega)) | ((with_reducible refine Below.trans ?_ (below_of_only Hg1.out ?_ ?_)); rotate_left; (focus (first | (simp; done) | (simp; omega) | omega)); (intro k hk; cases hk; omega))))⟩
          case measure => simp [intOf]; omega
    · obtain rfl : k = n1 := by omega
      have hr2 := run_eq Hr.out (HA.out.end_ (by have := Hl1.out; omega))
      obtain ⟨e1, rfl⟩ := hr2
      injection e1 with a1 e1
      injection e1 with a2 e1
      injection e1 with a3 a4
      subst a1 a2 a3 a4
      go_wp2_with fail
      go_ret
      exact ⟨rfl, Below.trans HB.out (Hb.out.mono (by have := HWs.out; have := HB.out.size; omega))⟩

end Go.Proofs.Ytongbeecogjdlaa
