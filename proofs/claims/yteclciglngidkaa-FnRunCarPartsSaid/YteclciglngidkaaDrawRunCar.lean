/-
  Drawing a car and a list of orders; a car and a floor.
-/
import Derived.Test.YteclciglngidkaaDs
import Derived.Test.YteclciglngidkaaDrawCar
import Derived.Test.YteclciglngidkaaCarD
import Derived.Deep.RegionHeld3
namespace Go.Proofs.Yteclciglngidkaa
open Go.RowKit
set_option linter.unusedSimpArgs false
set_option linter.unusedVariables false

def carA (q : CarQ) : Array Value := #[.int .i64 q.1, .int .i64 q.2.1, .int .i64 q.2.2.1, .bool q.2.2.2]
/-- A car and a list of at most 41 orders, all in new memory. -/
def DrawnRC (w : World) (e : Ending) (w' : World) : Prop :=
  ∃ (f h l : Int) (o : Bool) (A : Option Addr) (n c : Nat) (zs : List Int), e = .returned (.tuple #[.agg #[.int .i64 f, .int .i64 h, .int .i64 l, .bool o], .slice A n c]) ∧ n ≤ 41 ∧ OwnA A n c ∧ RdI w' .i64 A n zs ∧ Below w.heap.size w w'

structure RCS (B0 g bR bC bX : Nat) (q : CarQ) (w0 wr : World) (v : Value) (zs : List Int) (p : Nat) : Prop where
  d : DS 3 1 B0 g w0 wr v zs.length (zs.map (Value.int .i64)) p
  r : Blk wr bR 29 #[.int .i64 0, .int .i64 0, .int .i64 0, .bool false]
  c : Blk wr bC 29 (carA q)
  x : ∃ x : CarQ, Blk wr bX 29 (carA x)
  n1 : bR ≠ bX
  n2 : bC ≠ bX
  n3 : bC ≠ bR
  lR : w0.heap.size ≤ bR
  lX : w0.heap.size ≤ bX
section
variable {B0 g bR bC bX p : Nat} {q : CarQ} {w0 wr w' : World} {v : Value} {zs : List Int}
theorem RCS.pick (h : RCS B0 g bR bC bX q w0 wr v zs p) {k : Nat} (hr : RdU w' B0 g k) (hg : wr.grownBy w' (some g)) : RCS B0 g bR bC bX q w0 w' v zs k :=
  ⟨h.d.pick hr hg, h.d.blkP h.r (by decide) hg, h.d.blkP h.c (by decide) hg, h.x.elim fun x hx => ⟨x, h.d.blkP hx (by decide) hg⟩, h.n1, h.n2, h.n3, h.lR, h.lX⟩
theorem RCS.below (h : RCS B0 g bR bC bX q w0 wr v zs p) (hb : Below wr.heap.size wr w') : RCS B0 g bR bC bX q w0 w' v zs p :=
  ⟨h.d.below hb, h.r.below hb h.r.lt, h.c.below hb h.c.lt, h.x.elim fun x hx => ⟨x, hx.below hb hx.lt⟩, h.n1, h.n2, h.n3, h.lR, h.lX⟩
theorem RCS.alloc (h : RCS B0 g bR bC bX q w0 wr v zs p) (o : Obj) : RCS B0 g bR bC bX q w0 (wr.alloc o) v zs p :=
  h.below ((Below.refl _ _).alloc (Nat.le_refl _) o)
theorem RCS.setX1 (h : RCS B0 g bR bC bX q w0 wr v zs p) {cs : Array Value} (hx : Blk wr bX 29 cs) (i : Nat) (u : Value) :
    DS 3 1 B0 g w0 (wr.setCell ⟨bX, i, none⟩ u) v zs.length (zs.map (Value.int .i64)) p ∧ Blk (wr.setCell ⟨bX, i, none⟩ u) bR 29 #[.int .i64 0, .int .i64 0, .int .i64 0, .bool false] ∧ Blk (wr.setCell ⟨bX, i, none⟩ u) bC 29 (carA q) :=
  ⟨h.d.setBox hx (by decide) (by decide) h.lX i u, h.r.far h.n1 u, h.c.far h.n2 u⟩
theorem RCS.setX (h : RCS B0 g bR bC bX q w0 wr v zs p) (y : CarQ) :
    RCS B0 g bR bC bX q w0 ((((wr.setCell ⟨bX, 0, none⟩ (.int .i64 y.1)).setCell ⟨bX, 1, none⟩ (.int .i64 y.2.1)).setCell ⟨bX, 2, none⟩ (.int .i64 y.2.2.1)).setCell ⟨bX, 3, none⟩ (.bool y.2.2.2)) v zs p := by
  obtain ⟨x, hx⟩ := h.x
  have x1 := hx.set_ 0 (.int .i64 y.1)
  have x2 := x1.set_ 1 (.int .i64 y.2.1)
  have x3 := x2.set_ 2 (.int .i64 y.2.2.1)
  have x4 := x3.set_ 3 (.bool y.2.2.2)
  refine ⟨(((h.d.setBox hx (by decide) (by decide) h.lX 0 _).setBox x1 (by decide) (by decide) h.lX 1 _).setBox x2 (by decide) (by decide) h.lX 2 _).setBox x3 (by decide) (by decide) h.lX 3 _, (((h.r.far (p := ⟨bX, 0, none⟩) h.n1 _).far (p := ⟨bX, 1, none⟩) h.n1 _).far (p := ⟨bX, 2, none⟩) h.n1 _).far (p := ⟨bX, 3, none⟩) h.n1 _, (((h.c.far (p := ⟨bX, 0, none⟩) h.n2 _).far (p := ⟨bX, 1, none⟩) h.n2 _).far (p := ⟨bX, 2, none⟩) h.n2 _).far (p := ⟨bX, 3, none⟩) h.n2 _, ⟨y, by simpa [carA] using x4⟩, h.n1, h.n2, h.n3, h.lR, h.lX⟩
theorem RCS.app (h : RCS B0 g bR bC bX q w0 wr v zs p) {v' : Value} {z : Int} (ho : w'.ownsRow w0.heap.size 3 1 v' (zs.length + 1) (zs.map (Value.int .i64) ++ [.int .i64 z])) (hg : wr.grownBy w' v.ownBlock) : RCS B0 g bR bC bX q w0 w' v' (zs ++ [z]) p :=
  ⟨by simpa using h.d.app ho hg, h.d.blk h.r (by decide) hg, h.d.blk h.c (by decide) hg, h.x.elim fun x hx => ⟨x, h.d.blk hx (by decide) hg⟩, h.n1, h.n2, h.n3, h.lR, h.lX⟩
theorem RCS.store {b c j : Nat} {z : Int} (h : RCS B0 g bR bC bX q w0 wr (.slice (some ⟨b, 0, none⟩) zs.length c) zs p) : RCS B0 g bR bC bX q w0 (wr.setCell ⟨b, j, none⟩ (.int .i64 z)) (.slice (some ⟨b, 0, none⟩) zs.length c) (zs.set j z) p := by
  have hs := h.d.o.stored j (.int .i64 z)
  have ho : (wr.setCell ⟨b, j, none⟩ (.int .i64 z)).ownsRow w0.heap.size 3 1 (.slice (some ⟨b, 0, none⟩) zs.length c) (zs.set j z).length ((zs.set j z).map (Value.int .i64)) := by
    rw [List.map_set, List.length_set]
    exact hs.1
  exact ⟨h.d.app ho hs.2, h.d.blk h.r (by decide) hs.2, h.d.blk h.c (by decide) hs.2, h.x.elim fun x hx => ⟨x, h.d.blk hx (by decide) hs.2⟩, h.n1, h.n2, h.n3, h.lR, h.lX⟩
theorem RCS.fin {A : Option Addr} {n c : Nat} (h : RCS B0 g bR bC bX q w0 wr (.slice A n c) zs p) (hn : zs.length = n) (h41 : n ≤ 41) (a b d e : Value) :
    DrawnRC w0 (.returned (.tuple #[.agg #[.int .i64 q.1, .int .i64 q.2.1, .int .i64 q.2.2.1, .bool q.2.2.2], .slice A n c])) ((((wr.setCell ⟨bR, 0, none⟩ a).setCell ⟨bR, 1, none⟩ b).setCell ⟨bR, 2, none⟩ d).setCell ⟨bR, 3, none⟩ e) := by
  have r1 := h.r.set_ 0 a
  have r2 := r1.set_ 1 b
  have r3 := r2.set_ 2 d
  have d4 := (((h.d.setBox h.r (by decide) (by decide) h.lR 0 a).setBox r1 (by decide) (by decide) h.lR 1 b).setBox r2 (by decide) (by decide) h.lR 2 d).setBox r3 (by decide) (by decide) h.lR 3 e
  have ho := d4.o
  rw [hn] at ho
  exact ⟨q.1, q.2.1, q.2.2.1, q.2.2.2, A, n, c, zs, rfl, h41, own_formA ho, Rd.of_own ho, d4.be⟩
end
theorem own_cur {w : World} {base : Nat} {e : TypeId} {size n cap : Nat} {A : Option Addr} {xs : List Value} (h : w.ownsRow base e size (.slice A n cap) n xs) (h0 : 0 < n) : ∃ g, A = some ⟨g, 0, none⟩ ∧ base ≤ g ∧ g < w.heap.size := by
  rcases h.2 with ⟨_, h1⟩ | ⟨g, cap', cur, hv, hb, hg, _⟩
  · omega
  · injection hv with hv
    exact ⟨g, hv, hb, (Array.getElem?_eq_some_iff.1 hg).1⟩
theorem StepCar_yy (f h l : Int) (o : Bool) (k f' h' l' : Int) (o' : Bool) (w : World) (hq : cStep f h l o k = some (f', h', l', o')) :
    Calls Try.prog 23 #[.agg #[.int .i64 f, .int .i64 h, .int .i64 l, .bool o], .int .i64 k] w (RetY f' h' l' o' w) := StepCar_sy f h l o k (f', h', l', o') w hq

set_option maxHeartbeats 1500000 in
theorem DrawRunCar_any (B0 : Nat) (A : Option Addr) (n c : Nat) (w : World) (hB : B0 ≤ w.heap.size) (ha : Code8 w B0 A n c) :
    Calls Try.prog 8 #[.slice A n c] w (DrawnRC w) := by
  have Ha := hide ha
  clear ha
  obtain ⟨i0, hi0, iz0, iz1, iz2⟩ := info_parts int_info
  go_enter Try.func8, Try.ntmps8
  go_wp2_with fail
  refine (newReader_u B0 A n c _ (by simp; omega) (Ha.out.alloc _)).mono ?_
  rintro e w1 ⟨g, rfl, hr1, g2, hb⟩
  have hz1 := hb.size
  try simp at hz1
  obtain ⟨_, _, _, _, _, _, _, _⟩ := sz (show w.heap.size < w1.heap.size from by omega)
  have hx : Blk _ (w.heap.size) 29 #[.int .i64 0, .int .i64 0, .int .i64 0, .bool false] := Blk.below (by repeat (first | (with_reducible assumption) | (with_reducible exact Blk.new _ _ _) | ((with_reducible refine Blk.new_at ?_); (first | (simp; done) | (simp; omega))) | (with_reducible refine Blk.drew ?_) | (with_reducible refine Blk.drewN ?_ _) | (with_reducible refine Blk.alloc ?_ _) | ((with_reducible refine Blk.far ?_ ?_ _); rotate_left; (focus (first | (simp; done) | (simp; omega) | omega))))) hb (by (focus (first | (simp; done) | (simp; omega) | omega)))
  obtain ⟨_, _, _, _, _, _, _, _⟩ := blk4 hx
  have Hb1 := hide hb
  clear hb
  have g1 := hr1.lt
  simp at g2
  have ne0 : ¬ w.heap.size = g := by omega
  go_wp2_with fail
  refine (anyCar_any B0 g 0 _ (by omega) hr1).mono ?_
  rintro e w2 ⟨f, h, l, o, rfl, hr2, hg⟩
  have hz2 := hg.size
  try simp at hz2
  obtain ⟨_, _, _, _, _, _, _, _⟩ := sz (show w.heap.size < w2.heap.size from by omega)
  have hx : Blk _ (w.heap.size) 29 #[.int .i64 0, .int .i64 0, .int .i64 0, .bool false] := Blk.grown (by repeat (first | (with_reducible assumption) | (with_reducible exact Blk.new _ _ _) | ((with_reducible refine Blk.new_at ?_); (first | (simp; done) | (simp; omega))) | (with_reducible refine Blk.drew ?_) | (with_reducible refine Blk.drewN ?_ _) | (with_reducible refine Blk.alloc ?_ _) | ((with_reducible refine Blk.far ?_ ?_ _); rotate_left; (focus (first | (simp; done) | (simp; omega) | omega))))) hg (by intro e; have := Option.some.inj e; omega)
  obtain ⟨_, _, _, _, _, _, _, _⟩ := blk4 hx
  have Hg2 := hide hg
  clear hg
  have ne2 : ¬ w2.heap.size = g := by omega
  have n4 : ¬ w2.heap.size + 1 = g := by omega
  have n5 : ¬ w2.heap.size + 1 + 1 = g := by omega
  go_wp2_with fail
  refine (one_lit B0 g 6 _ _ _ _ [4, 8, 12, 2, 0, 20, 40, 41] _ (by simp) rfl rfl (by decide) (by omega) (by repeat (first | ((with_reducible refine RdU.mono hr16 ?_); omega) | ((with_reducible refine RdU.mono hr15 ?_); omega) | ((with_reducible refine RdU.mono hr14 ?_); omega) | ((with_reducible refine RdU.mono hr13 ?_); omega) | ((with_reducible refine RdU.mono hr12 ?_); omega) | ((with_reducible refine RdU.mono hr11 ?_); omega) | ((with_reducible refine RdU.mono hr10 ?_); omega) | ((with_reducible refine RdU.mono hr9 ?_); omega) | ((with_reducible refine RdU.mono hr8 ?_); omega) | ((with_reducible refine RdU.mono hr7 ?_); omega) | ((with_reducible refine RdU.mono hr6 ?_); omega) | ((with_reducible refine RdU.mono hr5 ?_); omega) | ((with_reducible refine RdU.mono hr4 ?_); omega) | ((with_reducible refine RdU.mono hr3 ?_); omega) | ((with_reducible refine RdU.mono hr2 ?_); omega) | ((with_reducible refine RdU.mono hr1 ?_); omega) | ((with_reducible refine RdU.mono hr ?_); omega) | (with_reducible refine RdU.drew ?_) | (with_reducible refine RdU.drewN ?_ _) | (with_reducible refine RdU.alloc ?_ _) | ((with_reducible refine RdU.setCell ?_ ?_ ?_ _); rotate_left; (focus (first | (simp; done) | (simp; omega) | omega)); (focus (first | (simp; done) | (simp; omega) | omega)))))).mono ?_
  rintro e w3 ⟨x3, rfl, x3a, hr3, hg⟩
  have hst : RCS B0 g w.heap.size w2.heap.size (w2.heap.size + 1 + 1) (f, h, l, o) w w3 (.slice (some ⟨w2.heap.size + 1, 0, none⟩) 0 0) [] 7 := by
    have hd : DS 3 1 B0 g w ((w2.alloc (.cells #[.int .i64 f, .int .i64 h, .int .i64 l, .bool o] 29)).alloc (.cells #[] 3)) (.slice (some ⟨w2.heap.size + 1, 0, none⟩) 0 0) 0 [] 6 :=
      DS.lit hB (by omega) (by decide) (by repeat (first | ((with_reducible refine RdU.mono hr16 ?_); omega) | ((with_reducible refine RdU.mono hr15 ?_); omega) | ((with_reducible refine RdU.mono hr14 ?_); omega) | ((with_reducible refine RdU.mono hr13 ?_); omega) | ((with_reducible refine RdU.mono hr12 ?_); omega) | ((with_reducible refine RdU.mono hr11 ?_); omega) | ((with_reducible refine RdU.mono hr10 ?_); omega) | ((with_reducible refine RdU.mono hr9 ?_); omega) | ((with_reducible refine RdU.mono hr8 ?_); omega) | ((with_reducible refine RdU.mono hr7 ?_); omega) | ((with_reducible refine RdU.mono hr6 ?_); omega) | ((with_reducible refine RdU.mono hr5 ?_); omega) | ((with_reducible refine RdU.mono hr4 ?_); omega) | ((with_reducible refine RdU.mono hr3 ?_); omega) | ((with_reducible refine RdU.mono hr2 ?_); omega) | ((with_reducible refine RdU.mono hr1 ?_); omega) | ((with_reducible refine RdU.mono hr ?_); omega) | (with_reducible refine RdU.drew ?_) | (with_reducible refine RdU.drewN ?_ _) | (with_reducible refine RdU.alloc ?_ _) | ((with_reducible refine RdU.setCell ?_ ?_ ?_ _); rotate_left; (focus (first | (simp; done) | (simp; omega) | omega)); (focus (first | (simp; done) | (simp; omega) | omega))))) (by repeat (first | (with_reducible exact Below.refl _ _) | (with_reducible refine Below.drew ?_) | (with_reducible refine below_drewN ?_ _) | ((with_reducible refine Below.alloc ?_ ?_ _); rotate_left; (focus (first | (simp; done) | (simp; omega) | omega))) | ((with_reducible refine Below.setCell ?_ ?_ _); rotate_left; (focus (first | (simp; done) | (simp; omega) | omega))) | ((with_reducible refine Below.trans ?_ (Below.mono Hb.out ?_)); rotate_left; (focus (first | (simp; done) | (simp; omega) | omega))) | ((with_reducible refine Below.trans ?_ (Below.mono Hb16.out ?_)); rotate_left; (focus (first | (simp; done) | (simp; omega) | omega))) | ((with_reducible refine Below.trans ?_ (Below.mono Hb15.out ?_)); rotate_left; (focus (first | (simp; done) | (simp; omega) | omega))) | ((with_reducible refine Below.trans ?_ (Below.mono Hb14.out ?_)); rotate_left; (focus (first | (simp; done) | (simp; omega) | omega))) | ((with_reducible refine Below.trans ?_ (Below.mono Hb13.out ?_)); rotate_left; (focus (first | (simp; done) | (simp; omega) | omega))) | ((with_reducible refine Below.trans ?_ (Below.mono Hb12.out ?_)); rotate_left; (focus (first | (simp; done) | (simp; omega) | omega))) | ((with_reducible refine Below.trans ?_ (Below.mono Hb11.out ?_)); rotate_left; (focus (first | (simp; done) | (simp; omega) | omega))) | ((with_reducible refine Below.trans ?_ (Below.mono Hb10.out ?_)); rotate_left; (focus (first | (simp; done) | (simp; omega) | omega))) | ((with_reducible refine Below.trans ?_ (Below.mono Hb9.out ?_)); rotate_left; (focus (first | (simp; done) | (simp; omega) | omega))) | ((with_reducible refine Below.trans ?_ (Below.mono Hb8.out ?_)); rotate_left; (focus (first | (simp; done) | (simp; omega) | omega))) | ((with_reducible refine Below.trans ?_ (Below.mono Hb7.out ?_)); rotate_left; (focus (first | (simp; done) | (simp; omega) | omega))) | ((with_reducible refine Below.trans ?_ (Below.mono Hb6.out ?_)); rotate_left; (focus (first | (simp; done) | (simp; omega) | omega))) | ((with_reducible refine Below.trans ?_ (Below.mono Hb5.out ?_)); rotate_left; (focus (first | (simp; done) | (simp; omega) | omega))) | ((with_reducible refine Below.trans ?_ (Below.mono Hb4.out ?_)); rotate_left; (focus (first | (simp; done) | (simp; omega) | omega))) | ((with_reducible refine Below.trans ?_ (Below.mono Hb3.out ?_)); rotate_left; (focus (first | (simp; done) | (simp; omega) | omega))) | ((with_reducible refine Below.trans ?_ (Below.mono Hb2.out ?_)); rotate_left; (focus (first | (simp; done) | (simp; omega) | omega))) | ((with_reducible refine Below.trans ?_ (Below.mono Hb1.out ?_)); rotate_left; (focus (first | (simp; done) | (simp; omega) | omega))) | ((with_reducible refine Below.trans ?_ (below_of_only Hg16.out ?_ ?_)); rotate_left; (focus (first | (simp; done) | (simp; omega) | omega)); (intro k hk; cases hk; omega)) | ((with_reducible refine Below.trans ?_ (below_of_only Hg15.out ?_ ?_)); rotate_left; (focus (first | (simp; done) | (simp; omega) | omega)); (intro k hk; cases hk; omega)) | ((with_reducible refine Below.trans ?_ (below_of_only Hg14.out ?_ ?_)); rotate_left; (focus (first | (simp; done) | (simp; omega) | omega)); (intro k hk; cases hk; omega)) | ((with_reducible refine Below.trans ?_ (below_of_only Hg13.out ?_ ?_)); rotate_left; (focus (first | (simp; done) | (simp; omega) | omega)); (intro k hk; cases hk; omega)) | ((with_reducible refine Below.trans ?_ (below_of_only Hg12.out ?_ ?_)); rotate_left; (focus (first | (simp; done) | (simp; omega) | omega)); (intro k hk; cases hk; omega)) | ((with_reducible refine Below.trans ?_ (below_of_only Hg11.out ?_ ?_)); rotate_left; (focus (first | (simp; done) | (simp; omega) | omega)); (intro k hk; cases hk; omega)) | ((with_reducible refine Below.trans ?_ (below_of_only Hg10.out ?_ ?_)); rotate_left; (focus (first | (simp; done) | (simp; omega) | omega)); (intro k hk; cases hk; omega)) | ((with_reducible refine Below.trans ?_ (below_of_only Hg9.out ?_ ?_)); rotate_left; (focus (first | (simp; done) | (simp; omega) | omega)); (intro k hk; cases hk; omega)) | ((with_reducible refine Below.trans ?_ (below_of_only Hg8.out ?_ ?_)); rotate_left; (focus (first | (simp; done) | (simp; omega) | omega)); (intro k hk; cases hk; omega)) | ((with_reducible refine Below.trans ?_ (below_of_only Hg7.out ?_ ?_)); rotate_left; (focus (first | (simp; done) | (simp; omega) | omega)); (intro k hk; cases hk; omega)) | ((with_reducible refine Below.trans ?_ (below_of_only Hg6.out ?_ ?_)); rotate_left; (focus (first | (simp; done) | (simp; omega) | omega)); (intro k hk; cases hk; omega)) | ((with_reducible refine Below.trans ?_ (below_of_only Hg5.out ?_ ?_)); rotate_left; (focus (first | (simp; done) | (simp; omega) | omega)); (intro k hk; cases hk; omega)) | ((with_reducible refine Below.trans ?_ (below_of_only Hg4.out ?_ ?_)); rotate_left; (focus (first | (simp; done) | (simp; omega) | omega)); (intro k hk; cases hk; omega)) | ((with_reducible refine Below.trans ?_ (below_of_only Hg3.out ?_ ?_)); rotate_left; (focus (first | (simp; done) | (simp; omega) | omega)); (intro k hk; cases hk; omega)) | ((with_reducible refine Below.trans ?_ (below_of_only Hg2.out ?_ ?_)); rotate_left; (focus (first | (simp; done) | (simp; omega) | omega)); (intro k hk; cases hk; omega)) | ((with_reducible refine Below.trans ?_ (below_of_only Hg1.out ?_ ?_)); rotate_left; (focus (first | (simp; done) | (simp; omega) | omega)); (intro k hk; cases hk; omega)))) (by simp)
    have hd2 := ((hd.alloc (.cells #[.int .i64 f, .int .i64 h, .int .i64 l, .bool o] 29)).alloc (.cells #[.int .i64 4, .int .i64 8, .int .i64 12, .int .i64 2, .int .i64 0, .int .i64 20, .int .i64 40, .int .i64 41] 3)).pick hr3 hg
    refine ⟨hd2, Blk.grown (by repeat (first | (with_reducible assumption) | (with_reducible exact Blk.new _ _ _) | ((with_reducible refine Blk.new_at ?_); (first | (simp; done) | (simp; omega))) | (with_reducible refine Blk.drew ?_) | (with_reducible refine Blk.drewN ?_ _) | (with_reducible refine Blk.alloc ?_ _) | ((with_reducible refine Blk.far ?_ ?_ _); rotate_left; (focus (first | (simp; done) | (simp; omega) | omega))))) hg (by intro e; have := Option.some.inj e; omega), Blk.grown (cs := #[.int .i64 f, .int .i64 h, .int .i64 l, .bool o]) (by repeat (first | (with_reducible assumption) | (with_reducible exact Blk.new _ _ _) | ((with_reducible refine Blk.new_at ?_); (first | (simp; done) | (simp; omega))) | (with_reducible refine Blk.drew ?_) | (with_reducible refine Blk.drewN ?_ _) | (with_reducible refine Blk.alloc ?_ _) | ((with_reducible refine Blk.far ?_ ?_ _); rotate_left; (focus (first | (simp; done) | (simp; omega) | omega))))) hg (by intro e; have := Option.some.inj e; omega), ⟨(f, h, l, o), Blk.grown (cs := #[.int .i64 f, .int .i64 h, .int .i64 l, .bool o]) (by repeat (first | (with_reducible assumption) | (with_reducible exact Blk.new _ _ _) | ((with_reducible refine Blk.new_at ?_); (first | (simp; done) | (simp; omega))) | (with_reducible refine Blk.drew ?_) | (with_reducible refine Blk.drewN ?_ _) | (with_reducible refine Blk.alloc ?_ _) | ((with_reducible refine Blk.far ?_ ?_ _); rotate_left; (focus (first | (simp; done) | (simp; omega) | omega))))) hg (by intro e; have := Option.some.inj e; omega)⟩, by omega, by omega, by omega, by omega, by omega⟩
  have hj : ∃ j : Nat, j ≤ 41 ∧ x3 = (j : Int) := by
    simp at x3a
    exact ⟨x3.toNat, by omega, by omega⟩
  obtain ⟨j0, hj0, rfl⟩ := hj
  clear x3a hg hr3
  have Hst := hide hst
  clear hst
  go_wp2_with fail
  go_loopw [6, 8] (fun v i wr => ∃ (j p : Nat) (zs : List Int), j ≤ 41 ∧ zs.length + j ≤ 41 ∧ i = .int .i64 j ∧ p + j ≤ 60 ∧ Hid (RCS B0 g w.heap.size w2.heap.size (w2.heap.size + 1 + 1) (f, h, l, o) w wr v zs p)) (fun _ i _ => (intOf i).toNat)
  case atStart => exact ⟨j0, 7, [], by omega, by simp; omega, rfl, by omega, Hst⟩
  case round =>
    obtain ⟨j, p, zs, h1, h2, rfl, h4, Hs⟩ := hrel
    obtain ⟨Av, cv, rfl⟩ := own_form Hs.out.d.o
    by_cases hj0' : 0 < j
    · have hj1 : (0 : Int) < (j : Int) := by omega
      have hr4 := Hs.out.d.rd
      go_wp2_with fail
      refine (pick_u B0 g p _ _ (by omega) hr4).mono ?_
      rintro e w4 ⟨x4, rfl, x4a, x4b, hr5, hg⟩
      have Hs4 := hide (Hs.out.pick hr5 hg)
      have x4c := x4b (by omega)
      clear hr5 hg hr4 Hs x4b
      go_wp2_with fail
      go_loopw [9, 10] (fun od i wi => ∃ (k : Nat) (z : Int), k ≤ 7 ∧ od = .int .i64 z ∧ i = .int .i64 k ∧ 1 ≤ z ∧ z ≤ 7 ∧ Hid (RCS B0 g w.heap.size w2.heap.size (w2.heap.size + 1 + 1) (f, h, l, o) w wi (.slice Av zs.length cv) zs (p + 1))) (fun _ i _ => 7 - (intOf i).toNat)
      case atStart => exact ⟨0, _, by omega, rfl, rfl, by omega, by omega, Hs4⟩
      case round =>
        obtain ⟨k, z, hk7, rfl, rfl, z1, z7, Hi⟩ := hrel
        by_cases hk : k < 7
        · have hk' : (k : Int) < 7 := by omega
          obtain ⟨⟨x1, x2, x3, x4⟩, hx⟩ := Hi.out.x
          obtain ⟨q, hq⟩ : ∃ q, cStep x1 x2 x3 x4 z = q := ⟨_, rfl⟩
          have Hq := hide hq
          clear hq
          obtain ⟨_, _, _, _, _, _, _, _⟩ := blk4 hx
          have hlt := hx.lt
          rcases q with _ | ⟨f', h', l', o'⟩
          · go_wp2_with fail
            refine (StepCar_sn x1 x2 x3 x4 z _ Hq.out).mono ?_
            rintro e w6 ⟨rfl, hb⟩
            have Hi6 := hide (Hi.out.below hb)
            clear hb Hi hx
            go_wp2_with fail
            go_roundw
            case rel => exact ⟨k + 1, z % 7 + 1, by omega, rfl, by go_num, by omega, by omega, hide (Hi6.out.alloc _)⟩
            case measure => simp [intOf]; omega
          · go_wp2_with fail
            refine (StepCar_yy x1 x2 x3 x4 z f' h' l' o' _ Hq.out).mono ?_
            rintro e w6 ⟨rfl, hb⟩
            have hx6 := hx.below hb hx.lt
            have hz6 := hb.size
            obtain ⟨_, _, _, _, _, _, _, _⟩ := blk4 hx6
            obtain ⟨_, _, _, _, _, _, _, _⟩ := sz hx6.lt
            have HX := hide (((Hi.out.below hb).setX (f', h', l', o')).alloc (.cells #[.int .i64 f', .int .i64 h', .int .i64 l', .bool o'] 29))
            have hsz := HX.out.d.be.size
            simp at hsz
            clear hb Hi hx hx6
            go_wp2_with (at_builtin; go_loud (refine wpList_append_own _ rfl (.tmp 44) (.tmp 46) _ rfl w.heap.size 3 i0 (.int .i64 0) 1 8 Try.underlying23 hi0 iz0 iz1 iz2 rfl (by decide) _ _ _ rfl (HX.out.d.o.alloc _) _ 1 1 [.int .i64 z] rfl rfl (cell_one_at _ _ _ _ (by simp)) (by intro u hu; simp at hu; subst hu; rfl) (by unfold maxLen; omega) (by omega) (by simp; omega) ?_); intro v8 w8 hown8 hgrow8 _)
            have Hs8 := hide ((HX.out.alloc (.cells #[.int .i64 z] 3)).app hown8 hgrow8)
            clear hown8 hgrow8 HX
            go_wp2_with fail
            go_roundw
            case rel => exact ⟨j - 1, p + 1, zs ++ [z], by omega, by simp; omega, int_eq (by omega), by omega, Hs8⟩
            case measure => simp [intOf]; omega
        · obtain rfl : k = 7 := by omega
          have HX := Hi
          have hsz := HX.out.d.be.size
          go_wp2_with (at_builtin; go_loud (refine wpList_append_own _ rfl (.tmp 44) (.tmp 46) _ rfl w.heap.size 3 i0 (.int .i64 0) 1 8 Try.underlying23 hi0 iz0 iz1 iz2 rfl (by decide) _ _ _ rfl (HX.out.d.o.alloc _) _ 1 1 [.int .i64 z] rfl rfl (cell_one_at _ _ _ _ (by simp)) (by intro u hu; simp at hu; subst hu; rfl) (by unfold maxLen; omega) (by omega) (by simp; omega) ?_); intro v8 w8 hown8 hgrow8 _)
          have Hs8 := hide ((HX.out.alloc (.cells #[.int .i64 z] 3)).app hown8 hgrow8)
          clear hown8 hgrow8 HX
          go_wp2_with fail
          go_roundw
          case rel => exact ⟨j - 1, p + 1, zs ++ [z], by omega, by simp; omega, int_eq (by omega), by omega, Hs8⟩
          case measure => simp [intOf]; omega
    · obtain rfl : j = 0 := by omega
      have hr4 := Hs.out.d.rd
      rcases zs with _ | ⟨z0, zt⟩
      ·
        obtain ⟨_, _, _, _, _, _, _, _⟩ := blk4 Hs.out.r
        obtain ⟨_, _, _, _, _, _, _, _⟩ := blk4 (by have h := Hs.out.c; exact h)
        go_wp2_with fail
        exact bodyPost_ret (v := .tuple #[.agg #[.int .i64 f, .int .i64 h, .int .i64 l, .bool o], .slice Av 0 cv]) (by simp [results, Try.results8, go_sem, *]) rfl (Hs.out.fin rfl (by omega) _ _ _ _)
      ·
        have hpos : (0 : Int) < ((z0 :: zt).length : Int) := by simp
        generalize hzs : z0 :: zt = zs at *
        clear hzs
        go_wp2_with fail
        refine (pick_u B0 g p _ _ (by omega) hr4).mono ?_
        rintro e w4 ⟨x4, rfl, _, _, hr5, hg⟩
        have Hs4 := hide (Hs.out.pick hr5 hg)
        clear hr5 hg hr4 Hs
        by_cases hx4 : x4 = 0
        · have hx4' : (x4 == 0) = true := by simp [hx4]
          clear hx4
          have hr6 := Hs4.out.d.rd
          go_wp2_with fail
          refine (pick_u B0 g (p + 1) _ _ (by omega) hr6).mono ?_
          rintro e w5 ⟨x5, rfl, x5a, x5b, hr7, hg⟩
          have Hs5 := hide (Hs4.out.pick hr7 hg)
          clear hr7 hg hr6 Hs4
          have hr6 := Hs5.out.d.rd
          obtain ⟨m5, rfl⟩ := Int.eq_ofNat_of_zero_le x5a
          have hm5 : m5 < zs.length := by have := x5b (by omega); omega
          have hm5' : (m5 : Int) < (zs.length : Int) := by omega
          clear x5b
          go_wp2_with fail
          refine (pick_u B0 g (p + 2) _ _ (by omega) hr6).mono ?_
          rintro e w6 ⟨x6, rfl, _, _, hr7, hg⟩
          have Hs6 := hide (Hs5.out.pick hr7 hg)
          clear hr7 hg hr6 Hs5
          obtain ⟨b6, rfl, _, _⟩ := own_cur Hs6.out.d.o (by omega)
          have e0 := Hs6.out.d.o.cellAt m5 (by omega)
          rw [List.getElem?_eq_getElem (by simp; omega)] at e0
          have f0 := Hs6.out.d.o.frozenAt m5
          have Hs7 := hide (Hs6.out.store (j := m5) (z := x6))
          obtain ⟨_, _, _, _, _, _, _, _⟩ := blk4 Hs7.out.r
          obtain ⟨_, _, _, _, _, _, _, _⟩ := blk4 (by have h := Hs7.out.c; exact h)
          clear Hs6
          go_wp2_with fail
          exact bodyPost_ret (v := .tuple #[.agg #[.int .i64 f, .int .i64 h, .int .i64 l, .bool o], .slice (some ⟨b6, 0, none⟩) zs.length cv]) (by simp [results, Try.results8, go_sem, *]) rfl (Hs7.out.fin (by simp) (by omega) _ _ _ _)
        · have hx4' : (x4 == 0) = false := by simpa using hx4
          clear hx4
          obtain ⟨_, _, _, _, _, _, _, _⟩ := blk4 Hs4.out.r
          obtain ⟨_, _, _, _, _, _, _, _⟩ := blk4 (by have h := Hs4.out.c; exact h)
          go_wp2_with fail
          exact bodyPost_ret (v := .tuple #[.agg #[.int .i64 f, .int .i64 h, .int .i64 l, .bool o], .slice Av zs.length cv]) (by simp [results, Try.results8, go_sem, *]) rfl (Hs4.out.fin rfl (by omega) _ _ _ _)

def DrawnCF (w : World) (e : Ending) (w' : World) : Prop := ∃ (f h l : Int) (o : Bool) (y : Int), e = .returned (.tuple #[.agg #[.int .i64 f, .int .i64 h, .int .i64 l, .bool o], .int .i64 y]) ∧ Below w.heap.size w w'

end Go.Proofs.Yteclciglngidkaa
