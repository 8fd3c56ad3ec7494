/-
  Drawing a door and two lists of truth values.
-/
import Derived.Test.YtlcdcelelpapnaaRunDoor
import Derived.Test.YtlcdcelelpapnaaDrawDoorB
import Derived.Maps.AppendAt
namespace Go.Proofs.Ytlcdcelelpapnaa
open Go.RowKit
set_option linter.unusedSimpArgs false

/-- A door and two lists of at most 42 truth values, all in new memory. -/
def DrawnRD (w : World) (e : Ending) (w' : World) : Prop :=
  ∃ (s l : Int) (A B : Option Addr) (n c m d : Nat) (ws bs : List Bool), e = .returned (.tuple #[.agg #[.int .i64 s, .int .i64 l], .slice A n c, .slice B m d]) ∧ n ≤ 42 ∧ m ≤ 42 ∧ RdB w' A n ws ∧ RdB w' B m bs ∧ Below w.heap.size w w'

theorem RdU.ne_blk {w : World} {B g p b : Nat} {t : TypeId} {cs : Array Value} (h : RdU w B g p) (hx : Blk w b t cs) (ht : t ≠ 56) : b ≠ g := by
  obtain ⟨q, _, A, m, c, bs, _, h1, _⟩ := h
  exact Blk.ne_ hx h1 ht

/-- What holds while the two lists are drawn: each is owned, in a row of its own; the reader; two boxes. -/
structure St (B0 g b1 b2 : Nat) (s l : Int) (w0 wr : World) (v1 v2 : Value) (ws bs : List Bool) (p : Nat) : Prop where
  o1 : wr.ownsRow w0.heap.size 4 1 v1 ws.length (ws.map Value.bool)
  o2 : wr.ownsRow w0.heap.size 4 1 v2 bs.length (bs.map Value.bool)
  ne : ∀ q, v1.ownBlock = some q → v2.ownBlock ≠ some q
  rd : RdU wr B0 g p
  x1 : Blk wr b1 26 #[.int .i64 0, .int .i64 0]
  x2 : Blk wr b2 26 #[.int .i64 s, .int .i64 l]
  be : Below w0.heap.size w0 wr
  hB : B0 ≤ w0.heap.size
  hg : w0.heap.size ≤ g

section
variable {B0 g b1 b2 p : Nat} {s l : Int} {w0 wr w' : World} {v1 v2 : Value} {ws bs : List Bool}
theorem St.pick (h : St B0 g b1 b2 s l w0 wr v1 v2 ws bs p) (hr : RdU w' B0 g (p + 1)) (hg : wr.grownBy w' (some g)) : St B0 g b1 b2 s l w0 w' v1 v2 ws bs (p + 1) where
  o1 := h.o1.kept hg (.inr fun e => (h.rd.ne_own h.o1 (by decide) h.hB g e).1 rfl)
  o2 := h.o2.kept hg (.inr fun e => (h.rd.ne_own h.o2 (by decide) h.hB g e).1 rfl)
  ne := h.ne
  rd := hr
  x1 := h.x1.grown hg (fun e => h.rd.ne_blk h.x1 (by decide) (Option.some.inj e))
  x2 := h.x2.grown hg (fun e => h.rd.ne_blk h.x2 (by decide) (Option.some.inj e))
  be := h.be.grown hg h.be.size (fun k hk => by cases hk; exact h.hg)
  hB := h.hB
  hg := h.hg
theorem St.alloc (h : St B0 g b1 b2 s l w0 wr v1 v2 ws bs p) (o : Obj) : St B0 g b1 b2 s l w0 (wr.alloc o) v1 v2 ws bs p :=
  ⟨h.o1.alloc o, h.o2.alloc o, h.ne, h.rd.alloc o, h.x1.alloc o, h.x2.alloc o, h.be.alloc h.be.size o, h.hB, h.hg⟩
theorem St.app1 (h : St B0 g b1 b2 s l w0 wr v1 v2 ws bs p) {v' : Value} {x : Bool} (ho : w'.ownsRow w0.heap.size 4 1 v' (ws.length + 1) (ws.map Value.bool ++ [.bool x])) (hg : wr.grownBy w' v1.ownBlock) (hat : v'.ownBlock = v1.ownBlock ∨ v'.ownBlock = some wr.heap.size) :
    St B0 g b1 b2 s l w0 w' v' v2 (ws ++ [x]) bs p where
  o1 := by simpa using ho
  o2 := h.o2.kept hg (by
    cases hv : v2.ownBlock with
    | none => exact .inl rfl
    | some q => exact .inr fun e => h.ne q e.symm hv)
  ne := by
    intro q hq hq2
    rcases hat with e | e
    · exact h.ne q (by rw [← e]; exact hq) hq2
    · rw [e] at hq
      have := (h.o2.lt q hq2).2
      have := Option.some.inj hq
      omega
  rd := h.rd.grown hg (fun k hk => h.rd.ne_own h.o1 (by decide) h.hB k hk)
  x1 := h.x1.grown hg (Ne.symm (own_blk_ne h.o1 h.x1 (by decide)))
  x2 := h.x2.grown hg (Ne.symm (own_blk_ne h.o1 h.x2 (by decide)))
  be := h.be.grown hg h.be.size (fun k hk => (h.o1.lt k hk).1)
  hB := h.hB
  hg := h.hg
theorem St.app2 (h : St B0 g b1 b2 s l w0 wr v1 v2 ws bs p) {v' : Value} {x : Bool} (ho : w'.ownsRow w0.heap.size 4 1 v' (bs.length + 1) (bs.map Value.bool ++ [.bool x])) (hg : wr.grownBy w' v2.ownBlock) (hat : v'.ownBlock = v2.ownBlock ∨ v'.ownBlock = some wr.heap.size) :
    St B0 g b1 b2 s l w0 w' v1 v' ws (bs ++ [x]) p where
  o2 := by simpa using ho
  o1 := h.o1.kept hg (by
    cases hv : v1.ownBlock with
    | none => exact .inl rfl
    | some q => exact .inr fun e => h.ne q hv e.symm)
  ne := by
    intro q hq hq2
    rcases hat with e | e
    · exact h.ne q hq (by rw [← e]; exact hq2)
    · rw [e] at hq2
      have := (h.o1.lt q hq).2
      have := Option.some.inj hq2
      omega
  rd := h.rd.grown hg (fun k hk => h.rd.ne_own h.o2 (by decide) h.hB k hk)
  x1 := h.x1.grown hg (Ne.symm (own_blk_ne h.o2 h.x1 (by decide)))
  x2 := h.x2.grown hg (Ne.symm (own_blk_ne h.o2 h.x2 (by decide)))
  be := h.be.grown hg h.be.size (fun k hk => (h.o2.lt k hk).1)
  hB := h.hB
  hg := h.hg
theorem St.fin {A B : Option Addr} {n c m d : Nat} (h : St B0 g b1 b2 s l w0 wr (.slice A n c) (.slice B m d) ws bs p) (hn : ws.length = n) (hm : bs.length = m) (h1 : n ≤ 42) (h2 : m ≤ 42) (hb : w0.heap.size ≤ b1) (x y : Value) :
    DrawnRD w0 (.returned (.tuple #[.agg #[.int .i64 s, .int .i64 l], .slice A n c, .slice B m d])) ((wr.setCell ⟨b1, 0, none⟩ x).setCell ⟨b1, 1, none⟩ y) := by
  subst hn hm
  refine ⟨s, l, A, B, _, c, _, d, ws, bs, rfl, h1, h2, ?_, ?_, (h.be.setCell (p := ⟨b1, 0, none⟩) hb x).setCell (p := ⟨b1, 1, none⟩) hb y⟩
  · exact Rd.of_own (own_setOther (own_setOther h.o1 (p := ⟨b1, 0, none⟩) (own_blk_ne h.o1 h.x1 (by decide)) x) (p := ⟨b1, 1, none⟩) (own_blk_ne h.o1 h.x1 (by decide)) y)
  · exact Rd.of_own (own_setOther (own_setOther h.o2 (p := ⟨b1, 0, none⟩) (own_blk_ne h.o2 h.x1 (by decide)) x) (p := ⟨b1, 1, none⟩) (own_blk_ne h.o2 h.x1 (by decide)) y)
end

set_option maxHeartbeats 600000 in
theorem DrawRunDoor_any (B0 : Nat) (A : Option Addr) (n c : Nat) (w : World) (hB : B0 ≤ w.heap.size) (ha : Code8 w B0 A n c) :
    Calls Try.prog 29 #[.slice A n c] w (DrawnRD w) := by
  have Ha := hide ha
  clear ha
  obtain ⟨i0, hi0, iz0, iz1, iz2⟩ := info_parts bool_info
  go_enter Try.func29, Try.ntmps29
  go_wp2_with fail
  refine (newReader_u B0 A n c _ (by simp; omega) (Ha.out.alloc _)).mono ?_
  rintro e w1 ⟨g, rfl, hr1, g2, hb⟩
  have hz1 := hb.size
  try simp at hz1
  obtain ⟨_, _, _, _, _, _, _, _⟩ := sz (show w.heap.size < w1.heap.size from by omega)
  have hx : Blk _ (w.heap.size) 26 #[.int .i64 0, .int .i64 0] := Blk.below (by repeat (first | (with_reducible assumption) | (with_reducible exact Blk.new _ _ _) | (with_reducible refine Blk.drew ?_) | (with_reducible refine Blk.drewN ?_ _) | (with_reducible refine Blk.alloc ?_ _) | ((with_reducible refine Blk.far ?_ ?_ _); rotate_left; (focus (first | (simp; done) | (simp; omega) | omega))))) hb (by (focus (first | (simp; done) | (simp; omega) | omega)))
  obtain ⟨_, _, _, _⟩ := blk2 hx
  have Hb1 := hide hb
  clear hb
  have g1 := hr1.lt
  simp at g2
  have ne0 : ¬ w.heap.size = g := by omega
  go_wp2_with fail
  refine (anyDoor_any B0 g 0 _ (by omega) hr1).mono ?_
  rintro e w2 ⟨s, l, rfl, hr2, hg⟩
  have hz2 := hg.size
  try simp at hz2
  obtain ⟨_, _, _, _, _, _, _, _⟩ := sz (show w.heap.size < w2.heap.size from by omega)
  have ne2 : ¬ w2.heap.size = g := by omega
  have hx : Blk _ (w.heap.size) 26 #[.int .i64 0, .int .i64 0] := Blk.grown (by repeat (first | (with_reducible assumption) | (with_reducible exact Blk.new _ _ _) | (with_reducible refine Blk.drew ?_) | (with_reducible refine Blk.drewN ?_ _) | (with_reducible refine Blk.alloc ?_ _) | ((with_reducible refine Blk.far ?_ ?_ _); rotate_left; (focus (first | (simp; done) | (simp; omega) | omega))))) hg (by intro e; have := Option.some.inj e; omega)
  obtain ⟨_, _, _, _⟩ := blk2 hx
  have Hg2 := hide hg
  clear hg
  go_wp2_with fail
  refine (one_lit B0 g 5 _ _ _ _ [8, 16, 4, 20, 0, 40, 41] _ (by simp) rfl rfl (by decide) (by omega) (by repeat (first | ((with_reducible refine RdU.mono hr16 ?_); omega) | ((with_reducible refine RdU.mono hr15 ?_); omega) | ((with_reducible refine RdU.mono hr14 ?_); omega) | ((with_reducible refine RdU.mono hr13 ?_); omega) | ((with_reducible refine RdU.mono hr12 ?_); omega) | ((with_reducible refine RdU.mono hr11 ?_); omega) | ((with_reducible refine RdU.mono hr10 ?_); omega) | ((with_reducible refine RdU.mono hr9 ?_); omega) | ((with_reducible refine RdU.mono hr8 ?_); omega) | ((with_reducible refine RdU.mono hr7 ?_); omega) | ((with_reducible refine RdU.mono hr6 ?_); omega) | ((with_reducible refine RdU.mono hr5 ?_); omega) | ((with_reducible refine RdU.mono hr4 ?_); omega) | ((with_reducible refine RdU.mono hr3 ?_); omega) | ((with_reducible refine RdU.mono hr2 ?_); omega) | ((with_reducible refine RdU.mono hr1 ?_); omega) | ((with_reducible refine RdU.mono hr ?_); omega) | (with_reducible refine RdU.drew ?_) | (with_reducible refine RdU.drewN ?_ _) | (with_reducible refine RdU.alloc ?_ _) | ((with_reducible refine RdU.setCell ?_ ?_ ?_ _); rotate_left; (focus (first | (simp; done) | (simp; omega) | omega)); (focus (first | (simp; done) | (simp; omega) | omega)))))).mono ?_
  rintro e w3 ⟨x3, rfl, x3a, hr3, hg⟩
  have hst : St B0 g w.heap.size w2.heap.size s l w w3 (.slice (some ⟨w2.heap.size + 1, 0, none⟩) 0 0) (.slice (some ⟨w2.heap.size + 1 + 1, 0, none⟩) 0 0) [] [] 6 := by
    have e0 : (w2.alloc (.cells #[.int .i64 s, .int .i64 l] 26)).heap.size = w2.heap.size + 1 := by simp
    have a1 := World.ownsRow_lit (e := 4) (size := 1) (base := w.heap.size) (w2.alloc (.cells #[.int .i64 s, .int .i64 l] 26)) #[] 0 (by simp; omega) (by unfold maxLen; omega) rfl
    have a2 := World.ownsRow_lit (e := 4) (size := 1) (base := w.heap.size) ((w2.alloc (.cells #[.int .i64 s, .int .i64 l] 26)).alloc (.cells #[] 4)) #[] 0 (by simp; omega) (by unfold maxLen; omega) rfl
    have hlit : St B0 g w.heap.size w2.heap.size s l w ((((w2.alloc (.cells #[.int .i64 s, .int .i64 l] 26)).alloc (.cells #[] 4)).alloc (.cells #[] 4)).alloc (.cells #[.int .i64 8, .int .i64 16, .int .i64 4, .int .i64 20, .int .i64 0, .int .i64 40, .int .i64 41] 3)) (.slice (some ⟨w2.heap.size + 1, 0, none⟩) 0 0) (.slice (some ⟨w2.heap.size + 1 + 1, 0, none⟩) 0 0) [] [] 5 :=
      { o1 := by simpa only [World.size_alloc, List.map_nil, List.length_nil] using (a1.alloc (.cells #[] 4)).alloc (.cells #[.int .i64 8, .int .i64 16, .int .i64 4, .int .i64 20, .int .i64 0, .int .i64 40, .int .i64 41] 3)
        o2 := by simpa only [World.size_alloc, List.map_nil, List.length_nil] using a2.alloc (.cells #[.int .i64 8, .int .i64 16, .int .i64 4, .int .i64 20, .int .i64 0, .int .i64 40, .int .i64 41] 3)
        ne := by intro q hq hq2; simp [Value.ownBlock] at hq hq2; omega
        rd := (by repeat (first | ((with_reducible refine RdU.mono hr16 ?_); omega) | ((with_reducible refine RdU.mono hr15 ?_); omega) | ((with_reducible refine RdU.mono hr14 ?_); omega) | ((with_reducible refine RdU.mono hr13 ?_); omega) | ((with_reducible refine RdU.mono hr12 ?_); omega) | ((with_reducible refine RdU.mono hr11 ?_); omega) | ((with_reducible refine RdU.mono hr10 ?_); omega) | ((with_reducible refine RdU.mono hr9 ?_); omega) | ((with_reducible refine RdU.mono hr8 ?_); omega) | ((with_reducible refine RdU.mono hr7 ?_); omega) | ((with_reducible refine RdU.mono hr6 ?_); omega) | ((with_reducible refine RdU.mono hr5 ?_); omega) | ((with_reducible refine RdU.mono hr4 ?_); omega) | ((with_reducible refine RdU.mono hr3 ?_); omega) | ((with_reducible refine RdU.mono hr2 ?_); omega) | ((with_reducible refine RdU.mono hr1 ?_); omega) | ((with_reducible refine RdU.mono hr ?_); omega) | (with_reducible refine RdU.drew ?_) | (with_reducible refine RdU.drewN ?_ _) | (with_reducible refine RdU.alloc ?_ _) | ((with_reducible refine RdU.setCell ?_ ?_ ?_ _); rotate_left; (focus (first | (simp; done) | (simp; omega) | omega)); (focus (first | (simp; done) | (simp; omega) | omega)))))
        x1 := (by repeat (first | (with_reducible assumption) | (with_reducible exact Blk.new _ _ _) | (with_reducible refine Blk.drew ?_) | (with_reducible refine Blk.drewN ?_ _) | (with_reducible refine Blk.alloc ?_ _) | ((with_reducible refine Blk.far ?_ ?_ _); rotate_left; (focus (first | (simp; done) | (simp; omega) | omega)))))
        x2 := (by repeat (first | (with_reducible assumption) | (with_reducible exact Blk.new _ _ _) | (with_reducible refine Blk.drew ?_) | (with_reducible refine Blk.drewN ?_ _) | (with_reducible refine Blk.alloc ?_ _) | ((with_reducible refine Blk.far ?_ ?_ _); rotate_left; (focus (first | (simp; done) | (simp; omega) | omega)))))
        be := (by repeat (first | (with_reducible exact Below.refl _ _) | (with_reducible refine Below.drew ?_) | (with_reducible refine below_drewN ?_ _) | ((with_reducible refine Below.alloc ?_ ?_ _); rotate_left; (focus (first | (simp; done) | (simp; omega) | omega))) | ((with_reducible refine Below.setCell ?_ ?_ _); rotate_left; (focus (first | (simp; done) | (simp; omega) | omega))) | ((with_reducible refine Below.trans ?_ (Below.mono Hb.out ?_)); rotate_left; (focus (first | (simp; done) | (simp; omega) | omega))) | ((with_reducible refine Below.trans ?_ (Below.mono Hb16.out ?_)); rotate_left; (focus (first | (simp; done) | (simp; omega) | omega))) | ((with_reducible refine Below.trans ?_ (Below.mono Hb15.out ?_)); rotate_left; (focus (first | (simp; done) | (simp; omega) | omega))) | ((with_reducible refine Below.trans ?_ (Below.mono Hb14.out ?_)); rotate_left; (focus (first | (simp; done) | (simp; omega) | omega))) | ((with_reducible refine Below.trans ?_ (Below.mono Hb13.out ?_)); rotate_left; (focus (first | (simp; done) | (simp; omega) | omega))) | ((with_reducible refine Below.trans ?_ (Below.mono Hb12.out ?_)); rotate_left; (focus (first | (simp; done) | (simp; omega) | omega))) | ((with_reducible refine Below.trans ?_ (Below.mono Hb11.out ?_)); rotate_left; (focus (first | (simp; done) | (simp; omega) | omega))) | ((with_reducible refine Below.trans ?_ (Below.mono Hb10.out ?_)); rotate_left; (focus (first | (simp; done) | (simp; omega) | omega))) | ((with_reducible refine Below.trans ?_ (Below.mono Hb9.out ?_)); rotate_left; (focus (first | (simp; done) | (simp; omega) | omega))) | ((with_reducible refine Below.trans ?_ (Below.mono Hb8.out ?_)); rotate_left; (focus (first | (simp; done) | (simp; omega) | omega))) | ((with_reducible refine Below.trans ?_ (Below.mono Hb7.out ?_)); rotate_left; (focus (first | (simp; done) | (simp; omega) | omega))) | ((with_reducible refine Below.trans ?_ (Below.mono Hb6.out ?_)); rotate_left; (focus (first | (simp; done) | (simp; omega) | omega))) | ((with_reducible refine Below.trans ?_ (Below.mono Hb5.out ?_)); rotate_left; (focus (first | (simp; done) | (simp; omega) | omega))) | ((with_reducible refine Below.trans ?_ (Below.mono Hb4.out ?_)); rotate_left; (focus (first | (simp; done) | (simp; omega) | omega))) | ((with_reducible refine Below.trans ?_ (Below.mono Hb3.out ?_)); rotate_left; (focus (first | (simp; done) | (simp; omega) | omega))) | ((with_reducible refine Below.trans ?_ (Below.mono Hb2.out ?_)); rotate_left; (focus (first | (simp; done) | (simp; omega) | omega))) | ((with_reducible refine Below.trans ?_ (Below.mono Hb1.out ?_)); rotate_left; (focus (first | (simp; done) | (simp; omega) | omega))) | ((with_reducible refine Below.trans ?_ (below_of_only Hg16.out ?_ ?_)); rotate_left; (focus (first | (simp; done) | (simp; omega) | omega)); (intro k hk; cases hk; omega)) | ((with_reducible refine Below.trans ?_ (below_of_only Hg15.out ?_ ?_)); rotate_left; (focus (first | (simp; done) | (simp; omega) | omega)); (intro k hk; cases hk; omega)) | ((with_reducible refine Below.trans ?_ (below_of_only Hg14.out ?_ ?_)); rotate_left; (focus (first | (simp; done) | (simp; omega) | omega)); (intro k hk; cases hk; omega)) | ((with_reducible refine Below.trans ?_ (below_of_only Hg13.out ?_ ?_)); rotate_left; (focus (first | (simp; done) | (simp; omega) | omega)); (intro k hk; cases hk; omega)) | ((with_reducible refine Below.trans ?_ (below_of_only Hg12.out ?_ ?_)); rotate_left; (focus (first | (simp; done) | (simp; omega) | omega)); (intro k hk; cases hk; omega)) | ((with_reducible refine Below.trans ?_ (below_of_only Hg11.out ?_ ?_)); rotate_left; (focus (first | (simp; done) | (simp; omega) | omega)); (intro k hk; cases hk; omega)) | ((with_reducible refine Below.trans ?_ (below_of_only Hg10.out ?_ ?_)); rotate_left; (focus (first | (simp; done) | (simp; omega) | omega)); (intro k hk; cases hk; omega)) | ((with_reducible refine Below.trans ?_ (below_of_only Hg9.out ?_ ?_)); rotate_left; (focus (first | (simp; done) | (simp; omega) | omega)); (intro k hk; cases hk; omega)) | ((with_reducible refine Below.trans ?_ (below_of_only Hg8.out ?_ ?_)); rotate_left; (focus (first | (simp; done) | (simp; omega) | omega)); (intro k hk; cases hk; omega)) | ((with_reducible refine Below.trans ?_ (below_of_only Hg7.out ?_ ?_)); rotate_left; (focus (first | (simp; done) | (simp; omega) | omega)); (intro k hk; cases hk; omega)) | ((with_reducible refine Below.trans ?_ (below_of_only Hg6.out ?_ ?_)); rotate_left; (focus (first | (simp; done) | (simp; omega) | omega)); (intro k hk; cases hk; omega)) | ((with_reducible refine Below.trans ?_ (below_of_only Hg5.out ?_ ?_)); rotate_left; (focus (first | (simp; done) | (simp; omega) | omega)); (intro k hk; cases hk; omega)) | ((with_reducible refine Below.trans ?_ (below_of_only Hg4.out ?_ ?_)); rotate_left; (focus (first | (simp; done) | (simp; omega) | omega)); (intro k hk; cases hk; omega)) | ((with_reducible refine Below.trans ?_ (below_of_only Hg3.out ?_ ?_)); rotate_left; (focus (first | (simp; done) | (simp; omega) | omega)); (intro k hk; cases hk; omega)) | ((with_reducible refine Below.trans ?_ (below_of_only Hg2.out ?_ ?_)); rotate_left; (focus (first | (simp; done) | (simp; omega) | omega)); (intro k hk; cases hk; omega)) | ((with_reducible refine Below.trans ?_ (below_of_only Hg1.out ?_ ?_)); rotate_left; (focus (first | (simp; done) | (simp; omega) | omega)); (intro k hk; cases hk; omega))))
        hB := hB
        hg := by omega }
    exact hlit.pick hr3 hg
  have hj : ∃ j : Nat, j ≤ 41 ∧ x3 = (j : Int) := by
    simp at x3a
    exact ⟨x3.toNat, by omega, by omega⟩
  obtain ⟨j0, hj0, rfl⟩ := hj
  clear x3a hg hr3
  have Hst := hide hst
  clear hst
  go_wp2_with fail
  go_loopw [7, 8, 9] (fun v1 v2 i wr => ∃ (j p : Nat) (ws bs : List Bool), j ≤ 41 ∧ ws.length + j ≤ 41 ∧ bs.length + j ≤ 41 ∧ i = .int .i64 j ∧ p + 2 * j ≤ 90 ∧ St B0 g w.heap.size w2.heap.size s l w wr v1 v2 ws bs p) (fun _ _ i _ => (intOf i).toNat)
  case atStart => exact ⟨j0, 6, [], [], by omega, by simp; omega, by simp; omega, rfl, by omega, Hst.out⟩
  case round =>
    obtain ⟨j, p, ws, bs, h1, h2, h3, rfl, h4, hst⟩ := hrel
    by_cases hj0' : 0 < j
    · have hj1 : (0 : Int) < (j : Int) := by omega
      have Hs := hide hst
      have hr4 := hst.rd
      clear hst
      go_wp2_with fail
      refine (pick_u B0 g p _ _ (by omega) hr4).mono ?_
      rintro e w4 ⟨x4, rfl, _, _, hr5, hg⟩
      have Hs4 := hide (Hs.out.pick hr5 hg)
      clear hr5 hg hr4 Hs
      have hsz4 := Hs4.out.be.size
      go_wp2_with (at_builtin; go_loud (refine wpList_append_own_at _ rfl (.tmp 23) (.tmp 27) _ rfl w.heap.size 4 i0 (.bool false) 1 1 Try.underlying32 hi0 iz0 iz1 iz2 rfl (by decide) _ _ _ rfl (Hs4.out.o1.alloc _) _ 1 1 [.bool (x4 == 0)] rfl rfl (cell_one_at _ _ _ _ rfl) (by intro u hu; simp at hu; subst hu; rfl) (by unfold maxLen; omega) (by omega) (by simp; omega) ?_); intro v5 w5 hown5 hgrow5 _ hat5)
      have Hs5 := hide ((Hs4.out.alloc (.cells #[.bool (x4 == 0)] 4)).app1 hown5 hgrow5 hat5)
      clear hown5 hgrow5 hat5 Hs4 hsz4
      have hr5 := Hs5.out.rd
      go_wp2_with fail
      refine (pick_u B0 g (p + 1) _ _ (by omega) hr5).mono ?_
      rintro e w6 ⟨x6, rfl, _, _, hr6, hg⟩
      have Hs6 := hide (Hs5.out.pick hr6 hg)
      clear hr6 hg hr5 Hs5
      have hsz6 := Hs6.out.be.size
      go_wp2_with (at_builtin; go_loud (refine wpList_append_own_at _ rfl (.tmp 29) (.tmp 33) _ rfl w.heap.size 4 i0 (.bool false) 1 1 Try.underlying32 hi0 iz0 iz1 iz2 rfl (by decide) _ _ _ rfl (Hs6.out.o2.alloc _) _ 1 1 [.bool (x6 == 0)] rfl rfl (cell_one_at _ _ _ _ rfl) (by intro u hu; simp at hu; subst hu; rfl) (by unfold maxLen; omega) (by omega) (by simp; omega) ?_); intro v7 w7 hown7 hgrow7 _ hat7)
      have Hs7 := hide ((Hs6.out.alloc (.cells #[.bool (x6 == 0)] 4)).app2 hown7 hgrow7 hat7)
      clear hown7 hgrow7 hat7 Hs6 hsz6
      go_wp2_with fail
      go_roundw
      case rel => exact ⟨j - 1, p + 2, ws ++ [x4 == 0], bs ++ [x6 == 0], by omega, by simp; omega, by simp; omega, int_eq (by omega), by omega, Hs7.out⟩
      case measure => simp [intOf]; omega
    · obtain rfl : j = 0 := by omega
      have Hs := hide hst
      have hr4 := hst.rd
      clear hst
      go_wp2_with fail
      refine (pick_u B0 g p _ _ (by omega) hr4).mono ?_
      rintro e w4 ⟨x4, rfl, _, _, hr5, hg⟩
      have Hs4 := hide (Hs.out.pick hr5 hg)
      clear hr5 hg hr4 Hs
      have hsz4 := Hs4.out.be.size
      by_cases hx4 : x4 = 0
      · have hx4' : (x4 == 0) = true := by simp [hx4]
        clear hx4
        go_wp2_with (at_builtin; go_loud (refine wpList_append_own_at _ rfl (.tmp 38) (.tmp 39) _ rfl w.heap.size 4 i0 (.bool false) 1 1 Try.underlying32 hi0 iz0 iz1 iz2 rfl (by decide) _ _ _ rfl (Hs4.out.o1.alloc _) _ 1 1 [.bool true] rfl rfl (cell_one_at _ _ _ _ rfl) (by intro u hu; simp at hu; subst hu; rfl) (by unfold maxLen; omega) (by omega) (by simp; omega) ?_); intro v5 w5 hown5 hgrow5 _ hat5; have Hs5 := hide ((Hs4.out.alloc (.cells #[.bool true] 4)).app1 hown5 hgrow5 hat5); clear hown5 hgrow5 hat5 Hs4 hsz4; obtain ⟨_, _, _, _⟩ := blk2 Hs5.out.x1; obtain ⟨_, _, _, _⟩ := blk2 Hs5.out.x2)
        obtain ⟨A5, c5, rfl⟩ := own_form Hs5.out.o1
        obtain ⟨A6, c6, rfl⟩ := own_form Hs5.out.o2
        exact bodyPost_ret (v := .tuple #[.agg #[.int .i64 s, .int .i64 l], .slice A5 (ws ++ [true]).length c5, .slice A6 bs.length c6]) (by simp [results, Try.results29, go_sem, *]) rfl (Hs5.out.fin rfl rfl (by simp; omega) (by omega) (Nat.le_refl _) _ _)
      · have hx4' : (x4 == 0) = false := by simpa using hx4
        clear hx4
        obtain ⟨_, _, _, _⟩ := blk2 Hs4.out.x1
        obtain ⟨_, _, _, _⟩ := blk2 Hs4.out.x2
        go_wp2_with fail
        obtain ⟨A5, c5, rfl⟩ := own_form Hs4.out.o1
        obtain ⟨A6, c6, rfl⟩ := own_form Hs4.out.o2
        exact bodyPost_ret (v := .tuple #[.agg #[.int .i64 s, .int .i64 l], .slice A5 ws.length c5, .slice A6 bs.length c6]) (by simp [results, Try.results29, go_sem, *]) rfl (Hs4.out.fin rfl rfl (by omega) (by omega) (Nat.le_refl _) _ _)

end Go.Proofs.Ytlcdcelelpapnaa
