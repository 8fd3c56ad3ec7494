/-
  What holds while a list is drawn: the list is owned, the reader has gone on, what was there stands.
-/
import Derived.Test.YteclciglngidkaaReaderU
import Derived.Test.YteclciglngidkaaTrack
import Derived.Maps.AppendAt
namespace Go.Proofs.Yteclciglngidkaa
open Go.RowKit

theorem RdU.ne_blk {w : World} {B g p b : Nat} {t : TypeId} {cs : Array Value} (h : RdU w B g p) (hx : Blk w b t cs) (ht : t ≠ 50) : b ≠ g := by
  obtain ⟨q, _, A, m, c, bs, _, h1, _⟩ := h
  exact Blk.ne_ hx h1 ht
theorem cell_one_at (w : World) (x : Value) (t : TypeId) (b : Nat) (hb : b = w.heap.size) : ∀ j u, [x][j]? = some u → (w.alloc (.cells #[x] t)).cell? ((⟨b, 0, none⟩ : Addr).add j) = some u := by
  subst hb
  exact cell_one_new w x t
theorem own_form {w : World} {base : Nat} {e : TypeId} {size n : Nat} {v : Value} {xs : List Value} (h : w.ownsRow base e size v n xs) : ∃ A c, v = .slice A n c := by
  rcases h.2 with ⟨rfl, rfl⟩ | ⟨g, cap, cur, rfl, _⟩
  · exact ⟨none, 0, rfl⟩
  · exact ⟨_, cap, rfl⟩
theorem own_setOther {w : World} {base : Nat} {e : TypeId} {size n : Nat} {v : Value} {xs : List Value} (h : w.ownsRow base e size v n xs) {p : Addr} (hp : v.ownBlock ≠ some p.block) (u : Value) : (w.setCell p u).ownsRow base e size v n xs :=
  h.kept (row := some p.block) (only_setCell (World.grownBy.refl _ _) (.inl rfl) u) (.inr hp)

/-- The address and the capacity of a slice that a call made itself. -/
def OwnA (A : Option Addr) (n c : Nat) : Prop := (A = none ∧ n = 0 ∧ c = 0) ∨ ∃ g, A = some ⟨g, 0, none⟩ ∧ n ≤ c ∧ c ≤ maxLen
theorem own_formA {w : World} {base : Nat} {e : TypeId} {size n c : Nat} {A : Option Addr} {xs : List Value} (h : w.ownsRow base e size (.slice A n c) n xs) : OwnA A n c := by
  rcases h.2 with ⟨h1, h2⟩ | ⟨g, cap, cur, hv, _, _, h1, h2, _⟩
  · injection h1 with a b d
    exact .inl ⟨a, h2, d⟩
  · injection hv with a b d
    exact .inr ⟨g, a, by omega, by omega⟩
theorem Rd.far {w : World} {size n B : Nat} {A : Option Addr} {xs : List Value} (h : Rd w size A n xs) (hold : 0 < n → ∀ b off, A = some ⟨b, off, none⟩ → b < B) {p : Addr} (hp : B ≤ p.block) (u : Value) : Rd (w.setCell p u) size A n xs :=
  h.keep (by simp [World.setCell]) fun hn b off e hlt o => World.cell?_of_block (a := ⟨b, o, none⟩) (Below.heap_setCell w p u b (by have := hold hn b off e; omega))
structure DS (e : TypeId) (sz : Nat) (B0 g : Nat) (w0 wr : World) (v : Value) (n : Nat) (xs : List Value) (p : Nat) : Prop where
  o : wr.ownsRow w0.heap.size e sz v n xs
  rd : RdU wr B0 g p
  be : Below w0.heap.size w0 wr
  hB : B0 ≤ w0.heap.size
  hg : w0.heap.size ≤ g
  he : e ≠ 50

section
variable {e : TypeId} {sz B0 g n p : Nat} {w0 wr w' : World} {v : Value} {xs : List Value}
theorem DS.pick (h : DS e sz B0 g w0 wr v n xs p) {q : Nat} (hr : RdU w' B0 g q) (hg : wr.grownBy w' (some g)) : DS e sz B0 g w0 w' v n xs q where
  o := h.o.kept hg (.inr fun e => (h.rd.ne_own h.o h.he h.hB g e).1 rfl)
  rd := hr
  be := h.be.grown hg h.be.size (fun k hk => by cases hk; exact h.hg)
  hB := h.hB
  hg := h.hg
  he := h.he
theorem DS.below (h : DS e sz B0 g w0 wr v n xs p) (hb : Below wr.heap.size wr w') : DS e sz B0 g w0 w' v n xs p where
  o := own_below h.o hb (Nat.le_refl _)
  rd := h.rd.below hb (Nat.le_refl _)
  be := h.be.trans (hb.mono h.be.size)
  hB := h.hB
  hg := h.hg
  he := h.he
theorem DS.alloc (h : DS e sz B0 g w0 wr v n xs p) (o : Obj) : DS e sz B0 g w0 (wr.alloc o) v n xs p :=
  h.below ((Below.refl _ _).alloc (Nat.le_refl _) o)
theorem DS.drewN (h : DS e sz B0 g w0 wr v n xs p) (k : Nat) : DS e sz B0 g w0 (wr.drewN k) v n xs p :=
  h.below (below_drewN (Below.refl _ _) k)
theorem DS.drew (h : DS e sz B0 g w0 wr v n xs p) : DS e sz B0 g w0 wr.drew v n xs p := h.drewN 1
theorem DS.mono (h : DS e sz B0 g w0 wr v n xs p) {q : Nat} (hq : p ≤ q) : DS e sz B0 g w0 wr v n xs q := ⟨h.o, h.rd.mono hq, h.be, h.hB, h.hg, h.he⟩
theorem DS.setBox (h : DS e sz B0 g w0 wr v n xs p) {b : Nat} {t : TypeId} {cs : Array Value} (hx : Blk wr b t cs) (h1 : e ≠ t) (h2 : t ≠ 50) (hb : w0.heap.size ≤ b) (i : Nat) (u : Value) : DS e sz B0 g w0 (wr.setCell ⟨b, i, none⟩ u) v n xs p where
  o := own_setOther h.o (p := ⟨b, i, none⟩) (own_blk_ne h.o hx h1) u
  rd := h.rd.setCell (a := ⟨b, i, none⟩) (Ne.symm (h.rd.ne_blk hx h2)) (Nat.le_trans h.hB hb) u
  be := h.be.setCell (p := ⟨b, i, none⟩) hb u
  hB := h.hB
  hg := h.hg
  he := h.he
theorem DS.app (h : DS e sz B0 g w0 wr v n xs p) {v' : Value} {n' : Nat} {xs' : List Value} (ho : w'.ownsRow w0.heap.size e sz v' n' xs') (hgr : wr.grownBy w' v.ownBlock) : DS e sz B0 g w0 w' v' n' xs' p where
  o := ho
  rd := h.rd.grown hgr (fun k hk => h.rd.ne_own h.o h.he h.hB k hk)
  be := h.be.grown hgr h.be.size (fun k hk => (h.o.lt k hk).1)
  hB := h.hB
  hg := h.hg
  he := h.he
theorem DS.blk (h : DS e sz B0 g w0 wr v n xs p) {b : Nat} {t : TypeId} {cs : Array Value} (hx : Blk wr b t cs) (h1 : e ≠ t) (hgr : wr.grownBy w' v.ownBlock) : Blk w' b t cs :=
  hx.grown hgr (Ne.symm (own_blk_ne h.o hx h1))
theorem DS.blkP (h : DS e sz B0 g w0 wr v n xs p) {b : Nat} {t : TypeId} {cs : Array Value} (hx : Blk wr b t cs) (h2 : t ≠ 50) (hg : wr.grownBy w' (some g)) : Blk w' b t cs :=
  hx.grown hg (fun e => h.rd.ne_blk hx h2 (Option.some.inj e))
/-- An empty list that stands written out in the text. -/
theorem DS.lit {W : World} (hB : B0 ≤ w0.heap.size) (hg : w0.heap.size ≤ g) (he : e ≠ 50) (hr : RdU W B0 g p) (hb : Below w0.heap.size w0 W) {b : Nat} (hbe : b = W.heap.size) : DS e sz B0 g w0 (W.alloc (.cells #[] e)) (.slice (some ⟨b, 0, none⟩) 0 0) 0 [] p := by
  subst hbe
  have a1 := World.ownsRow_lit (e := e) (size := sz) (base := w0.heap.size) W #[] 0 hb.size (by unfold maxLen; omega) (by simp)
  exact ⟨by simpa using a1, hr.alloc _, hb.alloc hb.size _, hB, hg, he⟩
end
end Go.Proofs.Yteclciglngidkaa
