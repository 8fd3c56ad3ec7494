/-
  What holds while a list is drawn by a function that is handed the reader: the list is owned, the reader has gone on, nothing else has turned.
-/
import Derived.Test.YteclciglngidkaaDs
import Derived.Deep.AppendLies
namespace Go.Proofs.Yteclciglngidkaa
open Go.RowKit

theorem only_own {a b c : World} {g : Nat} {row : Option Nat} (h : a.grownBy b (some g)) (k : b.grownBy c row) (hr : ∀ q, row = some q → a.heap.size ≤ q) : a.grownBy c (some g) :=
  ⟨k.os.trans h.os, k.tape.trans h.tape, k.output.trans h.output, Nat.le_trans h.size k.size, fun i hi hn => (k.block i (Nat.lt_of_lt_of_le hi h.size) (fun e => by have := hr i e.symm; omega)).trans (h.block i hi hn)⟩
structure DR (e : TypeId) (sz : Nat) (B0 g : Nat) (w0 wr : World) (v : Value) (n : Nat) (xs : List Value) (p : Nat) : Prop where
  o : wr.ownsRow w0.heap.size e sz v n xs
  rd : RdU wr B0 g p
  gr : w0.grownBy wr (some g)
  hB : B0 ≤ w0.heap.size
  he : e ≠ 50
section
variable {e : TypeId} {sz B0 g n p : Nat} {w0 wr w' : World} {v : Value} {xs : List Value}
theorem DR.pick (h : DR e sz B0 g w0 wr v n xs p) {q : Nat} (hr : RdU w' B0 g q) (hg : wr.grownBy w' (some g)) : DR e sz B0 g w0 w' v n xs q where
  o := h.o.kept hg (.inr fun e => (h.rd.ne_own h.o h.he h.hB g e).1 rfl)
  rd := hr
  gr := only_trans h.gr hg
  hB := h.hB
  he := h.he
theorem DR.below (h : DR e sz B0 g w0 wr v n xs p) (hb : Below wr.heap.size wr w') : DR e sz B0 g w0 w' v n xs p where
  o := own_below h.o hb (Nat.le_refl _)
  rd := h.rd.below hb (Nat.le_refl _)
  gr := only_below h.gr hb
  hB := h.hB
  he := h.he
theorem DR.alloc (h : DR e sz B0 g w0 wr v n xs p) (o : Obj) : DR e sz B0 g w0 (wr.alloc o) v n xs p :=
  h.below ((Below.refl _ _).alloc (Nat.le_refl _) o)
theorem DR.drew (h : DR e sz B0 g w0 wr v n xs p) : DR e sz B0 g w0 wr.drew v n xs p := h.below ((Below.refl _ _).drew)
theorem DR.drewN (h : DR e sz B0 g w0 wr v n xs p) (k : Nat) : DR e sz B0 g w0 (wr.drewN k) v n xs p := h.below (below_drewN (Below.refl _ _) k)
theorem DR.mono (h : DR e sz B0 g w0 wr v n xs p) {q : Nat} (hq : p ≤ q) : DR e sz B0 g w0 wr v n xs q := ⟨h.o, h.rd.mono hq, h.gr, h.hB, h.he⟩
theorem DR.app (h : DR e sz B0 g w0 wr v n xs p) {v' : Value} {n' : Nat} {xs' : List Value} (ho : w'.ownsRow w0.heap.size e sz v' n' xs') (hgr : wr.grownBy w' v.ownBlock) : DR e sz B0 g w0 w' v' n' xs' p where
  o := ho
  rd := h.rd.grown hgr (fun k hk => h.rd.ne_own h.o h.he h.hB k hk)
  gr := only_own h.gr hgr (fun q hq => (h.o.lt q hq).1)
  hB := h.hB
  he := h.he
theorem DR.size (h : DR e sz B0 g w0 wr v n xs p) : w0.heap.size ≤ wr.heap.size := h.gr.size
/-- An empty list that stands written out in the text. -/
theorem DR.lit {W : World} (hB : B0 ≤ w0.heap.size) (he : e ≠ 50) (hr : RdU W B0 g p) (hg : w0.grownBy W (some g)) {b : Nat} (hbe : b = W.heap.size) : DR e sz B0 g w0 (W.alloc (.cells #[] e)) (.slice (some ⟨b, 0, none⟩) 0 0) 0 [] p := by
  subst hbe
  have a1 := World.ownsRow_lit (e := e) (size := sz) (base := w0.heap.size) W #[] 0 hg.size (by unfold maxLen; omega) (by simp)
  exact ⟨by simpa using a1, hr.alloc _, only_alloc hg _, hB, he⟩
/-- A slice that a callee has handed back in new memory. -/
theorem DR.got {W : World} (hB : B0 ≤ w0.heap.size) (he : e ≠ 50) (h0 : w0.grownBy W (some g)) (ho : w'.ownsRow W.heap.size e sz v n xs) (hr : RdU w' B0 g p) (hg : W.grownBy w' (some g)) : DR e sz B0 g w0 w' v n xs p :=
  ⟨own_base ho h0.size, hr, only_trans h0 hg, hB, he⟩
end
theorem cells_new_at (w : World) (cs : Array Value) (t : TypeId) (b : Nat) (hb : b = w.heap.size) : ∀ j u, cs.toList[j]? = some u → (w.alloc (.cells cs t)).cell? ((⟨b, 0, none⟩ : Addr).add j) = some u := by
  subst hb
  exact World.news_of_block (Blk.new w t cs)
end Go.Proofs.Yteclciglngidkaa
