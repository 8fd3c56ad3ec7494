/-
  What holds while the best share is searched: the captured variables, the share at hand, the best one so far; what has turned meanwhile.
-/
import Derived.Test.YtmhaclhcllndeaaBestP
import Derived.Test.YtmhaclhcllndeaaDs
namespace Go.Proofs.Ytmhaclhcllndeaa
open Go.RowKit
set_option linter.unusedSimpArgs false
set_option linter.unusedVariables false

structure SrI (W w : World) (A1 A2 : Option Addr) (n1 c1 n2 c2 b1 b2 b3 b4 gS b5 b6 : Nat) (L : Int) (bst sh : List Int) (vb : Value) : Prop where
  cars : Blk w b1 22 #[.slice A1 n1 c1]
  list : Blk w b2 30 #[.slice A2 n2 c2]
  best : Blk w b3 22 #[vb]
  least : Blk w b4 3 #[.int .i64 L]
  srow : w.ownsRow (b4 + 1) 3 1 (.slice (some ⟨gS, 0, none⟩) n2 n2) n2 (sh.map (Value.int .i64))
  shr : Blk w b5 22 #[.slice (some ⟨gS, 0, none⟩) n2 n2]
  fn : Blk w b6 65 #[.func (.func 54) #[] #[.pointer (some ⟨b4, 0, none⟩), .pointer (some ⟨b2, 0, none⟩), .pointer (some ⟨b5, 0, none⟩), .pointer (some ⟨b3, 0, none⟩), .pointer (some ⟨b1, 0, none⟩), .pointer (some ⟨b6, 0, none⟩)]]
  brow : w.ownsRow (gS + 1) 3 1 vb bst.length (bst.map (Value.int .i64))
  be : Below W.heap.size W w
  o : W.heap.size ≤ b1 ∧ b1 < b2 ∧ b2 < b3 ∧ b3 < b4 ∧ b4 < gS ∧ gS < b5 ∧ b5 < b6
/-- Nothing has turned but the least cost, the best share and the share at hand. -/
structure FrS (b3 b4 gS : Nat) (w w' : World) : Prop where
  os : w'.os = w.os
  tape : w'.tape = w.tape
  output : w'.output = w.output
  size : w.heap.size ≤ w'.heap.size
  block : ∀ k, k < w.heap.size → k ≠ b3 → k ≠ b4 → k ≠ gS → w'.heap[k]? = w.heap[k]?
section
variable {W w w' w'' : World} {A1 A2 : Option Addr} {n1 c1 n2 c2 b1 b2 b3 b4 gS b5 b6 : Nat} {L : Int} {bst sh : List Int} {vb : Value}
theorem FrS.refl : FrS b3 b4 gS w w := ⟨rfl, rfl, rfl, Nat.le_refl _, fun _ _ _ _ _ => rfl⟩
theorem FrS.trans (h : FrS b3 b4 gS w w') (k : FrS b3 b4 gS w' w'') : FrS b3 b4 gS w w'' :=
  ⟨k.os.trans h.os, k.tape.trans h.tape, k.output.trans h.output, Nat.le_trans h.size k.size, fun i hi h1 h2 h3 => (k.block i (Nat.lt_of_lt_of_le hi h.size) h1 h2 h3).trans (h.block i hi h1 h2 h3)⟩
theorem FrS.of_below (h : Below w.heap.size w w') : FrS b3 b4 gS w w' := ⟨h.os, h.tape, h.output, h.size, fun i hi _ _ _ => h.block i hi⟩
theorem FrS.of_grown {g : Nat} (h : w.grownBy w' (some g)) (hg : g = b3 ∨ g = b4 ∨ g = gS) : FrS b3 b4 gS w w' :=
  ⟨h.os, h.tape, h.output, h.size, fun i hi h1 h2 h3 => h.block i hi (fun e => by have := Option.some.inj e; omega)⟩
theorem FrS.blk {b : Nat} {t : TypeId} {cs : Array Value} (h : FrS b3 b4 gS w w') (hx : Blk w b t cs) (h1 : b ≠ b3) (h2 : b ≠ b4) (h3 : b ≠ gS) : Blk w' b t cs := (h.block b hx.lt h1 h2 h3).trans hx
theorem FrS.below {B : Nat} (h : FrS b3 b4 gS w w') (hB : B ≤ w.heap.size) (h1 : B ≤ b3) (h2 : B ≤ b4) (h3 : B ≤ gS) : Below B w w' :=
  ⟨h.os, h.tape, h.output, h.size, fun i hi => h.block i (by omega) (by omega) (by omega) (by omega)⟩
theorem SrI.below (h : SrI W w A1 A2 n1 c1 n2 c2 b1 b2 b3 b4 gS b5 b6 L bst sh vb) (hb : Below w.heap.size w w') : SrI W w' A1 A2 n1 c1 n2 c2 b1 b2 b3 b4 gS b5 b6 L bst sh vb :=
  ⟨h.cars.below hb h.cars.lt, h.list.below hb h.list.lt, h.best.below hb h.best.lt, h.least.below hb h.least.lt, own_below h.srow hb (Nat.le_refl _), h.shr.below hb h.shr.lt, h.fn.below hb h.fn.lt, own_below h.brow hb (Nat.le_refl _), h.be.trans (hb.mono h.be.size), h.o⟩
theorem SrI.drew (h : SrI W w A1 A2 n1 c1 n2 c2 b1 b2 b3 b4 gS b5 b6 L bst sh vb) : SrI W w.drew A1 A2 n1 c1 n2 c2 b1 b2 b3 b4 gS b5 b6 L bst sh vb := h.below (Below.refl _ _).drew
theorem SrI.drewN (h : SrI W w A1 A2 n1 c1 n2 c2 b1 b2 b3 b4 gS b5 b6 L bst sh vb) (k : Nat) : SrI W (w.drewN k) A1 A2 n1 c1 n2 c2 b1 b2 b3 b4 gS b5 b6 L bst sh vb := h.below (below_drewN (Below.refl _ _) k)
theorem SrI.alloc (h : SrI W w A1 A2 n1 c1 n2 c2 b1 b2 b3 b4 gS b5 b6 L bst sh vb) (o : Obj) : SrI W (w.alloc o) A1 A2 n1 c1 n2 c2 b1 b2 b3 b4 gS b5 b6 L bst sh vb := h.below ((Below.refl _ _).alloc (Nat.le_refl _) o)
theorem own_ne_ {base n b : Nat} {e : TypeId} {size : Nat} {v : Value} {xs : List Value} (h : w.ownsRow base e size v n xs) (hb : b < base) : v.ownBlock ≠ some b := fun e => by have := (h.lt b e).1; omega
theorem SrI.setLeast (h : SrI W w A1 A2 n1 c1 n2 c2 b1 b2 b3 b4 gS b5 b6 L bst sh vb) (M : Int) : SrI W (w.setCell ⟨b4, 0, none⟩ (.int .i64 M)) A1 A2 n1 c1 n2 c2 b1 b2 b3 b4 gS b5 b6 M bst sh vb := by
  have o := h.o
  refine ⟨h.cars.far (p := ⟨b4, 0, none⟩) (by show b1 ≠ b4; omega) _, h.list.far (p := ⟨b4, 0, none⟩) (by show b2 ≠ b4; omega) _, h.best.far (p := ⟨b4, 0, none⟩) (by show b3 ≠ b4; omega) _, by simpa using h.least.set_ 0 (.int .i64 M), own_setOther h.srow (p := ⟨b4, 0, none⟩) (own_ne_ h.srow (Nat.lt_succ_self _)) _, h.shr.far (p := ⟨b4, 0, none⟩) (by show b5 ≠ b4; omega) _, h.fn.far (p := ⟨b4, 0, none⟩) (by show b6 ≠ b4; omega) _, own_setOther h.brow (p := ⟨b4, 0, none⟩) (own_ne_ h.brow (show b4 < gS + 1 by omega)) _, h.be.setCell (p := ⟨b4, 0, none⟩) (by show W.heap.size ≤ b4; omega) _, o⟩
theorem SrI.setBest (h : SrI W w A1 A2 n1 c1 n2 c2 b1 b2 b3 b4 gS b5 b6 L bst sh vb) {vb' : Value} {bst' : List Int} (hb : w.ownsRow (gS + 1) 3 1 vb' bst'.length (bst'.map (Value.int .i64))) : SrI W (w.setCell ⟨b3, 0, none⟩ vb') A1 A2 n1 c1 n2 c2 b1 b2 b3 b4 gS b5 b6 L bst' sh vb' := by
  have o := h.o
  refine ⟨h.cars.far (p := ⟨b3, 0, none⟩) (by show b1 ≠ b3; omega) _, h.list.far (p := ⟨b3, 0, none⟩) (by show b2 ≠ b3; omega) _, by simpa using h.best.set_ 0 vb', h.least.far (p := ⟨b3, 0, none⟩) (by show b4 ≠ b3; omega) _, own_setOther h.srow (p := ⟨b3, 0, none⟩) (own_ne_ h.srow (show b3 < b4 + 1 by omega)) _, h.shr.far (p := ⟨b3, 0, none⟩) (by show b5 ≠ b3; omega) _, h.fn.far (p := ⟨b3, 0, none⟩) (by show b6 ≠ b3; omega) _, own_setOther hb (p := ⟨b3, 0, none⟩) (own_ne_ hb (show b3 < gS + 1 by omega)) _, h.be.setCell (p := ⟨b3, 0, none⟩) (by show W.heap.size ≤ b3; omega) _, o⟩
theorem SrI.setShare (h : SrI W w A1 A2 n1 c1 n2 c2 b1 b2 b3 b4 gS b5 b6 L bst sh vb) (d : Nat) (z : Int) : SrI W (w.setCell ⟨gS, d, none⟩ (.int .i64 z)) A1 A2 n1 c1 n2 c2 b1 b2 b3 b4 gS b5 b6 L bst (sh.set d z) vb := by
  have o := h.o
  have hs := h.srow.stored d (.int .i64 z)
  refine ⟨h.cars.far (p := ⟨gS, d, none⟩) (by show b1 ≠ gS; omega) _, h.list.far (p := ⟨gS, d, none⟩) (by show b2 ≠ gS; omega) _, h.best.far (p := ⟨gS, d, none⟩) (by show b3 ≠ gS; omega) _, h.least.far (p := ⟨gS, d, none⟩) (by show b4 ≠ gS; omega) _, by rw [List.map_set]; exact hs.1, h.shr.far (p := ⟨gS, d, none⟩) (by show b5 ≠ gS; omega) _, h.fn.far (p := ⟨gS, d, none⟩) (by show b6 ≠ gS; omega) _, own_setOther h.brow (p := ⟨gS, d, none⟩) (own_ne_ h.brow (Nat.lt_succ_self _)) _, h.be.setCell (p := ⟨gS, d, none⟩) (by show W.heap.size ≤ gS; omega) _, o⟩
theorem FrS.setL (h : FrS b3 b4 gS w w') (u : Value) : FrS b3 b4 gS w (w'.setCell ⟨b4, 0, none⟩ u) := h.trans (FrS.of_grown (only_setCell (World.grownBy.refl _ _) (.inl rfl) u) (.inr (.inl rfl)))
theorem FrS.setB (h : FrS b3 b4 gS w w') (u : Value) : FrS b3 b4 gS w (w'.setCell ⟨b3, 0, none⟩ u) := h.trans (FrS.of_grown (only_setCell (World.grownBy.refl _ _) (.inl rfl) u) (.inl rfl))
theorem FrS.setS (h : FrS b3 b4 gS w w') (d : Nat) (u : Value) : FrS b3 b4 gS w (w'.setCell ⟨gS, d, none⟩ u) := h.trans (FrS.of_grown (only_setCell (World.grownBy.refl _ _) (.inl rfl) u) (.inr (.inr rfl)))
theorem SrI.len (h : SrI W w A1 A2 n1 c1 n2 c2 b1 b2 b3 b4 gS b5 b6 L bst sh vb) : sh.length = n2 := by simpa using h.srow.1
theorem blk1 {g : Nat} {t : TypeId} {x : Value} (h : Blk w g t #[x]) : w.cell? ⟨g, 0, none⟩ = some x ∧ w.frozen? ⟨g, 0, none⟩ = false := ⟨h.cell 0, h.frozen 0⟩
end
theorem srch_cut {n : Nat} {cs : List CallQ} {f : Ft} {pre : List Int} {st : Int × List Int} (h : 0 ≤ st.1 ∧ st.1 ≤ cst f) : srch n cs f pre st = st := by
  cases cs <;> · unfold srch; rw [if_pos h]
theorem srch_nil {n : Nat} {f : Ft} {pre : List Int} {st : Int × List Int} (h : ¬ (0 ≤ st.1 ∧ st.1 ≤ cst f)) : srch n [] f pre st = (cst f, pre) := by
  unfold srch; rw [if_neg h]
theorem srch_go {n : Nat} {c : CallQ} {cs : List CallQ} {f : Ft} {pre : List Int} {st : Int × List Int} (h : ¬ (0 ≤ st.1 ∧ st.1 ≤ cst f)) : srch n (c :: cs) f pre st = (List.range n).foldl (fun s (r : Nat) => srch n cs (srv f r c) (pre ++ [(r : Int)]) s) st := by
  rw [srch]; rw [if_neg h]
def SrPost (W w : World) (A1 A2 : Option Addr) (n1 c1 n2 c2 b1 b2 b3 b4 gS b5 b6 : Nat) (d : Nat) (pre : List Int) (r : Int × List Int) (e : Ending) (w' : World) : Prop :=
  e = .returned (.tuple #[]) ∧ ∃ (sh : List Int) (vb : Value), sh.take d = pre ∧ SrI W w' A1 A2 n1 c1 n2 c2 b1 b2 b3 b4 gS b5 b6 r.1 r.2 sh vb ∧ FrS b3 b4 gS w w'
end Go.Proofs.Ytmhaclhcllndeaa
