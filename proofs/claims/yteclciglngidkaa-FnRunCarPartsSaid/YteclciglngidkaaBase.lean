/-
  Plain words for memory and small lemmas on values: nothing here speaks of one program. 'Rd': a slice value reads as a list of cells. 'Blk': a block that is known whole. 'RetI': a call that hands back a slice of integers in memory of its own.
-/
import Derived.Test.YteclciglngidkaaRows
import Derived.WalkKit
import Derived.WalkSpells
import Derived.WalkLawsBesides
import Derived.Deep.QuietTactic
import Derived.BigQuiet
import Derived.Laws.AppendOwnNone
import Derived.Deep.Draws
import Derived.Deep.LoopGhost
import Derived.Deep.DeepFit
import Derived.Deep.Light
namespace Go.Proofs.Yteclciglngidkaa
open Go.RowKit

theorem ret_bool {a b : Bool} (h : a = b) : Ending.returned (.bool a) = .returned (.bool b) := by rw [h]
theorem ret_int {a b : Int} (h : a = b) : Ending.returned (.int .i64 a) = .returned (.int .i64 b) := by rw [h]
theorem int_eq {a b : Int} (h : a = b) : Value.int .i64 a = Value.int .i64 b := by rw [h]

/-- l ≤ x ≤ h, as a Bool that the walk does not open. -/
def inB (x l h : Int) : Bool := decide (l ≤ x) && decide (x ≤ h)
theorem inB_iff {x l h : Int} : inB x l h = true ↔ l ≤ x ∧ x ≤ h := by simp [inB]
theorem inB_false {x l h : Int} : inB x l h = false ↔ ¬ (l ≤ x ∧ x ≤ h) := by
  rw [← inB_iff]; cases inB x l h <;> simp

theorem inB_1 {x l h : Int} (h1 : l ≤ x) : decide (x ≤ h) = inB x l h := by simp [inB, h1]
theorem inB_2 {x l h : Int} (h1 : x < l) : false = inB x l h := by simp [inB]; omega
theorem hide {p : Prop} (h : p) : Hid p := h
theorem unhide {p : Prop} (h : Hid p) : p := h

/-- THE SLICE WITH THE ADDRESS A AND n ELEMENTS OF 'size' CELLS READS AS xs. -/
structure Rd (w : World) (size : Nat) (A : Option Addr) (n : Nat) (xs : List Value) : Prop where
  len : xs.length = n * size
  at_ : 0 < n → ∃ b off, A = some ⟨b, off, none⟩ ∧ b < w.heap.size ∧ ∀ j u, xs[j]? = some u → w.cell? ⟨b, off + j, none⟩ = some u

section
variable {w w' : World} {size n : Nat} {A : Option Addr} {xs : List Value}
theorem Rd.keep (h : Rd w size A n xs) (hs : w.heap.size ≤ w'.heap.size) (hk : 0 < n → ∀ b off, A = some ⟨b, off, none⟩ → b < w.heap.size → ∀ o, w'.cell? ⟨b, o, none⟩ = w.cell? ⟨b, o, none⟩) : Rd w' size A n xs :=
  ⟨h.len, fun hn => by
    obtain ⟨b, off, hA, hb, hc⟩ := h.at_ hn
    exact ⟨b, off, hA, by omega, fun j u hu => (hk hn b off hA hb _).trans (hc j u hu)⟩⟩
theorem Rd.below {B : Nat} (h : Rd w size A n xs) (hb : Below B w w') (hB : w.heap.size ≤ B) : Rd w' size A n xs :=
  h.keep hb.size fun _ b _ _ hlt o => hb.cell (p := ⟨b, o, none⟩) (Nat.lt_of_lt_of_le hlt hB)
theorem Rd.drewN (h : Rd w size A n xs) (k : Nat) : Rd (w.drewN k) size A n xs := h.keep (Nat.le_refl _) fun _ _ _ _ _ _ => rfl
theorem Rd.drew (h : Rd w size A n xs) : Rd w.drew size A n xs := h.keep (Nat.le_refl _) fun _ _ _ _ _ _ => rfl
theorem Rd.alloc (h : Rd w size A n xs) (o : Obj) : Rd (w.alloc o) size A n xs := h.below ((Below.refl _ _).alloc (Nat.le_refl _) o) (Nat.le_refl _)
theorem Rd.grown {row : Option Nat} (h : Rd w size A n xs) (hg : w.grownBy w' row) (hr : 0 < n → ∀ b off, A = some ⟨b, off, none⟩ → some b ≠ row) : Rd w' size A n xs :=
  h.keep hg.size fun hn b off hA hlt _ => World.cell?_of_block (hg.block b hlt (hr hn b off hA))
theorem Rd.of_own {base : Nat} {e : TypeId} {c : Nat} (h : w.ownsRow base e size (.slice A n c) n xs) : Rd w size A n xs := by
  refine ⟨h.1, fun hn => ?_⟩
  rcases h.2 with ⟨_, h0⟩ | ⟨g, cap, cur, hv, _, hg, _⟩
  · omega
  · have hA : A = some ⟨g, 0, none⟩ := by injection hv
    subst hA
    refine ⟨g, 0, rfl, (Array.getElem?_eq_some_iff.1 hg).1, fun j u hu => ?_⟩
    have := h.cells (g := g) rfl j u hu
    simpa [Addr.add_lit] using this
end

/-- A slice of integers. -/
def RdI (w : World) (k : IntKind) (A : Option Addr) (n : Nat) (zs : List Int) : Prop := Rd w 1 A n (zs.map (Value.int k))
theorem RdI.len {w : World} {k : IntKind} {A : Option Addr} {n : Nat} {zs : List Int} (h : RdI w k A n zs) : zs.length = n := by simpa using Rd.len h
theorem RdI.at_ {w : World} {k : IntKind} {A : Option Addr} {n : Nat} {zs : List Int} (h : RdI w k A n zs) {i : Nat} (hi : i < n) :
    ∃ b off z, A = some ⟨b, off, none⟩ ∧ b < w.heap.size ∧ zs[i]? = some z ∧ w.cell? ⟨b, off + i, none⟩ = some (.int k z) := by
  obtain ⟨b, off, hA, hb, hc⟩ := Rd.at_ h (by omega)
  have hl : i < zs.length := by rw [h.len]; exact hi
  exact ⟨b, off, zs[i], hA, hb, List.getElem?_eq_getElem hl, hc i _ (by simp [List.getElem?_eq_getElem hl])⟩
theorem Rd.take {w : World} {size : Nat} {A : Option Addr} {n : Nat} {xs : List Value} (h : Rd w size A n xs) (m : Nat) (hm : m ≤ n) : Rd w size A m (xs.take (m * size)) := by
  refine ⟨by rw [List.length_take, h.len]; exact Nat.min_eq_left (Nat.mul_le_mul_right _ hm), fun h0 => ?_⟩
  obtain ⟨b, off, e, hb, hc⟩ := h.at_ (by omega)
  refine ⟨b, off, e, hb, fun j u hu => hc j u ?_⟩
  rw [List.getElem?_take] at hu
  split at hu
  · exact hu
  · cases hu
theorem RdI.take {w : World} {k : IntKind} {A : Option Addr} {n : Nat} {zs : List Int} (h : RdI w k A n zs) (m : Nat) (hm : m ≤ n) : RdI w k A m (zs.take m) := by
  have := Rd.take h m hm
  rw [Nat.mul_one, ← List.map_take] at this
  exact this
/-- A slice of truth values. -/
def RdB (w : World) (A : Option Addr) (n : Nat) (bs : List Bool) : Prop := Rd w 1 A n (bs.map Value.bool)
theorem RdB.len {w : World} {A : Option Addr} {n : Nat} {zs : List Bool} (h : RdB w A n zs) : zs.length = n := by simpa using Rd.len h
theorem RdB.at_ {w : World} {A : Option Addr} {n : Nat} {zs : List Bool} (h : RdB w A n zs) {i : Nat} (hi : i < n) :
    ∃ b off z, A = some ⟨b, off, none⟩ ∧ b < w.heap.size ∧ zs[i]? = some z ∧ w.cell? ⟨b, off + i, none⟩ = some (.bool z) := by
  obtain ⟨b, off, hA, hb, hc⟩ := Rd.at_ h (by omega)
  have hl : i < zs.length := by rw [h.len]; exact hi
  exact ⟨b, off, zs[i], hA, hb, List.getElem?_eq_getElem hl, hc i _ (by simp [List.getElem?_eq_getElem hl])⟩

/-- Block g is just the cells cs of element type t, none of them frozen. -/
def Blk (w : World) (g : Nat) (t : TypeId) (cs : Array Value) : Prop := w.heap[g]? = some (.cells cs t (0, 0))
section
variable {w w' : World} {g : Nat} {t : TypeId} {cs : Array Value}
theorem Blk.lt (h : Blk w g t cs) : g < w.heap.size := by
  rcases Nat.lt_or_ge g w.heap.size with hlt | hge
  · exact hlt
  · unfold Blk at h; rw [Array.getElem?_eq_none hge] at h; cases h
theorem Blk.cell (h : Blk w g t cs) (i : Nat) : w.cell? ⟨g, i, none⟩ = cs[i]? := cell_of_row w g i cs t (0, 0) h
theorem Blk.frozen (h : Blk w g t cs) (i : Nat) : w.frozen? ⟨g, i, none⟩ = false := by
  unfold Blk at h
  simp [World.frozen?, h]
theorem Blk.new (w : World) (t : TypeId) (cs : Array Value) : Blk (w.alloc (.cells cs t)) w.heap.size t cs := heap_alloc_new w _
theorem Blk.drew (h : Blk w g t cs) : Blk w.drew g t cs := h
theorem Blk.drewN (h : Blk w g t cs) (n : Nat) : Blk (w.drewN n) g t cs := h
theorem Blk.alloc (h : Blk w g t cs) (o : Obj) : Blk (w.alloc o) g t cs := (Below.heap_alloc w o g h.lt).trans h
theorem Blk.set_ (h : Blk w g t cs) (i : Nat) (u : Value) : Blk (w.setCell ⟨g, i, none⟩ u) g t (cs.setIfInBounds i u) := by
  unfold Blk at h ⊢
  simp [World.setCell, Array.getElem?_modify, h]
theorem Blk.far (h : Blk w g t cs) {p : Addr} (hp : g ≠ p.block) (u : Value) : Blk (w.setCell p u) g t cs := (Below.heap_setCell w p u g hp).trans h
theorem Blk.below {B : Nat} (h : Blk w g t cs) (hb : Below B w w') (hg : g < B) : Blk w' g t cs := (hb.block g hg).trans h
theorem Blk.grown {row : Option Nat} (h : Blk w g t cs) (hb : w.grownBy w' row) (hg : some g ≠ row) : Blk w' g t cs := (hb.block g h.lt hg).trans h
theorem Blk.ne_ {g' : Nat} {t' : TypeId} {cs' : Array Value} (h : Blk w g t cs) (h' : Blk w g' t' cs') (hne : t ≠ t') : g ≠ g' := by
  rintro rfl
  unfold Blk at h h'
  rw [h] at h'
  injection h' with h'
  injection h' with _ ht
  exact hne ht
theorem own_blk_ne {base : Nat} {e : TypeId} {size n : Nat} {v : Value} {xs : List Value} (h : w.ownsRow base e size v n xs) (hg : Blk w g t cs) (hne : e ≠ t) : v.ownBlock ≠ some g := by
  rcases h.2 with ⟨rfl, _⟩ | ⟨g', cap, cur, rfl, _, hh, _⟩
  · simp [Value.ownBlock]
  · intro he
    have : g' = g := by simpa [Value.ownBlock] using he
    subst this
    exact Blk.ne_ (t := e) hh hg hne rfl
end

/-- After a call that made memory only: all old cells and all old marks read as before (as rules for the walk). -/
theorem bcell {W w1 : World} {B : Nat} (hb : Below B W w1) : (∀ b o, b < B → w1.cell? ⟨b, o, none⟩ = W.cell? ⟨b, o, none⟩) ∧ (∀ b o, b < B → w1.frozen? ⟨b, o, none⟩ = W.frozen? ⟨b, o, none⟩) :=
  ⟨fun b o h => hb.cell (p := ⟨b, o, none⟩) h, fun b o h => hb.frozen (p := ⟨b, o, none⟩) h⟩

/-- Sizes, in the forms that the walk asks. -/
theorem sz {a b : Nat} (h : a < b) : a < b ∧ a ≤ b ∧ a ≤ b + 1 ∧ a ≤ b + 1 + 1 ∧ a ≤ b + 1 + 1 + 1 ∧ ¬ a = b ∧ ¬ a = b + 1 ∧ ¬ a = b + 1 + 1 := by omega

/-! Frames in which one row alone may have been written. -/
theorem only_drewN {a w : World} {row : Option Nat} (h : a.grownBy w row) (n : Nat) : a.grownBy (w.drewN n) row := ⟨h.os, h.tape, h.output, h.size, h.block⟩
theorem only_drew {a w : World} {row : Option Nat} (h : a.grownBy w row) : a.grownBy w.drew row := ⟨h.os, h.tape, h.output, h.size, h.block⟩
theorem only_alloc {a w : World} {row : Option Nat} (h : a.grownBy w row) (o : Obj) : a.grownBy (w.alloc o) row :=
  ⟨h.os, h.tape, h.output, Nat.le_trans h.size (by simp), fun i hi hne => (Below.heap_alloc w o i (Nat.lt_of_lt_of_le hi h.size)).trans (h.block i hi hne)⟩
theorem only_setCell {a w : World} {g : Nat} (h : a.grownBy w (some g)) {p : Addr} (hp : p.block = g ∨ a.heap.size ≤ p.block) (u : Value) : a.grownBy (w.setCell p u) (some g) :=
  ⟨h.os, h.tape, h.output, by simpa [World.setCell] using h.size, fun i hi hne => (Below.heap_setCell w p u i (by
    rintro rfl
    rcases hp with hp | hp
    · exact hne (by rw [hp])
    · omega)).trans (h.block i hi hne)⟩
theorem only_of_below {a w : World} (h : Below a.heap.size a w) (row : Option Nat) : a.grownBy w row := ⟨h.os, h.tape, h.output, h.size, fun i hi _ => h.block i hi⟩
theorem only_below {a b c : World} {row : Option Nat} (h : a.grownBy b row) (k : Below b.heap.size b c) : a.grownBy c row :=
  ⟨k.os.trans h.os, k.tape.trans h.tape, k.output.trans h.output, Nat.le_trans h.size k.size, fun i hi hn => (k.block i (Nat.lt_of_lt_of_le hi h.size)).trans (h.block i hi hn)⟩
theorem only_trans {a b c : World} {row : Option Nat} (h : a.grownBy b row) (k : b.grownBy c row) : a.grownBy c row :=
  ⟨k.os.trans h.os, k.tape.trans h.tape, k.output.trans h.output, Nat.le_trans h.size k.size, fun i hi hn => (k.block i (Nat.lt_of_lt_of_le hi h.size) hn).trans (h.block i hi hn)⟩
theorem below_of_only {a b : World} {B : Nat} {row : Option Nat} (h : a.grownBy b row) (hB : B ≤ a.heap.size) (hr : ∀ k, row = some k → B ≤ k) : Below B a b :=
  (Below.refl _ _).grown h hB hr
theorem below_drewN {B : Nat} {a w : World} (h : Below B a w) (n : Nat) : Below B a (w.drewN n) := ⟨h.os, h.tape, h.output, h.size, h.block⟩
theorem own_below {w w' : World} {base B : Nat} {e : TypeId} {size n : Nat} {v : Value} {xs : List Value} (h : w.ownsRow base e size v n xs) (hb : Below B w w') (hB : w.heap.size ≤ B) : w'.ownsRow base e size v n xs := by
  refine h.kept (row := none) ⟨hb.os, hb.tape, hb.output, hb.size, fun k hk _ => hb.block k (by omega)⟩ ?_
  cases v.ownBlock <;> simp
theorem own_drewN {w : World} {base : Nat} {e : TypeId} {size n : Nat} {v : Value} {xs : List Value} (h : w.ownsRow base e size v n xs) (k : Nat) : (w.drewN k).ownsRow base e size v n xs := h
theorem own_base {w : World} {base base' : Nat} {e : TypeId} {size n : Nat} {v : Value} {xs : List Value} (h : w.ownsRow base e size v n xs) (hb : base' ≤ base) : w.ownsRow base' e size v n xs := by
  refine ⟨h.1, ?_⟩
  rcases h.2 with h0 | ⟨g, cap, cur, hv, hg, r⟩
  · exact .inl h0
  · exact .inr ⟨g, cap, cur, hv, by omega, r⟩
/-- A row of the call's own, from 'base' on, is not the block of an older slice. -/
theorem own_ne_old {w : World} {base : Nat} {e : TypeId} {size n c : Nat} {A : Option Addr} {xs : List Value} (h : w.ownsRow base e size (.slice A n c) n xs) {g : Nat} (hg : g < base) : (Value.slice A n c).ownBlock ≠ some g := by
  intro he
  have := (h.lt g he).1
  omega

/-- A call that hands back a slice of elements e (cells xs) in memory of its own; what was there stands. -/
def RetS (e : TypeId) (size : Nat) (w : World) (xs : List Value) (en : Ending) (w' : World) : Prop :=
  ∃ (A : Option Addr) (n c : Nat), en = .returned (.slice A n c) ∧ w'.ownsRow w.heap.size e size (.slice A n c) n xs ∧ Below w.heap.size w w'
def RetI (w : World) (zs : List Int) (en : Ending) (w' : World) : Prop := RetS 3 1 w (zs.map (Value.int .i64)) en w'
def RetB (w : World) (zs : List Bool) (en : Ending) (w' : World) : Prop := RetS 4 1 w (zs.map Value.bool) en w'

theorem take_snoc {α : Type} (l : List α) (k : Nat) (x : α) (h : l[k]? = some x) : l.take (k + 1) = l.take k ++ [x] := by
  rw [List.take_add_one, h]; rfl
theorem getElem?_lt {α : Type} {l : List α} {k : Nat} {x : α} (h : l[k]? = some x) : k < l.length := (List.getElem?_eq_some_iff.1 h).1

theorem int_info : (Try.prog.info? 3).map (fun i => (i.zero, i.size, i.bytes)) = some (some (.int .i64 0), 1, 8) := by kernel_rfl
theorem bool_info : (Try.prog.info? 4).map (fun i => (i.zero, i.size, i.bytes)) = some (some (.bool false), 1, 1) := by kernel_rfl

end Go.Proofs.Yteclciglngidkaa
