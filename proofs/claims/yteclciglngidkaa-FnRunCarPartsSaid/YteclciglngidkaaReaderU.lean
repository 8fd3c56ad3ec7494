/-
  The reader once more, its position bounded from above: what the drawing functions are told of it.
-/
import Derived.Test.YteclciglngidkaaReader
namespace Go.Proofs.Yteclciglngidkaa
open Go.RowKit

/-- A reader at a position of at most p. -/
def RdU (w : World) (B g p : Nat) : Prop := ∃ q, q ≤ p ∧ Rdr w B g q
section
variable {w w' : World} {B g p : Nat}
theorem RdU.mono {p' : Nat} (h : RdU w B g p) (hp : p ≤ p') : RdU w B g p' := by
  obtain ⟨q, hq, hr⟩ := h
  exact ⟨q, by omega, hr⟩
theorem RdU.below {B' : Nat} (h : RdU w B g p) (hb : Below B' w w') (hB : w.heap.size ≤ B') : RdU w' B g p := by
  obtain ⟨q, hq, hr⟩ := h
  exact ⟨q, hq, hr.below hb hB⟩
theorem RdU.lt (h : RdU w B g p) : g < w.heap.size := by
  obtain ⟨q, hq, hr⟩ := h
  exact hr.lt
theorem RdU.ge (h : RdU w B g p) : B ≤ g := by
  obtain ⟨q, hq, hr⟩ := h
  exact hr.ge
theorem RdU.drewN (h : RdU w B g p) (k : Nat) : RdU (w.drewN k) B g p := by
  obtain ⟨q, hq, hr⟩ := h
  exact ⟨q, hq, hr.drewN k⟩
theorem RdU.drew (h : RdU w B g p) : RdU w.drew B g p := h.drewN 1
theorem RdU.alloc (h : RdU w B g p) (o : Obj) : RdU (w.alloc o) B g p := by
  obtain ⟨q, hq, hr⟩ := h
  exact ⟨q, hq, hr.alloc o⟩
theorem RdU.grown {row : Option Nat} (h : RdU w B g p) (hg : w.grownBy w' row) (hr : ∀ k, row = some k → g ≠ k ∧ B ≤ k) : RdU w' B g p := by
  obtain ⟨q, hq, hr'⟩ := h
  exact ⟨q, hq, hr'.grown hg hr⟩
theorem RdU.setCell (h : RdU w B g p) {a : Addr} (h1 : g ≠ a.block) (h2 : B ≤ a.block) (u : Value) : RdU (w.setCell a u) B g p :=
  h.grown (row := some a.block) (only_setCell (World.grownBy.refl _ _) (.inl rfl) u) (fun k hk => by cases hk; exact ⟨h1, h2⟩)
theorem RdU.ne_own {base : Nat} {e : TypeId} {size n : Nat} {v : Value} {xs : List Value} (h : RdU w B g p) (ho : w.ownsRow base e size v n xs) (he : e ≠ 50) (hB : B ≤ base) : ∀ k, v.ownBlock = some k → g ≠ k ∧ B ≤ k := by
  obtain ⟨q, hq, hr⟩ := h
  exact hr.ne_own ho he hB
end

theorem RdI.old {w : World} {k : IntKind} {A : Option Addr} {n : Nat} {zs : List Int} (h : RdI w k A n zs) : 0 < n → ∀ b off, A = some ⟨b, off, none⟩ → b < w.heap.size := by
  intro hn b off e
  obtain ⟨b', off', e', hlt, _⟩ := Rd.at_ h hn
  rw [e] at e'
  injection e' with e'
  injection e' with e'
  omega
/-- What a drawing function is told of the code that it draws from: bytes that lie below B. -/
def Code8 (w : World) (B : Nat) (A : Option Addr) (n c : Nat) : Prop :=
  ∃ bs : List Int, n ≤ c ∧ RdI w .u8 A n bs ∧ (∀ b ∈ bs, 0 ≤ b ∧ b ≤ 255) ∧ (0 < n → ∀ b off, A = some ⟨b, off, none⟩ → b < B)
theorem Code8.below {w w' : World} {B B' : Nat} {A : Option Addr} {n c : Nat} (h : Code8 w B A n c) (hb : Below B' w w') (hB : w.heap.size ≤ B') : Code8 w' B A n c := by
  obtain ⟨bs, h1, h2, h3, h4⟩ := h
  exact ⟨bs, h1, Rd.below h2 hb hB, h3, h4⟩
theorem Code8.alloc {w : World} {B : Nat} {A : Option Addr} {n c : Nat} (h : Code8 w B A n c) (o : Obj) : Code8 (w.alloc o) B A n c :=
  h.below ((Below.refl _ _).alloc (Nat.le_refl _) o) (Nat.le_refl _)
theorem newReader_u (B : Nat) (A : Option Addr) (n c : Nat) (w : World) (hB : B ≤ w.heap.size) (h : Code8 w B A n c) :
    Calls Try.prog 11 #[.slice A n c] w fun e w' => ∃ g, e = .returned (.pointer (some ⟨g, 0, none⟩)) ∧ RdU w' B g 0 ∧ w.heap.size ≤ g ∧ Below w.heap.size w w' := by
  obtain ⟨bs, h1, h2, h3, h4⟩ := h
  refine (newReader_any B A n c bs w hB h2 h1 h3 h4).mono ?_
  rintro e w' ⟨g, he, hr, hg, hb⟩
  exact ⟨g, he, ⟨0, Nat.le_refl _, hr⟩, hg, hb⟩
theorem Blk.new_at {w : World} {t : TypeId} {cs : Array Value} {g : Nat} (hg : g = w.heap.size) : Blk (w.alloc (.cells cs t)) g t cs := by subst hg; exact Blk.new _ _ _
theorem only_setNew {a w : World} {g : Nat} (h : a.grownBy w (some g)) {p : Addr} (hp : a.heap.size ≤ p.block) (u : Value) : a.grownBy (w.setCell p u) (some g) := only_setCell h (.inr hp) u
theorem blk2 {w : World} {g : Nat} {t : TypeId} {x y : Value} (h : Blk w g t #[x, y]) : w.cell? ⟨g, 0, none⟩ = some x ∧ w.cell? ⟨g, 1, none⟩ = some y ∧ w.frozen? ⟨g, 0, none⟩ = false ∧ w.frozen? ⟨g, 1, none⟩ = false :=
  ⟨h.cell 0, h.cell 1, h.frozen 0, h.frozen 1⟩
theorem gcell {W w1 : World} {g : Nat} (hg : W.grownBy w1 (some g)) : (∀ b o, b < W.heap.size → ¬ b = g → w1.cell? ⟨b, o, none⟩ = W.cell? ⟨b, o, none⟩) ∧ (∀ b o, b < W.heap.size → ¬ b = g → w1.frozen? ⟨b, o, none⟩ = W.frozen? ⟨b, o, none⟩) :=
  ⟨fun b o h hne => World.cell?_of_block (a := ⟨b, o, none⟩) (hg.block b h (fun e => hne (Option.some.inj e))), fun b o h hne => World.frozen?_of_block (a := ⟨b, o, none⟩) (hg.block b h (fun e => hne (Option.some.inj e)))⟩

theorem pick_u (B g p : Nat) (n : Int) (w : World) (hp : p ≤ 100000) (hr : RdU w B g p) :
    Calls Try.prog 22 #[.pointer (some ⟨g, 0, none⟩), .int .i64 n] w fun e w' => ∃ x : Int, e = .returned (.int .i64 x) ∧ 0 ≤ x ∧ (1 ≤ n → x < n) ∧ RdU w' B g (p + 1) ∧ w.grownBy w' (some g) := by
  obtain ⟨q, hq, hr⟩ := hr
  exact (pick_any B g q n w (by omega) hr).mono fun e w' ⟨x, he, h0, h1, h2, h3⟩ => ⟨x, he, h0, h1, ⟨q + 1, by omega, h2⟩, h3⟩
theorem one_u (B g p : Nat) (A : Option Addr) (n c : Nat) (zs : List Int) (w : World) (hp : p ≤ 100000) (hr : RdU w B g p) (ha : RdI w .i64 A n zs) (hn : 0 < n) (hA : ∀ b off, A = some ⟨b, off, none⟩ → b ≠ g) :
    Calls Try.prog 21 #[.pointer (some ⟨g, 0, none⟩), .slice A n c] w fun e w' => ∃ x : Int, e = .returned (.int .i64 x) ∧ x ∈ zs ∧ RdU w' B g (p + 1) ∧ w.grownBy w' (some g) := by
  obtain ⟨q, hq, hr⟩ := hr
  exact (one_any B g q A n c zs w (by omega) hr ha hn hA).mono fun e w' ⟨x, he, h0, h2, h3⟩ => ⟨x, he, h0, ⟨q + 1, by omega, h2⟩, h3⟩
/-- 'one' of a list that stands written out in the text: it lies in the newest block. -/
theorem one_lit (B g p : Nat) (n c : Nat) (W : World) (cs : Array Value) (zs : List Int) (b : Nat) (hb : b = W.heap.size) (hcs : cs.toList = zs.map (Value.int .i64)) (hn : zs.length = n) (h0 : 0 < n) (hp : p ≤ 100000) (hr : RdU W B g p) :
    Calls Try.prog 21 #[.pointer (some ⟨g, 0, none⟩), .slice (some ⟨b, 0, none⟩) n c] (W.alloc (.cells cs 3)) fun e w' => ∃ x : Int, e = .returned (.int .i64 x) ∧ x ∈ zs ∧ RdU w' B g (p + 1) ∧ (W.alloc (.cells cs 3)).grownBy w' (some g) := by
  subst hb
  refine one_u B g p _ n c zs _ hp (hr.alloc _) ?_ h0 ?_
  · refine ⟨by simpa using hn, fun _ => ⟨W.heap.size, 0, rfl, by simp, fun j u hu => ?_⟩⟩
    rw [← hcs] at hu
    rw [Nat.zero_add, World.cell?_alloc_new]
    simpa using hu
  · intro b off e
    injection e with e
    injection e with e
    have := hr.lt
    omega
theorem one_litD (B g p : Nat) (n c : Nat) (W : World) (cs : Array Value) (zs : List Int) (b : Nat) (hb : b = W.heap.size) (hcs : cs.toList = zs.map (Value.int .i64)) (hn : zs.length = n) (h0 : 0 < n) (hp : p ≤ 100000) (hr : RdU W B g p) :
    Calls Try.prog 21 #[.pointer (some ⟨g, 0, none⟩), .slice (some ⟨b, 0, none⟩) n c] (W.alloc (.cells cs 3)).drew fun e w' => ∃ x : Int, e = .returned (.int .i64 x) ∧ x ∈ zs ∧ RdU w' B g (p + 1) ∧ (W.alloc (.cells cs 3)).drew.grownBy w' (some g) := by
  have h := one_lit B g p n c W.drew cs zs b hb hcs hn h0 hp hr.drew
  exact h
end Go.Proofs.Yteclciglngidkaa
