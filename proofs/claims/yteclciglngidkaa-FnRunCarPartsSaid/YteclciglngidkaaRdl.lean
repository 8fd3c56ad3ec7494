/-
  Slices that read as lists, behind new blocks and draws: the forms with reducible heads.
-/
import Derived.Test.YteclciglngidkaaTrack
namespace Go.Proofs.Yteclciglngidkaa
open Go.RowKit

theorem RdI.al {w : World} {k : IntKind} {A : Option Addr} {n : Nat} {zs : List Int} (h : RdI w k A n zs) (o : Obj) : RdI (w.alloc o) k A n zs := Rd.alloc h o
theorem RdI.dr {w : World} {k : IntKind} {A : Option Addr} {n : Nat} {zs : List Int} (h : RdI w k A n zs) : RdI w.drew k A n zs := Rd.drew h
theorem RdI.drN {w : World} {k : IntKind} {A : Option Addr} {n : Nat} {zs : List Int} (h : RdI w k A n zs) (q : Nat) : RdI (w.drewN q) k A n zs := Rd.drewN h q
theorem RdI.far {w : World} {k : IntKind} {A : Option Addr} {n B : Nat} {zs : List Int} (h : RdI w k A n zs) (hold : 0 < n → ∀ b off, A = some ⟨b, off, none⟩ → b < B) {p : Addr} (hp : B ≤ p.block) (u : Value) : RdI (w.setCell p u) k A n zs :=
  Rd.keep h (by simp [World.setCell]) fun hn b off e hlt o => World.cell?_of_block (a := ⟨b, o, none⟩) (Below.heap_setCell w p u b (by have := hold hn b off e; omega))
theorem RdI.below {w w' : World} {B : Nat} {k : IntKind} {A : Option Addr} {n : Nat} {zs : List Int} (h : RdI w k A n zs) (hb : Below B w w') (hB : w.heap.size ≤ B) : RdI w' k A n zs := Rd.below h hb hB
/-- A slice from index m on. -/
theorem Rd.drop {w : World} {size : Nat} {b off n m : Nat} {xs : List Value} (h : Rd w size (some ⟨b, off, none⟩) n xs) (hm : m ≤ n) : Rd w size (some ⟨b, off + m * size, none⟩) (n - m) (xs.drop (m * size)) := by
  refine ⟨by rw [List.length_drop, h.len, Nat.sub_mul], fun h0 => ?_⟩
  obtain ⟨b', off', e, hb, hc⟩ := h.at_ (by omega)
  injection e with e
  injection e with e1 e2 _
  subst e1 e2
  refine ⟨b, off + m * size, rfl, hb, fun j u hu => ?_⟩
  rw [List.getElem?_drop] at hu
  have := hc _ u hu
  rw [Nat.add_assoc]
  exact this
theorem RdI.drop {w : World} {k : IntKind} {b off n m : Nat} {zs : List Int} (h : RdI w k (some ⟨b, off, none⟩) n zs) (hm : m ≤ n) : RdI w k (some ⟨b, off + m, none⟩) (n - m) (zs.drop m) := by
  have := Rd.drop (m := m) h hm
  rw [Nat.mul_one, ← List.map_drop] at this
  exact this
end Go.Proofs.Yteclciglngidkaa
