/-
  What the laws on floors draw: lists of floors, a floor, a heading.
-/
import Derived.Test.YtmhaclhcllndeaaDrawInts
namespace Go.Proofs.Ytmhaclhcllndeaa
open Go.RowKit
set_option linter.unusedSimpArgs false
set_option linter.unusedVariables false

def SlA (A : Option Addr) (n c : Nat) : Prop := ∃ b off, A = some ⟨b, off, none⟩ ∧ n ≤ c ∧ c ≤ maxLen
theorem SlB.sla {w : World} {base n c : Nat} {A : Option Addr} {zs : List Int} (h : SlB w base A n c zs) : SlA A n c := by
  obtain ⟨_, b, off, cs, h1, _, _, h2, h3, _⟩ := h
  exact ⟨b, off, h1, h2, h3⟩
theorem RdU.not_int {w : World} {B g p : Nat} (h : RdU w B g p) : ∀ b, some g = some b → ∀ cs, ¬ Blk w b 3 cs := by
  intro b e cs hx
  cases e
  exact h.ne_blk hx (by decide) rfl
theorem below_sets {B b : Nat} (hb : B ≤ b) {a : World} : ∀ (vs : List Value) (o : Nat) (w : World), Below B a w → Below B a (w.setCells b o vs)
  | [], _, _, h => h
  | v :: vs, o, w, h => below_sets hb vs (o + 1) _ (h.setCell (p := ⟨b, o, none⟩) hb v)
theorem RdU.sets {B g p b : Nat} (h1 : g ≠ b) (h2 : B ≤ b) : ∀ (vs : List Value) (o : Nat) (w : World), RdU w B g p → RdU (w.setCells b o vs) B g p
  | [], _, _, h => h
  | v :: vs, o, w, h => RdU.sets h1 h2 vs (o + 1) _ (h.setCell (a := ⟨b, o, none⟩) h1 h2 v)
theorem SlB.append {w : World} {base b1 o1 n1 c1 base2 n2 c2 : Nat} {A2 : Option Addr} {z1 z2 : List Int} (h1 : SlB w base (some ⟨b1, o1, none⟩) n1 c1 z1) (h2 : SlB w base2 A2 n2 c2 z2) (hr : n1 + n2 ≤ c1) :
    RdI (w.setCells b1 (o1 + n1 * 1) (z2.map (Value.int .i64))) .i64 (some ⟨b1, o1, none⟩) (n1 + n2) (z1 ++ z2) := by
  have r1 := h1.rd
  obtain ⟨hl1, b, off, cs, e, hb, hx, h3, h4, h5, h6⟩ := h1
  injection e with e
  injection e with e1 e2 _
  subst e1 e2
  have hl2 := h2.1
  have hsz : (w.setCells b1 (o1 + n1 * 1) (z2.map (Value.int .i64))).heap.size = w.heap.size := by
    have : ∀ (vs : List Value) (o : Nat) (w : World), (w.setCells b1 o vs).heap.size = w.heap.size := by
      intro vs
      induction vs with
      | nil => intro o w; rfl
      | cons v vs ih => intro o w; rw [World.setCells, ih]; simp [World.setCell]
    exact this _ _ _
  refine ⟨by simp [hl1, hl2], fun _ => ⟨b1, o1, rfl, by rw [hsz]; exact hx.lt, fun j u hu => ?_⟩⟩
  rw [List.map_append] at hu
  by_cases hj : j < n1
  · rw [List.getElem?_append_left (by simpa [hl1] using hj)] at hu
    rw [World.cell?_setCells_out b1 _ _ _ _ (fun _ _ => .inl (by simp only; omega))]
    obtain ⟨b', off', e', _, hc⟩ := Rd.at_ r1 (by omega)
    injection e' with e'
    injection e' with e1 e2 _
    subst e1 e2
    exact hc j u hu
  · rw [List.getElem?_append_right (by simpa [hl1] using Nat.le_of_not_lt hj)] at hu
    simp only [List.length_map, hl1] at hu
    have hlt := (List.getElem?_eq_some_iff.1 hu).1
    have hin := World.cell?_setCells_in b1 (z2.map (Value.int .i64)) (o1 + n1 * 1) w (fun i hi => by
      rw [hx.cell]
      simp only [List.length_map, hl2] at hi
      rw [Array.getElem?_eq_getElem (by omega)]; rfl) (j - n1) hlt
    rw [show o1 + n1 * 1 + (j - n1) = o1 + j by omega] at hin
    rw [hin, ← hu, List.getElem?_eq_getElem hlt]

def DrawnIX (m : Nat) (w : World) (e : Ending) (w' : World) : Prop :=
  ∃ (A : Option Addr) (n c : Nat) (zs : List Int) (x : Int), e = .returned (.tuple #[.slice A n c, .int .i64 x]) ∧ n ≤ m ∧ SlA A n c ∧ -1 ≤ x ∧ x ≤ 16 ∧ RdI w' .i64 A n zs ∧ Below w.heap.size w w'
set_option maxHeartbeats 1000000 in
theorem DrawNearestCar_any (B : Nat) (A : Option Addr) (n c : Nat) (w : World) (hB : B ≤ w.heap.size) (ha : Code8 w B A n c) :
    Calls Try.prog 29 #[.slice A n c] w (DrawnIX 5 w) := by
  have Ha := hide ha
  clear ha
  go_enter Try.func29, Try.ntmps29
  go_wp2_with fail
  refine (newReader_u B A n c _ hB Ha.out).mono ?_
  rintro e w1 ⟨g, rfl, hr1, g2, hb⟩
  have Hb1 := hide hb
  have hz1 := hb.size
  clear hb
  go_wp2_with fail
  refine (anyFleet_any B g 0 _ (by omega) hr1).mono ?_
  rintro e w2 ⟨A2, n2, c2, zs, rfl, hn, hs, hr2, hg⟩
  have hz2 := hg.size
  have Hb2 := hide (below_of_only (B := w.heap.size) hg hz1 (fun k hk => by cases hk; exact g2))
  have S2 := hide hs
  clear hg hs
  go_wp2_with fail
  refine (anyFloor_any B g 8 _ (by omega) hr2).mono ?_
  rintro e w3 ⟨x, rfl, x0, x1, hr3, hg⟩
  have Hb3 := hide (below_of_only (B := w.heap.size) hg (by omega) (fun k hk => by cases hk; exact g2))
  have HF := hide (And.intro S2.out.sla (SlB.grown S2.out hg hr2.not_int).rd)
  clear hg
  go_wp2_with fail
  go_ret2
  exact ⟨A2, n2, c2, zs, x, rfl, hn, HF.out.1, x0, x1, HF.out.2, Below.trans Hb1.out (Below.trans Hb2.out Hb3.out)⟩
end Go.Proofs.Ytmhaclhcllndeaa
