/-
  What the laws on floors draw: lists of floors, a floor, a heading.
-/
import Derived.Test.YteclciglngidkaaDrawInts
namespace Go.Proofs.Yteclciglngidkaa
open Go.RowKit
set_option linter.unusedSimpArgs false
set_option linter.unusedVariables false

def SlA (A : Option Addr) (n c : Nat) : Prop := ∃ b off, A = some ⟨b, off, none⟩ ∧ n ≤ c ∧ c ≤ maxLen
theorem SlB.sla {w : World} {base n c : Nat} {A : Option Addr} {zs : List Int} (h : SlB w base A n c zs) : SlA A n c := by
  obtain ⟨_, b, off, cs, h1, _, _, h2, h3, _⟩ := h
  exact ⟨b, off, h1, h2, h3⟩
theorem RdU.not_int {w : World} {B g p : Nat} (h : RdU w B g p) : ∀ b, some g = some b → ∀ cs, ¬ Blk w b 3 cs := by
  intro b e cs hx
  cases e
  exact h.ne_blk hx (by decide) rfl
theorem below_sets {B b : Nat} (hb : B ≤ b) {a : World} : ∀ (vs : List Value) (o : Nat) (w : World), Below B a w → Below B a (w.setCells b o vs)
  | [], _, _, h => h
  | v :: vs, o, w, h => below_sets hb vs (o + 1) _ (h.setCell (p := ⟨b, o, none⟩) hb v)
theorem RdU.sets {B g p b : Nat} (h1 : g ≠ b) (h2 : B ≤ b) : ∀ (vs : List Value) (o : Nat) (w : World), RdU w B g p → RdU (w.setCells b o vs) B g p
  | [], _, _, h => h
  | v :: vs, o, w, h => RdU.sets h1 h2 vs (o + 1) _ (h.setCell (a := ⟨b, o, none⟩) h1 h2 v)
theorem SlB.append {w : World} {base b1 o1 n1 c1 base2 n2 c2 : Nat} {A2 : Option Addr} {z1 z2 : List Int} (h1 : SlB w base (some ⟨b1, o1, none⟩) n1 c1 z1) (h2 : SlB w base2 A2 n2 c2 z2) (hr : n1 + n2 ≤ c1) :
    RdI (w.setCells b1 (o1 + n1 * 1) (z2.map (Value.int .i64))) .i64 (some ⟨b1, o1, none⟩) (n1 + n2) (z1 ++ z2) := by
  have r1 := h1.rd
  obtain ⟨hl1, b, off, cs, e, hb, hx, h3, h4, h5, h6⟩ := h1
  injection e with e
  injection e with e1 e2 _
  subst e1 e2
  have hl2 := h2.1
  have hsz : (w.setCells b1 (o1 + n1 * 1) (z2.map (Value.int .i64))).heap.size = w.heap.size := by
    have : ∀ (vs : List Value) (o : Nat) (w : World), (w.setCells b1 o vs).heap.size = w.heap.size := by
      intro vs
      induction vs with
      | nil => intro o w; rfl
      | cons v vs ih => intro o w; rw [World.setCells, ih]; simp [World.setCell]
    exact this _ _ _
  refine ⟨by simp [hl1, hl2], fun _ => ⟨b1, o1, rfl, by rw [hsz]; exact hx.lt, fun j u hu => ?_⟩⟩
  rw [List.map_append] at hu
  by_cases hj : j < n1
  · rw [List.getElem?_append_left (by simpa [hl1] using hj)] at hu
    rw [World.cell?_setCells_out b1 _ _ _ _ (fun _ _ => .inl (by simp only; omega))]
    obtain ⟨b', off', e', _, hc⟩ := Rd.at_ r1 (by omega)
    injection e' with e'
    injection e' with e1 e2 _
    subst e1 e2
    exact hc j u hu
  · rw [List.getElem?_append_right (by simpa [hl1] using Nat.le_of_not_lt hj)] at hu
    simp only [List.length_map, hl1] at hu
    have hlt := (List.getElem?_eq_some_iff.1 hu).1
    have hin := World.cell?_setCells_in b1 (z2.map (Value.int .i64)) (o1 + n1 * 1) w (fun i hi => by
      rw [hx.cell]
      simp only [List.length_map, hl2] at hi
      rw [Array.getElem?_eq_getElem (by omega)]; rfl) (j - n1) hlt
    rw [show o1 + n1 * 1 + (j - n1) = o1 + j by omega] at hin
    rw [hin, ← hu, List.getElem?_eq_getElem hlt]

def DrawnIX (m : Nat) (w : World) (e : Ending) (w' : World) : Prop :=
  ∃ (A : Option Addr) (n c : Nat) (zs : List Int) (x : Int), e = .returned (.tuple #[.slice A n c, .int .i64 x]) ∧ n ≤ m ∧ SlA A n c ∧ -1 ≤ x ∧ x ≤ 16 ∧ RdI w' .i64 A n zs ∧ Below w.heap.size w w'
set_option maxHeartbeats 1000000 in
theorem DrawWayOf_any (B : Nat) (A : Option Addr) (n c : Nat) (w : World) (hB : B ≤ w.heap.size) (ha : Code8 w B A n c) :
    Calls Try.prog 5 #[.slice A n c] w (DrawnIX 28 w) := by
  have Ha := hide ha
  clear ha
  obtain ⟨i0, hi0, iz0, iz1, iz2⟩ := info_parts int_info
  go_enter Try.func5, Try.ntmps5
  go_wp2_with fail
  refine (newReader_u B A n c _ hB Ha.out).mono ?_
  rintro e w1 ⟨g, rfl, hr1, g2, hb⟩
  have Hb1 := hide hb
  have hz1 := hb.size
  clear hb
  go_wp2_with fail
  refine (anyFloors_any B g 0 _ (by omega) hr1).mono ?_
  rintro e w2 ⟨A2, n2, c2, zs, rfl, hn, hs, hr2, hg⟩
  have hz2 := hg.size
  have Hb2 := hide (below_of_only (B := w.heap.size) hg hz1 (fun k hk => by cases hk; exact g2))
  have S2 := hide hs
  clear hg hs
  go_wp2_with fail
  refine (anyFloors_any B g 17 _ (by omega) hr2).mono ?_
  rintro e w3 ⟨A3, n3, c3, z3, rfl, hn3, hs, hr3, hg⟩
  have hz3 := hg.size
  have Hb3 := hide (below_of_only (B := w.heap.size) hg (by omega) (fun k hk => by cases hk; exact g2))
  have S3 := hide hs
  replace S2 := hide (SlB.grown S2.out hg hr2.not_int)
  have HB := hide (Below.trans Hb1.out (Below.trans Hb2.out Hb3.out))
  clear hg hs Hb1 Hb2 Hb3
  have R2 := hide S2.out.rd
  have R3 := hide S3.out.rd
  obtain ⟨hl2, b2, o2, cs2, rfl, hb2, hx2, hnc2, hm2, hsz2, ht2⟩ := S2.out
  obtain ⟨hl3, b3, o3, cs3, rfl, hb3, hx3, hnc3, hm3, hsz3, ht3⟩ := S3.out
  have hcel2 : ∀ j u, (zs.map (Value.int .i64))[j]? = some u → w3.cell? ⟨b2, o2 + j, none⟩ = some u := by
    intro j u hu
    obtain ⟨b', off', e', _, hc⟩ := Rd.at_ R2.out (by have := (List.getElem?_eq_some_iff.1 hu).1; simp at this; omega)
    injection e' with e'
    injection e' with e1 e2 _
    subst e1 e2
    exact hc j u hu
  have hcel3 : ∀ j u, (z3.map (Value.int .i64))[j]? = some u → w3.cell? ((⟨b3, o3, none⟩ : Addr).add j) = some u := by
    intro j u hu
    obtain ⟨b', off', e', _, hc⟩ := Rd.at_ R3.out (by have := (List.getElem?_eq_some_iff.1 hu).1; simp at this; omega)
    injection e' with e'
    injection e' with e1 e2 _
    subst e1 e2
    rw [Addr.add_lit]
    exact hc j u hu
  have hspare : n2 + n3 ≤ c2 → ∀ j, j < (z3.map (Value.int .i64)).length → (w3.cell? ⟨b2, o2 + n2 * 1 + j, none⟩).isSome = true ∧ w3.frozen? ⟨b2, o2 + n2 * 1 + j, none⟩ = false := by
    intro hr j hj
    simp only [List.length_map, hl3] at hj
    refine ⟨?_, hx2.frozen _⟩
    rw [hx2.cell, Array.getElem?_eq_getElem (by omega)]; rfl
  have HH := hide (And.intro hcel2 (And.intro hcel3 hspare))
  have hne : g ≠ b2 := (Ne.symm (hr3.ne_blk hx2 (by decide)))
  have Hl := hide (And.intro hl2 hl3)
  clear hcel2 hcel3 hspare ht2 ht3 hl2 hl3 hx2 hx3 hsz2 hsz3
  by_cases hroom : n2 + n3 ≤ c2
  · have RF := hide (show RdI (w3.setCells b2 (o2 + n2) (z3.map (Value.int .i64))) .i64 (some ⟨b2, o2, none⟩) (n2 + n3) (zs ++ z3) from by have h := SlB.append S2.out S3.out hroom; rw [Nat.mul_one] at h; exact h)
    go_wp2_with (at_builtin; refine wpList_append_arg _ rfl (.tmp 9) (.tmp 11) _ rfl 3 i0 (.int .i64 0) 1 8 Try.underlying23 hi0 iz0 iz1 iz2 rfl (by decide) b2 o2 n2 c2 (zs.map (Value.int .i64)) rfl (by simp [Hl.out.1]) HH.out.1 _ n3 c3 (z3.map (Value.int .i64)) rfl (by simp [Hl.out.2]) HH.out.2.1 (by intro u hu; obtain ⟨z, _, rfl⟩ := List.mem_map.1 hu; rfl) HH.out.2.2 (by unfold maxLen; omega) (by omega) (fun _ => ?_) (fun h => absurd h (by omega)))
    have hr4 := RdU.sets hne (by omega) (z3.map (Value.int .i64)) (o2 + n2) w3 hr3
    have hb4 := below_sets (B := w.heap.size) (by omega : w.heap.size ≤ b2) (z3.map (Value.int .i64)) (o2 + n2) w3 HB.out
    have HB4 := hide hb4
    have RB := hide (show b2 < w3.heap.size from by have := S2.out; obtain ⟨_, b, off, cs, e, _, hx, _⟩ := this; cases e; exact hx.lt)
    clear hb4
    refine (anyFloor_any B g 34 _ (by omega) hr4).mono ?_
    rintro e w5 ⟨x, rfl, x0, x1, hr5, hg⟩
    have hne2 : b2 ≠ g := fun e => hne e.symm
    have HF := hide (And.intro (Rd.grown RF.out hg (fun hn b off e h => by cases e; exact hne2 (Option.some.inj h))) (Below.grown HB4.out hg HB4.out.size (fun k hk => by cases hk; omega)))
    clear hg
    go_wp2_with fail
    go_ret2
    exact ⟨_, _, _, _, x, rfl, by omega, ⟨b2, o2, rfl, hroom, hm2⟩, x0, x1, HF.out.1, HF.out.2⟩
  · go_wp2_with (at_builtin; refine wpList_append_arg _ rfl (.tmp 9) (.tmp 11) _ rfl 3 i0 (.int .i64 0) 1 8 Try.underlying23 hi0 iz0 iz1 iz2 rfl (by decide) b2 o2 n2 c2 (zs.map (Value.int .i64)) rfl (by simp [Hl.out.1]) HH.out.1 _ n3 c3 (z3.map (Value.int .i64)) rfl (by simp [Hl.out.2]) HH.out.2.1 (by intro u hu; obtain ⟨z, _, rfl⟩ := List.mem_map.1 hu; rfl) HH.out.2.2 (by unfold maxLen; omega) (by omega) (fun h => absurd h (by omega)) (fun _ v' w4 hown hgrow => ?_))
    have hr4 := RdU.grown hr3 hgrow (fun k hk => by cases hk)
    have hb4 := Below.grown HB.out hgrow HB.out.size (fun k hk => by cases hk)
    have HB4 := hide hb4
    obtain ⟨A4, c4, rfl⟩ := own_form hown
    have hown' : w4.ownsRow w3.heap.size 3 1 (.slice A4 (n2 + n3) c4) (n2 + n3) ((zs ++ z3).map (Value.int .i64)) := by simpa using hown
    obtain ⟨g4, rfl, _, _⟩ := own_cur0 hown' (by omega)
    have S4 := hide (SlB.of_own hown' (by simp))
    clear hb4 hown hown' hgrow
    go_wp2_with fail
    refine (anyFloor_any B g 34 _ (by omega) hr4).mono ?_
    rintro e w5 ⟨x, rfl, x0, x1, hr5, hg⟩
    have HF := hide (And.intro S4.out.sla (And.intro (SlB.grown S4.out hg hr4.not_int).rd (Below.grown HB4.out hg HB4.out.size (fun k hk => by cases hk; omega))))
    clear hg
    go_wp2_with fail
    go_ret2
    exact ⟨_, _, _, _, x, rfl, by omega, HF.out.1, x0, x1, HF.out.2.1, HF.out.2.2⟩
end Go.Proofs.Yteclciglngidkaa
