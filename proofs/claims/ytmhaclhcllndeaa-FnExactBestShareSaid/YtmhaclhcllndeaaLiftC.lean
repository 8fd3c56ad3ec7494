/-
  How a law's argument that is a slice of calls is opened.
-/
import Derived.Test.YtmhaclhcllndeaaLift
import Derived.Test.YtmhaclhcllndeaaCallsA
namespace Go.Proofs.Ytmhaclhcllndeaa
open Go.ChangeShapes Go.WideShapes Go.ChangeAt Go.RowKit Go.Joins Go.Deep

section
variable {H : Type} {enc : TypeId × Value → H} {W : World} {base : Nat}

theorem three_ints {w : World} {spare : Nat → Bool} {held : Bool} {n : Nat} {cs : List Value} {x : DataW H × List MemPlace} {e : TypeId} {f0 f1 f2 : Field} (hs : Try.prog.underlying e = some (.struct #[f0, f1, f2])) (hone : oneCellFields Try.prog #[f0, f1, f2] = true) (hC : Try.prog.cellsOf e = 3)
    (t0 : Try.prog.underlying f0.type = some (.int .i64)) (t1 : Try.prog.underlying f1.type = some (.int .i64)) (t2 : Try.prog.underlying f2.type = some (.int .i64)) (h : DataW.trod enc Try.prog w base spare held n e cs = some x) :
    ∃ f t c : Int, cs = [.int .i64 f, .int .i64 t, .int .i64 c] := by
  obtain ⟨ys, m, _, _, hlen, hyl, hf⟩ := DataW.trod_struct hs h
  rw [hC] at hlen
  match cs, hlen, ys, hyl with
  | [c0, c1, c2], _, [y0, y1, y2], _ =>
    obtain ⟨o0, k0⟩ := hone_of hone 0 f0 rfl
    obtain ⟨o1, k1⟩ := hone_of hone 1 f1 rfl
    obtain ⟨o2, k2⟩ := hone_of hone 2 f2 rfl
    have g0 := hf 0 f0 rfl
    have g1 := hf 1 f1 rfl
    have g2 := hf 2 f2 rfl
    rw [o0, k0] at g0
    rw [o1, k1] at g1
    rw [o2, k2] at g2
    obtain ⟨v0, e0, _⟩ := DataW.trod_int t0 g0
    obtain ⟨v1, e1, _⟩ := DataW.trod_int t1 g1
    obtain ⟨v2, e2, _⟩ := DataW.trod_int t2 g2
    simp at e0 e1 e2
    exact ⟨v0, v1, v2, by rw [e0, e1, e2]⟩

theorem open_RdC {v : Value} {d : DataW H} {p : List MemPlace} {b0 : Nat}
    (hv : Value.okWide Try.prog W .any b0 27 v) (hd : DataW.Trod enc Try.prog W 0 (fun _ => true) true 27 v d p) :
    ∃ (A : Option Addr) (n c : Nat) (cs : List CallQ), v = .slice A n c ∧ (n ≤ c ∧ c ≤ maxLen) ∧ RdC W A n cs := by
  obtain ⟨A, n, c, rfl⟩ := okWide_slice Try.underlying27 hv
  obtain ⟨fuel, hf⟩ := hd
  have hc3 : Try.prog.cellsOf 54 = 3 := by kernel_rfl
  rcases open_slice Try.underlying27 hf with ⟨hcs, _⟩ | ⟨a, len, cap, m, k, D, Pl, hcs, _, hl, hm, hmm, _, hi⟩
  · simp [Value.cells] at hcs
    obtain ⟨rfl, rfl, rfl⟩ := hcs
    exact ⟨none, 0, 0, [], rfl, ⟨Nat.le_refl _, Nat.zero_le _⟩, ⟨by simp [cellsC], fun h => absurd h (by omega)⟩⟩
  · simp [Value.cells] at hcs
    obtain ⟨rfl, rfl, rfl⟩ := hcs
    have hlen : n ≤ m := by rw [hmm]; split <;> omega
    have hex : ∀ i, i < n → ∃ f t x : Int, W.cell? (a.add (i * 3)) = some (.int .i64 f) ∧ W.cell? (a.add (i * 3 + 1)) = some (.int .i64 t) ∧ W.cell? (a.add (i * 3 + 2)) = some (.int .i64 x) := by
      intro i hin
      obtain ⟨cs', hc, ht⟩ := hi i (by omega)
      rw [hc3] at hc
      obtain ⟨f, t, x, rfl⟩ := three_ints Try.underlying54 (by kernel_rfl) hc3 Try.underlying3 Try.underlying3 Try.underlying3 ht
      obtain ⟨_, _, hat⟩ := World.cells?_some hc
      have h0 := hat 0 (by simp)
      have h1 := hat 1 (by simp)
      have h2 := hat 2 (by simp)
      rw [Go.Deep.add_add] at h0 h1 h2
      exact ⟨f, t, x, by simpa using h0, by simpa using h1, by simpa using h2⟩
    have hch : ∃ g : Nat → CallQ, ∀ i, i < n → W.cell? (a.add (i * 3)) = some (.int .i64 (g i).1) ∧ W.cell? (a.add (i * 3 + 1)) = some (.int .i64 (g i).2.1) ∧ W.cell? (a.add (i * 3 + 2)) = some (.int .i64 (g i).2.2) := by
      refine ⟨fun i => if h : i < n then ((hex i h).choose, (hex i h).choose_spec.choose, (hex i h).choose_spec.choose_spec.choose) else (0, 0, 0), fun i hin => ?_⟩
      simp only [hin, dif_pos]
      exact (hex i hin).choose_spec.choose_spec.choose_spec
    obtain ⟨g, hg⟩ := hch
    refine ⟨some a, n, c, (List.range n).map g, rfl, ⟨hl, hm⟩, rd_of_cells (by rw [cellsC_len]; simp) ?_ (by omega)⟩
    intro j u hu
    have hj : j < n * 3 := by
      have := (List.getElem?_eq_some_iff.1 hu).1
      rw [cellsC_len] at this
      simpa using this
    have hi3 : j / 3 < n := by omega
    have hgi : ((List.range n).map g)[j / 3]? = some (g (j / 3)) := by simp [hi3]
    obtain ⟨a0, a1, a2⟩ := cellsC_at _ _ _ hgi
    obtain ⟨b0', b1, b2⟩ := hg _ hi3
    obtain h | h | h : j = j / 3 * 3 ∨ j = j / 3 * 3 + 1 ∨ j = j / 3 * 3 + 2 := by omega
    · rw [h] at hu ⊢; rw [a0] at hu; rw [b0', hu]
    · rw [h] at hu ⊢; rw [a1] at hu; rw [b1, hu]
    · rw [h] at hu ⊢; rw [a2] at hu; rw [b2, hu]
end
end Go.Proofs.Ytmhaclhcllndeaa
