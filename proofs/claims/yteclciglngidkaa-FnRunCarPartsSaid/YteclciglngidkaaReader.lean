/-
  Contracts of the reader that draws a law's arguments: 'newReader', 'pick', 'one'. 'Rdr w g p': block g is a reader at position p over bytes that can be read.
-/
import Derived.Test.YteclciglngidkaaInts
namespace Go.Proofs.Yteclciglngidkaa
open Go.RowKit

/-- Block g, from B on, holds a reader: its bytes (at most 2000 of them) lie below B, and it stands at position p. -/
def Rdr (w : World) (B g : Nat) (p : Nat) : Prop :=
  ∃ (A : Option Addr) (n c : Nat) (bs : List Int), B ≤ g ∧ Blk w g 50 #[.slice A n c, .int .i64 p] ∧ RdI w .u8 A n bs ∧ n ≤ 2000 ∧ (∀ b ∈ bs, 0 ≤ b ∧ b ≤ 255) ∧ (0 < n → ∀ b off, A = some ⟨b, off, none⟩ → b < B)

theorem Rdr.below {w w' : World} {B g p B' : Nat} (h : Rdr w B g p) (hb : Below B' w w') (hB : w.heap.size ≤ B') : Rdr w' B g p := by
  obtain ⟨A, n, c, bs, h0, h1, h2, h3, h4, h5⟩ := h
  exact ⟨A, n, c, bs, h0, h1.below hb (by have := h1.lt; omega), Rd.below h2 hb hB, h3, h4, h5⟩
theorem Rdr.lt {w : World} {B g p : Nat} (h : Rdr w B g p) : g < w.heap.size := by
  obtain ⟨A, n, c, bs, _, h1, _⟩ := h
  exact h1.lt
theorem Rdr.ge {w : World} {B g p : Nat} (h : Rdr w B g p) : B ≤ g := by
  obtain ⟨A, n, c, bs, h0, _⟩ := h
  exact h0
theorem Rdr.drewN {w : World} {B g p : Nat} (h : Rdr w B g p) (k : Nat) : Rdr (w.drewN k) B g p := by
  obtain ⟨A, n, c, bs, h0, h1, h2, h3, h4, h5⟩ := h
  exact ⟨A, n, c, bs, h0, h1, Rd.drewN h2 k, h3, h4, h5⟩
theorem Rdr.alloc {w : World} {B g p : Nat} (h : Rdr w B g p) (o : Obj) : Rdr (w.alloc o) B g p :=
  h.below ((Below.refl _ _).alloc (Nat.le_refl _) o) (Nat.le_refl _)
theorem Rdr.grown {w w' : World} {B g p : Nat} {row : Option Nat} (h : Rdr w B g p) (hg : w.grownBy w' row) (hr : ∀ k, row = some k → g ≠ k ∧ B ≤ k) : Rdr w' B g p := by
  obtain ⟨A, n, c, bs, h0, h1, h2, h3, h4, h5⟩ := h
  exact ⟨A, n, c, bs, h0, h1.grown hg (fun e => (hr g e.symm).1 rfl), Rd.grown h2 hg (fun hn b off e hk => by have := h5 hn b off e; have := (hr b hk.symm).2; omega), h3, h4, h5⟩
/-- A row of another element type is not the reader's block. -/
theorem Rdr.ne_own {w : World} {B g p base : Nat} {e : TypeId} {size n : Nat} {v : Value} {xs : List Value} (h : Rdr w B g p) (ho : w.ownsRow base e size v n xs) (he : e ≠ 50) (hB : B ≤ base) : ∀ k, v.ownBlock = some k → g ≠ k ∧ B ≤ k := by
  intro k hk
  obtain ⟨A, m, c, bs, h0, h1, _⟩ := h
  refine ⟨fun e' => own_blk_ne ho h1 he (by rw [hk, e']), ?_⟩
  have := (ho.lt k hk).1
  omega

theorem mod_in (x : Int) (n : Int) (hn : 1 ≤ n) : 0 ≤ x % n ∧ x % n < n := ⟨Int.emod_nonneg _ (by omega), Int.emod_lt_of_pos _ (by omega)⟩
theorem xor_nonneg (x y : Int) (hx : 0 ≤ x) (hy : 0 ≤ y) (bx : x < 9223372036854775808) (by' : y < 9223372036854775808) : 0 ≤ bits .xor .i64 x y := by
  obtain ⟨a, rfl⟩ := Int.eq_ofNat_of_zero_le hx
  obtain ⟨b, rfl⟩ := Int.eq_ofNat_of_zero_le hy
  have ha : a < 2 ^ 63 := by omega
  have hb : b < 2 ^ 63 := by omega
  have hxx : a ^^^ b < 2 ^ 63 := Nat.xor_lt_two_pow ha hb
  have e : bits .xor .i64 (a : Int) (b : Int) = ((a ^^^ b : Nat) : Int) := by
    show IntKind.i64.wrap ((BitVec.ofInt 64 (a : Int) ^^^ BitVec.ofInt 64 (b : Int)).toNat : Int) = _
    rw [BitVec.toNat_xor, BitVec.ofInt_natCast, BitVec.toNat_ofNat, BitVec.ofInt_natCast, BitVec.toNat_ofNat, Nat.mod_eq_of_lt (by omega), Nat.mod_eq_of_lt (by omega), IntKind.wrap_i64]
    omega
  rw [e]
  omega

/-- What 'pick n' hands back: a number below n (0 if n is below 1); the reader stands one further; nothing else has turned. -/
def Picked (B g p : Nat) (n : Int) (w : World) (e : Ending) (w' : World) : Prop :=
  ∃ x : Int, e = .returned (.int .i64 x) ∧ 0 ≤ x ∧ (1 ≤ n → x < n) ∧ Rdr w' B g (p + 1) ∧ w.grownBy w' (some g)

theorem Rdr.step {w : World} {B g p : Nat} {A : Option Addr} {n c : Nat} {bs : List Int} (h0 : B ≤ g) (h1 : Blk w g 50 #[.slice A n c, .int .i64 p]) (h2 : RdI w .u8 A n bs) (h3 : n ≤ 2000) (h4 : ∀ b ∈ bs, 0 ≤ b ∧ b ≤ 255) (h5 : 0 < n → ∀ b off, A = some ⟨b, off, none⟩ → b < B) :
    Rdr (w.setCell ⟨g, 1, none⟩ (.int .i64 ((p : Int) + 1))) B g (p + 1) ∧ w.grownBy (w.setCell ⟨g, 1, none⟩ (.int .i64 ((p : Int) + 1))) (some g) := by
  have hg : w.grownBy (w.setCell ⟨g, 1, none⟩ (.int .i64 ((p : Int) + 1))) (some g) := only_setCell (World.grownBy.refl _ _) (.inl rfl) _
  refine ⟨⟨A, n, c, bs, h0, by simpa using h1.set_ 1 (.int .i64 ((p : Int) + 1)), Rd.grown h2 hg (fun hn b off e hk => by have := h5 hn b off e; have := Option.some.inj hk; omega), h3, h4, h5⟩, hg⟩

set_option maxHeartbeats 400000 in
theorem pick_any (B g p : Nat) (n : Int) (w : World) (hp : p ≤ 100000) (hr : Rdr w B g p) :
    Calls Try.prog 22 #[.pointer (some ⟨g, 0, none⟩), .int .i64 n] w (Picked B g p n w) := by
  obtain ⟨A, m, c, bs, h0, h1, h2, h3, h4, h5⟩ := hr
  have c0 := h1.cell 0
  have c1 := h1.cell 1
  have f1 := h1.frozen 1
  have Hs := hide (Rdr.step h0 h1 h2 h3 h4 h5)
  have HR := hide (And.intro h2 h4)
  have hm := h2.len
  simp at c0 c1
  have H5 := hide (And.intro h0 h5)
  clear h0 h1 h2 h4 h5
  by_cases hn : n < 1
  · go_enter Try.func22, Try.ntmps22
    go_wp2_with fail
    all_goals
      go_ret
      exact ⟨0, rfl, by omega, by omega, Hs.out.1, Hs.out.2⟩
  · by_cases hm0 : m = 0
    · subst hm0
      go_enter Try.func22, Try.ntmps22
      go_wp2_with fail
      all_goals
        go_ret
        exact ⟨0, rfl, by omega, by omega, Hs.out.1, Hs.out.2⟩
    · have hne : ((m : Int) == 0) = false := by simp; omega
      have rd : ∀ i, i < m → ∃ b off z, A = some ⟨b, off, none⟩ ∧ (0 ≤ z ∧ z ≤ 255) ∧ w.cell? ⟨b, off + i, none⟩ = some (.int .u8 z) := fun i hi => by
        obtain ⟨b, off, z, e, _, hz, hc⟩ := RdI.at_ HR.out.1 hi
        exact ⟨b, off, z, e, HR.out.2 z (List.mem_of_getElem? hz), hc⟩
      by_cases hlt : p < m
      · obtain ⟨b, off, z, rfl, ⟨z0, z1⟩, hc⟩ := rd p hlt
        clear rd
        have hbg : b ≠ g := by have := H5.out.2 (by omega) b off rfl; have := H5.out.1; omega
        have hlt' : (p : Int) < (m : Int) := by omega
        have hn' : 1 ≤ n := by omega
        go_enter Try.func22, Try.ntmps22
        go_wp2_with fail
        go_ret
        exact ⟨_, rfl, (mod_in z n hn').1, fun _ => (mod_in z n hn').2, Hs.out.1, Hs.out.2⟩
      · obtain ⟨j1, hj1, et1⟩ : ∃ j, j < m ∧ (p : Int).tmod (m : Int) = (j : Int) := ⟨p % m, Nat.mod_lt _ (by omega), by rw [Int.tmod_eq_emod_of_nonneg (by omega)]; push_cast; rfl⟩
        obtain ⟨j2, hj2, et2⟩ : ∃ j, j < m ∧ ((p : Int) * 7 + 3).tmod (m : Int) = (j : Int) := ⟨(p * 7 + 3) % m, Nat.mod_lt _ (by omega), by rw [Int.tmod_eq_emod_of_nonneg (by omega)]; push_cast; rfl⟩
        obtain ⟨q, hq, et3⟩ : ∃ j, j ≤ p ∧ (p : Int).tdiv (m : Int) = (j : Int) := ⟨p / m, Nat.div_le_self _ _, by rw [Int.tdiv_eq_ediv_of_nonneg (by omega)]; push_cast; rfl⟩
        obtain ⟨b, off, z, rfl, ⟨z0, z1⟩, hc⟩ := rd j1 hj1
        obtain ⟨b', off', y, e, ⟨y0, y1⟩, hc'⟩ := rd j2 hj2
        injection e with e
        injection e with e1 e2 _
        subst e1 e2
        clear rd
        have hbg : b ≠ g := by have := H5.out.2 (by omega) b off rfl; have := H5.out.1; omega
        have hge' : (m : Int) ≤ (p : Int) := by omega
        have hn' : 1 ≤ n := by omega
        have hj1' : (j1 : Int) < (m : Int) := by omega
        have hj2' : (j2 : Int) < (m : Int) := by omega
        have wr : ∀ t : Int, 0 ≤ t → t ≤ 1000000000 → IntKind.i64.wrap t = t := fun t h0 h1 => IntWalk.i64_in _ (by omega)
        have w1 := wr (z * 131) (by omega) (by omega)
        have w2 := wr ((p : Int) * 7) (by omega) (by omega)
        have w3 := wr ((p : Int) * 7 + 3) (by omega) (by omega)
        have w4 := wr (y * 1117) (by omega) (by omega)
        have w5 := wr (z * 131 + y * 1117) (by omega) (by omega)
        have w6 := wr ((p : Int) * 29) (by omega) (by omega)
        have w7 := wr (z * 131 + y * 1117 + (p : Int) * 29) (by omega) (by omega)
        have w8 := wr ((q : Int) * 53) (by omega) (by omega)
        have w9 := wr (z * 131 + y * 1117 + (p : Int) * 29 + (q : Int) * 53) (by omega) (by omega)
        have w10 := wr (z : Int) (by omega) (by omega)
        have w11 := wr (y : Int) (by omega) (by omega)
        clear wr
        go_enter Try.func22, Try.ntmps22
        go_wp2_with fail
        go_quiet (fail)
        clear w1 w2 w3 w4 w5 w6 w7 w8 w9 w10 w11
        go_wp2_with fail
        go_ret
        have hx := xor_nonneg (z * 131 + y * 1117 + (p : Int) * 29 + (q : Int) * 53) ((z * 131 + y * 1117 + (p : Int) * 29 + (q : Int) * 53) / 64) (by omega) (by omega) (by omega) (by omega)
        exact ⟨_, rfl, Int.tmod_nonneg _ hx, fun _ => Int.tmod_lt_of_pos _ (by omega), Hs.out.1.drewN _, only_drewN Hs.out.2 _⟩

set_option maxHeartbeats 400000 in
theorem one_any (B g p : Nat) (A : Option Addr) (n c : Nat) (zs : List Int) (w : World) (hp : p ≤ 100000) (hr : Rdr w B g p) (ha : RdI w .i64 A n zs) (hn : 0 < n) (hA : ∀ b off, A = some ⟨b, off, none⟩ → b ≠ g) :
    Calls Try.prog 21 #[.pointer (some ⟨g, 0, none⟩), .slice A n c] w fun e w' => ∃ x : Int, e = .returned (.int .i64 x) ∧ x ∈ zs ∧ Rdr w' B g (p + 1) ∧ w.grownBy w' (some g) := by
  go_enter Try.func21, Try.ntmps21
  go_wp2_with fail
  refine (pick_any B g p n w hp hr).mono ?_
  rintro e w1 ⟨x, rfl, x0, x1, hr1, hg1⟩
  obtain ⟨j, rfl⟩ := Int.eq_ofNat_of_zero_le x0
  have hj : j < n := by have := x1 (by omega); omega
  obtain ⟨b, off, z, rfl, _, hz, hc1⟩ := RdI.at_ (w := w1) (Rd.grown ha hg1 (fun _ b off e h => hA b off e (Option.some.inj h))) hj
  have H := hide (And.intro hz (And.intro hr1 hg1))
  have hj' : (j : Int) < (n : Int) := by omega
  clear hz hr1 hg1 x1 ha hr hA
  go_wp2_with fail
  go_ret
  exact ⟨z, rfl, List.mem_of_getElem? H.out.1, H.out.2.1, H.out.2.2⟩

set_option maxHeartbeats 400000 in
theorem newReader_any (B : Nat) (A : Option Addr) (n c : Nat) (bs : List Int) (w : World) (hB : B ≤ w.heap.size) (ha : RdI w .u8 A n bs) (hc : n ≤ c) (hb : ∀ b ∈ bs, 0 ≤ b ∧ b ≤ 255) (hA : 0 < n → ∀ b off, A = some ⟨b, off, none⟩ → b < B) :
    Calls Try.prog 11 #[.slice A n c] w fun e w' => ∃ g, e = .returned (.pointer (some ⟨g, 0, none⟩)) ∧ Rdr w' B g 0 ∧ w.heap.size ≤ g ∧ Below w.heap.size w w' := by
  have Old := hide hA
  clear hA
  go_enter Try.func11, Try.ntmps11
  go_wp2_with fail
  · go_ret
    exact ⟨_, rfl, ⟨A, 2000, c, bs.take 2000, hB, Blk.new _ _ _, Rd.alloc (RdI.take ha 2000 (by omega)) _, Nat.le_refl _, fun b hm => hb b (List.mem_of_mem_take hm), fun _ => Old.out (by omega)⟩, Nat.le_refl _, (Below.refl _ _).alloc (Nat.le_refl _) _⟩
  · go_ret
    exact ⟨_, rfl, ⟨A, n, c, bs, hB, Blk.new _ _ _, Rd.alloc ha _, by omega, hb, Old.out⟩, Nat.le_refl _, (Below.refl _ _).alloc (Nat.le_refl _) _⟩

end Go.Proofs.Yteclciglngidkaa
