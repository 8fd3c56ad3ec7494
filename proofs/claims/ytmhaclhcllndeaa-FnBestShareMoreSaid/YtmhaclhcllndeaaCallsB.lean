/-
  Slices of calls: copying, comparing, marking.
-/
import Derived.Test.YtmhaclhcllndeaaCallsA
import Derived.Test.YtmhaclhcllndeaaLaw8
import Derived.Laws.StructEq
import Derived.Deep.RegionHeld3
namespace Go.Proofs.Ytmhaclhcllndeaa
open Go.RowKit
set_option linter.unusedSimpArgs false
set_option linter.unusedVariables false

theorem set_mid3 {α : Type} (l r : List α) (k : Nat) (a b c : α) (hl : l.length = k * 3) (hk : k * 3 + 3 ≤ r.length) : (((l ++ r.drop (k * 3)).set (k * 3) a).set (k * 3 + 1) b).set (k * 3 + 2) c = l ++ [a, b, c] ++ r.drop ((k + 1) * 3) := by
  rw [set_mid l r (k * 3) a hl (by omega)]
  rw [set_mid (l ++ [a]) r (k * 3 + 1) b (by simp; omega) (by omega)]
  rw [set_mid (l ++ [a] ++ [b]) r (k * 3 + 1 + 1) c (by simp; omega) (by omega)]
  simp only [List.append_assoc, List.cons_append, List.nil_append]
  rw [show k * 3 + 1 + 1 + 1 = (k + 1) * 3 from by omega]
theorem cellsC_snoc {cs : List CallQ} {k : Nat} {f t c : Int} (h : cs[k]? = some (f, t, c)) : cellsC (cs.take (k + 1)) = cellsC (cs.take k) ++ [.int .i64 f, .int .i64 t, .int .i64 c] := by
  rw [take_snoc _ _ _ h, cellsC_append]; rfl
theorem sizeC_cur {w : World} {base : Nat} {e : TypeId} {size n cap : Nat} {A : Option Addr} {xs : List Value} (h : w.ownsRow base e size (.slice A n cap) n xs) (h0 : 0 < n) : ∃ g, A = some ⟨g, 0, none⟩ ∧ base ≤ g ∧ g < w.heap.size := by
  rcases h.2 with ⟨_, h1⟩ | ⟨g, cap', cur, hv, hb, hg, _⟩
  · omega
  · injection hv with hv
    exact ⟨g, hv, hb, (Array.getElem?_eq_some_iff.1 hg).1⟩

def RetK (f t c : Int) (w : World) (e : Ending) (w' : World) : Prop := e = .returned (.agg #[.int .i64 f, .int .i64 t, .int .i64 c]) ∧ Below w.heap.size w w'
set_option maxHeartbeats 400000 in
theorem toCall_any (f t c : Int) (w : World) :
    Calls Try.prog 44 #[.agg #[.int .i64 f, .int .i64 t, .int .i64 c]] w (RetK f t c w) := by
  go_enter Try.func44, Try.ntmps44
  go_wp2_with fail
  exact bodyPost_ret (v := .agg #[.int .i64 f, .int .i64 t, .int .i64 c]) (by simp [results, Try.results44, go_sem]) rfl ⟨rfl, (by repeat (first | (with_reducible exact Below.refl _ _) | (with_reducible refine Below.drew ?_) | (with_reducible refine below_drewN ?_ _) | ((with_reducible refine Below.alloc ?_ ?_ _); rotate_left; (focus (first | (simp; done) | (simp; omega) | omega))) | ((with_reducible refine Below.setCell ?_ ?_ _); rotate_left; (focus (first | (simp; done) | (simp; omega) | omega))) | ((with_reducible refine Below.trans ?_ (Below.mono Hb.out ?_)); rotate_left; (focus (first | (simp; done) | (simp; omega) | omega))) | ((with_reducible refine Below.trans ?_ (Below.mono Hb16.out ?_)); rotate_left; (focus (first | (simp; done) | (simp; omega) | omega))) | ((with_reducible refine Below.trans ?_ (Below.mono Hb15.out ?_)); rotate_left; (focus (first | (simp; done) | (simp; omega) | omega))) | ((with_reducible refine Below.trans ?_ (Below.mono Hb14.out ?_)); rotate_left; (focus (first | (simp; done) | (simp; omega) | omega))) | ((with_reducible refine Below.trans ?_ (Below.mono Hb13.out ?_)); rotate_left; (focus (first | (simp; done) | (simp; omega) | omega))) | ((with_reducible refine Below.trans ?_ (Below.mono Hb12.out ?_)); rotate_left; (focus (first | (simp; done) | (simp; omega) | omega))) | ((with_reducible refine Below.trans ?_ (Below.mono Hb11.out ?_)); rotate_left; (focus (first | (simp; done) | (simp; omega) | omega))) | ((with_reducible refine Below.trans ?_ (Below.mono Hb10.out ?_)); rotate_left; (focus (first | (simp; done) | (simp; omega) | omega))) | ((with_reducible refine Below.trans ?_ (Below.mono Hb9.out ?_)); rotate_left; (focus (first | (simp; done) | (simp; omega) | omega))) | ((with_reducible refine Below.trans ?_ (Below.mono Hb8.out ?_)); rotate_left; (focus (first | (simp; done) | (simp; omega) | omega))) | ((with_reducible refine Below.trans ?_ (Below.mono Hb7.out ?_)); rotate_left; (focus (first | (simp; done) | (simp; omega) | omega))) | ((with_reducible refine Below.trans ?_ (Below.mono Hb6.out ?_)); rotate_left; (focus (first | (simp; done) | (simp; omega) | omega))) | ((with_reducible refine Below.trans ?_ (Below.mono Hb5.out ?_)); rotate_left; (focus (first | (simp; done) | (simp; omega) | omega))) | ((with_reducible refine Below.trans ?_ (Below.mono Hb4.out ?_)); rotate_left; (focus (first | (simp; done) | (simp; omega) | omega))) | ((with_reducible refine Below.trans ?_ (Below.mono Hb3.out ?_)); rotate_left; (focus (first | (simp; done) | (simp; omega) | omega))) | ((with_reducible refine Below.trans ?_ (Below.mono Hb2.out ?_)); rotate_left; (focus (first | (simp; done) | (simp; omega) | omega))) | ((with_reducible refine Below.trans ?_ (Below.mono Hb1.out ?_)); rotate_left; (focus (first | (simp; done) | (simp; omega) | omega))) | ((with_reducible refine Below.trans ?_ (below_of_only Hg16.out ?_ ?_)); rotate_left; (focus (first | (simp; done) | (simp; omega) | omega)); (intro k hk; cases hk; omega)) | ((with_reducible refine Below.trans ?_ (below_of_only Hg15.out ?_ ?_)); rotate_left; (focus (first | (simp; done) | (simp; omega) | omega)); (intro k hk; cases hk; omega)) | ((with_reducible refine Below.trans ?_ (below_of_only Hg14.out ?_ ?_)); rotate_left; (focus (first | (simp; done) | (simp; omega) | omega)); (intro k hk; cases hk; omega)) | ((with_reducible refine Below.trans ?_ (below_of_only Hg13.out ?_ ?_)); rotate_left; (focus (first | (simp; done) | (simp; omega) | omega)); (intro k hk; cases hk; omega)) | ((with_reducible refine Below.trans ?_ (below_of_only Hg12.out ?_ ?_)); rotate_left; (focus (first | (simp; done) | (simp; omega) | omega)); (intro k hk; cases hk; omega)) | ((with_reducible refine Below.trans ?_ (below_of_only Hg11.out ?_ ?_)); rotate_left; (focus (first | (simp; done) | (simp; omega) | omega)); (intro k hk; cases hk; omega)) | ((with_reducible refine Below.trans ?_ (below_of_only Hg10.out ?_ ?_)); rotate_left; (focus (first | (simp; done) | (simp; omega) | omega)); (intro k hk; cases hk; omega)) | ((with_reducible refine Below.trans ?_ (below_of_only Hg9.out ?_ ?_)); rotate_left; (focus (first | (simp; done) | (simp; omega) | omega)); (intro k hk; cases hk; omega)) | ((with_reducible refine Below.trans ?_ (below_of_only Hg8.out ?_ ?_)); rotate_left; (focus (first | (simp; done) | (simp; omega) | omega)); (intro k hk; cases hk; omega)) | ((with_reducible refine Below.trans ?_ (below_of_only Hg7.out ?_ ?_)); rotate_left; (focus (first | (simp; done) | (simp; omega) | omega)); (intro k hk; cases hk; omega)) | ((with_reducible refine Below.trans ?_ (below_of_only Hg6.out ?_ ?_)); rotate_left; (focus (first | (simp; done) | (simp; omega) | omega)); (intro k hk; cases hk; omega)) | ((with_reducible refine Below.trans ?_ (below_of_only Hg5.out ?_ ?_)); rotate_left; (focus (first | (simp; done) | (simp; omega) | omega)); (intro k hk; cases hk; omega)) | ((with_reducible refine Below.trans ?_ (below_of_only Hg4.out ?_ ?_)); rotate_left; (focus (first | (simp; done) | (simp; omega) | omega)); (intro k hk; cases hk; omega)) | ((with_reducible refine Below.trans ?_ (below_of_only Hg3.out ?_ ?_)); rotate_left; (focus (first | (simp; done) | (simp; omega) | omega)); (intro k hk; cases hk; omega)) | ((with_reducible refine Below.trans ?_ (below_of_only Hg2.out ?_ ?_)); rotate_left; (focus (first | (simp; done) | (simp; omega) | omega)); (intro k hk; cases hk; omega)) | ((with_reducible refine Below.trans ?_ (below_of_only Hg1.out ?_ ?_)); rotate_left; (focus (first | (simp; done) | (simp; omega) | omega)); (intro k hk; cases hk; omega))))⟩
set_option maxHeartbeats 1000000 in
theorem toCallS_any (A : Option Addr) (n c : Nat) (cs : List CallQ) (w : World) (hn : n ≤ 1048576) (ha : RdC w A n cs) :
    Calls Try.prog 19 #[.slice A n c] w (RetCs w cs) := by
  have hl := ha.len
  have Ha := hide ha
  clear ha
  obtain ⟨i0, hi0, hz0, hz1, hz2⟩ := info_parts call_info
  go_enter Try.func19, Try.ntmps19
  go_wp2_with (at_make; refine wpList_make_full _ rfl _ _ 30 rfl w.heap.size 45 i0 (.agg #[.int .i64 0, .int .i64 0, .int .i64 0]) 3 Try.underlying30 hi0 hz0 hz1 _ _ _ _ n rfl rfl rfl rfl (by rw [hz2]; omega) (by unfold maxLen; omega) (Nat.le_refl _) ?_; intro w1 hown1 hgrow1)
  have hb1 := below_of_only hgrow1 (Nat.le_refl _) (by intro k hk; cases hk)
  obtain ⟨xs0, hxs0⟩ : ∃ xs0, (madeCells (Value.cells (.agg #[.int .i64 0, .int .i64 0, .int .i64 0])) (n * 3)).toList = xs0 := ⟨_, rfl⟩
  rw [hxs0] at hown1
  have hxl : xs0.length = n * 3 := hown1.1
  have H1 := hide (And.intro hown1 hb1)
  have Hl := hide (And.intro hl hxl)
  clear hown1 hgrow1 hb1 hxs0 hl hxl
  go_loopw [4] (fun i wr => ∃ k : Nat, k ≤ n ∧ i = .int .i64 k ∧ Hid (wr.ownsRow w.heap.size 45 3 (.slice (some ⟨w.heap.size, 0, none⟩) n n) n (cellsC (cs.take k) ++ xs0.drop (k * 3)) ∧ Below w.heap.size w wr)) (fun i _ => n - (intOf i).toNat)
  case atStart => exact ⟨0, Nat.zero_le _, rfl, by simpa [cellsC] using H1.out.1, H1.out.2⟩
  case round =>
    obtain ⟨k, hk, rfl, hr⟩ := hrel
    by_cases hlt : k < n
    · obtain ⟨b1, o1, f, t, x, rfl, hb1, hz, c1, c2, c3⟩ := RdC.at_ Ha.out hlt
      have d1 := (hr.out.2.cell (p := ⟨b1, o1 + k * 3, none⟩) hb1).trans c1
      have d2 := (hr.out.2.cell (p := ⟨b1, o1 + k * 3 + 1, none⟩) hb1).trans c2
      have d3 := (hr.out.2.cell (p := ⟨b1, o1 + k * 3 + 2, none⟩) hb1).trans c3
      have Hz := hide hz
      clear hz c1 c2 c3
      have hlt' : (k : Int) < (n : Int) := by omega
      have hzr := hr.out.2.size
      go_wp2_with fail
      refine (toCall_any f t x _).mono ?_
      rintro e w3 ⟨rfl, hb⟩
      have ho3 := own_below hr.out.1 hb (Nat.le_refl _)
      have hB3 := hide (Below.trans hr.out.2 (hb.mono hzr))
      clear hb hr
      have e0 := ho3.cellAt (k * 3) (by omega)
      have e1 := ho3.cellAt (k * 3 + 1) (by omega)
      have e2 := ho3.cellAt (k * 3 + 2) (by omega)
      have hlen : (cellsC (cs.take k) ++ xs0.drop (k * 3)).length = n * 3 := ho3.1
      rw [List.getElem?_eq_getElem (by omega)] at e0 e1 e2
      have f0 := ho3.frozenAt (k * 3)
      have f1 := ho3.frozenAt (k * 3 + 1)
      have f2 := ho3.frozenAt (k * 3 + 2)
      have s1 := ho3.stored (k * 3) (.int .i64 f)
      have s2 := s1.1.stored (k * 3 + 1) (.int .i64 t)
      have s3 := s2.1.stored (k * 3 + 2) (.int .i64 x)
      have h3 := s3.1
      rw [set_mid3 _ _ _ _ _ _ (by rw [cellsC_len]; have := Hl.out.1; simp; omega) (by have := Hl.out.2; omega)] at h3
      have Hs := hide (And.intro h3 (And.intro s1.2 (And.intro s2.2 s3.2)))
      clear s1 s2 s3 h3 ho3
      go_wp2_with fail
      go_roundw
      case rel =>
        refine ⟨k + 1, by omega, by go_num, ?_, ?_⟩
        · rw [cellsC_snoc Hz.out]; exact Hs.out.1
        · exact ((hB3.out.grown Hs.out.2.1 hB3.out.size (by intro j hj; cases hj; exact Nat.le_refl _)).grown Hs.out.2.2.1 (by have := hB3.out.size; have := Hs.out.2.1.size; omega) (by intro j hj; cases hj; exact Nat.le_refl _)).grown Hs.out.2.2.2 (by have := hB3.out.size; have := Hs.out.2.1.size; have := Hs.out.2.2.1.size; omega) (by intro j hj; cases hj; exact Nat.le_refl _)
      case measure => simp [intOf]; omega
    · obtain rfl : k = n := by omega
      have Hr := hr.out
      clear hr
      rw [List.drop_eq_nil_of_le (by have := Hl.out.2; omega), List.append_nil, List.take_of_length_le (by have := Hl.out.1; omega)] at Hr
      have HH := hide Hr
      clear Hr
      go_wp2_with fail
      go_ret
      exact ⟨_, _, _, rfl, HH.out.1, HH.out.2⟩

set_option maxHeartbeats 400000 in
theorem eqCall_same (f t c : Int) (w : World) :
    Calls Try.prog 50 #[.agg #[.int .i64 f, .int .i64 t, .int .i64 c], .agg #[.int .i64 f, .int .i64 t, .int .i64 c]] w fun e w' => e = .returned (.bool true) ∧ Below w.heap.size w w' := by
  go_enter Try.func50, Try.ntmps50
  go_wp2_with fail
  go_ret
  exact ⟨rfl, (by repeat (first | (with_reducible exact Below.refl _ _) | (with_reducible refine Below.drew ?_) | (with_reducible refine below_drewN ?_ _) | ((with_reducible refine Below.alloc ?_ ?_ _); rotate_left; (focus (first | (simp; done) | (simp; omega) | omega))) | ((with_reducible refine Below.setCell ?_ ?_ _); rotate_left; (focus (first | (simp; done) | (simp; omega) | omega))) | ((with_reducible refine Below.trans ?_ (Below.mono Hb.out ?_)); rotate_left; (focus (first | (simp; done) | (simp; omega) | omega))) | ((with_reducible refine Below.trans ?_ (Below.mono Hb16.out ?_)); rotate_left; (focus (first | (simp; done) | (simp; omega) | omega))) | ((with_reducible refine Below.trans ?_ (Below.mono Hb15.out ?_)); rotate_left; (focus (first | (simp; done) | (simp; omega) | omega))) | ((with_reducible refine Below.trans ?_ (Below.mono Hb14.out ?_)); rotate_left; (focus (first | (simp; done) | (simp; omega) | omega))) | ((with_reducible refine Below.trans ?_ (Below.mono Hb13.out ?_)); rotate_left; (focus (first | (simp; done) | (simp; omega) | omega))) | ((with_reducible refine Below.trans ?_ (Below.mono Hb12.out ?_)); rotate_left; (focus (first | (simp; done) | (simp; omega) | omega))) | ((with_reducible refine Below.trans ?_ (Below.mono Hb11.out ?_)); rotate_left; (focus (first | (simp; done) | (simp; omega) | omega))) | ((with_reducible refine Below.trans ?_ (Below.mono Hb10.out ?_)); rotate_left; (focus (first | (simp; done) | (simp; omega) | omega))) | ((with_reducible refine Below.trans ?_ (Below.mono Hb9.out ?_)); rotate_left; (focus (first | (simp; done) | (simp; omega) | omega))) | ((with_reducible refine Below.trans ?_ (Below.mono Hb8.out ?_)); rotate_left; (focus (first | (simp; done) | (simp; omega) | omega))) | ((with_reducible refine Below.trans ?_ (Below.mono Hb7.out ?_)); rotate_left; (focus (first | (simp; done) | (simp; omega) | omega))) | ((with_reducible refine Below.trans ?_ (Below.mono Hb6.out ?_)); rotate_left; (focus (first | (simp; done) | (simp; omega) | omega))) | ((with_reducible refine Below.trans ?_ (Below.mono Hb5.out ?_)); rotate_left; (focus (first | (simp; done) | (simp; omega) | omega))) | ((with_reducible refine Below.trans ?_ (Below.mono Hb4.out ?_)); rotate_left; (focus (first | (simp; done) | (simp; omega) | omega))) | ((with_reducible refine Below.trans ?_ (Below.mono Hb3.out ?_)); rotate_left; (focus (first | (simp; done) | (simp; omega) | omega))) | ((with_reducible refine Below.trans ?_ (Below.mono Hb2.out ?_)); rotate_left; (focus (first | (simp; done) | (simp; omega) | omega))) | ((with_reducible refine Below.trans ?_ (Below.mono Hb1.out ?_)); rotate_left; (focus (first | (simp; done) | (simp; omega) | omega))) | ((with_reducible refine Below.trans ?_ (below_of_only Hg16.out ?_ ?_)); rotate_left; (focus (first | (simp; done) | (simp; omega) | omega)); (intro k hk; cases hk; omega)) | ((with_reducible refine Below.trans ?_ (below_of_only Hg15.out ?_ ?_)); rotate_left; (focus (first | (simp; done) | (simp; omega) | omega)); (intro k hk; cases hk; omega)) | ((with_reducible refine Below.trans ?_ (below_of_only Hg14.out ?_ ?_)); rotate_left; (focus (first | (simp; done) | (simp; omega) | omega)); (intro k hk; cases hk; omega)) | ((with_reducible refine Below.trans ?_ (below_of_only Hg13.out ?_ ?_)); rotate_left; (focus (first | (simp; done) | (simp; omega) | omega)); (intro k hk; cases hk; omega)) | ((with_reducible refine Below.trans ?_ (below_of_only Hg12.out ?_ ?_)); rotate_left; (focus (first | (simp; done) | (simp; omega) | omega)); (intro k hk; cases hk; omega)) | ((with_reducible refine Below.trans ?_ (below_of_only Hg11.out ?_ ?_)); rotate_left; (focus (first | (simp; done) | (simp; omega) | omega)); (intro k hk; cases hk; omega)) | ((with_reducible refine Below.trans ?_ (below_of_only Hg10.out ?_ ?_)); rotate_left; (focus (first | (simp; done) | (simp; omega) | omega)); (intro k hk; cases hk; omega)) | ((with_reducible refine Below.trans ?_ (below_of_only Hg9.out ?_ ?_)); rotate_left; (focus (first | (simp; done) | (simp; omega) | omega)); (intro k hk; cases hk; omega)) | ((with_reducible refine Below.trans ?_ (below_of_only Hg8.out ?_ ?_)); rotate_left; (focus (first | (simp; done) | (simp; omega) | omega)); (intro k hk; cases hk; omega)) | ((with_reducible refine Below.trans ?_ (below_of_only Hg7.out ?_ ?_)); rotate_left; (focus (first | (simp; done) | (simp; omega) | omega)); (intro k hk; cases hk; omega)) | ((with_reducible refine Below.trans ?_ (below_of_only Hg6.out ?_ ?_)); rotate_left; (focus (first | (simp; done) | (simp; omega) | omega)); (intro k hk; cases hk; omega)) | ((with_reducible refine Below.trans ?_ (below_of_only Hg5.out ?_ ?_)); rotate_left; (focus (first | (simp; done) | (simp; omega) | omega)); (intro k hk; cases hk; omega)) | ((with_reducible refine Below.trans ?_ (below_of_only Hg4.out ?_ ?_)); rotate_left; (focus (first | (simp; done) | (simp; omega) | omega)); (intro k hk; cases hk; omega)) | ((with_reducible refine Below.trans ?_ (below_of_only Hg3.out ?_ ?_)); rotate_left; (focus (first | (simp; done) | (simp; omega) | omega)); (intro k hk; cases hk; omega)) | ((with_reducible refine Below.trans ?_ (below_of_only Hg2.out ?_ ?_)); rotate_left; (focus (first | (simp; done) | (simp; omega) | omega)); (intro k hk; cases hk; omega)) | ((with_reducible refine Below.trans ?_ (below_of_only Hg1.out ?_ ?_)); rotate_left; (focus (first | (simp; done) | (simp; omega) | omega)); (intro k hk; cases hk; omega))))⟩
set_option maxHeartbeats 1000000 in
theorem eqCallS_same (A B : Option Addr) (n c m d : Nat) (cs : List CallQ) (w : World) (hn : n ≤ 1048576) (ha : RdC w A n cs) (hb : RdC w B m cs) :
    Calls Try.prog 21 #[.slice A n c, .slice B m d] w fun e w' => e = .returned (.bool true) ∧ Below w.heap.size w w' := by
  obtain rfl : n = m := by rw [← RdC.len ha, ← RdC.len hb]
  have Ha := hide ha
  have Hb' := hide hb
  clear ha hb
  go_enter Try.func21, Try.ntmps21
  go_wp2_with fail
  go_loopw [5] (fun i wr => ∃ k : Nat, k ≤ n ∧ i = .int .i64 k ∧ Hid (Below w.heap.size w wr)) (fun i _ => n - (intOf i).toNat)
  case atStart => exact ⟨0, Nat.zero_le _, rfl, hide (Below.refl _ _)⟩
  case round =>
    obtain ⟨k, hk, rfl, Hb⟩ := hrel
    have hzr := Hb.out.size
    by_cases hlt : k < n
    · obtain ⟨b1, o1, f, t, x, rfl, hb1, hz, c1, c2, c3⟩ := RdC.at_ Ha.out hlt
      obtain ⟨b2, o2, f2, t2, x2, rfl, hb2, hz2, g1, g2, g3⟩ := RdC.at_ Hb'.out hlt
      rw [hz] at hz2
      have hz3 := Option.some.inj hz2
      injection hz3 with e1 e2
      injection e2 with e2 e3
      subst e1 e2 e3
      have d1 := (Hb.out.cell (p := ⟨b1, o1 + k * 3, none⟩) hb1).trans c1
      have d2 := (Hb.out.cell (p := ⟨b1, o1 + k * 3 + 1, none⟩) hb1).trans c2
      have d3 := (Hb.out.cell (p := ⟨b1, o1 + k * 3 + 2, none⟩) hb1).trans c3
      have d4 := (Hb.out.cell (p := ⟨b2, o2 + k * 3, none⟩) hb2).trans g1
      have d5 := (Hb.out.cell (p := ⟨b2, o2 + k * 3 + 1, none⟩) hb2).trans g2
      have d6 := (Hb.out.cell (p := ⟨b2, o2 + k * 3 + 2, none⟩) hb2).trans g3
      have hlt1 : b1 < wr.heap.size := by omega
      have hlt2 : b2 < wr.heap.size := by omega
      clear hz hz2 c1 c2 c3 g1 g2 g3
      have hlt' : (k : Int) < (n : Int) := by omega
      go_wp2_with fail
      go_region_held3 (fun w' => w'.cell? ⟨b1, o1 + k * 3, none⟩ = some (.int .i64 f) ∧ w'.cell? ⟨b1, o1 + k * 3 + 1, none⟩ = some (.int .i64 t) ∧ w'.cell? ⟨b1, o1 + k * 3 + 2, none⟩ = some (.int .i64 x) ∧ w'.cell? ⟨b2, o2 + k * 3, none⟩ = some (.int .i64 f) ∧ w'.cell? ⟨b2, o2 + k * 3 + 1, none⟩ = some (.int .i64 t) ∧ w'.cell? ⟨b2, o2 + k * 3 + 2, none⟩ = some (.int .i64 x)) (first | go_keep | exact ⟨by assumption, by assumption, by assumption, by assumption, by assumption, by assumption⟩)
        (first
        | ( go_at_call 50
            refine (eqCall_same f t x _).mono ?_
            rintro e w3 ⟨rfl, hb⟩
            have h1 := (hb.cell (p := ⟨b1, o1 + k * 3, none⟩) (by simpa using hlt1)).trans d1
            have h2 := (hb.cell (p := ⟨b1, o1 + k * 3 + 1, none⟩) (by simpa using hlt1)).trans d2
            have h3 := (hb.cell (p := ⟨b1, o1 + k * 3 + 2, none⟩) (by simpa using hlt1)).trans d3
            have h4 := (hb.cell (p := ⟨b2, o2 + k * 3, none⟩) (by simpa using hlt2)).trans d4
            have h5 := (hb.cell (p := ⟨b2, o2 + k * 3 + 1, none⟩) (by simpa using hlt2)).trans d5
            have h6 := (hb.cell (p := ⟨b2, o2 + k * 3 + 2, none⟩) (by simpa using hlt2)).trans d6
            have Hb3 := hide hb
            have hz3 := hb.size
            try simp at hz3
            clear hb ))
      go_wp2_with fail
      go_roundw
      case rel => exact ⟨k + 1, by omega, by go_num, hide (by repeat (first | (with_reducible exact Below.refl _ _) | (with_reducible refine Below.drew ?_) | (with_reducible refine below_drewN ?_ _) | ((with_reducible refine Below.alloc ?_ ?_ _); rotate_left; (focus (first | (simp; done) | (simp; omega) | omega))) | ((with_reducible refine Below.setCell ?_ ?_ _); rotate_left; (focus (first | (simp; done) | (simp; omega) | omega))) | ((with_reducible refine Below.trans ?_ (Below.mono Hb.out ?_)); rotate_left; (focus (first | (simp; done) | (simp; omega) | omega))) | ((with_reducible refine Below.trans ?_ (Below.mono Hb16.out ?_)); rotate_left; (focus (first | (simp; done) | (simp; omega) | omega))) | ((with_reducible refine Below.trans ?_ (Below.mono Hb15.out ?_)); rotate_left; (focus (first | (simp; done) | (simp; omega) | omega))) | ((with_reducible refine Below.trans ?_ (Below.mono Hb14.out ?_)); rotate_left; (focus (first | (simp; done) | (simp; omega) | omega))) | ((with_reducible refine Below.trans ?_ (Below.mono Hb13.out ?_)); rotate_left; (focus (first | (simp; done) | (simp; omega) | omega))) | ((with_reducible refine Below.trans ?_ (Below.mono Hb12.out ?_)); rotate_left; (focus (first | (simp; done) | (simp; omega) | omega))) | ((with_reducible refine Below.trans ?_ (Below.mono Hb11.out ?_)); rotate_left; (focus (first | (simp; done) | (simp; omega) | omega))) | ((with_reducible refine Below.trans ?_ (Below.mono Hb10.out ?_)); rotate_left; (focus (first | (simp; done) | (simp; omega) | omega))) | ((with_reducible refine Below.trans ?_ (Below.mono Hb9.out ?_)); rotate_left; (focus (first | (simp; done) | (simp; omega) | omega))) | ((with_reducible refine Below.trans ?_ (Below.mono Hb8.out ?_)); rotate_left; (focus (first | (simp; done) | (simp; omega) | omega))) | ((with_reducible refine Below.trans ?_ (Below.mono Hb7.out ?_)); rotate_left; (focus (first | (simp; done) | (simp; omega) | omega))) | ((with_reducible refine Below.trans ?_ (Below.mono Hb6.out ?_)); rotate_left; (focus (first | (simp; done) | (simp; omega) | omega))) | ((with_reducible refine Below.trans ?_ (Below.mono Hb5.out ?_)); rotate_left; (focus (first | (simp; done) | (simp; omega) | omega))) | ((with_reducible refine Below.trans ?_ (Below.mono Hb4.out ?_)); rotate_left; (focus (first | (simp; done) | (simp; omega) | omega))) | ((with_reducible refine Below.trans ?_ (Below.mono Hb3.out ?_)); rotate_left; (focus (first | (simp; done) | (simp; omega) | omega))) | ((with_reducible refine Below.trans ?_ (Below.mono Hb2.out ?_)); rotate_left; (focus (first | (simp; done) | (simp; omega) | omega))) | ((with_reducible refine Below.trans ?_ (Below.mono Hb1.out ?_)); rotate_left; (focus (first | (simp; done) | (simp; omega) | omega))) | ((with_reducible refine Below.trans ?_ (below_of_only Hg16.out ?_ ?_)); rotate_left; (focus (first | (simp; done) | (simp; omega) | omega)); (intro k hk; cases hk; omega)) | ((with_reducible refine Below.trans ?_ (below_of_only Hg15.out ?_ ?_)); rotate_left; (focus (first | (simp; done) | (simp; omega) | omega)); (intro k hk; cases hk; omega)) | ((with_reducible refine Below.trans ?_ (below_of_only Hg14.out ?_ ?_)); rotate_left; (focus (first | (simp; done) | (simp; omega) | omega)); (intro k hk; cases hk; omega)) | ((with_reducible refine Below.trans ?_ (below_of_only Hg13.out ?_ ?_)); rotate_left; (focus (first | (simp; done) | (simp; omega) | omega)); (intro k hk; cases hk; omega)) | ((with_reducible refine Below.trans ?_ (below_of_only Hg12.out ?_ ?_)); rotate_left; (focus (first | (simp; done) | (simp; omega) | omega)); (intro k hk; cases hk; omega)) | ((with_reducible refine Below.trans ?_ (below_of_only Hg11.out ?_ ?_)); rotate_left; (focus (first | (simp; done) | (simp; omega) | omega)); (intro k hk; cases hk; omega)) | ((with_reducible refine Below.trans ?_ (below_of_only Hg10.out ?_ ?_)); rotate_left; (focus (first | (simp; done) | (simp; omega) | omega)); (intro k hk; cases hk; omega)) | ((with_reducible refine Below.trans ?_ (below_of_only Hg9.out ?_ ?_)); rotate_left; (focus (first | (simp; done) | (simp; omega) | omega)); (intro k hk; cases hk; omega)) | ((with_reducible refine Below.trans ?_ (below_of_only Hg8.out ?_ ?_)); rotate_left; (focus (first | (simp; done) | (simp; omega) | omega)); (intro k hk; cases hk; omega)) | ((with_reducible refine Below.trans ?_ (below_of_only Hg7.out ?_ ?_)); rotate_left; (focus (first | (simp; done) | (simp; omega) | omega)); (intro k hk; cases hk; omega)) | ((with_reducible refine Below.trans ?_ (below_of_only Hg6.out ?_ ?_)); rotate_left; (focus (first | (simp; done) | (simp; omega) | omega)); (intro k hk; cases hk; omega)) | ((with_reducible refine Below.trans ?_ (below_of_only Hg5.out ?_ ?_)); rotate_left; (focus (first | (simp; done) | (simp; omega) | omega)); (intro k hk; cases hk; omega)) | ((with_reducible refine Below.trans ?_ (below_of_only Hg4.out ?_ ?_)); rotate_left; (focus (first | (simp; done) | (simp; omega) | omega)); (intro k hk; cases hk; omega)) | ((with_reducible refine Below.trans ?_ (below_of_only Hg3.out ?_ ?_)); rotate_left; (focus (first | (simp; done) | (simp; omega) | omega)); (intro k hk; cases hk; omega)) | ((with_reducible refine Below.trans ?_ (below_of_only Hg2.out ?_ ?_)); rotate_left; (focus (first | (simp; done) | (simp; omega) | omega)); (intro k hk; cases hk; omega)) | ((with_reducible refine Below.trans ?_ (below_of_only Hg1.out ?_ ?_)); rotate_left; (focus (first | (simp; done) | (simp; omega) | omega)); (intro k hk; cases hk; omega))))⟩
      case measure => simp [intOf]; omega
    · go_wp2_with fail
      go_ret
      exact ⟨rfl, Hb.out⟩
set_option maxHeartbeats 400000 in
theorem szCallS_any (A : Option Addr) (n c : Nat) (w : World) (h0 : n ≤ 1048576) :
    Calls Try.prog 17 #[.slice A n c, .int .i64 1048576] w fun e w' => e = .returned (.int .i64 (1048576 - (n : Int))) ∧ w = w' := by
  have h0' : ¬ (1048576 - (n : Int) < 0) := by omega
  have h1' : 0 ≤ 1048576 - (n : Int) := by omega
  go_enter Try.func17, Try.ntmps17
  go_wp2_with fail
  go_ret
  exact ⟨rfl, rfl⟩
set_option maxHeartbeats 400000 in
theorem szCallS_big (A : Option Addr) (n c : Nat) (w : World) (h0 : 1048576 < n) (h2 : n ≤ 140737488355328) :
    Calls Try.prog 17 #[.slice A n c, .int .i64 1048576] w fun e w' => e = .returned (.int .i64 (-1)) ∧ w = w' := by
  have h0' : 1048576 - (n : Int) < 0 := by omega
  go_enter Try.func17, Try.ntmps17
  go_wp2_with fail
  go_ret
  exact ⟨rfl, rfl⟩
end Go.Proofs.Ytmhaclhcllndeaa
