/-
  Directions of calls, the calls up to a time, marks in slices of calls.
-/
import Derived.Test.YtmhaclhcllndeaaCallsB
import Derived.Test.YtmhaclhcllndeaaDr
namespace Go.Proofs.Ytmhaclhcllndeaa
open Go.RowKit
set_option linter.unusedSimpArgs false
set_option linter.unusedVariables false

theorem one3 (f t c : Int) : ∀ u ∈ [Value.int .i64 f, Value.int .i64 t, Value.int .i64 c], u.oneCell' = true := by
  intro u hu
  simp at hu
  rcases hu with rfl | rfl | rfl <;> rfl

def dirK (f t c : Int) : Int := if vK f t c = true then (if f < t then 1 else -1) else 0

/-- The calls up to a time. -/
def until_ (cs : List CallQ) (time : Int) : List CallQ := cs.filter fun c => decide (c.2.2 ≤ time)
def untilC (cs : List CallQ) (time : Int) : List CallQ := if vCs cs = true then until_ cs time else []
theorem until_succ {cs : List CallQ} {k : Nat} {x : CallQ} (h : cs[k]? = some x) (time : Int) : until_ (cs.take (k + 1)) time = until_ (cs.take k) time ++ (if x.2.2 ≤ time then [x] else []) := by
  unfold until_
  rw [take_snoc _ _ _ h, List.filter_append]
  by_cases hx : x.2.2 ≤ time <;> simp [hx]
theorem until_len (cs : List CallQ) (time : Int) (k : Nat) : (until_ (cs.take k) time).length ≤ k :=
  Nat.le_trans (List.length_filter_le _ _) (List.length_take_le _ _)


theorem set_marks {B0 : Nat} {w : World} {g n c k : Nat} {k0 : Int} {xs : List Value} (hx : xs.length = n * 3) (hk : k < n)
    (ho : w.ownsRow B0 45 3 (.slice (some ⟨g, 0, none⟩) n c) n ((marksI k0 (k * 3)).map (Value.int .i64) ++ xs.drop (k * 3))) :
    (((w.setCell ⟨g, k * 3, none⟩ (.int .i64 (k0 + 3 * (k : Int)))).setCell ⟨g, k * 3 + 1, none⟩ (.int .i64 (k0 + 3 * (k : Int) + 1))).setCell ⟨g, k * 3 + 2, none⟩ (.int .i64 (k0 + 3 * (k : Int) + 1 + 1))).ownsRow B0 45 3 (.slice (some ⟨g, 0, none⟩) n c) n ((marksI k0 ((k + 1) * 3)).map (Value.int .i64) ++ xs.drop ((k + 1) * 3)) ∧
    w.grownBy (((w.setCell ⟨g, k * 3, none⟩ (.int .i64 (k0 + 3 * (k : Int)))).setCell ⟨g, k * 3 + 1, none⟩ (.int .i64 (k0 + 3 * (k : Int) + 1))).setCell ⟨g, k * 3 + 2, none⟩ (.int .i64 (k0 + 3 * (k : Int) + 1 + 1))) (Value.slice (some ⟨g, 0, none⟩) n c).ownBlock := by
  have s1 := ho.stored (k * 3) (.int .i64 (k0 + 3 * (k : Int)))
  have s2 := s1.1.stored (k * 3 + 1) (.int .i64 (k0 + 3 * (k : Int) + 1))
  have s3 := s2.1.stored (k * 3 + 2) (.int .i64 (k0 + 3 * (k : Int) + 1 + 1))
  have h3 := s3.1
  rw [set_mid3 _ _ _ _ _ _ (by simp [marksI_len]) (by omega)] at h3
  refine ⟨?_, only_trans (only_trans s1.2 s2.2) s3.2⟩
  have e : marksI k0 ((k + 1) * 3) = marksI k0 (k * 3) ++ [k0 + 3 * (k : Int), k0 + 3 * (k : Int) + 1, k0 + 3 * (k : Int) + 1 + 1] := by
    rw [show (k + 1) * 3 = k * 3 + 1 + 1 + 1 by omega, marksI_succ, marksI_succ, marksI_succ]
    simp only [List.append_assoc, List.cons_append, List.nil_append, List.cons.injEq, and_true, List.append_cancel_left_eq]
    refine ⟨by omega, by omega, by omega⟩
  rw [e, List.map_append]
  exact h3
set_option maxHeartbeats 1000000 in
theorem markCallS_any (B0 : Nat) (A : Option Addr) (n c : Nat) (k0 : Int) (xs : List Value) (w : World) (hn : n ≤ 1048576) (h0 : 0 ≤ k0) (h1 : k0 ≤ 1073741824) (ho : w.ownsRow B0 45 3 (.slice A n c) n xs) :
    Calls Try.prog 25 #[.slice A n c, .int .i64 k0] w fun e w' => e = .returned (.int .i64 (k0 + 3 * n)) ∧ w'.ownsRow B0 45 3 (.slice A n c) n ((marksI k0 (n * 3)).map (Value.int .i64)) ∧ w.grownBy w' (Value.slice A n c).ownBlock := by
  have hxl : xs.length = n * 3 := ho.1
  have Hxl := hide hxl
  have Ho := hide ho
  clear ho hxl
  go_enter Try.func25, Try.ntmps25
  go_wp2_with fail
  go_loopw [1, 5] (fun kk i wr => ∃ k : Nat, k ≤ n ∧ i = .int .i64 k ∧ kk = .int .i64 (k0 + 3 * k) ∧ Hid (wr.ownsRow B0 45 3 (.slice A n c) n ((marksI k0 (k * 3)).map (Value.int .i64) ++ xs.drop (k * 3)) ∧ w.grownBy wr (Value.slice A n c).ownBlock)) (fun _ i _ => n - (intOf i).toNat)
  case atStart => exact ⟨0, Nat.zero_le _, rfl, int_eq (by simp), by simpa [marksI] using Ho.out, World.grownBy.refl _ _⟩
  case round =>
    obtain ⟨k, hk, rfl, rfl, hr⟩ := hrel
    by_cases hlt : k < n
    · obtain ⟨g, rfl, _, _⟩ := sizeC_cur hr.out.1 (by omega)
      have Hs := hide (set_marks Hxl.out hlt hr.out.1)
      have hlen := hr.out.1.1
      have e0 := hr.out.1.cellAt (k * 3) (by omega)
      have e1 := hr.out.1.cellAt (k * 3 + 1) (by omega)
      have e2 := hr.out.1.cellAt (k * 3 + 2) (by omega)
      rw [List.getElem?_eq_getElem (by omega)] at e0 e1 e2
      have f0 := hr.out.1.frozenAt (k * 3)
      have f1 := hr.out.1.frozenAt (k * 3 + 1)
      have f2 := hr.out.1.frozenAt (k * 3 + 2)
      have Hr := hr
      clear hr
      have hlt' : (k : Int) < (n : Int) := by omega
      go_wp2_with fail
      go_roundw
      case rel => exact ⟨k + 1, by omega, by go_num, int_eq (by omega), Hs.out.1, only_trans Hr.out.2 Hs.out.2⟩
      case measure => simp [intOf]; omega
    · obtain rfl : k = n := by omega
      have Hr := hr.out
      clear hr
      rw [List.drop_eq_nil_of_le (by have := Hxl.out; omega), List.append_nil] at Hr
      have HH := hide Hr
      clear Hr
      go_wp2_with fail
      go_ret
      exact ⟨rfl, HH.out.1, HH.out.2⟩
end Go.Proofs.Ytmhaclhcllndeaa
