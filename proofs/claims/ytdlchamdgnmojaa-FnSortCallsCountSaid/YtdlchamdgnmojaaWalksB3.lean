/-
  The walks of the laws on sorted calls.
-/
import Derived.Test.YtdlchamdgnmojaaSortJ
import Derived.Test.YtdlchamdgnmojaaDrawCalls
import Derived.Test.YtdlchamdgnmojaaRdlC
namespace Go.Proofs.Ytdlchamdgnmojaa
open Go.RowKit
set_option linter.unusedSimpArgs false
set_option linter.unusedVariables false

/-- The address of a slice: none only if it has no element. -/
def Sl (A : Option Addr) (n : Nat) : Prop := (A = none ∨ ∃ b off, A = some ⟨b, off, none⟩) ∧ (A = none → n = 0)
theorem Sl.of_own {w : World} {base : Nat} {e : TypeId} {size n c : Nat} {A : Option Addr} {xs : List Value} (h : w.ownsRow base e size (.slice A n c) n xs) : Sl A n := by
  rcases h.2 with ⟨h1, h2⟩ | ⟨g, cap, cur, hv, _⟩
  · injection h1 with a b d
    exact ⟨.inl a, fun _ => h2⟩
  · injection hv with a b d
    subst a
    exact ⟨.inr ⟨g, 0, rfl⟩, fun h => by cases h⟩
theorem Sl.of_ownA {A : Option Addr} {n c : Nat} (h : OwnA A n c) : Sl A n := by
  rcases h with ⟨a, b, _⟩ | ⟨g, a, _⟩
  · exact ⟨.inl a, fun _ => b⟩
  · exact ⟨.inr ⟨g, 0, a⟩, fun h => by rw [a] at h; cases h⟩
theorem SortCalls_I (A : Option Addr) (n c : Nat) (cs : List CallQ) (w : World) (hn : n ≤ 1048576) (hA : Sl A n) (ha : RdC w A n cs) :
    Calls Try.prog 21 #[.slice A n c] w (RetCs w (sortedK cs)) := SortCalls_i A n c cs w hn hA.1 ha hA.2
set_option maxHeartbeats 1000000 in
theorem SortCalls_S (A : Option Addr) (n c : Nat) (cs : List CallQ) (w : World) (hn : n ≤ 1048576) (hA : Sl A n) (ha : RdC w A n cs) :
    Calls Try.prog 20 #[.slice A n c] w (RetCs w (sortedK cs)) := by
  have Ha := hide ha
  clear ha
  rw [sortedK_eq]
  cases hv : vCs cs
  · have Hv := hide hv
    clear hv
    go_enter Try.func20, Try.ntmps20
    go_wp2_with fail
    refine (validCalls_s A n c cs _ hn Ha.out).mono ?_
    rintro e w1 ⟨rfl, hb⟩
    rw [Hv.out]
    have Hb1 := hide hb
    clear hb
    go_wp2_with fail
    go_ret
    exact ⟨none, 0, 0, rfl, ⟨rfl, .inl ⟨rfl, rfl⟩⟩, Hb1.out⟩
  · have Hv := hide hv
    clear hv
    go_enter Try.func20, Try.ntmps20
    go_wp2_with fail
    refine (validCalls_s A n c cs _ hn Ha.out).mono ?_
    rintro e w1 ⟨rfl, hb⟩
    rw [Hv.out]
    have Hb1 := hide hb
    have hz1 := hb.size
    clear hb
    go_wp2_with fail
    refine (sortCalls_s A n c cs _ hn hA.1 (Rd.below Ha.out Hb1.out (Nat.le_refl _)) hA.2).mono ?_
    rintro e w2 ⟨A2, n2, c2, rfl, ho, hb⟩
    have HF := hide (show w2.ownsRow w.heap.size 25 3 (.slice A2 n2 c2) n2 (cellsC (insL cs)) ∧ Below w.heap.size w w2 from ⟨own_base ho hz1, Hb1.out.trans (hb.mono hz1)⟩)
    clear ho hb
    go_wp2_with fail
    go_ret
    exact ⟨A2, n2, c2, rfl, HF.out.1, HF.out.2⟩
theorem until_insL (cs : List CallQ) (t : Int) : (until_ (insL cs) t).length = (until_ cs t).length ∧ until_ (insL cs) t = (insL cs).take (until_ cs t).length := by
  have h1 : (until_ (insL cs) t).length = (until_ cs t).length := ((insL_perm cs).filter _).length_eq
  refine ⟨h1, ?_⟩
  rw [← h1]
  exact filter_take_asc t _ (insL_asc cs)

set_option maxHeartbeats 4000000 in
theorem fnExactSortCalls_walk (A1 : Option Addr) (n1 c1 : Nat) (z1 : List CallQ) (w : World) (hc : n1 ≤ c1 ∧ c1 ≤ maxLen) (r1 : RdC w A1 n1 z1) :
    Calls Try.prog 5 #[.slice A1 n1 c1] w fun e w' => e = .returned (.bool true) ∧ Below w.heap.size w w' := by
  have hle := sortedK_len z1
  have R_a := hide r1
  have D_a := hide (Rd.old r1)
  have hl1 := RdC.len r1
  have Hl1 := hide hl1
  have Hc := hide hc
  clear r1 hl1 hc
  by_cases h1 : 1048576 < n1
  · go_enter Try.func5, Try.ntmps5
    go_wp2_with fail
    refine (szCallS_big2 A1 n1 c1 _ h1 (by have := Hc.out; omega)).mono ?_
    rintro e w' ⟨rfl, rfl⟩
    go_wp2_with fail
    go_ret
    exact ⟨rfl, Below.refl _ _⟩
  have h1' : (n1 : Int) ≤ 1048576 := by omega
  have h2' : ¬ (1048576 - (n1 : Int) < 0) := by omega
  go_enter Try.func5, Try.ntmps5
  go_wp2_with fail
  refine (szCallS_any A1 n1 c1 _ (by omega)).mono ?_
  rintro e w' ⟨rfl, rfl⟩
  go_wp2_with fail
  refine (toCallS_any A1 n1 c1 z1 _ (by omega) (by repeat (first | exact R_a.out | exact Rd.of_own O_a.out | (with_reducible refine RdC.al ?_ _) | (with_reducible refine RdC.dr ?_) | (with_reducible refine RdC.drN ?_ _) | (with_reducible refine RdI.al ?_ _) | (with_reducible refine RdI.dr ?_) | (with_reducible refine RdI.drN ?_ _) | (with_reducible refine Rd.alloc ?_ _) | (with_reducible refine Rd.drew ?_) | (with_reducible refine Rd.drewN ?_ _)))).mono ?_
  rintro e w1 ⟨A_p, n_p, c_p, rfl, ho, hb⟩
  have hz1 := hb.size
  try simp at hz1
  replace R_a := hide (show Rd w1 3 A1 n1 (cellsC z1) from Rd.below (by repeat (first | exact R_a.out | (with_reducible refine Rd.alloc ?_ _) | (with_reducible refine Rd.drew ?_) | (with_reducible refine Rd.drewN ?_ _))) hb (Nat.le_refl _))
  have Hb1 := hide hb
  clear hb
  have LU_p := hide (fun k h => (⟨(own_lt_old ho k h).1, by have := (own_lt_old ho k h).2; (first | omega | (simp at this; omega))⟩ : k < w1.heap.size ∧ w.heap.size ≤ k))
  have O_p := hide (show World.ownsRow w1 w.heap.size 25 3 (.slice A_p n_p c_p) n_p (cellsC z1) from own_base ho (by first | omega | (simp; omega)))
  clear ho
  have N_p : n_p ≤ n1 := by have h := RdLEN_call (Rd.of_own O_p.out); have := Hl1.out; omega
  go_wp2_with fail
  refine (SortCalls_S A_p n_p c_p z1 _ (by omega) (Sl.of_own O_p.out) (by repeat (first | exact Rd.of_own O_p.out | (with_reducible refine RdC.al ?_ _) | (with_reducible refine RdC.dr ?_) | (with_reducible refine RdC.drN ?_ _) | (with_reducible refine RdI.al ?_ _) | (with_reducible refine RdI.dr ?_) | (with_reducible refine RdI.drN ?_ _) | (with_reducible refine Rd.alloc ?_ _) | (with_reducible refine Rd.drew ?_) | (with_reducible refine Rd.drewN ?_ _)))).mono ?_
  rintro e w2 ⟨A_W, n_W, c_W, rfl, ho, hb⟩
  have hz2 := hb.size
  try simp at hz2
  replace R_a := hide (show Rd w2 3 A1 n1 (cellsC z1) from Rd.below (by repeat (first | exact R_a.out | (with_reducible refine Rd.alloc ?_ _) | (with_reducible refine Rd.drew ?_) | (with_reducible refine Rd.drewN ?_ _))) hb (Nat.le_refl _))
  replace O_p := hide (show World.ownsRow w2 w.heap.size 25 3 (.slice A_p n_p c_p) n_p (cellsC z1) from own_below (by repeat (first | exact O_p.out | (with_reducible refine World.ownsRow.alloc ?_ _) | (with_reducible refine World.ownsRow.drew ?_) | (with_reducible refine own_drewN ?_ _))) hb (Nat.le_refl _))
  have Hb2 := hide hb
  clear hb
  have LU_W := hide (fun k h => (⟨(own_lt_old ho k h).1, by have := (own_lt_old ho k h).2; (first | omega | (simp at this; omega))⟩ : k < w2.heap.size ∧ w1.heap.size ≤ k))
  have O_W := hide (show World.ownsRow w2 w.heap.size 25 3 (.slice A_W n_W c_W) n_W (cellsC (sortedK z1)) from own_base ho (by first | omega | (simp; omega)))
  clear ho
  have N_W : n_W ≤ 12 := by have h := RdLEN_call (Rd.of_own O_W.out); omega
  clear O_p LU_p
  go_wp2_with fail
  refine (toCallS_any A1 n1 c1 z1 _ (by omega) (by repeat (first | exact R_a.out | exact Rd.of_own O_a.out | (with_reducible refine RdC.al ?_ _) | (with_reducible refine RdC.dr ?_) | (with_reducible refine RdC.drN ?_ _) | (with_reducible refine RdI.al ?_ _) | (with_reducible refine RdI.dr ?_) | (with_reducible refine RdI.drN ?_ _) | (with_reducible refine Rd.alloc ?_ _) | (with_reducible refine Rd.drew ?_) | (with_reducible refine Rd.drewN ?_ _)))).mono ?_
  rintro e w3 ⟨A_x, n_x, c_x, rfl, ho, hb⟩
  have hz3 := hb.size
  try simp at hz3
  replace R_a := hide (show Rd w3 3 A1 n1 (cellsC z1) from Rd.below (by repeat (first | exact R_a.out | (with_reducible refine Rd.alloc ?_ _) | (with_reducible refine Rd.drew ?_) | (with_reducible refine Rd.drewN ?_ _))) hb (Nat.le_refl _))
  replace O_W := hide (show World.ownsRow w3 w.heap.size 25 3 (.slice A_W n_W c_W) n_W (cellsC (sortedK z1)) from own_below (by repeat (first | exact O_W.out | (with_reducible refine World.ownsRow.alloc ?_ _) | (with_reducible refine World.ownsRow.drew ?_) | (with_reducible refine own_drewN ?_ _))) hb (Nat.le_refl _))
  have Hb3 := hide hb
  clear hb
  have LU_x := hide (fun k h => (⟨(own_lt_old ho k h).1, by have := (own_lt_old ho k h).2; (first | omega | (simp at this; omega))⟩ : k < w3.heap.size ∧ w2.heap.size ≤ k))
  have O_x := hide (show World.ownsRow w3 w.heap.size 25 3 (.slice A_x n_x c_x) n_x (cellsC z1) from own_base ho (by first | omega | (simp; omega)))
  clear ho
  have N_x : n_x ≤ n1 := by have h := RdLEN_call (Rd.of_own O_x.out); have := Hl1.out; omega
  go_wp2_with fail
  refine (SortCalls_I A_x n_x c_x z1 _ (by omega) (Sl.of_own O_x.out) (by repeat (first | exact Rd.of_own O_x.out | (with_reducible refine RdC.al ?_ _) | (with_reducible refine RdC.dr ?_) | (with_reducible refine RdC.drN ?_ _) | (with_reducible refine RdI.al ?_ _) | (with_reducible refine RdI.dr ?_) | (with_reducible refine RdI.drN ?_ _) | (with_reducible refine Rd.alloc ?_ _) | (with_reducible refine Rd.drew ?_) | (with_reducible refine Rd.drewN ?_ _)))).mono ?_
  rintro e w4 ⟨A_g, n_g, c_g, rfl, ho, hb⟩
  have hz4 := hb.size
  try simp at hz4
  replace R_a := hide (show Rd w4 3 A1 n1 (cellsC z1) from Rd.below (by repeat (first | exact R_a.out | (with_reducible refine Rd.alloc ?_ _) | (with_reducible refine Rd.drew ?_) | (with_reducible refine Rd.drewN ?_ _))) hb (Nat.le_refl _))
  replace O_W := hide (show World.ownsRow w4 w.heap.size 25 3 (.slice A_W n_W c_W) n_W (cellsC (sortedK z1)) from own_below (by repeat (first | exact O_W.out | (with_reducible refine World.ownsRow.alloc ?_ _) | (with_reducible refine World.ownsRow.drew ?_) | (with_reducible refine own_drewN ?_ _))) hb (Nat.le_refl _))
  replace O_x := hide (show World.ownsRow w4 w.heap.size 25 3 (.slice A_x n_x c_x) n_x (cellsC z1) from own_below (by repeat (first | exact O_x.out | (with_reducible refine World.ownsRow.alloc ?_ _) | (with_reducible refine World.ownsRow.drew ?_) | (with_reducible refine own_drewN ?_ _))) hb (Nat.le_refl _))
  have Hb4 := hide hb
  clear hb
  have LU_g := hide (fun k h => (⟨(own_lt_old ho k h).1, by have := (own_lt_old ho k h).2; (first | omega | (simp at this; omega))⟩ : k < w4.heap.size ∧ w3.heap.size ≤ k))
  have O_g := hide (show World.ownsRow w4 w.heap.size 25 3 (.slice A_g n_g c_g) n_g (cellsC (sortedK z1)) from own_base ho (by first | omega | (simp; omega)))
  clear ho
  have N_g : n_g ≤ 12 := by have h := RdLEN_call (Rd.of_own O_g.out); omega
  go_wp2_with fail
  refine (eqCallS_same A_g A_W n_g c_g n_W c_W (sortedK z1) _ (by omega) (by repeat (first | exact Rd.of_own O_g.out | (with_reducible refine RdC.al ?_ _) | (with_reducible refine RdC.dr ?_) | (with_reducible refine RdC.drN ?_ _) | (with_reducible refine RdI.al ?_ _) | (with_reducible refine RdI.dr ?_) | (with_reducible refine RdI.drN ?_ _) | (with_reducible refine Rd.alloc ?_ _) | (with_reducible refine Rd.drew ?_) | (with_reducible refine Rd.drewN ?_ _))) (by repeat (first | exact Rd.of_own O_W.out | (with_reducible refine RdC.al ?_ _) | (with_reducible refine RdC.dr ?_) | (with_reducible refine RdC.drN ?_ _) | (with_reducible refine RdI.al ?_ _) | (with_reducible refine RdI.dr ?_) | (with_reducible refine RdI.drN ?_ _) | (with_reducible refine Rd.alloc ?_ _) | (with_reducible refine Rd.drew ?_) | (with_reducible refine Rd.drewN ?_ _)))).mono ?_
  rintro e w5 ⟨rfl, hb⟩
  have hz5 := hb.size
  try simp at hz5
  replace R_a := hide (show Rd w5 3 A1 n1 (cellsC z1) from Rd.below (by repeat (first | exact R_a.out | (with_reducible refine Rd.alloc ?_ _) | (with_reducible refine Rd.drew ?_) | (with_reducible refine Rd.drewN ?_ _))) hb (Nat.le_refl _))
  replace O_W := hide (show World.ownsRow w5 w.heap.size 25 3 (.slice A_W n_W c_W) n_W (cellsC (sortedK z1)) from own_below (by repeat (first | exact O_W.out | (with_reducible refine World.ownsRow.alloc ?_ _) | (with_reducible refine World.ownsRow.drew ?_) | (with_reducible refine own_drewN ?_ _))) hb (Nat.le_refl _))
  replace O_x := hide (show World.ownsRow w5 w.heap.size 25 3 (.slice A_x n_x c_x) n_x (cellsC z1) from own_below (by repeat (first | exact O_x.out | (with_reducible refine World.ownsRow.alloc ?_ _) | (with_reducible refine World.ownsRow.drew ?_) | (with_reducible refine own_drewN ?_ _))) hb (Nat.le_refl _))
  replace O_g := hide (show World.ownsRow w5 w.heap.size 25 3 (.slice A_g n_g c_g) n_g (cellsC (sortedK z1)) from own_below (by repeat (first | exact O_g.out | (with_reducible refine World.ownsRow.alloc ?_ _) | (with_reducible refine World.ownsRow.drew ?_) | (with_reducible refine own_drewN ?_ _))) hb (Nat.le_refl _))
  have Hb5 := hide hb
  clear hb
  go_wp2_with fail
  refine (toCallS_any A1 n1 c1 z1 _ (by omega) (by repeat (first | exact R_a.out | exact Rd.of_own O_a.out | (with_reducible refine RdC.al ?_ _) | (with_reducible refine RdC.dr ?_) | (with_reducible refine RdC.drN ?_ _) | (with_reducible refine RdI.al ?_ _) | (with_reducible refine RdI.dr ?_) | (with_reducible refine RdI.drN ?_ _) | (with_reducible refine Rd.alloc ?_ _) | (with_reducible refine Rd.drew ?_) | (with_reducible refine Rd.drewN ?_ _)))).mono ?_
  rintro e w6 ⟨A_y, n_y, c_y, rfl, ho, hb⟩
  have hz6 := hb.size
  try simp at hz6
  replace R_a := hide (show Rd w6 3 A1 n1 (cellsC z1) from Rd.below (by repeat (first | exact R_a.out | (with_reducible refine Rd.alloc ?_ _) | (with_reducible refine Rd.drew ?_) | (with_reducible refine Rd.drewN ?_ _))) hb (Nat.le_refl _))
  replace O_W := hide (show World.ownsRow w6 w.heap.size 25 3 (.slice A_W n_W c_W) n_W (cellsC (sortedK z1)) from own_below (by repeat (first | exact O_W.out | (with_reducible refine World.ownsRow.alloc ?_ _) | (with_reducible refine World.ownsRow.drew ?_) | (with_reducible refine own_drewN ?_ _))) hb (Nat.le_refl _))
  replace O_x := hide (show World.ownsRow w6 w.heap.size 25 3 (.slice A_x n_x c_x) n_x (cellsC z1) from own_below (by repeat (first | exact O_x.out | (with_reducible refine World.ownsRow.alloc ?_ _) | (with_reducible refine World.ownsRow.drew ?_) | (with_reducible refine own_drewN ?_ _))) hb (Nat.le_refl _))
  replace O_g := hide (show World.ownsRow w6 w.heap.size 25 3 (.slice A_g n_g c_g) n_g (cellsC (sortedK z1)) from own_below (by repeat (first | exact O_g.out | (with_reducible refine World.ownsRow.alloc ?_ _) | (with_reducible refine World.ownsRow.drew ?_) | (with_reducible refine own_drewN ?_ _))) hb (Nat.le_refl _))
  have Hb6 := hide hb
  clear hb
  have LU_y := hide (fun k h => (⟨(own_lt_old ho k h).1, by have := (own_lt_old ho k h).2; (first | omega | (simp at this; omega))⟩ : k < w6.heap.size ∧ w5.heap.size ≤ k))
  have O_y := hide (show World.ownsRow w6 w.heap.size 25 3 (.slice A_y n_y c_y) n_y (cellsC z1) from own_base ho (by first | omega | (simp; omega)))
  clear ho
  have N_y : n_y ≤ n1 := by have h := RdLEN_call (Rd.of_own O_y.out); have := Hl1.out; omega
  go_wp2_with fail
  refine (eqCallS_same A_x A_y n_x c_x n_y c_y (z1) _ (by omega) (by repeat (first | exact Rd.of_own O_x.out | (with_reducible refine RdC.al ?_ _) | (with_reducible refine RdC.dr ?_) | (with_reducible refine RdC.drN ?_ _) | (with_reducible refine RdI.al ?_ _) | (with_reducible refine RdI.dr ?_) | (with_reducible refine RdI.drN ?_ _) | (with_reducible refine Rd.alloc ?_ _) | (with_reducible refine Rd.drew ?_) | (with_reducible refine Rd.drewN ?_ _))) (by repeat (first | exact Rd.of_own O_y.out | (with_reducible refine RdC.al ?_ _) | (with_reducible refine RdC.dr ?_) | (with_reducible refine RdC.drN ?_ _) | (with_reducible refine RdI.al ?_ _) | (with_reducible refine RdI.dr ?_) | (with_reducible refine RdI.drN ?_ _) | (with_reducible refine Rd.alloc ?_ _) | (with_reducible refine Rd.drew ?_) | (with_reducible refine Rd.drewN ?_ _)))).mono ?_
  rintro e w7 ⟨rfl, hb⟩
  have hz7 := hb.size
  try simp at hz7
  replace R_a := hide (show Rd w7 3 A1 n1 (cellsC z1) from Rd.below (by repeat (first | exact R_a.out | (with_reducible refine Rd.alloc ?_ _) | (with_reducible refine Rd.drew ?_) | (with_reducible refine Rd.drewN ?_ _))) hb (Nat.le_refl _))
  replace O_W := hide (show World.ownsRow w7 w.heap.size 25 3 (.slice A_W n_W c_W) n_W (cellsC (sortedK z1)) from own_below (by repeat (first | exact O_W.out | (with_reducible refine World.ownsRow.alloc ?_ _) | (with_reducible refine World.ownsRow.drew ?_) | (with_reducible refine own_drewN ?_ _))) hb (Nat.le_refl _))
  replace O_x := hide (show World.ownsRow w7 w.heap.size 25 3 (.slice A_x n_x c_x) n_x (cellsC z1) from own_below (by repeat (first | exact O_x.out | (with_reducible refine World.ownsRow.alloc ?_ _) | (with_reducible refine World.ownsRow.drew ?_) | (with_reducible refine own_drewN ?_ _))) hb (Nat.le_refl _))
  replace O_g := hide (show World.ownsRow w7 w.heap.size 25 3 (.slice A_g n_g c_g) n_g (cellsC (sortedK z1)) from own_below (by repeat (first | exact O_g.out | (with_reducible refine World.ownsRow.alloc ?_ _) | (with_reducible refine World.ownsRow.drew ?_) | (with_reducible refine own_drewN ?_ _))) hb (Nat.le_refl _))
  replace O_y := hide (show World.ownsRow w7 w.heap.size 25 3 (.slice A_y n_y c_y) n_y (cellsC z1) from own_below (by repeat (first | exact O_y.out | (with_reducible refine World.ownsRow.alloc ?_ _) | (with_reducible refine World.ownsRow.drew ?_) | (with_reducible refine own_drewN ?_ _))) hb (Nat.le_refl _))
  have Hb7 := hide hb
  clear hb
  clear O_y LU_y
  go_wp2_with fail
  refine (markCallS_any _ A_x n_x c_x 1 _ _ (by omega) (by omega) (by omega) (by repeat (first | exact O_x.out | (with_reducible refine World.ownsRow.alloc ?_ _) | (with_reducible refine World.ownsRow.drew ?_) | (with_reducible refine own_drewN ?_ _)))).mono ?_
  rintro e w8 ⟨rfl, ho, hg⟩
  have hz8 := hg.size
  try simp at hz8
  have Hb8 := hide (below_of_only (B := w.heap.size) hg (by (first | omega | (simp; omega))) (fun k hk => by have := LU_x.out k hk; omega))
  replace O_W := hide (show World.ownsRow w8 w.heap.size 25 3 (.slice A_W n_W c_W) n_W (cellsC (sortedK z1)) from own_kept2 (by repeat (first | exact O_W.out | (with_reducible refine World.ownsRow.alloc ?_ _) | (with_reducible refine World.ownsRow.drew ?_) | (with_reducible refine own_drewN ?_ _))) hg (fun k h1 h2 => by have := LU_W.out k h1; have := LU_x.out k h2; omega))
  replace O_g := hide (show World.ownsRow w8 w.heap.size 25 3 (.slice A_g n_g c_g) n_g (cellsC (sortedK z1)) from own_kept2 (by repeat (first | exact O_g.out | (with_reducible refine World.ownsRow.alloc ?_ _) | (with_reducible refine World.ownsRow.drew ?_) | (with_reducible refine own_drewN ?_ _))) hg (fun k h1 h2 => by have := LU_g.out k h1; have := LU_x.out k h2; omega))
  replace R_a := hide (show Rd w8 3 A1 n1 (cellsC z1) from Rd.grown (by repeat (first | exact R_a.out | exact Rd.of_own O_a.out | (with_reducible refine RdI.al ?_ _) | (with_reducible refine RdI.dr ?_) | (with_reducible refine RdI.drN ?_ _) | (with_reducible refine Rd.alloc ?_ _) | (with_reducible refine Rd.drew ?_) | (with_reducible refine Rd.drewN ?_ _))) hg (fun hn b off e h2 => by have := D_a.out hn b off e; have := LU_x.out b h2.symm; omega))
  replace O_x := hide (show World.ownsRow w8 w.heap.size 25 3 (.slice A_x n_x c_x) n_x ((marksI 1 (n_x * 3)).map (Value.int .i64)) from ho)
  clear ho hg
  clear O_x LU_x
  go_wp2_with fail
  refine (eqCallS_same A_g A_W n_g c_g n_W c_W (sortedK z1) _ (by omega) (by repeat (first | exact Rd.of_own O_g.out | (with_reducible refine RdC.al ?_ _) | (with_reducible refine RdC.dr ?_) | (with_reducible refine RdC.drN ?_ _) | (with_reducible refine RdI.al ?_ _) | (with_reducible refine RdI.dr ?_) | (with_reducible refine RdI.drN ?_ _) | (with_reducible refine Rd.alloc ?_ _) | (with_reducible refine Rd.drew ?_) | (with_reducible refine Rd.drewN ?_ _))) (by repeat (first | exact Rd.of_own O_W.out | (with_reducible refine RdC.al ?_ _) | (with_reducible refine RdC.dr ?_) | (with_reducible refine RdC.drN ?_ _) | (with_reducible refine RdI.al ?_ _) | (with_reducible refine RdI.dr ?_) | (with_reducible refine RdI.drN ?_ _) | (with_reducible refine Rd.alloc ?_ _) | (with_reducible refine Rd.drew ?_) | (with_reducible refine Rd.drewN ?_ _)))).mono ?_
  rintro e w9 ⟨rfl, hb⟩
  have hz9 := hb.size
  try simp at hz9
  replace R_a := hide (show Rd w9 3 A1 n1 (cellsC z1) from Rd.below (by repeat (first | exact R_a.out | (with_reducible refine Rd.alloc ?_ _) | (with_reducible refine Rd.drew ?_) | (with_reducible refine Rd.drewN ?_ _))) hb (Nat.le_refl _))
  replace O_W := hide (show World.ownsRow w9 w.heap.size 25 3 (.slice A_W n_W c_W) n_W (cellsC (sortedK z1)) from own_below (by repeat (first | exact O_W.out | (with_reducible refine World.ownsRow.alloc ?_ _) | (with_reducible refine World.ownsRow.drew ?_) | (with_reducible refine own_drewN ?_ _))) hb (Nat.le_refl _))
  replace O_g := hide (show World.ownsRow w9 w.heap.size 25 3 (.slice A_g n_g c_g) n_g (cellsC (sortedK z1)) from own_below (by repeat (first | exact O_g.out | (with_reducible refine World.ownsRow.alloc ?_ _) | (with_reducible refine World.ownsRow.drew ?_) | (with_reducible refine own_drewN ?_ _))) hb (Nat.le_refl _))
  have Hb9 := hide hb
  clear hb
  go_wp2_with fail
  refine (markCallS_any _ A_g n_g c_g 1 _ _ (by omega) (by omega) (by omega) (by repeat (first | exact O_g.out | (with_reducible refine World.ownsRow.alloc ?_ _) | (with_reducible refine World.ownsRow.drew ?_) | (with_reducible refine own_drewN ?_ _)))).mono ?_
  rintro e w10 ⟨rfl, ho, hg⟩
  have hz10 := hg.size
  try simp at hz10
  have Hb10 := hide (below_of_only (B := w.heap.size) hg (by (first | omega | (simp; omega))) (fun k hk => by have := LU_g.out k hk; omega))
  replace O_W := hide (show World.ownsRow w10 w.heap.size 25 3 (.slice A_W n_W c_W) n_W (cellsC (sortedK z1)) from own_kept2 (by repeat (first | exact O_W.out | (with_reducible refine World.ownsRow.alloc ?_ _) | (with_reducible refine World.ownsRow.drew ?_) | (with_reducible refine own_drewN ?_ _))) hg (fun k h1 h2 => by have := LU_W.out k h1; have := LU_g.out k h2; omega))
  replace R_a := hide (show Rd w10 3 A1 n1 (cellsC z1) from Rd.grown (by repeat (first | exact R_a.out | exact Rd.of_own O_a.out | (with_reducible refine RdI.al ?_ _) | (with_reducible refine RdI.dr ?_) | (with_reducible refine RdI.drN ?_ _) | (with_reducible refine Rd.alloc ?_ _) | (with_reducible refine Rd.drew ?_) | (with_reducible refine Rd.drewN ?_ _))) hg (fun hn b off e h2 => by have := D_a.out hn b off e; have := LU_g.out b h2.symm; omega))
  replace O_g := hide (show World.ownsRow w10 w.heap.size 25 3 (.slice A_g n_g c_g) n_g ((marksI 1 (n_g * 3)).map (Value.int .i64)) from ho)
  clear ho hg
  go_wp2_with fail
  refine (heldCallS_ok A_g n_g c_g 1 _ (by omega) (by omega) (by omega) (by repeat (first | exact Rd.of_own O_g.out | (with_reducible refine RdC.al ?_ _) | (with_reducible refine RdC.dr ?_) | (with_reducible refine RdC.drN ?_ _) | (with_reducible refine RdI.al ?_ _) | (with_reducible refine RdI.dr ?_) | (with_reducible refine RdI.drN ?_ _) | (with_reducible refine Rd.alloc ?_ _) | (with_reducible refine Rd.drew ?_) | (with_reducible refine Rd.drewN ?_ _)))).mono ?_
  rintro e wq1 ⟨rfl, q1, rfl⟩
  go_wp2_with fail
  refine (toCallS_any A1 n1 c1 z1 _ (by omega) (by repeat (first | exact R_a.out | exact Rd.of_own O_a.out | (with_reducible refine RdC.al ?_ _) | (with_reducible refine RdC.dr ?_) | (with_reducible refine RdC.drN ?_ _) | (with_reducible refine RdI.al ?_ _) | (with_reducible refine RdI.dr ?_) | (with_reducible refine RdI.drN ?_ _) | (with_reducible refine Rd.alloc ?_ _) | (with_reducible refine Rd.drew ?_) | (with_reducible refine Rd.drewN ?_ _)))).mono ?_
  rintro e w11 ⟨A_q, n_q, c_q, rfl, ho, hb⟩
  have hz11 := hb.size
  try simp at hz11
  replace R_a := hide (show Rd w11 3 A1 n1 (cellsC z1) from Rd.below (by repeat (first | exact R_a.out | (with_reducible refine Rd.alloc ?_ _) | (with_reducible refine Rd.drew ?_) | (with_reducible refine Rd.drewN ?_ _))) hb (Nat.le_refl _))
  replace O_W := hide (show World.ownsRow w11 w.heap.size 25 3 (.slice A_W n_W c_W) n_W (cellsC (sortedK z1)) from own_below (by repeat (first | exact O_W.out | (with_reducible refine World.ownsRow.alloc ?_ _) | (with_reducible refine World.ownsRow.drew ?_) | (with_reducible refine own_drewN ?_ _))) hb (Nat.le_refl _))
  replace O_g := hide (show World.ownsRow w11 w.heap.size 25 3 (.slice A_g n_g c_g) n_g ((marksI 1 (n_g * 3)).map (Value.int .i64)) from own_below (by repeat (first | exact O_g.out | (with_reducible refine World.ownsRow.alloc ?_ _) | (with_reducible refine World.ownsRow.drew ?_) | (with_reducible refine own_drewN ?_ _))) hb (Nat.le_refl _))
  have Hb11 := hide hb
  clear hb
  have LU_q := hide (fun k h => (⟨(own_lt_old ho k h).1, by have := (own_lt_old ho k h).2; (first | omega | (simp at this; omega))⟩ : k < w11.heap.size ∧ w10.heap.size ≤ k))
  have O_q := hide (show World.ownsRow w11 w.heap.size 25 3 (.slice A_q n_q c_q) n_q (cellsC z1) from own_base ho (by first | omega | (simp; omega)))
  clear ho
  have N_q : n_q ≤ n1 := by have h := RdLEN_call (Rd.of_own O_q.out); have := Hl1.out; omega
  go_wp2_with fail
  refine (SortCalls_I A_q n_q c_q z1 _ (by omega) (Sl.of_own O_q.out) (by repeat (first | exact Rd.of_own O_q.out | (with_reducible refine RdC.al ?_ _) | (with_reducible refine RdC.dr ?_) | (with_reducible refine RdC.drN ?_ _) | (with_reducible refine RdI.al ?_ _) | (with_reducible refine RdI.dr ?_) | (with_reducible refine RdI.drN ?_ _) | (with_reducible refine Rd.alloc ?_ _) | (with_reducible refine Rd.drew ?_) | (with_reducible refine Rd.drewN ?_ _)))).mono ?_
  rintro e w12 ⟨A_h, n_h, c_h, rfl, ho, hb⟩
  have hz12 := hb.size
  try simp at hz12
  replace R_a := hide (show Rd w12 3 A1 n1 (cellsC z1) from Rd.below (by repeat (first | exact R_a.out | (with_reducible refine Rd.alloc ?_ _) | (with_reducible refine Rd.drew ?_) | (with_reducible refine Rd.drewN ?_ _))) hb (Nat.le_refl _))
  replace O_W := hide (show World.ownsRow w12 w.heap.size 25 3 (.slice A_W n_W c_W) n_W (cellsC (sortedK z1)) from own_below (by repeat (first | exact O_W.out | (with_reducible refine World.ownsRow.alloc ?_ _) | (with_reducible refine World.ownsRow.drew ?_) | (with_reducible refine own_drewN ?_ _))) hb (Nat.le_refl _))
  replace O_g := hide (show World.ownsRow w12 w.heap.size 25 3 (.slice A_g n_g c_g) n_g ((marksI 1 (n_g * 3)).map (Value.int .i64)) from own_below (by repeat (first | exact O_g.out | (with_reducible refine World.ownsRow.alloc ?_ _) | (with_reducible refine World.ownsRow.drew ?_) | (with_reducible refine own_drewN ?_ _))) hb (Nat.le_refl _))
  replace O_q := hide (show World.ownsRow w12 w.heap.size 25 3 (.slice A_q n_q c_q) n_q (cellsC z1) from own_below (by repeat (first | exact O_q.out | (with_reducible refine World.ownsRow.alloc ?_ _) | (with_reducible refine World.ownsRow.drew ?_) | (with_reducible refine own_drewN ?_ _))) hb (Nat.le_refl _))
  have Hb12 := hide hb
  clear hb
  have LU_h := hide (fun k h => (⟨(own_lt_old ho k h).1, by have := (own_lt_old ho k h).2; (first | omega | (simp at this; omega))⟩ : k < w12.heap.size ∧ w11.heap.size ≤ k))
  have O_h := hide (show World.ownsRow w12 w.heap.size 25 3 (.slice A_h n_h c_h) n_h (cellsC (sortedK z1)) from own_base ho (by first | omega | (simp; omega)))
  clear ho
  have N_h : n_h ≤ 12 := by have h := RdLEN_call (Rd.of_own O_h.out); omega
  go_wp2_with fail
  refine (eqCallS_same A_h A_W n_h c_h n_W c_W (sortedK z1) _ (by omega) (by repeat (first | exact Rd.of_own O_h.out | (with_reducible refine RdC.al ?_ _) | (with_reducible refine RdC.dr ?_) | (with_reducible refine RdC.drN ?_ _) | (with_reducible refine RdI.al ?_ _) | (with_reducible refine RdI.dr ?_) | (with_reducible refine RdI.drN ?_ _) | (with_reducible refine Rd.alloc ?_ _) | (with_reducible refine Rd.drew ?_) | (with_reducible refine Rd.drewN ?_ _))) (by repeat (first | exact Rd.of_own O_W.out | (with_reducible refine RdC.al ?_ _) | (with_reducible refine RdC.dr ?_) | (with_reducible refine RdC.drN ?_ _) | (with_reducible refine RdI.al ?_ _) | (with_reducible refine RdI.dr ?_) | (with_reducible refine RdI.drN ?_ _) | (with_reducible refine Rd.alloc ?_ _) | (with_reducible refine Rd.drew ?_) | (with_reducible refine Rd.drewN ?_ _)))).mono ?_
  rintro e w13 ⟨rfl, hb⟩
  have hz13 := hb.size
  try simp at hz13
  replace R_a := hide (show Rd w13 3 A1 n1 (cellsC z1) from Rd.below (by repeat (first | exact R_a.out | (with_reducible refine Rd.alloc ?_ _) | (with_reducible refine Rd.drew ?_) | (with_reducible refine Rd.drewN ?_ _))) hb (Nat.le_refl _))
  replace O_W := hide (show World.ownsRow w13 w.heap.size 25 3 (.slice A_W n_W c_W) n_W (cellsC (sortedK z1)) from own_below (by repeat (first | exact O_W.out | (with_reducible refine World.ownsRow.alloc ?_ _) | (with_reducible refine World.ownsRow.drew ?_) | (with_reducible refine own_drewN ?_ _))) hb (Nat.le_refl _))
  replace O_g := hide (show World.ownsRow w13 w.heap.size 25 3 (.slice A_g n_g c_g) n_g ((marksI 1 (n_g * 3)).map (Value.int .i64)) from own_below (by repeat (first | exact O_g.out | (with_reducible refine World.ownsRow.alloc ?_ _) | (with_reducible refine World.ownsRow.drew ?_) | (with_reducible refine own_drewN ?_ _))) hb (Nat.le_refl _))
  replace O_q := hide (show World.ownsRow w13 w.heap.size 25 3 (.slice A_q n_q c_q) n_q (cellsC z1) from own_below (by repeat (first | exact O_q.out | (with_reducible refine World.ownsRow.alloc ?_ _) | (with_reducible refine World.ownsRow.drew ?_) | (with_reducible refine own_drewN ?_ _))) hb (Nat.le_refl _))
  replace O_h := hide (show World.ownsRow w13 w.heap.size 25 3 (.slice A_h n_h c_h) n_h (cellsC (sortedK z1)) from own_below (by repeat (first | exact O_h.out | (with_reducible refine World.ownsRow.alloc ?_ _) | (with_reducible refine World.ownsRow.drew ?_) | (with_reducible refine own_drewN ?_ _))) hb (Nat.le_refl _))
  have Hb13 := hide hb
  clear hb
  go_wp2_with fail
  refine (heldCallS_ok A_g n_g c_g 1 _ (by omega) (by omega) (by omega) (by repeat (first | exact Rd.of_own O_g.out | (with_reducible refine RdC.al ?_ _) | (with_reducible refine RdC.dr ?_) | (with_reducible refine RdC.drN ?_ _) | (with_reducible refine RdI.al ?_ _) | (with_reducible refine RdI.dr ?_) | (with_reducible refine RdI.drN ?_ _) | (with_reducible refine Rd.alloc ?_ _) | (with_reducible refine Rd.drew ?_) | (with_reducible refine Rd.drewN ?_ _)))).mono ?_
  rintro e wq2 ⟨rfl, q2, rfl⟩
  go_wp2_with fail
  go_ret
  exact ⟨rfl, (by repeat (first | (with_reducible exact Below.refl _ _) | (with_reducible refine Below.drew ?_) | (with_reducible refine below_drewN ?_ _) | ((with_reducible refine Below.alloc ?_ ?_ _); rotate_left; (focus (first | (simp; done) | (simp; omega) | omega))) | ((with_reducible refine Below.setCell ?_ ?_ _); rotate_left; (focus (first | (simp; done) | (simp; omega) | omega))) | ((with_reducible refine Below.trans ?_ (Below.mono Hb.out ?_)); rotate_left; (focus (first | (simp; done) | (simp; omega) | omega))) | ((with_reducible refine Below.trans ?_ (Below.mono Hb16.out ?_)); rotate_left; (focus (first | (simp; done) | (simp; omega) | omega))) | ((with_reducible refine Below.trans ?_ (Below.mono Hb15.out ?_)); rotate_left; (focus (first | (simp; done) | (simp; omega) | omega))) | ((with_reducible refine Below.trans ?_ (Below.mono Hb14.out ?_)); rotate_left; (focus (first | (simp; done) | (simp; omega) | omega))) | ((with_reducible refine Below.trans ?_ (Below.mono Hb13.out ?_)); rotate_left; (focus (first | (simp; done) | (simp; omega) | omega))) | ((with_reducible refine Below.trans ?_ (Below.mono Hb12.out ?_)); rotate_left; (focus (first | (simp; done) | (simp; omega) | omega))) | ((with_reducible refine Below.trans ?_ (Below.mono Hb11.out ?_)); rotate_left; (focus (first | (simp; done) | (simp; omega) | omega))) | ((with_reducible refine Below.trans ?_ (Below.mono Hb10.out ?_)); rotate_left; (focus (first | (simp; done) | (simp; omega) | omega))) | ((with_reducible refine Below.trans ?_ (Below.mono Hb9.out ?_)); rotate_left; (focus (first | (simp; done) | (simp; omega) | omega))) | ((with_reducible refine Below.trans ?_ (Below.mono Hb8.out ?_)); rotate_left; (focus (first | (simp; done) | (simp; omega) | omega))) | ((with_reducible refine Below.trans ?_ (Below.mono Hb7.out ?_)); rotate_left; (focus (first | (simp; done) | (simp; omega) | omega))) | ((with_reducible refine Below.trans ?_ (Below.mono Hb6.out ?_)); rotate_left; (focus (first | (simp; done) | (simp; omega) | omega))) | ((with_reducible refine Below.trans ?_ (Below.mono Hb5.out ?_)); rotate_left; (focus (first | (simp; done) | (simp; omega) | omega))) | ((with_reducible refine Below.trans ?_ (Below.mono Hb4.out ?_)); rotate_left; (focus (first | (simp; done) | (simp; omega) | omega))) | ((with_reducible refine Below.trans ?_ (Below.mono Hb3.out ?_)); rotate_left; (focus (first | (simp; done) | (simp; omega) | omega))) | ((with_reducible refine Below.trans ?_ (Below.mono Hb2.out ?_)); rotate_left; (focus (first | (simp; done) | (simp; omega) | omega))) | ((with_reducible refine Below.trans ?_ (Below.mono Hb1.out ?_)); rotate_left; (focus (first | (simp; done) | (simp; omega) | omega))) | ((with_reducible refine Below.trans ?_ (below_of_only Hg16.out ?_ ?_)); rotate_left; (focus (first | (simp; done) | (simp; omega) | omega)); (intro k hk; cases hk; omega)) | ((with_reducible refine Below.trans ?_ (below_of_only Hg15.out ?_ ?_)); rotate_left; (focus (first | (simp; done) | (simp; omega) | omega)); (intro k hk; cases hk; omega)) | ((with_reducible refine Below.trans ?_ (below_of_only Hg14.out ?_ ?_)); rotate_left; (focus (first | (simp; done) | (simp; omega) | omega)); (intro k hk; cases hk; omega)) | ((with_reducible refine Below.trans ?_ (below_of_only Hg13.out ?_ ?_)); rotate_left; (focus (first | (simp; done) | (simp; omega) | omega)); (intro k hk; cases hk; omega)) | ((with_reducible refine Below.trans ?_ (below_of_only Hg12.out ?_ ?_)); rotate_left; (focus (first | (simp; done) | (simp; omega) | omega)); (intro k hk; cases hk; omega)) | ((with_reducible refine Below.trans ?_ (below_of_only Hg11.out ?_ ?_)); rotate_left; (focus (first | (simp; done) | (simp; omega) | omega)); (intro k hk; cases hk; omega)) | ((with_reducible refine Below.trans ?_ (below_of_only Hg10.out ?_ ?_)); rotate_left; (focus (first | (simp; done) | (simp; omega) | omega)); (intro k hk; cases hk; omega)) | ((with_reducible refine Below.trans ?_ (below_of_only Hg9.out ?_ ?_)); rotate_left; (focus (first | (simp; done) | (simp; omega) | omega)); (intro k hk; cases hk; omega)) | ((with_reducible refine Below.trans ?_ (below_of_only Hg8.out ?_ ?_)); rotate_left; (focus (first | (simp; done) | (simp; omega) | omega)); (intro k hk; cases hk; omega)) | ((with_reducible refine Below.trans ?_ (below_of_only Hg7.out ?_ ?_)); rotate_left; (focus (first | (simp; done) | (simp; omega) | omega)); (intro k hk; cases hk; omega)) | ((with_reducible refine Below.trans ?_ (below_of_only Hg6.out ?_ ?_)); rotate_left; (focus (first | (simp; done) | (simp; omega) | omega)); (intro k hk; cases hk; omega)) | ((with_reducible refine Below.trans ?_ (below_of_only Hg5.out ?_ ?_)); rotate_left; (focus (first | (simp; done) | (simp; omega) | omega)); (intro k hk; cases hk; omega)) | ((with_reducible refine Below.trans ?_ (below_of_only Hg4.out ?_ ?_)); rotate_left; (focus (first | (simp; done) | (simp; omega) | omega)); (intro k hk; cases hk; omega)) | ((with_reducible refine Below.trans ?_ (below_of_only Hg3.out ?_ ?_)); rotate_left; (focus (first | (simp; done) | (simp; omega) | omega)); (intro k hk; cases hk; omega)) | ((with_reducible refine Below.trans ?_ (below_of_only Hg2.out ?_ ?_)); rotate_left; (focus (first | (simp; done) | (simp; omega) | omega)); (intro k hk; cases hk; omega)) | ((with_reducible refine Below.trans ?_ (below_of_only Hg1.out ?_ ?_)); rotate_left; (focus (first | (simp; done) | (simp; omega) | omega)); (intro k hk; cases hk; omega))))⟩

end Go.Proofs.Ytdlchamdgnmojaa
