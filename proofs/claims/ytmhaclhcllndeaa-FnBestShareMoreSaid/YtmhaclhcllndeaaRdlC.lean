/-
  Slices of calls behind new blocks and draws; a slice of calls too long for a law.
-/
import Derived.Test.YtmhaclhcllndeaaCallsB
import Derived.Test.YtmhaclhcllndeaaRdl
namespace Go.Proofs.Ytmhaclhcllndeaa
open Go.RowKit

theorem RdC.al {w : World} {A : Option Addr} {n : Nat} {cs : List CallQ} (h : RdC w A n cs) (o : Obj) : RdC (w.alloc o) A n cs := Rd.alloc h o
theorem RdC.dr {w : World} {A : Option Addr} {n : Nat} {cs : List CallQ} (h : RdC w A n cs) : RdC w.drew A n cs := Rd.drew h
theorem RdC.drN {w : World} {A : Option Addr} {n : Nat} {cs : List CallQ} (h : RdC w A n cs) (q : Nat) : RdC (w.drewN q) A n cs := Rd.drewN h q
theorem RdC.below {w w' : World} {B : Nat} {A : Option Addr} {n : Nat} {cs : List CallQ} (h : RdC w A n cs) (hb : Below B w w') (hB : w.heap.size ≤ B) : RdC w' A n cs := Rd.below h hb hB
set_option maxHeartbeats 400000 in
theorem szCallS_big2 (A : Option Addr) (n c : Nat) (w : World) (h0 : 1048576 < n) (h2 : n ≤ maxLen) :
    Calls Try.prog 17 #[.slice A n c, .int .i64 1048576] w fun e w' => e = .returned (.int .i64 (-1)) ∧ w = w' := by
  have h0' : 1048576 - (n : Int) < 0 := by omega
  have hw : IntKind.i64.wrap (1048576 - (n : Int)) = 1048576 - (n : Int) := IntWalk.i64_in _ (by unfold maxLen at h2; omega)
  clear h2
  go_enter Try.func17, Try.ntmps17
  go_wp2_with fail
  all_goals first
    | (go_ret; exact ⟨rfl, rfl⟩)
    | (exfalso; simp_all; done)
    | (exfalso; rw [hw] at *; omega)
end Go.Proofs.Ytmhaclhcllndeaa
