/-
  The walks of the laws on runs of a car.
-/
import Derived.Test.YteclciglngidkaaRunCar
import Derived.Test.YteclciglngidkaaDrawRunCar
import Derived.Test.YteclciglngidkaaLaw8
import Derived.Laws.StructEq
namespace Go.Proofs.Yteclciglngidkaa
open Go.RowKit
set_option linter.unusedSimpArgs false
set_option linter.unusedVariables false

/-- What a run hands back, written out. -/
def RetR5 (d1 d2 d3 : Int) (d4 : Bool) (m : Int) (w : World) (e : Ending) (w' : World) : Prop := e = .returned (.tuple #[.agg #[.int .i64 d1, .int .i64 d2, .int .i64 d3, .bool d4], .int .i64 m]) ∧ Below w.heap.size w w'
theorem RunCar_i5 (f h l : Int) (o : Bool) (A : Option Addr) (n c : Nat) (zs : List Int) (d1 d2 d3 : Int) (d4 : Bool) (m : Int) (w : World) (hn : n ≤ 1048576) (ha : RdI w .i64 A n zs) (hq : cRun f h l o zs = ((d1, d2, d3, d4), m)) :
    Calls Try.prog 9 #[.agg #[.int .i64 f, .int .i64 h, .int .i64 l, .bool o], .slice A n c] w (RetR5 d1 d2 d3 d4 m w) := by
  have := RunCar_i f h l o A n c zs w hn ha
  rw [hq] at this
  exact this
theorem RunCar_s5 (f h l : Int) (o : Bool) (A : Option Addr) (n c : Nat) (zs : List Int) (d1 d2 d3 : Int) (d4 : Bool) (m : Int) (w : World) (hn : n ≤ 1048576) (ha : RdI w .i64 A n zs) (hq : cRun f h l o zs = ((d1, d2, d3, d4), m)) :
    Calls Try.prog 10 #[.agg #[.int .i64 f, .int .i64 h, .int .i64 l, .bool o], .slice A n c] w (RetR5 d1 d2 d3 d4 m w) := by
  have := RunCar_s f h l o A n c zs w hn ha
  rw [hq] at this
  exact this
theorem cRun_runC {f h l : Int} {o : Bool} {zs : List Int} {x : CarQ} {m : Int} (hq : cRun f h l o zs = (x, m)) (hm : 0 ≤ m) :
    vC f h l o = true ∧ zs.length ≤ 40 ∧ runC (f, h, l, o) zs = (x, m.toNat) := by
  unfold cRun at hq
  split at hq
  · rename_i hc
    injection hq with h1 h2
    refine ⟨hc.1, hc.2, ?_⟩
    rw [← h1, ← h2]
    simp
  · injection hq with h1 h2
    omega
theorem run_eq {q x y : CarQ} {zs : List Int} {m k : Nat} (h1 : runC q zs = (x, m)) (h2 : runC q zs = (y, k)) : x = y ∧ m = k := by
  rw [h1] at h2
  injection h2 with a b
  exact ⟨a, b⟩


end Go.Proofs.Yteclciglngidkaa
