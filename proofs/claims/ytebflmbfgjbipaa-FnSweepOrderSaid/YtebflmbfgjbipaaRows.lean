/-
  No cell of these rows narrows 'for every input' (looked for: loops, veiled, ifaces, maps, wideKeys, modest, calm, conditions, laid).
  DERIVED. THE GIVEN ROWS OF THIS SEAT. 13 by the template 'for every input the law returns true; each argument reads behind the call as it read before'; 0 by the template 'total and deterministic' (their statements: YtebflmbfgjbipaaTotals.lean).
  GIVEN WITH THE SEED: the statements are not yours to turn. If you find one false, say at which input.
  Laid BY PROGRAM, IN A SANDBOX (cutbox-rows.mjs): the forced cells as the released guide's own fill.sh prints them over the translation 8df208de33da1b18… (all of the seat's roots in one cut). By AI agents, Wed Nov 11 2026. No macro, syntax, notation, axiom, sorry.
-/
import Derived.Test.YtebflmbfgjbipaaChecked
import GoSem.Claim
import GoSem.ClaimJoined
import GoSem.ClaimMapViews
import Derived.JoinedTies
import Derived.KernelRfl
namespace Go.Proofs.Ytebflmbfgjbipaa
/- THE CELL 'sum', in the pinned program and in every row, IS THE sha256 OF THE DUMP (.gsa) THAT YtebflmbfgjbipaaProg.lean LOADS. Nothing in Lean hashes anything: it is a label: what it is worth is what the hold of that sum in a sandbox is worth. -/
noncomputable def Try.pinned : Pinned := { name := "ytebflmbfgjbipaa", sum := "8df208de33da1b1860ddee63cc2d91cbb14485ec8667bec58f2af21e2fd83e33", checked := Try.checked }
namespace Rows
def none {H : Type} : Left H := { results := [], args := [] }

/-- 'laws.FnExactWayOf': WHATEVER THE INPUT: true; the input reads as it did. -/
def fnExactWayOfSpec : ChangeSpec := { name := "fnExactWayOf", fn := fun _ => fun
  | [d1, d2] => { results := [.lit (.bool true)], args := [d1, d2] }
  | _ => none }
def fnExactWayOfRow : OpenClaim := { program := "ytebflmbfgjbipaa", sum := "8df208de33da1b1860ddee63cc2d91cbb14485ec8667bec58f2af21e2fd83e33", func := "loop.example/liftsandlights/laws.FnExactWayOf", spec := "fnExactWayOf", apart := false }
def FnExactWayOfSaid : Prop := fnExactWayOfRow.holds Try.pinned (OpenSpec.ofChange fnExactWayOfSpec)

/-- ITS FALSE NEIGHBOUR: 'it returns false'. Refute it at one input. -/
def fnExactWayOfWrong : ChangeSpec := { name := "fnExactWayOf", fn := fun _ => fun
  | [d1, d2] => { results := [.lit (.bool false)], args := [d1, d2] }
  | _ => none }
def FnExactWayOfWrongFalsely : Prop := fnExactWayOfRow.holds Try.pinned (OpenSpec.ofChange fnExactWayOfWrong)

/-- 'laws.FnExactNextStop': WHATEVER THE INPUT: true; the input reads as it did. -/
def fnExactNextStopSpec : ChangeSpec := { name := "fnExactNextStop", fn := fun _ => fun
  | [d1, d2, d3] => { results := [.lit (.bool true)], args := [d1, d2, d3] }
  | _ => none }
def fnExactNextStopRow : OpenClaim := { program := "ytebflmbfgjbipaa", sum := "8df208de33da1b1860ddee63cc2d91cbb14485ec8667bec58f2af21e2fd83e33", func := "loop.example/liftsandlights/laws.FnExactNextStop", spec := "fnExactNextStop", recurses := true, apart := false }
def FnExactNextStopSaid : Prop := fnExactNextStopRow.holds Try.pinned (OpenSpec.ofChange fnExactNextStopSpec)

/-- ITS FALSE NEIGHBOUR: 'it returns false'. Refute it at one input. -/
def fnExactNextStopWrong : ChangeSpec := { name := "fnExactNextStop", fn := fun _ => fun
  | [d1, d2, d3] => { results := [.lit (.bool false)], args := [d1, d2, d3] }
  | _ => none }
def FnExactNextStopWrongFalsely : Prop := fnExactNextStopRow.holds Try.pinned (OpenSpec.ofChange fnExactNextStopWrong)

/-- 'laws.FnExactSweepOrder': WHATEVER THE INPUT: true; the input reads as it did. -/
def fnExactSweepOrderSpec : ChangeSpec := { name := "fnExactSweepOrder", fn := fun _ => fun
  | [d1, d2, d3] => { results := [.lit (.bool true)], args := [d1, d2, d3] }
  | _ => none }
def fnExactSweepOrderRow : OpenClaim := { program := "ytebflmbfgjbipaa", sum := "8df208de33da1b1860ddee63cc2d91cbb14485ec8667bec58f2af21e2fd83e33", func := "loop.example/liftsandlights/laws.FnExactSweepOrder", spec := "fnExactSweepOrder", recurses := true, apart := false }
def FnExactSweepOrderSaid : Prop := fnExactSweepOrderRow.holds Try.pinned (OpenSpec.ofChange fnExactSweepOrderSpec)

/-- ITS FALSE NEIGHBOUR: 'it returns false'. Refute it at one input. -/
def fnExactSweepOrderWrong : ChangeSpec := { name := "fnExactSweepOrder", fn := fun _ => fun
  | [d1, d2, d3] => { results := [.lit (.bool false)], args := [d1, d2, d3] }
  | _ => none }
def FnExactSweepOrderWrongFalsely : Prop := fnExactSweepOrderRow.holds Try.pinned (OpenSpec.ofChange fnExactSweepOrderWrong)

/-- 'laws.FnExactBestHeading': WHATEVER THE INPUT: true; the input reads as it did. -/
def fnExactBestHeadingSpec : ChangeSpec := { name := "fnExactBestHeading", fn := fun _ => fun
  | [d1, d2] => { results := [.lit (.bool true)], args := [d1, d2] }
  | _ => none }
def fnExactBestHeadingRow : OpenClaim := { program := "ytebflmbfgjbipaa", sum := "8df208de33da1b1860ddee63cc2d91cbb14485ec8667bec58f2af21e2fd83e33", func := "loop.example/liftsandlights/laws.FnExactBestHeading", spec := "fnExactBestHeading", recurses := true, apart := false }
def FnExactBestHeadingSaid : Prop := fnExactBestHeadingRow.holds Try.pinned (OpenSpec.ofChange fnExactBestHeadingSpec)

/-- ITS FALSE NEIGHBOUR: 'it returns false'. Refute it at one input. -/
def fnExactBestHeadingWrong : ChangeSpec := { name := "fnExactBestHeading", fn := fun _ => fun
  | [d1, d2] => { results := [.lit (.bool false)], args := [d1, d2] }
  | _ => none }
def FnExactBestHeadingWrongFalsely : Prop := fnExactBestHeadingRow.holds Try.pinned (OpenSpec.ofChange fnExactBestHeadingWrong)

/-- 'laws.FnNextStop': WHATEVER THE INPUT: true; the input reads as it did. -/
def fnNextStopSpec : ChangeSpec := { name := "fnNextStop", fn := fun _ => fun
  | [d] => { results := [.lit (.bool true)], args := [d] }
  | _ => none }
def fnNextStopRow : OpenClaim := { program := "ytebflmbfgjbipaa", sum := "8df208de33da1b1860ddee63cc2d91cbb14485ec8667bec58f2af21e2fd83e33", func := "loop.example/liftsandlights/laws.FnNextStop", spec := "fnNextStop", recurses := true, apart := false }
def FnNextStopSaid : Prop := fnNextStopRow.holds Try.pinned (OpenSpec.ofChange fnNextStopSpec)

/-- ITS FALSE NEIGHBOUR: 'it returns false'. Refute it at one input. -/
def fnNextStopWrong : ChangeSpec := { name := "fnNextStop", fn := fun _ => fun
  | [d] => { results := [.lit (.bool false)], args := [d] }
  | _ => none }
def FnNextStopWrongFalsely : Prop := fnNextStopRow.holds Try.pinned (OpenSpec.ofChange fnNextStopWrong)

/-- 'laws.FnSweepOrder': WHATEVER THE INPUT: true; the input reads as it did. -/
def fnSweepOrderSpec : ChangeSpec := { name := "fnSweepOrder", fn := fun _ => fun
  | [d] => { results := [.lit (.bool true)], args := [d] }
  | _ => none }
def fnSweepOrderRow : OpenClaim := { program := "ytebflmbfgjbipaa", sum := "8df208de33da1b1860ddee63cc2d91cbb14485ec8667bec58f2af21e2fd83e33", func := "loop.example/liftsandlights/laws.FnSweepOrder", spec := "fnSweepOrder", recurses := true, apart := false }
def FnSweepOrderSaid : Prop := fnSweepOrderRow.holds Try.pinned (OpenSpec.ofChange fnSweepOrderSpec)

/-- ITS FALSE NEIGHBOUR: 'it returns false'. Refute it at one input. -/
def fnSweepOrderWrong : ChangeSpec := { name := "fnSweepOrder", fn := fun _ => fun
  | [d] => { results := [.lit (.bool false)], args := [d] }
  | _ => none }
def FnSweepOrderWrongFalsely : Prop := fnSweepOrderRow.holds Try.pinned (OpenSpec.ofChange fnSweepOrderWrong)

/-- 'laws.FnWayOfBack': WHATEVER THE INPUT: true; the input reads as it did. -/
def fnWayOfBackSpec : ChangeSpec := { name := "fnWayOfBack", fn := fun _ => fun
  | [d] => { results := [.lit (.bool true)], args := [d] }
  | _ => none }
def fnWayOfBackRow : OpenClaim := { program := "ytebflmbfgjbipaa", sum := "8df208de33da1b1860ddee63cc2d91cbb14485ec8667bec58f2af21e2fd83e33", func := "loop.example/liftsandlights/laws.FnWayOfBack", spec := "fnWayOfBack", apart := false }
def FnWayOfBackSaid : Prop := fnWayOfBackRow.holds Try.pinned (OpenSpec.ofChange fnWayOfBackSpec)

/-- ITS FALSE NEIGHBOUR: 'it returns false'. Refute it at one input. -/
def fnWayOfBackWrong : ChangeSpec := { name := "fnWayOfBack", fn := fun _ => fun
  | [d] => { results := [.lit (.bool false)], args := [d] }
  | _ => none }
def FnWayOfBackWrongFalsely : Prop := fnWayOfBackRow.holds Try.pinned (OpenSpec.ofChange fnWayOfBackWrong)

/-- 'laws.FnWayOf': WHATEVER THE INPUT: true; the input reads as it did. -/
def fnWayOfSpec : ChangeSpec := { name := "fnWayOf", fn := fun _ => fun
  | [d] => { results := [.lit (.bool true)], args := [d] }
  | _ => none }
def fnWayOfRow : OpenClaim := { program := "ytebflmbfgjbipaa", sum := "8df208de33da1b1860ddee63cc2d91cbb14485ec8667bec58f2af21e2fd83e33", func := "loop.example/liftsandlights/laws.FnWayOf", spec := "fnWayOf", apart := false }
def FnWayOfSaid : Prop := fnWayOfRow.holds Try.pinned (OpenSpec.ofChange fnWayOfSpec)

/-- ITS FALSE NEIGHBOUR: 'it returns false'. Refute it at one input. -/
def fnWayOfWrong : ChangeSpec := { name := "fnWayOf", fn := fun _ => fun
  | [d] => { results := [.lit (.bool false)], args := [d] }
  | _ => none }
def FnWayOfWrongFalsely : Prop := fnWayOfRow.holds Try.pinned (OpenSpec.ofChange fnWayOfWrong)

/-- 'laws.FnBestHeading': WHATEVER THE INPUT: true; the input reads as it did. -/
def fnBestHeadingSpec : ChangeSpec := { name := "fnBestHeading", fn := fun _ => fun
  | [d] => { results := [.lit (.bool true)], args := [d] }
  | _ => none }
def fnBestHeadingRow : OpenClaim := { program := "ytebflmbfgjbipaa", sum := "8df208de33da1b1860ddee63cc2d91cbb14485ec8667bec58f2af21e2fd83e33", func := "loop.example/liftsandlights/laws.FnBestHeading", spec := "fnBestHeading", recurses := true, apart := false }
def FnBestHeadingSaid : Prop := fnBestHeadingRow.holds Try.pinned (OpenSpec.ofChange fnBestHeadingSpec)

/-- ITS FALSE NEIGHBOUR: 'it returns false'. Refute it at one input. -/
def fnBestHeadingWrong : ChangeSpec := { name := "fnBestHeading", fn := fun _ => fun
  | [d] => { results := [.lit (.bool false)], args := [d] }
  | _ => none }
def FnBestHeadingWrongFalsely : Prop := fnBestHeadingRow.holds Try.pinned (OpenSpec.ofChange fnBestHeadingWrong)

/-- 'laws.FnSweepFirst': WHATEVER THE INPUT: true; the input reads as it did. -/
def fnSweepFirstSpec : ChangeSpec := { name := "fnSweepFirst", fn := fun _ => fun
  | [d] => { results := [.lit (.bool true)], args := [d] }
  | _ => none }
def fnSweepFirstRow : OpenClaim := { program := "ytebflmbfgjbipaa", sum := "8df208de33da1b1860ddee63cc2d91cbb14485ec8667bec58f2af21e2fd83e33", func := "loop.example/liftsandlights/laws.FnSweepFirst", spec := "fnSweepFirst", recurses := true, apart := false }
def FnSweepFirstSaid : Prop := fnSweepFirstRow.holds Try.pinned (OpenSpec.ofChange fnSweepFirstSpec)

/-- ITS FALSE NEIGHBOUR: 'it returns false'. Refute it at one input. -/
def fnSweepFirstWrong : ChangeSpec := { name := "fnSweepFirst", fn := fun _ => fun
  | [d] => { results := [.lit (.bool false)], args := [d] }
  | _ => none }
def FnSweepFirstWrongFalsely : Prop := fnSweepFirstRow.holds Try.pinned (OpenSpec.ofChange fnSweepFirstWrong)

/-- 'laws.FnSweepOrderAgain': WHATEVER THE INPUT: true; the input reads as it did. -/
def fnSweepOrderAgainSpec : ChangeSpec := { name := "fnSweepOrderAgain", fn := fun _ => fun
  | [d] => { results := [.lit (.bool true)], args := [d] }
  | _ => none }
def fnSweepOrderAgainRow : OpenClaim := { program := "ytebflmbfgjbipaa", sum := "8df208de33da1b1860ddee63cc2d91cbb14485ec8667bec58f2af21e2fd83e33", func := "loop.example/liftsandlights/laws.FnSweepOrderAgain", spec := "fnSweepOrderAgain", recurses := true, apart := false }
def FnSweepOrderAgainSaid : Prop := fnSweepOrderAgainRow.holds Try.pinned (OpenSpec.ofChange fnSweepOrderAgainSpec)

/-- ITS FALSE NEIGHBOUR: 'it returns false'. Refute it at one input. -/
def fnSweepOrderAgainWrong : ChangeSpec := { name := "fnSweepOrderAgain", fn := fun _ => fun
  | [d] => { results := [.lit (.bool false)], args := [d] }
  | _ => none }
def FnSweepOrderAgainWrongFalsely : Prop := fnSweepOrderAgainRow.holds Try.pinned (OpenSpec.ofChange fnSweepOrderAgainWrong)

/-- 'laws.FnSweepOrderMirror': WHATEVER THE INPUT: true; the input reads as it did. -/
def fnSweepOrderMirrorSpec : ChangeSpec := { name := "fnSweepOrderMirror", fn := fun _ => fun
  | [d] => { results := [.lit (.bool true)], args := [d] }
  | _ => none }
def fnSweepOrderMirrorRow : OpenClaim := { program := "ytebflmbfgjbipaa", sum := "8df208de33da1b1860ddee63cc2d91cbb14485ec8667bec58f2af21e2fd83e33", func := "loop.example/liftsandlights/laws.FnSweepOrderMirror", spec := "fnSweepOrderMirror", recurses := true, apart := false }
def FnSweepOrderMirrorSaid : Prop := fnSweepOrderMirrorRow.holds Try.pinned (OpenSpec.ofChange fnSweepOrderMirrorSpec)

/-- ITS FALSE NEIGHBOUR: 'it returns false'. Refute it at one input. -/
def fnSweepOrderMirrorWrong : ChangeSpec := { name := "fnSweepOrderMirror", fn := fun _ => fun
  | [d] => { results := [.lit (.bool false)], args := [d] }
  | _ => none }
def FnSweepOrderMirrorWrongFalsely : Prop := fnSweepOrderMirrorRow.holds Try.pinned (OpenSpec.ofChange fnSweepOrderMirrorWrong)

/-- 'laws.FnSweepShort': WHATEVER THE INPUT: true; the input reads as it did. -/
def fnSweepShortSpec : ChangeSpec := { name := "fnSweepShort", fn := fun _ => fun
  | [d] => { results := [.lit (.bool true)], args := [d] }
  | _ => none }
def fnSweepShortRow : OpenClaim := { program := "ytebflmbfgjbipaa", sum := "8df208de33da1b1860ddee63cc2d91cbb14485ec8667bec58f2af21e2fd83e33", func := "loop.example/liftsandlights/laws.FnSweepShort", spec := "fnSweepShort", recurses := true, apart := false }
def FnSweepShortSaid : Prop := fnSweepShortRow.holds Try.pinned (OpenSpec.ofChange fnSweepShortSpec)

/-- ITS FALSE NEIGHBOUR: 'it returns false'. Refute it at one input. -/
def fnSweepShortWrong : ChangeSpec := { name := "fnSweepShort", fn := fun _ => fun
  | [d] => { results := [.lit (.bool false)], args := [d] }
  | _ => none }
def FnSweepShortWrongFalsely : Prop := fnSweepShortRow.holds Try.pinned (OpenSpec.ofChange fnSweepShortWrong)

/- THE SECOND FORM. 'bulk': how many values and letters a reading holds, each counted each time it is reached (what is shared counts as often as it is met; a slice's spare places count too). A statement '..UptoSaid' is the law's where the arguments, and the package variables that the reading takes, are together of bulk at most 1048576: NARROWER than '..Said'. Prove '..Said' where nothing that the law and all that it calls make is longer than what came in: it says more and counts as full. Else prove '..UptoSaid'. A law counts once. -/
mutual
def uptoBulk {H : Type} : DataW H → Nat
  | .lit (.string bytes) => bytes.length + 1
  | .lit _ => 1
  | .nil => 1
  | .ptr d => uptoBulk d + 1
  | .slice elems spare => uptoBulkAll elems + uptoBulkAll spare + 1
  | .agg parts => uptoBulkAll parts + 1
  | .iface _ d => uptoBulk d + 1
  | .map entries => uptoBulkEntries entries + 1
  | .held _ => 1
def uptoBulkAll {H : Type} : List (DataW H) → Nat
  | [] => 0
  | d :: r => uptoBulk d + uptoBulkAll r
def uptoBulkEntries {H : Type} : List (Lit × DataW H) → Nat
  | [] => 0
  | x :: r => uptoBulkEntry x + uptoBulkEntries r
def uptoBulkEntry {H : Type} : Lit × DataW H → Nat
  | (.string bytes, d) => bytes.length + uptoBulk d + 1
  | (_, d) => uptoBulk d + 1
 end
def uptoSmall : (H : Type) → List (DataW H) → Bool := fun _ ds => decide (uptoBulkAll ds ≤ 1048576)
def OpenSpec.upto (s : _root_.Go.ChangeSpec) : _root_.Go.OpenSpec := { _root_.Go.OpenSpec.ofChange s with cond := some uptoSmall }

/-- 'laws.FnExactWayOf', WHERE WHAT IT READS IS OF BULK AT MOST 1048576: true; the input reads as it did. -/
def fnExactWayOfUptoRow : OpenClaim := { program := "ytebflmbfgjbipaa", sum := "8df208de33da1b1860ddee63cc2d91cbb14485ec8667bec58f2af21e2fd83e33", func := "loop.example/liftsandlights/laws.FnExactWayOf", spec := "fnExactWayOf", apart := false, narrowed := true }
def FnExactWayOfUptoSaid : Prop := fnExactWayOfUptoRow.holds Try.pinned (OpenSpec.upto fnExactWayOfSpec)

/-- 'laws.FnExactNextStop', WHERE WHAT IT READS IS OF BULK AT MOST 1048576: true; the input reads as it did. -/
def fnExactNextStopUptoRow : OpenClaim := { program := "ytebflmbfgjbipaa", sum := "8df208de33da1b1860ddee63cc2d91cbb14485ec8667bec58f2af21e2fd83e33", func := "loop.example/liftsandlights/laws.FnExactNextStop", spec := "fnExactNextStop", recurses := true, apart := false, narrowed := true }
def FnExactNextStopUptoSaid : Prop := fnExactNextStopUptoRow.holds Try.pinned (OpenSpec.upto fnExactNextStopSpec)

/-- 'laws.FnExactSweepOrder', WHERE WHAT IT READS IS OF BULK AT MOST 1048576: true; the input reads as it did. -/
def fnExactSweepOrderUptoRow : OpenClaim := { program := "ytebflmbfgjbipaa", sum := "8df208de33da1b1860ddee63cc2d91cbb14485ec8667bec58f2af21e2fd83e33", func := "loop.example/liftsandlights/laws.FnExactSweepOrder", spec := "fnExactSweepOrder", recurses := true, apart := false, narrowed := true }
def FnExactSweepOrderUptoSaid : Prop := fnExactSweepOrderUptoRow.holds Try.pinned (OpenSpec.upto fnExactSweepOrderSpec)

/-- 'laws.FnExactBestHeading', WHERE WHAT IT READS IS OF BULK AT MOST 1048576: true; the input reads as it did. -/
def fnExactBestHeadingUptoRow : OpenClaim := { program := "ytebflmbfgjbipaa", sum := "8df208de33da1b1860ddee63cc2d91cbb14485ec8667bec58f2af21e2fd83e33", func := "loop.example/liftsandlights/laws.FnExactBestHeading", spec := "fnExactBestHeading", recurses := true, apart := false, narrowed := true }
def FnExactBestHeadingUptoSaid : Prop := fnExactBestHeadingUptoRow.holds Try.pinned (OpenSpec.upto fnExactBestHeadingSpec)

/-- 'laws.FnNextStop', WHERE WHAT IT READS IS OF BULK AT MOST 1048576: true; the input reads as it did. -/
def fnNextStopUptoRow : OpenClaim := { program := "ytebflmbfgjbipaa", sum := "8df208de33da1b1860ddee63cc2d91cbb14485ec8667bec58f2af21e2fd83e33", func := "loop.example/liftsandlights/laws.FnNextStop", spec := "fnNextStop", recurses := true, apart := false, narrowed := true }
def FnNextStopUptoSaid : Prop := fnNextStopUptoRow.holds Try.pinned (OpenSpec.upto fnNextStopSpec)

/-- 'laws.FnSweepOrder', WHERE WHAT IT READS IS OF BULK AT MOST 1048576: true; the input reads as it did. -/
def fnSweepOrderUptoRow : OpenClaim := { program := "ytebflmbfgjbipaa", sum := "8df208de33da1b1860ddee63cc2d91cbb14485ec8667bec58f2af21e2fd83e33", func := "loop.example/liftsandlights/laws.FnSweepOrder", spec := "fnSweepOrder", recurses := true, apart := false, narrowed := true }
def FnSweepOrderUptoSaid : Prop := fnSweepOrderUptoRow.holds Try.pinned (OpenSpec.upto fnSweepOrderSpec)

/-- 'laws.FnWayOfBack', WHERE WHAT IT READS IS OF BULK AT MOST 1048576: true; the input reads as it did. -/
def fnWayOfBackUptoRow : OpenClaim := { program := "ytebflmbfgjbipaa", sum := "8df208de33da1b1860ddee63cc2d91cbb14485ec8667bec58f2af21e2fd83e33", func := "loop.example/liftsandlights/laws.FnWayOfBack", spec := "fnWayOfBack", apart := false, narrowed := true }
def FnWayOfBackUptoSaid : Prop := fnWayOfBackUptoRow.holds Try.pinned (OpenSpec.upto fnWayOfBackSpec)

/-- 'laws.FnWayOf', WHERE WHAT IT READS IS OF BULK AT MOST 1048576: true; the input reads as it did. -/
def fnWayOfUptoRow : OpenClaim := { program := "ytebflmbfgjbipaa", sum := "8df208de33da1b1860ddee63cc2d91cbb14485ec8667bec58f2af21e2fd83e33", func := "loop.example/liftsandlights/laws.FnWayOf", spec := "fnWayOf", apart := false, narrowed := true }
def FnWayOfUptoSaid : Prop := fnWayOfUptoRow.holds Try.pinned (OpenSpec.upto fnWayOfSpec)

/-- 'laws.FnBestHeading', WHERE WHAT IT READS IS OF BULK AT MOST 1048576: true; the input reads as it did. -/
def fnBestHeadingUptoRow : OpenClaim := { program := "ytebflmbfgjbipaa", sum := "8df208de33da1b1860ddee63cc2d91cbb14485ec8667bec58f2af21e2fd83e33", func := "loop.example/liftsandlights/laws.FnBestHeading", spec := "fnBestHeading", recurses := true, apart := false, narrowed := true }
def FnBestHeadingUptoSaid : Prop := fnBestHeadingUptoRow.holds Try.pinned (OpenSpec.upto fnBestHeadingSpec)

/-- 'laws.FnSweepFirst', WHERE WHAT IT READS IS OF BULK AT MOST 1048576: true; the input reads as it did. -/
def fnSweepFirstUptoRow : OpenClaim := { program := "ytebflmbfgjbipaa", sum := "8df208de33da1b1860ddee63cc2d91cbb14485ec8667bec58f2af21e2fd83e33", func := "loop.example/liftsandlights/laws.FnSweepFirst", spec := "fnSweepFirst", recurses := true, apart := false, narrowed := true }
def FnSweepFirstUptoSaid : Prop := fnSweepFirstUptoRow.holds Try.pinned (OpenSpec.upto fnSweepFirstSpec)

/-- 'laws.FnSweepOrderAgain', WHERE WHAT IT READS IS OF BULK AT MOST 1048576: true; the input reads as it did. -/
def fnSweepOrderAgainUptoRow : OpenClaim := { program := "ytebflmbfgjbipaa", sum := "8df208de33da1b1860ddee63cc2d91cbb14485ec8667bec58f2af21e2fd83e33", func := "loop.example/liftsandlights/laws.FnSweepOrderAgain", spec := "fnSweepOrderAgain", recurses := true, apart := false, narrowed := true }
def FnSweepOrderAgainUptoSaid : Prop := fnSweepOrderAgainUptoRow.holds Try.pinned (OpenSpec.upto fnSweepOrderAgainSpec)

/-- 'laws.FnSweepOrderMirror', WHERE WHAT IT READS IS OF BULK AT MOST 1048576: true; the input reads as it did. -/
def fnSweepOrderMirrorUptoRow : OpenClaim := { program := "ytebflmbfgjbipaa", sum := "8df208de33da1b1860ddee63cc2d91cbb14485ec8667bec58f2af21e2fd83e33", func := "loop.example/liftsandlights/laws.FnSweepOrderMirror", spec := "fnSweepOrderMirror", recurses := true, apart := false, narrowed := true }
def FnSweepOrderMirrorUptoSaid : Prop := fnSweepOrderMirrorUptoRow.holds Try.pinned (OpenSpec.upto fnSweepOrderMirrorSpec)

/-- 'laws.FnSweepShort', WHERE WHAT IT READS IS OF BULK AT MOST 1048576: true; the input reads as it did. -/
def fnSweepShortUptoRow : OpenClaim := { program := "ytebflmbfgjbipaa", sum := "8df208de33da1b1860ddee63cc2d91cbb14485ec8667bec58f2af21e2fd83e33", func := "loop.example/liftsandlights/laws.FnSweepShort", spec := "fnSweepShort", recurses := true, apart := false, narrowed := true }
def FnSweepShortUptoSaid : Prop := fnSweepShortUptoRow.holds Try.pinned (OpenSpec.upto fnSweepShortSpec)

end Rows
end Go.Proofs.Ytebflmbfgjbipaa
