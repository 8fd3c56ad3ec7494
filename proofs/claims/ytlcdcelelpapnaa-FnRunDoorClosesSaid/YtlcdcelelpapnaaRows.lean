/-
  No cell of these rows narrows 'for every input' (looked for: loops, veiled, ifaces, maps, wideKeys, modest, calm, conditions, laid).
  DERIVED. THE GIVEN ROWS OF THIS SEAT. 10 by the template 'for every input the law returns true; each argument reads behind the call as it read before'; 0 by the template 'total and deterministic' (their statements: YtlcdcelelpapnaaTotals.lean).
  GIVEN WITH THE SEED: the statements are not yours to turn. If you find one false, say at which input.
  Laid BY PROGRAM, IN A SANDBOX (cutbox-rows.mjs): the forced cells as the released guide's own fill.sh prints them over the translation 06fb5b1815f7a8da… (all of the seat's roots in one cut). By AI agents, Wed Nov 11 2026. No macro, syntax, notation, axiom, sorry.
-/
import Derived.Test.YtlcdcelelpapnaaChecked
import GoSem.Claim
import GoSem.ClaimJoined
import GoSem.ClaimMapViews
import Derived.JoinedTies
import Derived.KernelRfl
namespace Go.Proofs.Ytlcdcelelpapnaa
/- THE CELL 'sum', in the pinned program and in every row, IS THE sha256 OF THE DUMP (.gsa) THAT YtlcdcelelpapnaaProg.lean LOADS. Nothing in Lean hashes anything: it is a label: what it is worth is what the hold of that sum in a sandbox is worth. -/
noncomputable def Try.pinned : Pinned := { name := "ytlcdcelelpapnaa", sum := "06fb5b1815f7a8daf56eebbd60b9d6e7ed46eb8867fd2b5a6ef9c867b31953c7", checked := Try.checked }
namespace Rows
def none {H : Type} : Left H := { results := [], args := [] }

/-- 'laws.FnExactConstants': WHATEVER THE INPUT: true; the input reads as it did. -/
def fnExactConstantsSpec : ChangeSpec := { name := "fnExactConstants", fn := fun _ => fun
  | [] => { results := [.lit (.bool true)], args := [] }
  | _ => none }
def fnExactConstantsRow : OpenClaim := { program := "ytlcdcelelpapnaa", sum := "06fb5b1815f7a8daf56eebbd60b9d6e7ed46eb8867fd2b5a6ef9c867b31953c7", func := "loop.example/liftsandlights/laws.FnExactConstants", spec := "fnExactConstants", apart := false }
def FnExactConstantsSaid : Prop := fnExactConstantsRow.holds Try.pinned (OpenSpec.ofChange fnExactConstantsSpec)

/-- ITS FALSE NEIGHBOUR: 'it returns false'. Refute it at one input. -/
def fnExactConstantsWrong : ChangeSpec := { name := "fnExactConstants", fn := fun _ => fun
  | [] => { results := [.lit (.bool false)], args := [] }
  | _ => none }
def FnExactConstantsWrongFalsely : Prop := fnExactConstantsRow.holds Try.pinned (OpenSpec.ofChange fnExactConstantsWrong)

/-- 'laws.FnExactValidDoor': WHATEVER THE INPUT: true; the input reads as it did. -/
def fnExactValidDoorSpec : ChangeSpec := { name := "fnExactValidDoor", fn := fun _ => fun
  | [d] => { results := [.lit (.bool true)], args := [d] }
  | _ => none }
def fnExactValidDoorRow : OpenClaim := { program := "ytlcdcelelpapnaa", sum := "06fb5b1815f7a8daf56eebbd60b9d6e7ed46eb8867fd2b5a6ef9c867b31953c7", func := "loop.example/liftsandlights/laws.FnExactValidDoor", spec := "fnExactValidDoor", apart := false }
def FnExactValidDoorSaid : Prop := fnExactValidDoorRow.holds Try.pinned (OpenSpec.ofChange fnExactValidDoorSpec)

/-- ITS FALSE NEIGHBOUR: 'it returns false'. Refute it at one input. -/
def fnExactValidDoorWrong : ChangeSpec := { name := "fnExactValidDoor", fn := fun _ => fun
  | [d] => { results := [.lit (.bool false)], args := [d] }
  | _ => none }
def FnExactValidDoorWrongFalsely : Prop := fnExactValidDoorRow.holds Try.pinned (OpenSpec.ofChange fnExactValidDoorWrong)

/-- 'laws.FnExactStepDoor': WHATEVER THE INPUT: true; the input reads as it did. -/
def fnExactStepDoorSpec : ChangeSpec := { name := "fnExactStepDoor", fn := fun _ => fun
  | [d1, d2, d3] => { results := [.lit (.bool true)], args := [d1, d2, d3] }
  | _ => none }
def fnExactStepDoorRow : OpenClaim := { program := "ytlcdcelelpapnaa", sum := "06fb5b1815f7a8daf56eebbd60b9d6e7ed46eb8867fd2b5a6ef9c867b31953c7", func := "loop.example/liftsandlights/laws.FnExactStepDoor", spec := "fnExactStepDoor", apart := false }
def FnExactStepDoorSaid : Prop := fnExactStepDoorRow.holds Try.pinned (OpenSpec.ofChange fnExactStepDoorSpec)

/-- ITS FALSE NEIGHBOUR: 'it returns false'. Refute it at one input. -/
def fnExactStepDoorWrong : ChangeSpec := { name := "fnExactStepDoor", fn := fun _ => fun
  | [d1, d2, d3] => { results := [.lit (.bool false)], args := [d1, d2, d3] }
  | _ => none }
def FnExactStepDoorWrongFalsely : Prop := fnExactStepDoorRow.holds Try.pinned (OpenSpec.ofChange fnExactStepDoorWrong)

/-- 'laws.FnExactRunDoor': WHATEVER THE INPUT: true; the input reads as it did. -/
def fnExactRunDoorSpec : ChangeSpec := { name := "fnExactRunDoor", fn := fun _ => fun
  | [d1, d2, d3] => { results := [.lit (.bool true)], args := [d1, d2, d3] }
  | _ => none }
def fnExactRunDoorRow : OpenClaim := { program := "ytlcdcelelpapnaa", sum := "06fb5b1815f7a8daf56eebbd60b9d6e7ed46eb8867fd2b5a6ef9c867b31953c7", func := "loop.example/liftsandlights/laws.FnExactRunDoor", spec := "fnExactRunDoor", apart := false }
def FnExactRunDoorSaid : Prop := fnExactRunDoorRow.holds Try.pinned (OpenSpec.ofChange fnExactRunDoorSpec)

/-- ITS FALSE NEIGHBOUR: 'it returns false'. Refute it at one input. -/
def fnExactRunDoorWrong : ChangeSpec := { name := "fnExactRunDoor", fn := fun _ => fun
  | [d1, d2, d3] => { results := [.lit (.bool false)], args := [d1, d2, d3] }
  | _ => none }
def FnExactRunDoorWrongFalsely : Prop := fnExactRunDoorRow.holds Try.pinned (OpenSpec.ofChange fnExactRunDoorWrong)

/-- 'laws.FnValidDoor': WHATEVER THE INPUT: true; the input reads as it did. -/
def fnValidDoorSpec : ChangeSpec := { name := "fnValidDoor", fn := fun _ => fun
  | [d] => { results := [.lit (.bool true)], args := [d] }
  | _ => none }
def fnValidDoorRow : OpenClaim := { program := "ytlcdcelelpapnaa", sum := "06fb5b1815f7a8daf56eebbd60b9d6e7ed46eb8867fd2b5a6ef9c867b31953c7", func := "loop.example/liftsandlights/laws.FnValidDoor", spec := "fnValidDoor", apart := false }
def FnValidDoorSaid : Prop := fnValidDoorRow.holds Try.pinned (OpenSpec.ofChange fnValidDoorSpec)

/-- ITS FALSE NEIGHBOUR: 'it returns false'. Refute it at one input. -/
def fnValidDoorWrong : ChangeSpec := { name := "fnValidDoor", fn := fun _ => fun
  | [d] => { results := [.lit (.bool false)], args := [d] }
  | _ => none }
def FnValidDoorWrongFalsely : Prop := fnValidDoorRow.holds Try.pinned (OpenSpec.ofChange fnValidDoorWrong)

/-- 'laws.FnStepDoor': WHATEVER THE INPUT: true; the input reads as it did. -/
def fnStepDoorSpec : ChangeSpec := { name := "fnStepDoor", fn := fun _ => fun
  | [d] => { results := [.lit (.bool true)], args := [d] }
  | _ => none }
def fnStepDoorRow : OpenClaim := { program := "ytlcdcelelpapnaa", sum := "06fb5b1815f7a8daf56eebbd60b9d6e7ed46eb8867fd2b5a6ef9c867b31953c7", func := "loop.example/liftsandlights/laws.FnStepDoor", spec := "fnStepDoor", apart := false }
def FnStepDoorSaid : Prop := fnStepDoorRow.holds Try.pinned (OpenSpec.ofChange fnStepDoorSpec)

/-- ITS FALSE NEIGHBOUR: 'it returns false'. Refute it at one input. -/
def fnStepDoorWrong : ChangeSpec := { name := "fnStepDoor", fn := fun _ => fun
  | [d] => { results := [.lit (.bool false)], args := [d] }
  | _ => none }
def FnStepDoorWrongFalsely : Prop := fnStepDoorRow.holds Try.pinned (OpenSpec.ofChange fnStepDoorWrong)

/-- 'laws.FnStepDoorBlocked': WHATEVER THE INPUT: true; the input reads as it did. -/
def fnStepDoorBlockedSpec : ChangeSpec := { name := "fnStepDoorBlocked", fn := fun _ => fun
  | [d] => { results := [.lit (.bool true)], args := [d] }
  | _ => none }
def fnStepDoorBlockedRow : OpenClaim := { program := "ytlcdcelelpapnaa", sum := "06fb5b1815f7a8daf56eebbd60b9d6e7ed46eb8867fd2b5a6ef9c867b31953c7", func := "loop.example/liftsandlights/laws.FnStepDoorBlocked", spec := "fnStepDoorBlocked", apart := false }
def FnStepDoorBlockedSaid : Prop := fnStepDoorBlockedRow.holds Try.pinned (OpenSpec.ofChange fnStepDoorBlockedSpec)

/-- ITS FALSE NEIGHBOUR: 'it returns false'. Refute it at one input. -/
def fnStepDoorBlockedWrong : ChangeSpec := { name := "fnStepDoorBlocked", fn := fun _ => fun
  | [d] => { results := [.lit (.bool false)], args := [d] }
  | _ => none }
def FnStepDoorBlockedWrongFalsely : Prop := fnStepDoorBlockedRow.holds Try.pinned (OpenSpec.ofChange fnStepDoorBlockedWrong)

/-- 'laws.FnStepDoorOpen': WHATEVER THE INPUT: true; the input reads as it did. -/
def fnStepDoorOpenSpec : ChangeSpec := { name := "fnStepDoorOpen", fn := fun _ => fun
  | [d] => { results := [.lit (.bool true)], args := [d] }
  | _ => none }
def fnStepDoorOpenRow : OpenClaim := { program := "ytlcdcelelpapnaa", sum := "06fb5b1815f7a8daf56eebbd60b9d6e7ed46eb8867fd2b5a6ef9c867b31953c7", func := "loop.example/liftsandlights/laws.FnStepDoorOpen", spec := "fnStepDoorOpen", apart := false }
def FnStepDoorOpenSaid : Prop := fnStepDoorOpenRow.holds Try.pinned (OpenSpec.ofChange fnStepDoorOpenSpec)

/-- ITS FALSE NEIGHBOUR: 'it returns false'. Refute it at one input. -/
def fnStepDoorOpenWrong : ChangeSpec := { name := "fnStepDoorOpen", fn := fun _ => fun
  | [d] => { results := [.lit (.bool false)], args := [d] }
  | _ => none }
def FnStepDoorOpenWrongFalsely : Prop := fnStepDoorOpenRow.holds Try.pinned (OpenSpec.ofChange fnStepDoorOpenWrong)

/-- 'laws.FnRunDoor': WHATEVER THE INPUT: true; the input reads as it did. -/
def fnRunDoorSpec : ChangeSpec := { name := "fnRunDoor", fn := fun _ => fun
  | [d] => { results := [.lit (.bool true)], args := [d] }
  | _ => none }
def fnRunDoorRow : OpenClaim := { program := "ytlcdcelelpapnaa", sum := "06fb5b1815f7a8daf56eebbd60b9d6e7ed46eb8867fd2b5a6ef9c867b31953c7", func := "loop.example/liftsandlights/laws.FnRunDoor", spec := "fnRunDoor", apart := false }
def FnRunDoorSaid : Prop := fnRunDoorRow.holds Try.pinned (OpenSpec.ofChange fnRunDoorSpec)

/-- ITS FALSE NEIGHBOUR: 'it returns false'. Refute it at one input. -/
def fnRunDoorWrong : ChangeSpec := { name := "fnRunDoor", fn := fun _ => fun
  | [d] => { results := [.lit (.bool false)], args := [d] }
  | _ => none }
def FnRunDoorWrongFalsely : Prop := fnRunDoorRow.holds Try.pinned (OpenSpec.ofChange fnRunDoorWrong)

/-- 'laws.FnRunDoorCloses': WHATEVER THE INPUT: true; the input reads as it did. -/
def fnRunDoorClosesSpec : ChangeSpec := { name := "fnRunDoorCloses", fn := fun _ => fun
  | [d] => { results := [.lit (.bool true)], args := [d] }
  | _ => none }
def fnRunDoorClosesRow : OpenClaim := { program := "ytlcdcelelpapnaa", sum := "06fb5b1815f7a8daf56eebbd60b9d6e7ed46eb8867fd2b5a6ef9c867b31953c7", func := "loop.example/liftsandlights/laws.FnRunDoorCloses", spec := "fnRunDoorCloses", apart := false }
def FnRunDoorClosesSaid : Prop := fnRunDoorClosesRow.holds Try.pinned (OpenSpec.ofChange fnRunDoorClosesSpec)

/-- ITS FALSE NEIGHBOUR: 'it returns false'. Refute it at one input. -/
def fnRunDoorClosesWrong : ChangeSpec := { name := "fnRunDoorCloses", fn := fun _ => fun
  | [d] => { results := [.lit (.bool false)], args := [d] }
  | _ => none }
def FnRunDoorClosesWrongFalsely : Prop := fnRunDoorClosesRow.holds Try.pinned (OpenSpec.ofChange fnRunDoorClosesWrong)

/- THE SECOND FORM. 'bulk': how many values and letters a reading holds, each counted each time it is reached (what is shared counts as often as it is met; a slice's spare places count too). A statement '..UptoSaid' is the law's where the arguments, and the package variables that the reading takes, are together of bulk at most 1048576: NARROWER than '..Said'. Prove '..Said' where nothing that the law and all that it calls make is longer than what came in: it says more and counts as full. Else prove '..UptoSaid'. A law counts once. -/
mutual
def uptoBulk {H : Type} : DataW H → Nat
  | .lit (.string bytes) => bytes.length + 1
  | .lit _ => 1
  | .nil => 1
  | .ptr d => uptoBulk d + 1
  | .slice elems spare => uptoBulkAll elems + uptoBulkAll spare + 1
  | .agg parts => uptoBulkAll parts + 1
  | .iface _ d => uptoBulk d + 1
  | .map entries => uptoBulkEntries entries + 1
  | .held _ => 1
def uptoBulkAll {H : Type} : List (DataW H) → Nat
  | [] => 0
  | d :: r => uptoBulk d + uptoBulkAll r
def uptoBulkEntries {H : Type} : List (Lit × DataW H) → Nat
  | [] => 0
  | x :: r => uptoBulkEntry x + uptoBulkEntries r
def uptoBulkEntry {H : Type} : Lit × DataW H → Nat
  | (.string bytes, d) => bytes.length + uptoBulk d + 1
  | (_, d) => uptoBulk d + 1
 end
def uptoSmall : (H : Type) → List (DataW H) → Bool := fun _ ds => decide (uptoBulkAll ds ≤ 1048576)
def OpenSpec.upto (s : _root_.Go.ChangeSpec) : _root_.Go.OpenSpec := { _root_.Go.OpenSpec.ofChange s with cond := some uptoSmall }

/-- 'laws.FnExactConstants', WHERE WHAT IT READS IS OF BULK AT MOST 1048576: true; the input reads as it did. -/
def fnExactConstantsUptoRow : OpenClaim := { program := "ytlcdcelelpapnaa", sum := "06fb5b1815f7a8daf56eebbd60b9d6e7ed46eb8867fd2b5a6ef9c867b31953c7", func := "loop.example/liftsandlights/laws.FnExactConstants", spec := "fnExactConstants", apart := false, narrowed := true }
def FnExactConstantsUptoSaid : Prop := fnExactConstantsUptoRow.holds Try.pinned (OpenSpec.upto fnExactConstantsSpec)

/-- 'laws.FnExactValidDoor', WHERE WHAT IT READS IS OF BULK AT MOST 1048576: true; the input reads as it did. -/
def fnExactValidDoorUptoRow : OpenClaim := { program := "ytlcdcelelpapnaa", sum := "06fb5b1815f7a8daf56eebbd60b9d6e7ed46eb8867fd2b5a6ef9c867b31953c7", func := "loop.example/liftsandlights/laws.FnExactValidDoor", spec := "fnExactValidDoor", apart := false, narrowed := true }
def FnExactValidDoorUptoSaid : Prop := fnExactValidDoorUptoRow.holds Try.pinned (OpenSpec.upto fnExactValidDoorSpec)

/-- 'laws.FnExactStepDoor', WHERE WHAT IT READS IS OF BULK AT MOST 1048576: true; the input reads as it did. -/
def fnExactStepDoorUptoRow : OpenClaim := { program := "ytlcdcelelpapnaa", sum := "06fb5b1815f7a8daf56eebbd60b9d6e7ed46eb8867fd2b5a6ef9c867b31953c7", func := "loop.example/liftsandlights/laws.FnExactStepDoor", spec := "fnExactStepDoor", apart := false, narrowed := true }
def FnExactStepDoorUptoSaid : Prop := fnExactStepDoorUptoRow.holds Try.pinned (OpenSpec.upto fnExactStepDoorSpec)

/-- 'laws.FnExactRunDoor', WHERE WHAT IT READS IS OF BULK AT MOST 1048576: true; the input reads as it did. -/
def fnExactRunDoorUptoRow : OpenClaim := { program := "ytlcdcelelpapnaa", sum := "06fb5b1815f7a8daf56eebbd60b9d6e7ed46eb8867fd2b5a6ef9c867b31953c7", func := "loop.example/liftsandlights/laws.FnExactRunDoor", spec := "fnExactRunDoor", apart := false, narrowed := true }
def FnExactRunDoorUptoSaid : Prop := fnExactRunDoorUptoRow.holds Try.pinned (OpenSpec.upto fnExactRunDoorSpec)

/-- 'laws.FnValidDoor', WHERE WHAT IT READS IS OF BULK AT MOST 1048576: true; the input reads as it did. -/
def fnValidDoorUptoRow : OpenClaim := { program := "ytlcdcelelpapnaa", sum := "06fb5b1815f7a8daf56eebbd60b9d6e7ed46eb8867fd2b5a6ef9c867b31953c7", func := "loop.example/liftsandlights/laws.FnValidDoor", spec := "fnValidDoor", apart := false, narrowed := true }
def FnValidDoorUptoSaid : Prop := fnValidDoorUptoRow.holds Try.pinned (OpenSpec.upto fnValidDoorSpec)

/-- 'laws.FnStepDoor', WHERE WHAT IT READS IS OF BULK AT MOST 1048576: true; the input reads as it did. -/
def fnStepDoorUptoRow : OpenClaim := { program := "ytlcdcelelpapnaa", sum := "06fb5b1815f7a8daf56eebbd60b9d6e7ed46eb8867fd2b5a6ef9c867b31953c7", func := "loop.example/liftsandlights/laws.FnStepDoor", spec := "fnStepDoor", apart := false, narrowed := true }
def FnStepDoorUptoSaid : Prop := fnStepDoorUptoRow.holds Try.pinned (OpenSpec.upto fnStepDoorSpec)

/-- 'laws.FnStepDoorBlocked', WHERE WHAT IT READS IS OF BULK AT MOST 1048576: true; the input reads as it did. -/
def fnStepDoorBlockedUptoRow : OpenClaim := { program := "ytlcdcelelpapnaa", sum := "06fb5b1815f7a8daf56eebbd60b9d6e7ed46eb8867fd2b5a6ef9c867b31953c7", func := "loop.example/liftsandlights/laws.FnStepDoorBlocked", spec := "fnStepDoorBlocked", apart := false, narrowed := true }
def FnStepDoorBlockedUptoSaid : Prop := fnStepDoorBlockedUptoRow.holds Try.pinned (OpenSpec.upto fnStepDoorBlockedSpec)

/-- 'laws.FnStepDoorOpen', WHERE WHAT IT READS IS OF BULK AT MOST 1048576: true; the input reads as it did. -/
def fnStepDoorOpenUptoRow : OpenClaim := { program := "ytlcdcelelpapnaa", sum := "06fb5b1815f7a8daf56eebbd60b9d6e7ed46eb8867fd2b5a6ef9c867b31953c7", func := "loop.example/liftsandlights/laws.FnStepDoorOpen", spec := "fnStepDoorOpen", apart := false, narrowed := true }
def FnStepDoorOpenUptoSaid : Prop := fnStepDoorOpenUptoRow.holds Try.pinned (OpenSpec.upto fnStepDoorOpenSpec)

/-- 'laws.FnRunDoor', WHERE WHAT IT READS IS OF BULK AT MOST 1048576: true; the input reads as it did. -/
def fnRunDoorUptoRow : OpenClaim := { program := "ytlcdcelelpapnaa", sum := "06fb5b1815f7a8daf56eebbd60b9d6e7ed46eb8867fd2b5a6ef9c867b31953c7", func := "loop.example/liftsandlights/laws.FnRunDoor", spec := "fnRunDoor", apart := false, narrowed := true }
def FnRunDoorUptoSaid : Prop := fnRunDoorUptoRow.holds Try.pinned (OpenSpec.upto fnRunDoorSpec)

/-- 'laws.FnRunDoorCloses', WHERE WHAT IT READS IS OF BULK AT MOST 1048576: true; the input reads as it did. -/
def fnRunDoorClosesUptoRow : OpenClaim := { program := "ytlcdcelelpapnaa", sum := "06fb5b1815f7a8daf56eebbd60b9d6e7ed46eb8867fd2b5a6ef9c867b31953c7", func := "loop.example/liftsandlights/laws.FnRunDoorCloses", spec := "fnRunDoorCloses", apart := false, narrowed := true }
def FnRunDoorClosesUptoSaid : Prop := fnRunDoorClosesUptoRow.holds Try.pinned (OpenSpec.upto fnRunDoorClosesSpec)

end Rows
end Go.Proofs.Ytlcdcelelpapnaa
