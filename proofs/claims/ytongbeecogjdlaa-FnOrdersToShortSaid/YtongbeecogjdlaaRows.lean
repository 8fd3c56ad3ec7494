/-
  No cell of these rows narrows 'for every input' (looked for: loops, veiled, ifaces, maps, wideKeys, modest, calm, conditions, laid).
  DERIVED. THE GIVEN ROWS OF THIS SEAT. 13 by the template 'for every input the law returns true; each argument reads behind the call as it read before'; 0 by the template 'total and deterministic' (their statements: YtongbeecogjdlaaTotals.lean).
  GIVEN WITH THE SEED: the statements are not yours to turn. If you find one false, say at which input.
  Laid BY PROGRAM, IN A SANDBOX (cutbox-rows.mjs): the forced cells as the released guide's own fill.sh prints them over the translation 383ca7ed8b6bf5ac… (all of the seat's roots in one cut). By AI agents, Wed Nov 11 2026. No macro, syntax, notation, axiom, sorry.
-/
import Derived.Test.YtongbeecogjdlaaChecked
import GoSem.Claim
import GoSem.ClaimJoined
import GoSem.ClaimMapViews
import Derived.JoinedTies
import Derived.KernelRfl
namespace Go.Proofs.Ytongbeecogjdlaa
/- THE CELL 'sum', in the pinned program and in every row, IS THE sha256 OF THE DUMP (.gsa) THAT YtongbeecogjdlaaProg.lean LOADS. Nothing in Lean hashes anything: it is a label: what it is worth is what the hold of that sum in a sandbox is worth. -/
noncomputable def Try.pinned : Pinned := { name := "ytongbeecogjdlaa", sum := "383ca7ed8b6bf5ac07fe9dacbfe95114fec9bc993f4820dbed66060f870a7fce", checked := Try.checked }
namespace Rows
def none {H : Type} : Left H := { results := [], args := [] }

/-- 'laws.FnExactValidCar': WHATEVER THE INPUT: true; the input reads as it did. -/
def fnExactValidCarSpec : ChangeSpec := { name := "fnExactValidCar", fn := fun _ => fun
  | [d] => { results := [.lit (.bool true)], args := [d] }
  | _ => none }
def fnExactValidCarRow : OpenClaim := { program := "ytongbeecogjdlaa", sum := "383ca7ed8b6bf5ac07fe9dacbfe95114fec9bc993f4820dbed66060f870a7fce", func := "loop.example/liftsandlights/laws.FnExactValidCar", spec := "fnExactValidCar", apart := false }
def FnExactValidCarSaid : Prop := fnExactValidCarRow.holds Try.pinned (OpenSpec.ofChange fnExactValidCarSpec)

/-- ITS FALSE NEIGHBOUR: 'it returns false'. Refute it at one input. -/
def fnExactValidCarWrong : ChangeSpec := { name := "fnExactValidCar", fn := fun _ => fun
  | [d] => { results := [.lit (.bool false)], args := [d] }
  | _ => none }
def FnExactValidCarWrongFalsely : Prop := fnExactValidCarRow.holds Try.pinned (OpenSpec.ofChange fnExactValidCarWrong)

/-- 'laws.FnExactStepCar': WHATEVER THE INPUT: true; the input reads as it did. -/
def fnExactStepCarSpec : ChangeSpec := { name := "fnExactStepCar", fn := fun _ => fun
  | [d1, d2] => { results := [.lit (.bool true)], args := [d1, d2] }
  | _ => none }
def fnExactStepCarRow : OpenClaim := { program := "ytongbeecogjdlaa", sum := "383ca7ed8b6bf5ac07fe9dacbfe95114fec9bc993f4820dbed66060f870a7fce", func := "loop.example/liftsandlights/laws.FnExactStepCar", spec := "fnExactStepCar", apart := false }
def FnExactStepCarSaid : Prop := fnExactStepCarRow.holds Try.pinned (OpenSpec.ofChange fnExactStepCarSpec)

/-- ITS FALSE NEIGHBOUR: 'it returns false'. Refute it at one input. -/
def fnExactStepCarWrong : ChangeSpec := { name := "fnExactStepCar", fn := fun _ => fun
  | [d1, d2] => { results := [.lit (.bool false)], args := [d1, d2] }
  | _ => none }
def FnExactStepCarWrongFalsely : Prop := fnExactStepCarRow.holds Try.pinned (OpenSpec.ofChange fnExactStepCarWrong)

/-- 'laws.FnExactRunCar': WHATEVER THE INPUT: true; the input reads as it did. -/
def fnExactRunCarSpec : ChangeSpec := { name := "fnExactRunCar", fn := fun _ => fun
  | [d1, d2] => { results := [.lit (.bool true)], args := [d1, d2] }
  | _ => none }
def fnExactRunCarRow : OpenClaim := { program := "ytongbeecogjdlaa", sum := "383ca7ed8b6bf5ac07fe9dacbfe95114fec9bc993f4820dbed66060f870a7fce", func := "loop.example/liftsandlights/laws.FnExactRunCar", spec := "fnExactRunCar", apart := false }
def FnExactRunCarSaid : Prop := fnExactRunCarRow.holds Try.pinned (OpenSpec.ofChange fnExactRunCarSpec)

/-- ITS FALSE NEIGHBOUR: 'it returns false'. Refute it at one input. -/
def fnExactRunCarWrong : ChangeSpec := { name := "fnExactRunCar", fn := fun _ => fun
  | [d1, d2] => { results := [.lit (.bool false)], args := [d1, d2] }
  | _ => none }
def FnExactRunCarWrongFalsely : Prop := fnExactRunCarRow.holds Try.pinned (OpenSpec.ofChange fnExactRunCarWrong)

/-- 'laws.FnExactOrdersTo': WHATEVER THE INPUT: true; the input reads as it did. -/
def fnExactOrdersToSpec : ChangeSpec := { name := "fnExactOrdersTo", fn := fun _ => fun
  | [d1, d2] => { results := [.lit (.bool true)], args := [d1, d2] }
  | _ => none }
def fnExactOrdersToRow : OpenClaim := { program := "ytongbeecogjdlaa", sum := "383ca7ed8b6bf5ac07fe9dacbfe95114fec9bc993f4820dbed66060f870a7fce", func := "loop.example/liftsandlights/laws.FnExactOrdersTo", spec := "fnExactOrdersTo", apart := false }
def FnExactOrdersToSaid : Prop := fnExactOrdersToRow.holds Try.pinned (OpenSpec.ofChange fnExactOrdersToSpec)

/-- ITS FALSE NEIGHBOUR: 'it returns false'. Refute it at one input. -/
def fnExactOrdersToWrong : ChangeSpec := { name := "fnExactOrdersTo", fn := fun _ => fun
  | [d1, d2] => { results := [.lit (.bool false)], args := [d1, d2] }
  | _ => none }
def FnExactOrdersToWrongFalsely : Prop := fnExactOrdersToRow.holds Try.pinned (OpenSpec.ofChange fnExactOrdersToWrong)

/-- 'laws.FnValidCar': WHATEVER THE INPUT: true; the input reads as it did. -/
def fnValidCarSpec : ChangeSpec := { name := "fnValidCar", fn := fun _ => fun
  | [d] => { results := [.lit (.bool true)], args := [d] }
  | _ => none }
def fnValidCarRow : OpenClaim := { program := "ytongbeecogjdlaa", sum := "383ca7ed8b6bf5ac07fe9dacbfe95114fec9bc993f4820dbed66060f870a7fce", func := "loop.example/liftsandlights/laws.FnValidCar", spec := "fnValidCar", apart := false }
def FnValidCarSaid : Prop := fnValidCarRow.holds Try.pinned (OpenSpec.ofChange fnValidCarSpec)

/-- ITS FALSE NEIGHBOUR: 'it returns false'. Refute it at one input. -/
def fnValidCarWrong : ChangeSpec := { name := "fnValidCar", fn := fun _ => fun
  | [d] => { results := [.lit (.bool false)], args := [d] }
  | _ => none }
def FnValidCarWrongFalsely : Prop := fnValidCarRow.holds Try.pinned (OpenSpec.ofChange fnValidCarWrong)

/-- 'laws.FnStepCarBack': WHATEVER THE INPUT: true; the input reads as it did. -/
def fnStepCarBackSpec : ChangeSpec := { name := "fnStepCarBack", fn := fun _ => fun
  | [d] => { results := [.lit (.bool true)], args := [d] }
  | _ => none }
def fnStepCarBackRow : OpenClaim := { program := "ytongbeecogjdlaa", sum := "383ca7ed8b6bf5ac07fe9dacbfe95114fec9bc993f4820dbed66060f870a7fce", func := "loop.example/liftsandlights/laws.FnStepCarBack", spec := "fnStepCarBack", apart := false }
def FnStepCarBackSaid : Prop := fnStepCarBackRow.holds Try.pinned (OpenSpec.ofChange fnStepCarBackSpec)

/-- ITS FALSE NEIGHBOUR: 'it returns false'. Refute it at one input. -/
def fnStepCarBackWrong : ChangeSpec := { name := "fnStepCarBack", fn := fun _ => fun
  | [d] => { results := [.lit (.bool false)], args := [d] }
  | _ => none }
def FnStepCarBackWrongFalsely : Prop := fnStepCarBackRow.holds Try.pinned (OpenSpec.ofChange fnStepCarBackWrong)

/-- 'laws.FnStepCarSafe': WHATEVER THE INPUT: true; the input reads as it did. -/
def fnStepCarSafeSpec : ChangeSpec := { name := "fnStepCarSafe", fn := fun _ => fun
  | [d] => { results := [.lit (.bool true)], args := [d] }
  | _ => none }
def fnStepCarSafeRow : OpenClaim := { program := "ytongbeecogjdlaa", sum := "383ca7ed8b6bf5ac07fe9dacbfe95114fec9bc993f4820dbed66060f870a7fce", func := "loop.example/liftsandlights/laws.FnStepCarSafe", spec := "fnStepCarSafe", apart := false }
def FnStepCarSafeSaid : Prop := fnStepCarSafeRow.holds Try.pinned (OpenSpec.ofChange fnStepCarSafeSpec)

/-- ITS FALSE NEIGHBOUR: 'it returns false'. Refute it at one input. -/
def fnStepCarSafeWrong : ChangeSpec := { name := "fnStepCarSafe", fn := fun _ => fun
  | [d] => { results := [.lit (.bool false)], args := [d] }
  | _ => none }
def FnStepCarSafeWrongFalsely : Prop := fnStepCarSafeRow.holds Try.pinned (OpenSpec.ofChange fnStepCarSafeWrong)

/-- 'laws.FnStepCarDoor': WHATEVER THE INPUT: true; the input reads as it did. -/
def fnStepCarDoorSpec : ChangeSpec := { name := "fnStepCarDoor", fn := fun _ => fun
  | [d] => { results := [.lit (.bool true)], args := [d] }
  | _ => none }
def fnStepCarDoorRow : OpenClaim := { program := "ytongbeecogjdlaa", sum := "383ca7ed8b6bf5ac07fe9dacbfe95114fec9bc993f4820dbed66060f870a7fce", func := "loop.example/liftsandlights/laws.FnStepCarDoor", spec := "fnStepCarDoor", apart := false }
def FnStepCarDoorSaid : Prop := fnStepCarDoorRow.holds Try.pinned (OpenSpec.ofChange fnStepCarDoorSpec)

/-- ITS FALSE NEIGHBOUR: 'it returns false'. Refute it at one input. -/
def fnStepCarDoorWrong : ChangeSpec := { name := "fnStepCarDoor", fn := fun _ => fun
  | [d] => { results := [.lit (.bool false)], args := [d] }
  | _ => none }
def FnStepCarDoorWrongFalsely : Prop := fnStepCarDoorRow.holds Try.pinned (OpenSpec.ofChange fnStepCarDoorWrong)

/-- 'laws.FnRunCar': WHATEVER THE INPUT: true; the input reads as it did. -/
def fnRunCarSpec : ChangeSpec := { name := "fnRunCar", fn := fun _ => fun
  | [d] => { results := [.lit (.bool true)], args := [d] }
  | _ => none }
def fnRunCarRow : OpenClaim := { program := "ytongbeecogjdlaa", sum := "383ca7ed8b6bf5ac07fe9dacbfe95114fec9bc993f4820dbed66060f870a7fce", func := "loop.example/liftsandlights/laws.FnRunCar", spec := "fnRunCar", apart := false }
def FnRunCarSaid : Prop := fnRunCarRow.holds Try.pinned (OpenSpec.ofChange fnRunCarSpec)

/-- ITS FALSE NEIGHBOUR: 'it returns false'. Refute it at one input. -/
def fnRunCarWrong : ChangeSpec := { name := "fnRunCar", fn := fun _ => fun
  | [d] => { results := [.lit (.bool false)], args := [d] }
  | _ => none }
def FnRunCarWrongFalsely : Prop := fnRunCarRow.holds Try.pinned (OpenSpec.ofChange fnRunCarWrong)

/-- 'laws.FnRunCarLoad': WHATEVER THE INPUT: true; the input reads as it did. -/
def fnRunCarLoadSpec : ChangeSpec := { name := "fnRunCarLoad", fn := fun _ => fun
  | [d] => { results := [.lit (.bool true)], args := [d] }
  | _ => none }
def fnRunCarLoadRow : OpenClaim := { program := "ytongbeecogjdlaa", sum := "383ca7ed8b6bf5ac07fe9dacbfe95114fec9bc993f4820dbed66060f870a7fce", func := "loop.example/liftsandlights/laws.FnRunCarLoad", spec := "fnRunCarLoad", apart := false }
def FnRunCarLoadSaid : Prop := fnRunCarLoadRow.holds Try.pinned (OpenSpec.ofChange fnRunCarLoadSpec)

/-- ITS FALSE NEIGHBOUR: 'it returns false'. Refute it at one input. -/
def fnRunCarLoadWrong : ChangeSpec := { name := "fnRunCarLoad", fn := fun _ => fun
  | [d] => { results := [.lit (.bool false)], args := [d] }
  | _ => none }
def FnRunCarLoadWrongFalsely : Prop := fnRunCarLoadRow.holds Try.pinned (OpenSpec.ofChange fnRunCarLoadWrong)

/-- 'laws.FnRunCarParts': WHATEVER THE INPUT: true; the input reads as it did. -/
def fnRunCarPartsSpec : ChangeSpec := { name := "fnRunCarParts", fn := fun _ => fun
  | [d] => { results := [.lit (.bool true)], args := [d] }
  | _ => none }
def fnRunCarPartsRow : OpenClaim := { program := "ytongbeecogjdlaa", sum := "383ca7ed8b6bf5ac07fe9dacbfe95114fec9bc993f4820dbed66060f870a7fce", func := "loop.example/liftsandlights/laws.FnRunCarParts", spec := "fnRunCarParts", apart := false }
def FnRunCarPartsSaid : Prop := fnRunCarPartsRow.holds Try.pinned (OpenSpec.ofChange fnRunCarPartsSpec)

/-- ITS FALSE NEIGHBOUR: 'it returns false'. Refute it at one input. -/
def fnRunCarPartsWrong : ChangeSpec := { name := "fnRunCarParts", fn := fun _ => fun
  | [d] => { results := [.lit (.bool false)], args := [d] }
  | _ => none }
def FnRunCarPartsWrongFalsely : Prop := fnRunCarPartsRow.holds Try.pinned (OpenSpec.ofChange fnRunCarPartsWrong)

/-- 'laws.FnOrdersTo': WHATEVER THE INPUT: true; the input reads as it did. -/
def fnOrdersToSpec : ChangeSpec := { name := "fnOrdersTo", fn := fun _ => fun
  | [d] => { results := [.lit (.bool true)], args := [d] }
  | _ => none }
def fnOrdersToRow : OpenClaim := { program := "ytongbeecogjdlaa", sum := "383ca7ed8b6bf5ac07fe9dacbfe95114fec9bc993f4820dbed66060f870a7fce", func := "loop.example/liftsandlights/laws.FnOrdersTo", spec := "fnOrdersTo", apart := false }
def FnOrdersToSaid : Prop := fnOrdersToRow.holds Try.pinned (OpenSpec.ofChange fnOrdersToSpec)

/-- ITS FALSE NEIGHBOUR: 'it returns false'. Refute it at one input. -/
def fnOrdersToWrong : ChangeSpec := { name := "fnOrdersTo", fn := fun _ => fun
  | [d] => { results := [.lit (.bool false)], args := [d] }
  | _ => none }
def FnOrdersToWrongFalsely : Prop := fnOrdersToRow.holds Try.pinned (OpenSpec.ofChange fnOrdersToWrong)

/-- 'laws.FnOrdersToShort': WHATEVER THE INPUT: true; the input reads as it did. -/
def fnOrdersToShortSpec : ChangeSpec := { name := "fnOrdersToShort", fn := fun _ => fun
  | [d] => { results := [.lit (.bool true)], args := [d] }
  | _ => none }
def fnOrdersToShortRow : OpenClaim := { program := "ytongbeecogjdlaa", sum := "383ca7ed8b6bf5ac07fe9dacbfe95114fec9bc993f4820dbed66060f870a7fce", func := "loop.example/liftsandlights/laws.FnOrdersToShort", spec := "fnOrdersToShort", apart := false }
def FnOrdersToShortSaid : Prop := fnOrdersToShortRow.holds Try.pinned (OpenSpec.ofChange fnOrdersToShortSpec)

/-- ITS FALSE NEIGHBOUR: 'it returns false'. Refute it at one input. -/
def fnOrdersToShortWrong : ChangeSpec := { name := "fnOrdersToShort", fn := fun _ => fun
  | [d] => { results := [.lit (.bool false)], args := [d] }
  | _ => none }
def FnOrdersToShortWrongFalsely : Prop := fnOrdersToShortRow.holds Try.pinned (OpenSpec.ofChange fnOrdersToShortWrong)

/- THE SECOND FORM. 'bulk': how many values and letters a reading holds, each counted each time it is reached (what is shared counts as often as it is met; a slice's spare places count too). A statement '..UptoSaid' is the law's where the arguments, and the package variables that the reading takes, are together of bulk at most 1048576: NARROWER than '..Said'. Prove '..Said' where nothing that the law and all that it calls make is longer than what came in: it says more and counts as full. Else prove '..UptoSaid'. A law counts once. -/
mutual
def uptoBulk {H : Type} : DataW H → Nat
  | .lit (.string bytes) => bytes.length + 1
  | .lit _ => 1
  | .nil => 1
  | .ptr d => uptoBulk d + 1
  | .slice elems spare => uptoBulkAll elems + uptoBulkAll spare + 1
  | .agg parts => uptoBulkAll parts + 1
  | .iface _ d => uptoBulk d + 1
  | .map entries => uptoBulkEntries entries + 1
  | .held _ => 1
def uptoBulkAll {H : Type} : List (DataW H) → Nat
  | [] => 0
  | d :: r => uptoBulk d + uptoBulkAll r
def uptoBulkEntries {H : Type} : List (Lit × DataW H) → Nat
  | [] => 0
  | x :: r => uptoBulkEntry x + uptoBulkEntries r
def uptoBulkEntry {H : Type} : Lit × DataW H → Nat
  | (.string bytes, d) => bytes.length + uptoBulk d + 1
  | (_, d) => uptoBulk d + 1
 end
def uptoSmall : (H : Type) → List (DataW H) → Bool := fun _ ds => decide (uptoBulkAll ds ≤ 1048576)
def OpenSpec.upto (s : _root_.Go.ChangeSpec) : _root_.Go.OpenSpec := { _root_.Go.OpenSpec.ofChange s with cond := some uptoSmall }

/-- 'laws.FnExactValidCar', WHERE WHAT IT READS IS OF BULK AT MOST 1048576: true; the input reads as it did. -/
def fnExactValidCarUptoRow : OpenClaim := { program := "ytongbeecogjdlaa", sum := "383ca7ed8b6bf5ac07fe9dacbfe95114fec9bc993f4820dbed66060f870a7fce", func := "loop.example/liftsandlights/laws.FnExactValidCar", spec := "fnExactValidCar", apart := false, narrowed := true }
def FnExactValidCarUptoSaid : Prop := fnExactValidCarUptoRow.holds Try.pinned (OpenSpec.upto fnExactValidCarSpec)

/-- 'laws.FnExactStepCar', WHERE WHAT IT READS IS OF BULK AT MOST 1048576: true; the input reads as it did. -/
def fnExactStepCarUptoRow : OpenClaim := { program := "ytongbeecogjdlaa", sum := "383ca7ed8b6bf5ac07fe9dacbfe95114fec9bc993f4820dbed66060f870a7fce", func := "loop.example/liftsandlights/laws.FnExactStepCar", spec := "fnExactStepCar", apart := false, narrowed := true }
def FnExactStepCarUptoSaid : Prop := fnExactStepCarUptoRow.holds Try.pinned (OpenSpec.upto fnExactStepCarSpec)

/-- 'laws.FnExactRunCar', WHERE WHAT IT READS IS OF BULK AT MOST 1048576: true; the input reads as it did. -/
def fnExactRunCarUptoRow : OpenClaim := { program := "ytongbeecogjdlaa", sum := "383ca7ed8b6bf5ac07fe9dacbfe95114fec9bc993f4820dbed66060f870a7fce", func := "loop.example/liftsandlights/laws.FnExactRunCar", spec := "fnExactRunCar", apart := false, narrowed := true }
def FnExactRunCarUptoSaid : Prop := fnExactRunCarUptoRow.holds Try.pinned (OpenSpec.upto fnExactRunCarSpec)

/-- 'laws.FnExactOrdersTo', WHERE WHAT IT READS IS OF BULK AT MOST 1048576: true; the input reads as it did. -/
def fnExactOrdersToUptoRow : OpenClaim := { program := "ytongbeecogjdlaa", sum := "383ca7ed8b6bf5ac07fe9dacbfe95114fec9bc993f4820dbed66060f870a7fce", func := "loop.example/liftsandlights/laws.FnExactOrdersTo", spec := "fnExactOrdersTo", apart := false, narrowed := true }
def FnExactOrdersToUptoSaid : Prop := fnExactOrdersToUptoRow.holds Try.pinned (OpenSpec.upto fnExactOrdersToSpec)

/-- 'laws.FnValidCar', WHERE WHAT IT READS IS OF BULK AT MOST 1048576: true; the input reads as it did. -/
def fnValidCarUptoRow : OpenClaim := { program := "ytongbeecogjdlaa", sum := "383ca7ed8b6bf5ac07fe9dacbfe95114fec9bc993f4820dbed66060f870a7fce", func := "loop.example/liftsandlights/laws.FnValidCar", spec := "fnValidCar", apart := false, narrowed := true }
def FnValidCarUptoSaid : Prop := fnValidCarUptoRow.holds Try.pinned (OpenSpec.upto fnValidCarSpec)

/-- 'laws.FnStepCarBack', WHERE WHAT IT READS IS OF BULK AT MOST 1048576: true; the input reads as it did. -/
def fnStepCarBackUptoRow : OpenClaim := { program := "ytongbeecogjdlaa", sum := "383ca7ed8b6bf5ac07fe9dacbfe95114fec9bc993f4820dbed66060f870a7fce", func := "loop.example/liftsandlights/laws.FnStepCarBack", spec := "fnStepCarBack", apart := false, narrowed := true }
def FnStepCarBackUptoSaid : Prop := fnStepCarBackUptoRow.holds Try.pinned (OpenSpec.upto fnStepCarBackSpec)

/-- 'laws.FnStepCarSafe', WHERE WHAT IT READS IS OF BULK AT MOST 1048576: true; the input reads as it did. -/
def fnStepCarSafeUptoRow : OpenClaim := { program := "ytongbeecogjdlaa", sum := "383ca7ed8b6bf5ac07fe9dacbfe95114fec9bc993f4820dbed66060f870a7fce", func := "loop.example/liftsandlights/laws.FnStepCarSafe", spec := "fnStepCarSafe", apart := false, narrowed := true }
def FnStepCarSafeUptoSaid : Prop := fnStepCarSafeUptoRow.holds Try.pinned (OpenSpec.upto fnStepCarSafeSpec)

/-- 'laws.FnStepCarDoor', WHERE WHAT IT READS IS OF BULK AT MOST 1048576: true; the input reads as it did. -/
def fnStepCarDoorUptoRow : OpenClaim := { program := "ytongbeecogjdlaa", sum := "383ca7ed8b6bf5ac07fe9dacbfe95114fec9bc993f4820dbed66060f870a7fce", func := "loop.example/liftsandlights/laws.FnStepCarDoor", spec := "fnStepCarDoor", apart := false, narrowed := true }
def FnStepCarDoorUptoSaid : Prop := fnStepCarDoorUptoRow.holds Try.pinned (OpenSpec.upto fnStepCarDoorSpec)

/-- 'laws.FnRunCar', WHERE WHAT IT READS IS OF BULK AT MOST 1048576: true; the input reads as it did. -/
def fnRunCarUptoRow : OpenClaim := { program := "ytongbeecogjdlaa", sum := "383ca7ed8b6bf5ac07fe9dacbfe95114fec9bc993f4820dbed66060f870a7fce", func := "loop.example/liftsandlights/laws.FnRunCar", spec := "fnRunCar", apart := false, narrowed := true }
def FnRunCarUptoSaid : Prop := fnRunCarUptoRow.holds Try.pinned (OpenSpec.upto fnRunCarSpec)

/-- 'laws.FnRunCarLoad', WHERE WHAT IT READS IS OF BULK AT MOST 1048576: true; the input reads as it did. -/
def fnRunCarLoadUptoRow : OpenClaim := { program := "ytongbeecogjdlaa", sum := "383ca7ed8b6bf5ac07fe9dacbfe95114fec9bc993f4820dbed66060f870a7fce", func := "loop.example/liftsandlights/laws.FnRunCarLoad", spec := "fnRunCarLoad", apart := false, narrowed := true }
def FnRunCarLoadUptoSaid : Prop := fnRunCarLoadUptoRow.holds Try.pinned (OpenSpec.upto fnRunCarLoadSpec)

/-- 'laws.FnRunCarParts', WHERE WHAT IT READS IS OF BULK AT MOST 1048576: true; the input reads as it did. -/
def fnRunCarPartsUptoRow : OpenClaim := { program := "ytongbeecogjdlaa", sum := "383ca7ed8b6bf5ac07fe9dacbfe95114fec9bc993f4820dbed66060f870a7fce", func := "loop.example/liftsandlights/laws.FnRunCarParts", spec := "fnRunCarParts", apart := false, narrowed := true }
def FnRunCarPartsUptoSaid : Prop := fnRunCarPartsUptoRow.holds Try.pinned (OpenSpec.upto fnRunCarPartsSpec)

/-- 'laws.FnOrdersTo', WHERE WHAT IT READS IS OF BULK AT MOST 1048576: true; the input reads as it did. -/
def fnOrdersToUptoRow : OpenClaim := { program := "ytongbeecogjdlaa", sum := "383ca7ed8b6bf5ac07fe9dacbfe95114fec9bc993f4820dbed66060f870a7fce", func := "loop.example/liftsandlights/laws.FnOrdersTo", spec := "fnOrdersTo", apart := false, narrowed := true }
def FnOrdersToUptoSaid : Prop := fnOrdersToUptoRow.holds Try.pinned (OpenSpec.upto fnOrdersToSpec)

/-- 'laws.FnOrdersToShort', WHERE WHAT IT READS IS OF BULK AT MOST 1048576: true; the input reads as it did. -/
def fnOrdersToShortUptoRow : OpenClaim := { program := "ytongbeecogjdlaa", sum := "383ca7ed8b6bf5ac07fe9dacbfe95114fec9bc993f4820dbed66060f870a7fce", func := "loop.example/liftsandlights/laws.FnOrdersToShort", spec := "fnOrdersToShort", apart := false, narrowed := true }
def FnOrdersToShortUptoSaid : Prop := fnOrdersToShortUptoRow.holds Try.pinned (OpenSpec.upto fnOrdersToShortSpec)

end Rows
end Go.Proofs.Ytongbeecogjdlaa
