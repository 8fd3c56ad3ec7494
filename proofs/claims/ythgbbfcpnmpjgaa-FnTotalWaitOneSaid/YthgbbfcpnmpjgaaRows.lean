/-
  No cell of these rows narrows 'for every input' (looked for: loops, veiled, ifaces, maps, wideKeys, modest, calm, conditions, laid).
  DERIVED. THE GIVEN ROWS OF THIS SEAT. 7 by the template 'for every input the law returns true; each argument reads behind the call as it read before'; 0 by the template 'total and deterministic' (their statements: YthgbbfcpnmpjgaaTotals.lean).
  GIVEN WITH THE SEED: the statements are not yours to turn. If you find one false, say at which input.
  Laid BY PROGRAM, IN A SANDBOX (cutbox-rows.mjs): the forced cells as the released guide's own fill.sh prints them over the translation 0a97d15b1e3eaf5a… (all of the seat's roots in one cut). By AI agents, Wed Nov 11 2026. No macro, syntax, notation, axiom, sorry.
-/
import Derived.Test.YthgbbfcpnmpjgaaChecked
import GoSem.Claim
import GoSem.ClaimJoined
import GoSem.ClaimMapViews
import Derived.JoinedTies
import Derived.KernelRfl
namespace Go.Proofs.Ythgbbfcpnmpjgaa
/- THE CELL 'sum', in the pinned program and in every row, IS THE sha256 OF THE DUMP (.gsa) THAT YthgbbfcpnmpjgaaProg.lean LOADS. Nothing in Lean hashes anything: it is a label: what it is worth is what the hold of that sum in a sandbox is worth. -/
noncomputable def Try.pinned : Pinned := { name := "ythgbbfcpnmpjgaa", sum := "0a97d15b1e3eaf5a86c06f66784ea17fc6213caec6ad679117c80f3cb9be66c6", checked := Try.checked }
namespace Rows
def none {H : Type} : Left H := { results := [], args := [] }

/-- 'laws.FnExactTotalWait': WHATEVER THE INPUT: true; the input reads as it did. -/
def fnExactTotalWaitSpec : ChangeSpec := { name := "fnExactTotalWait", fn := fun _ => fun
  | [d1, d2] => { results := [.lit (.bool true)], args := [d1, d2] }
  | _ => none }
def fnExactTotalWaitRow : OpenClaim := { program := "ythgbbfcpnmpjgaa", sum := "0a97d15b1e3eaf5a86c06f66784ea17fc6213caec6ad679117c80f3cb9be66c6", func := "loop.example/liftsandlights/laws.FnExactTotalWait", spec := "fnExactTotalWait", unfollowed := true, recurses := true, apart := false }
def FnExactTotalWaitSaid : Prop := fnExactTotalWaitRow.holds Try.pinned (OpenSpec.ofChange fnExactTotalWaitSpec)

/-- ITS FALSE NEIGHBOUR: 'it returns false'. Refute it at one input. -/
def fnExactTotalWaitWrong : ChangeSpec := { name := "fnExactTotalWait", fn := fun _ => fun
  | [d1, d2] => { results := [.lit (.bool false)], args := [d1, d2] }
  | _ => none }
def FnExactTotalWaitWrongFalsely : Prop := fnExactTotalWaitRow.holds Try.pinned (OpenSpec.ofChange fnExactTotalWaitWrong)

/-- 'laws.FnExactRideTimes': WHATEVER THE INPUT: true; the input reads as it did. -/
def fnExactRideTimesSpec : ChangeSpec := { name := "fnExactRideTimes", fn := fun _ => fun
  | [d1, d2] => { results := [.lit (.bool true)], args := [d1, d2] }
  | _ => none }
def fnExactRideTimesRow : OpenClaim := { program := "ythgbbfcpnmpjgaa", sum := "0a97d15b1e3eaf5a86c06f66784ea17fc6213caec6ad679117c80f3cb9be66c6", func := "loop.example/liftsandlights/laws.FnExactRideTimes", spec := "fnExactRideTimes", unfollowed := true, recurses := true, apart := false }
def FnExactRideTimesSaid : Prop := fnExactRideTimesRow.holds Try.pinned (OpenSpec.ofChange fnExactRideTimesSpec)

/-- ITS FALSE NEIGHBOUR: 'it returns false'. Refute it at one input. -/
def fnExactRideTimesWrong : ChangeSpec := { name := "fnExactRideTimes", fn := fun _ => fun
  | [d1, d2] => { results := [.lit (.bool false)], args := [d1, d2] }
  | _ => none }
def FnExactRideTimesWrongFalsely : Prop := fnExactRideTimesRow.holds Try.pinned (OpenSpec.ofChange fnExactRideTimesWrong)

/-- 'laws.FnRideTimesRoom': WHATEVER THE INPUT: true; the input reads as it did. -/
def fnRideTimesRoomSpec : ChangeSpec := { name := "fnRideTimesRoom", fn := fun _ => fun
  | [d] => { results := [.lit (.bool true)], args := [d] }
  | _ => none }
def fnRideTimesRoomRow : OpenClaim := { program := "ythgbbfcpnmpjgaa", sum := "0a97d15b1e3eaf5a86c06f66784ea17fc6213caec6ad679117c80f3cb9be66c6", func := "loop.example/liftsandlights/laws.FnRideTimesRoom", spec := "fnRideTimesRoom", unfollowed := true, recurses := true, apart := false }
def FnRideTimesRoomSaid : Prop := fnRideTimesRoomRow.holds Try.pinned (OpenSpec.ofChange fnRideTimesRoomSpec)

/-- ITS FALSE NEIGHBOUR: 'it returns false'. Refute it at one input. -/
def fnRideTimesRoomWrong : ChangeSpec := { name := "fnRideTimesRoom", fn := fun _ => fun
  | [d] => { results := [.lit (.bool false)], args := [d] }
  | _ => none }
def FnRideTimesRoomWrongFalsely : Prop := fnRideTimesRoomRow.holds Try.pinned (OpenSpec.ofChange fnRideTimesRoomWrong)

/-- 'laws.FnRideTimes': WHATEVER THE INPUT: true; the input reads as it did. -/
def fnRideTimesSpec : ChangeSpec := { name := "fnRideTimes", fn := fun _ => fun
  | [d] => { results := [.lit (.bool true)], args := [d] }
  | _ => none }
def fnRideTimesRow : OpenClaim := { program := "ythgbbfcpnmpjgaa", sum := "0a97d15b1e3eaf5a86c06f66784ea17fc6213caec6ad679117c80f3cb9be66c6", func := "loop.example/liftsandlights/laws.FnRideTimes", spec := "fnRideTimes", unfollowed := true, recurses := true, apart := false }
def FnRideTimesSaid : Prop := fnRideTimesRow.holds Try.pinned (OpenSpec.ofChange fnRideTimesSpec)

/-- ITS FALSE NEIGHBOUR: 'it returns false'. Refute it at one input. -/
def fnRideTimesWrong : ChangeSpec := { name := "fnRideTimes", fn := fun _ => fun
  | [d] => { results := [.lit (.bool false)], args := [d] }
  | _ => none }
def FnRideTimesWrongFalsely : Prop := fnRideTimesRow.holds Try.pinned (OpenSpec.ofChange fnRideTimesWrong)

/-- 'laws.FnRideTimesOne': WHATEVER THE INPUT: true; the input reads as it did. -/
def fnRideTimesOneSpec : ChangeSpec := { name := "fnRideTimesOne", fn := fun _ => fun
  | [d] => { results := [.lit (.bool true)], args := [d] }
  | _ => none }
def fnRideTimesOneRow : OpenClaim := { program := "ythgbbfcpnmpjgaa", sum := "0a97d15b1e3eaf5a86c06f66784ea17fc6213caec6ad679117c80f3cb9be66c6", func := "loop.example/liftsandlights/laws.FnRideTimesOne", spec := "fnRideTimesOne", unfollowed := true, recurses := true, apart := false }
def FnRideTimesOneSaid : Prop := fnRideTimesOneRow.holds Try.pinned (OpenSpec.ofChange fnRideTimesOneSpec)

/-- ITS FALSE NEIGHBOUR: 'it returns false'. Refute it at one input. -/
def fnRideTimesOneWrong : ChangeSpec := { name := "fnRideTimesOne", fn := fun _ => fun
  | [d] => { results := [.lit (.bool false)], args := [d] }
  | _ => none }
def FnRideTimesOneWrongFalsely : Prop := fnRideTimesOneRow.holds Try.pinned (OpenSpec.ofChange fnRideTimesOneWrong)

/-- 'laws.FnTotalWaitOne': WHATEVER THE INPUT: true; the input reads as it did. -/
def fnTotalWaitOneSpec : ChangeSpec := { name := "fnTotalWaitOne", fn := fun _ => fun
  | [d] => { results := [.lit (.bool true)], args := [d] }
  | _ => none }
def fnTotalWaitOneRow : OpenClaim := { program := "ythgbbfcpnmpjgaa", sum := "0a97d15b1e3eaf5a86c06f66784ea17fc6213caec6ad679117c80f3cb9be66c6", func := "loop.example/liftsandlights/laws.FnTotalWaitOne", spec := "fnTotalWaitOne", unfollowed := true, recurses := true, apart := false }
def FnTotalWaitOneSaid : Prop := fnTotalWaitOneRow.holds Try.pinned (OpenSpec.ofChange fnTotalWaitOneSpec)

/-- ITS FALSE NEIGHBOUR: 'it returns false'. Refute it at one input. -/
def fnTotalWaitOneWrong : ChangeSpec := { name := "fnTotalWaitOne", fn := fun _ => fun
  | [d] => { results := [.lit (.bool false)], args := [d] }
  | _ => none }
def FnTotalWaitOneWrongFalsely : Prop := fnTotalWaitOneRow.holds Try.pinned (OpenSpec.ofChange fnTotalWaitOneWrong)

/-- 'laws.FnTotalWait': WHATEVER THE INPUT: true; the input reads as it did. -/
def fnTotalWaitSpec : ChangeSpec := { name := "fnTotalWait", fn := fun _ => fun
  | [d] => { results := [.lit (.bool true)], args := [d] }
  | _ => none }
def fnTotalWaitRow : OpenClaim := { program := "ythgbbfcpnmpjgaa", sum := "0a97d15b1e3eaf5a86c06f66784ea17fc6213caec6ad679117c80f3cb9be66c6", func := "loop.example/liftsandlights/laws.FnTotalWait", spec := "fnTotalWait", unfollowed := true, recurses := true, apart := false }
def FnTotalWaitSaid : Prop := fnTotalWaitRow.holds Try.pinned (OpenSpec.ofChange fnTotalWaitSpec)

/-- ITS FALSE NEIGHBOUR: 'it returns false'. Refute it at one input. -/
def fnTotalWaitWrong : ChangeSpec := { name := "fnTotalWait", fn := fun _ => fun
  | [d] => { results := [.lit (.bool false)], args := [d] }
  | _ => none }
def FnTotalWaitWrongFalsely : Prop := fnTotalWaitRow.holds Try.pinned (OpenSpec.ofChange fnTotalWaitWrong)

/- THE SECOND FORM. 'bulk': how many values and letters a reading holds, each counted each time it is reached (what is shared counts as often as it is met; a slice's spare places count too). A statement '..UptoSaid' is the law's where the arguments, and the package variables that the reading takes, are together of bulk at most 1048576: NARROWER than '..Said'. Prove '..Said' where nothing that the law and all that it calls make is longer than what came in: it says more and counts as full. Else prove '..UptoSaid'. A law counts once. -/
mutual
def uptoBulk {H : Type} : DataW H → Nat
  | .lit (.string bytes) => bytes.length + 1
  | .lit _ => 1
  | .nil => 1
  | .ptr d => uptoBulk d + 1
  | .slice elems spare => uptoBulkAll elems + uptoBulkAll spare + 1
  | .agg parts => uptoBulkAll parts + 1
  | .iface _ d => uptoBulk d + 1
  | .map entries => uptoBulkEntries entries + 1
  | .held _ => 1
def uptoBulkAll {H : Type} : List (DataW H) → Nat
  | [] => 0
  | d :: r => uptoBulk d + uptoBulkAll r
def uptoBulkEntries {H : Type} : List (Lit × DataW H) → Nat
  | [] => 0
  | x :: r => uptoBulkEntry x + uptoBulkEntries r
def uptoBulkEntry {H : Type} : Lit × DataW H → Nat
  | (.string bytes, d) => bytes.length + uptoBulk d + 1
  | (_, d) => uptoBulk d + 1
 end
def uptoSmall : (H : Type) → List (DataW H) → Bool := fun _ ds => decide (uptoBulkAll ds ≤ 1048576)
def OpenSpec.upto (s : _root_.Go.ChangeSpec) : _root_.Go.OpenSpec := { _root_.Go.OpenSpec.ofChange s with cond := some uptoSmall }

/-- 'laws.FnExactTotalWait', WHERE WHAT IT READS IS OF BULK AT MOST 1048576: true; the input reads as it did. -/
def fnExactTotalWaitUptoRow : OpenClaim := { program := "ythgbbfcpnmpjgaa", sum := "0a97d15b1e3eaf5a86c06f66784ea17fc6213caec6ad679117c80f3cb9be66c6", func := "loop.example/liftsandlights/laws.FnExactTotalWait", spec := "fnExactTotalWait", unfollowed := true, recurses := true, apart := false, narrowed := true }
def FnExactTotalWaitUptoSaid : Prop := fnExactTotalWaitUptoRow.holds Try.pinned (OpenSpec.upto fnExactTotalWaitSpec)

/-- 'laws.FnExactRideTimes', WHERE WHAT IT READS IS OF BULK AT MOST 1048576: true; the input reads as it did. -/
def fnExactRideTimesUptoRow : OpenClaim := { program := "ythgbbfcpnmpjgaa", sum := "0a97d15b1e3eaf5a86c06f66784ea17fc6213caec6ad679117c80f3cb9be66c6", func := "loop.example/liftsandlights/laws.FnExactRideTimes", spec := "fnExactRideTimes", unfollowed := true, recurses := true, apart := false, narrowed := true }
def FnExactRideTimesUptoSaid : Prop := fnExactRideTimesUptoRow.holds Try.pinned (OpenSpec.upto fnExactRideTimesSpec)

/-- 'laws.FnRideTimesRoom', WHERE WHAT IT READS IS OF BULK AT MOST 1048576: true; the input reads as it did. -/
def fnRideTimesRoomUptoRow : OpenClaim := { program := "ythgbbfcpnmpjgaa", sum := "0a97d15b1e3eaf5a86c06f66784ea17fc6213caec6ad679117c80f3cb9be66c6", func := "loop.example/liftsandlights/laws.FnRideTimesRoom", spec := "fnRideTimesRoom", unfollowed := true, recurses := true, apart := false, narrowed := true }
def FnRideTimesRoomUptoSaid : Prop := fnRideTimesRoomUptoRow.holds Try.pinned (OpenSpec.upto fnRideTimesRoomSpec)

/-- 'laws.FnRideTimes', WHERE WHAT IT READS IS OF BULK AT MOST 1048576: true; the input reads as it did. -/
def fnRideTimesUptoRow : OpenClaim := { program := "ythgbbfcpnmpjgaa", sum := "0a97d15b1e3eaf5a86c06f66784ea17fc6213caec6ad679117c80f3cb9be66c6", func := "loop.example/liftsandlights/laws.FnRideTimes", spec := "fnRideTimes", unfollowed := true, recurses := true, apart := false, narrowed := true }
def FnRideTimesUptoSaid : Prop := fnRideTimesUptoRow.holds Try.pinned (OpenSpec.upto fnRideTimesSpec)

/-- 'laws.FnRideTimesOne', WHERE WHAT IT READS IS OF BULK AT MOST 1048576: true; the input reads as it did. -/
def fnRideTimesOneUptoRow : OpenClaim := { program := "ythgbbfcpnmpjgaa", sum := "0a97d15b1e3eaf5a86c06f66784ea17fc6213caec6ad679117c80f3cb9be66c6", func := "loop.example/liftsandlights/laws.FnRideTimesOne", spec := "fnRideTimesOne", unfollowed := true, recurses := true, apart := false, narrowed := true }
def FnRideTimesOneUptoSaid : Prop := fnRideTimesOneUptoRow.holds Try.pinned (OpenSpec.upto fnRideTimesOneSpec)

/-- 'laws.FnTotalWaitOne', WHERE WHAT IT READS IS OF BULK AT MOST 1048576: true; the input reads as it did. -/
def fnTotalWaitOneUptoRow : OpenClaim := { program := "ythgbbfcpnmpjgaa", sum := "0a97d15b1e3eaf5a86c06f66784ea17fc6213caec6ad679117c80f3cb9be66c6", func := "loop.example/liftsandlights/laws.FnTotalWaitOne", spec := "fnTotalWaitOne", unfollowed := true, recurses := true, apart := false, narrowed := true }
def FnTotalWaitOneUptoSaid : Prop := fnTotalWaitOneUptoRow.holds Try.pinned (OpenSpec.upto fnTotalWaitOneSpec)

/-- 'laws.FnTotalWait', WHERE WHAT IT READS IS OF BULK AT MOST 1048576: true; the input reads as it did. -/
def fnTotalWaitUptoRow : OpenClaim := { program := "ythgbbfcpnmpjgaa", sum := "0a97d15b1e3eaf5a86c06f66784ea17fc6213caec6ad679117c80f3cb9be66c6", func := "loop.example/liftsandlights/laws.FnTotalWait", spec := "fnTotalWait", unfollowed := true, recurses := true, apart := false, narrowed := true }
def FnTotalWaitUptoSaid : Prop := fnTotalWaitUptoRow.holds Try.pinned (OpenSpec.upto fnTotalWaitSpec)

end Rows
end Go.Proofs.Ythgbbfcpnmpjgaa
