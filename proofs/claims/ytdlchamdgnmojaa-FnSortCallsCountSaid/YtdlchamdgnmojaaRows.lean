/-
  No cell of these rows narrows 'for every input' (looked for: loops, veiled, ifaces, maps, wideKeys, modest, calm, conditions, laid).
  DERIVED. THE GIVEN ROWS OF THIS SEAT. 9 by the template 'for every input the law returns true; each argument reads behind the call as it read before'; 0 by the template 'total and deterministic' (their statements: YtdlchamdgnmojaaTotals.lean).
  GIVEN WITH THE SEED: the statements are not yours to turn. If you find one false, say at which input.
  Laid BY PROGRAM, IN A SANDBOX (cutbox-rows.mjs): the forced cells as the released guide's own fill.sh prints them over the translation 82b65c3149db71e0… (all of the seat's roots in one cut). By AI agents, Wed Nov 11 2026. No macro, syntax, notation, axiom, sorry.
-/
import Derived.Test.YtdlchamdgnmojaaChecked
import GoSem.Claim
import GoSem.ClaimJoined
import GoSem.ClaimMapViews
import Derived.JoinedTies
import Derived.KernelRfl
namespace Go.Proofs.Ytdlchamdgnmojaa
/- THE CELL 'sum', in the pinned program and in every row, IS THE sha256 OF THE DUMP (.gsa) THAT YtdlchamdgnmojaaProg.lean LOADS. Nothing in Lean hashes anything: it is a label: what it is worth is what the hold of that sum in a sandbox is worth. -/
noncomputable def Try.pinned : Pinned := { name := "ytdlchamdgnmojaa", sum := "82b65c3149db71e069b3f922e2f74b38b82d299ab027d7b54e03c6762220e6f4", checked := Try.checked }
namespace Rows
def none {H : Type} : Left H := { results := [], args := [] }

/-- 'laws.FnExactDirectionOf': WHATEVER THE INPUT: true; the input reads as it did. -/
def fnExactDirectionOfSpec : ChangeSpec := { name := "fnExactDirectionOf", fn := fun _ => fun
  | [d] => { results := [.lit (.bool true)], args := [d] }
  | _ => none }
def fnExactDirectionOfRow : OpenClaim := { program := "ytdlchamdgnmojaa", sum := "82b65c3149db71e069b3f922e2f74b38b82d299ab027d7b54e03c6762220e6f4", func := "loop.example/liftsandlights/laws.FnExactDirectionOf", spec := "fnExactDirectionOf", apart := false }
def FnExactDirectionOfSaid : Prop := fnExactDirectionOfRow.holds Try.pinned (OpenSpec.ofChange fnExactDirectionOfSpec)

/-- ITS FALSE NEIGHBOUR: 'it returns false'. Refute it at one input. -/
def fnExactDirectionOfWrong : ChangeSpec := { name := "fnExactDirectionOf", fn := fun _ => fun
  | [d] => { results := [.lit (.bool false)], args := [d] }
  | _ => none }
def FnExactDirectionOfWrongFalsely : Prop := fnExactDirectionOfRow.holds Try.pinned (OpenSpec.ofChange fnExactDirectionOfWrong)

/-- 'laws.FnExactValidCalls': WHATEVER THE INPUT: true; the input reads as it did. -/
def fnExactValidCallsSpec : ChangeSpec := { name := "fnExactValidCalls", fn := fun _ => fun
  | [d] => { results := [.lit (.bool true)], args := [d] }
  | _ => none }
def fnExactValidCallsRow : OpenClaim := { program := "ytdlchamdgnmojaa", sum := "82b65c3149db71e069b3f922e2f74b38b82d299ab027d7b54e03c6762220e6f4", func := "loop.example/liftsandlights/laws.FnExactValidCalls", spec := "fnExactValidCalls", apart := false }
def FnExactValidCallsSaid : Prop := fnExactValidCallsRow.holds Try.pinned (OpenSpec.ofChange fnExactValidCallsSpec)

/-- ITS FALSE NEIGHBOUR: 'it returns false'. Refute it at one input. -/
def fnExactValidCallsWrong : ChangeSpec := { name := "fnExactValidCalls", fn := fun _ => fun
  | [d] => { results := [.lit (.bool false)], args := [d] }
  | _ => none }
def FnExactValidCallsWrongFalsely : Prop := fnExactValidCallsRow.holds Try.pinned (OpenSpec.ofChange fnExactValidCallsWrong)

/-- 'laws.FnExactSortCalls': WHATEVER THE INPUT: true; the input reads as it did. -/
def fnExactSortCallsSpec : ChangeSpec := { name := "fnExactSortCalls", fn := fun _ => fun
  | [d] => { results := [.lit (.bool true)], args := [d] }
  | _ => none }
def fnExactSortCallsRow : OpenClaim := { program := "ytdlchamdgnmojaa", sum := "82b65c3149db71e069b3f922e2f74b38b82d299ab027d7b54e03c6762220e6f4", func := "loop.example/liftsandlights/laws.FnExactSortCalls", spec := "fnExactSortCalls", unfollowed := true, recurses := true, apart := false }
def FnExactSortCallsSaid : Prop := fnExactSortCallsRow.holds Try.pinned (OpenSpec.ofChange fnExactSortCallsSpec)

/-- ITS FALSE NEIGHBOUR: 'it returns false'. Refute it at one input. -/
def fnExactSortCallsWrong : ChangeSpec := { name := "fnExactSortCalls", fn := fun _ => fun
  | [d] => { results := [.lit (.bool false)], args := [d] }
  | _ => none }
def FnExactSortCallsWrongFalsely : Prop := fnExactSortCallsRow.holds Try.pinned (OpenSpec.ofChange fnExactSortCallsWrong)

/-- 'laws.FnExactCallsUntil': WHATEVER THE INPUT: true; the input reads as it did. -/
def fnExactCallsUntilSpec : ChangeSpec := { name := "fnExactCallsUntil", fn := fun _ => fun
  | [d1, d2] => { results := [.lit (.bool true)], args := [d1, d2] }
  | _ => none }
def fnExactCallsUntilRow : OpenClaim := { program := "ytdlchamdgnmojaa", sum := "82b65c3149db71e069b3f922e2f74b38b82d299ab027d7b54e03c6762220e6f4", func := "loop.example/liftsandlights/laws.FnExactCallsUntil", spec := "fnExactCallsUntil", apart := false }
def FnExactCallsUntilSaid : Prop := fnExactCallsUntilRow.holds Try.pinned (OpenSpec.ofChange fnExactCallsUntilSpec)

/-- ITS FALSE NEIGHBOUR: 'it returns false'. Refute it at one input. -/
def fnExactCallsUntilWrong : ChangeSpec := { name := "fnExactCallsUntil", fn := fun _ => fun
  | [d1, d2] => { results := [.lit (.bool false)], args := [d1, d2] }
  | _ => none }
def FnExactCallsUntilWrongFalsely : Prop := fnExactCallsUntilRow.holds Try.pinned (OpenSpec.ofChange fnExactCallsUntilWrong)

/-- 'laws.FnDirectionOf': WHATEVER THE INPUT: true; the input reads as it did. -/
def fnDirectionOfSpec : ChangeSpec := { name := "fnDirectionOf", fn := fun _ => fun
  | [d] => { results := [.lit (.bool true)], args := [d] }
  | _ => none }
def fnDirectionOfRow : OpenClaim := { program := "ytdlchamdgnmojaa", sum := "82b65c3149db71e069b3f922e2f74b38b82d299ab027d7b54e03c6762220e6f4", func := "loop.example/liftsandlights/laws.FnDirectionOf", spec := "fnDirectionOf", apart := false }
def FnDirectionOfSaid : Prop := fnDirectionOfRow.holds Try.pinned (OpenSpec.ofChange fnDirectionOfSpec)

/-- ITS FALSE NEIGHBOUR: 'it returns false'. Refute it at one input. -/
def fnDirectionOfWrong : ChangeSpec := { name := "fnDirectionOf", fn := fun _ => fun
  | [d] => { results := [.lit (.bool false)], args := [d] }
  | _ => none }
def FnDirectionOfWrongFalsely : Prop := fnDirectionOfRow.holds Try.pinned (OpenSpec.ofChange fnDirectionOfWrong)

/-- 'laws.FnValidCalls': WHATEVER THE INPUT: true; the input reads as it did. -/
def fnValidCallsSpec : ChangeSpec := { name := "fnValidCalls", fn := fun _ => fun
  | [d] => { results := [.lit (.bool true)], args := [d] }
  | _ => none }
def fnValidCallsRow : OpenClaim := { program := "ytdlchamdgnmojaa", sum := "82b65c3149db71e069b3f922e2f74b38b82d299ab027d7b54e03c6762220e6f4", func := "loop.example/liftsandlights/laws.FnValidCalls", spec := "fnValidCalls", apart := false }
def FnValidCallsSaid : Prop := fnValidCallsRow.holds Try.pinned (OpenSpec.ofChange fnValidCallsSpec)

/-- ITS FALSE NEIGHBOUR: 'it returns false'. Refute it at one input. -/
def fnValidCallsWrong : ChangeSpec := { name := "fnValidCalls", fn := fun _ => fun
  | [d] => { results := [.lit (.bool false)], args := [d] }
  | _ => none }
def FnValidCallsWrongFalsely : Prop := fnValidCallsRow.holds Try.pinned (OpenSpec.ofChange fnValidCallsWrong)

/-- 'laws.FnCallsUntil': WHATEVER THE INPUT: true; the input reads as it did. -/
def fnCallsUntilSpec : ChangeSpec := { name := "fnCallsUntil", fn := fun _ => fun
  | [d] => { results := [.lit (.bool true)], args := [d] }
  | _ => none }
def fnCallsUntilRow : OpenClaim := { program := "ytdlchamdgnmojaa", sum := "82b65c3149db71e069b3f922e2f74b38b82d299ab027d7b54e03c6762220e6f4", func := "loop.example/liftsandlights/laws.FnCallsUntil", spec := "fnCallsUntil", apart := false }
def FnCallsUntilSaid : Prop := fnCallsUntilRow.holds Try.pinned (OpenSpec.ofChange fnCallsUntilSpec)

/-- ITS FALSE NEIGHBOUR: 'it returns false'. Refute it at one input. -/
def fnCallsUntilWrong : ChangeSpec := { name := "fnCallsUntil", fn := fun _ => fun
  | [d] => { results := [.lit (.bool false)], args := [d] }
  | _ => none }
def FnCallsUntilWrongFalsely : Prop := fnCallsUntilRow.holds Try.pinned (OpenSpec.ofChange fnCallsUntilWrong)

/-- 'laws.FnSortCalls': WHATEVER THE INPUT: true; the input reads as it did. -/
def fnSortCallsSpec : ChangeSpec := { name := "fnSortCalls", fn := fun _ => fun
  | [d] => { results := [.lit (.bool true)], args := [d] }
  | _ => none }
def fnSortCallsRow : OpenClaim := { program := "ytdlchamdgnmojaa", sum := "82b65c3149db71e069b3f922e2f74b38b82d299ab027d7b54e03c6762220e6f4", func := "loop.example/liftsandlights/laws.FnSortCalls", spec := "fnSortCalls", unfollowed := true, recurses := true, apart := false }
def FnSortCallsSaid : Prop := fnSortCallsRow.holds Try.pinned (OpenSpec.ofChange fnSortCallsSpec)

/-- ITS FALSE NEIGHBOUR: 'it returns false'. Refute it at one input. -/
def fnSortCallsWrong : ChangeSpec := { name := "fnSortCalls", fn := fun _ => fun
  | [d] => { results := [.lit (.bool false)], args := [d] }
  | _ => none }
def FnSortCallsWrongFalsely : Prop := fnSortCallsRow.holds Try.pinned (OpenSpec.ofChange fnSortCallsWrong)

/-- 'laws.FnSortCallsCount': WHATEVER THE INPUT: true; the input reads as it did. -/
def fnSortCallsCountSpec : ChangeSpec := { name := "fnSortCallsCount", fn := fun _ => fun
  | [d] => { results := [.lit (.bool true)], args := [d] }
  | _ => none }
def fnSortCallsCountRow : OpenClaim := { program := "ytdlchamdgnmojaa", sum := "82b65c3149db71e069b3f922e2f74b38b82d299ab027d7b54e03c6762220e6f4", func := "loop.example/liftsandlights/laws.FnSortCallsCount", spec := "fnSortCallsCount", unfollowed := true, recurses := true, apart := false }
def FnSortCallsCountSaid : Prop := fnSortCallsCountRow.holds Try.pinned (OpenSpec.ofChange fnSortCallsCountSpec)

/-- ITS FALSE NEIGHBOUR: 'it returns false'. Refute it at one input. -/
def fnSortCallsCountWrong : ChangeSpec := { name := "fnSortCallsCount", fn := fun _ => fun
  | [d] => { results := [.lit (.bool false)], args := [d] }
  | _ => none }
def FnSortCallsCountWrongFalsely : Prop := fnSortCallsCountRow.holds Try.pinned (OpenSpec.ofChange fnSortCallsCountWrong)

/- THE SECOND FORM. 'bulk': how many values and letters a reading holds, each counted each time it is reached (what is shared counts as often as it is met; a slice's spare places count too). A statement '..UptoSaid' is the law's where the arguments, and the package variables that the reading takes, are together of bulk at most 1048576: NARROWER than '..Said'. Prove '..Said' where nothing that the law and all that it calls make is longer than what came in: it says more and counts as full. Else prove '..UptoSaid'. A law counts once. -/
mutual
def uptoBulk {H : Type} : DataW H → Nat
  | .lit (.string bytes) => bytes.length + 1
  | .lit _ => 1
  | .nil => 1
  | .ptr d => uptoBulk d + 1
  | .slice elems spare => uptoBulkAll elems + uptoBulkAll spare + 1
  | .agg parts => uptoBulkAll parts + 1
  | .iface _ d => uptoBulk d + 1
  | .map entries => uptoBulkEntries entries + 1
  | .held _ => 1
def uptoBulkAll {H : Type} : List (DataW H) → Nat
  | [] => 0
  | d :: r => uptoBulk d + uptoBulkAll r
def uptoBulkEntries {H : Type} : List (Lit × DataW H) → Nat
  | [] => 0
  | x :: r => uptoBulkEntry x + uptoBulkEntries r
def uptoBulkEntry {H : Type} : Lit × DataW H → Nat
  | (.string bytes, d) => bytes.length + uptoBulk d + 1
  | (_, d) => uptoBulk d + 1
 end
def uptoSmall : (H : Type) → List (DataW H) → Bool := fun _ ds => decide (uptoBulkAll ds ≤ 1048576)
def OpenSpec.upto (s : _root_.Go.ChangeSpec) : _root_.Go.OpenSpec := { _root_.Go.OpenSpec.ofChange s with cond := some uptoSmall }

/-- 'laws.FnExactDirectionOf', WHERE WHAT IT READS IS OF BULK AT MOST 1048576: true; the input reads as it did. -/
def fnExactDirectionOfUptoRow : OpenClaim := { program := "ytdlchamdgnmojaa", sum := "82b65c3149db71e069b3f922e2f74b38b82d299ab027d7b54e03c6762220e6f4", func := "loop.example/liftsandlights/laws.FnExactDirectionOf", spec := "fnExactDirectionOf", apart := false, narrowed := true }
def FnExactDirectionOfUptoSaid : Prop := fnExactDirectionOfUptoRow.holds Try.pinned (OpenSpec.upto fnExactDirectionOfSpec)

/-- 'laws.FnExactValidCalls', WHERE WHAT IT READS IS OF BULK AT MOST 1048576: true; the input reads as it did. -/
def fnExactValidCallsUptoRow : OpenClaim := { program := "ytdlchamdgnmojaa", sum := "82b65c3149db71e069b3f922e2f74b38b82d299ab027d7b54e03c6762220e6f4", func := "loop.example/liftsandlights/laws.FnExactValidCalls", spec := "fnExactValidCalls", apart := false, narrowed := true }
def FnExactValidCallsUptoSaid : Prop := fnExactValidCallsUptoRow.holds Try.pinned (OpenSpec.upto fnExactValidCallsSpec)

/-- 'laws.FnExactSortCalls', WHERE WHAT IT READS IS OF BULK AT MOST 1048576: true; the input reads as it did. -/
def fnExactSortCallsUptoRow : OpenClaim := { program := "ytdlchamdgnmojaa", sum := "82b65c3149db71e069b3f922e2f74b38b82d299ab027d7b54e03c6762220e6f4", func := "loop.example/liftsandlights/laws.FnExactSortCalls", spec := "fnExactSortCalls", unfollowed := true, recurses := true, apart := false, narrowed := true }
def FnExactSortCallsUptoSaid : Prop := fnExactSortCallsUptoRow.holds Try.pinned (OpenSpec.upto fnExactSortCallsSpec)

/-- 'laws.FnExactCallsUntil', WHERE WHAT IT READS IS OF BULK AT MOST 1048576: true; the input reads as it did. -/
def fnExactCallsUntilUptoRow : OpenClaim := { program := "ytdlchamdgnmojaa", sum := "82b65c3149db71e069b3f922e2f74b38b82d299ab027d7b54e03c6762220e6f4", func := "loop.example/liftsandlights/laws.FnExactCallsUntil", spec := "fnExactCallsUntil", apart := false, narrowed := true }
def FnExactCallsUntilUptoSaid : Prop := fnExactCallsUntilUptoRow.holds Try.pinned (OpenSpec.upto fnExactCallsUntilSpec)

/-- 'laws.FnDirectionOf', WHERE WHAT IT READS IS OF BULK AT MOST 1048576: true; the input reads as it did. -/
def fnDirectionOfUptoRow : OpenClaim := { program := "ytdlchamdgnmojaa", sum := "82b65c3149db71e069b3f922e2f74b38b82d299ab027d7b54e03c6762220e6f4", func := "loop.example/liftsandlights/laws.FnDirectionOf", spec := "fnDirectionOf", apart := false, narrowed := true }
def FnDirectionOfUptoSaid : Prop := fnDirectionOfUptoRow.holds Try.pinned (OpenSpec.upto fnDirectionOfSpec)

/-- 'laws.FnValidCalls', WHERE WHAT IT READS IS OF BULK AT MOST 1048576: true; the input reads as it did. -/
def fnValidCallsUptoRow : OpenClaim := { program := "ytdlchamdgnmojaa", sum := "82b65c3149db71e069b3f922e2f74b38b82d299ab027d7b54e03c6762220e6f4", func := "loop.example/liftsandlights/laws.FnValidCalls", spec := "fnValidCalls", apart := false, narrowed := true }
def FnValidCallsUptoSaid : Prop := fnValidCallsUptoRow.holds Try.pinned (OpenSpec.upto fnValidCallsSpec)

/-- 'laws.FnCallsUntil', WHERE WHAT IT READS IS OF BULK AT MOST 1048576: true; the input reads as it did. -/
def fnCallsUntilUptoRow : OpenClaim := { program := "ytdlchamdgnmojaa", sum := "82b65c3149db71e069b3f922e2f74b38b82d299ab027d7b54e03c6762220e6f4", func := "loop.example/liftsandlights/laws.FnCallsUntil", spec := "fnCallsUntil", apart := false, narrowed := true }
def FnCallsUntilUptoSaid : Prop := fnCallsUntilUptoRow.holds Try.pinned (OpenSpec.upto fnCallsUntilSpec)

/-- 'laws.FnSortCalls', WHERE WHAT IT READS IS OF BULK AT MOST 1048576: true; the input reads as it did. -/
def fnSortCallsUptoRow : OpenClaim := { program := "ytdlchamdgnmojaa", sum := "82b65c3149db71e069b3f922e2f74b38b82d299ab027d7b54e03c6762220e6f4", func := "loop.example/liftsandlights/laws.FnSortCalls", spec := "fnSortCalls", unfollowed := true, recurses := true, apart := false, narrowed := true }
def FnSortCallsUptoSaid : Prop := fnSortCallsUptoRow.holds Try.pinned (OpenSpec.upto fnSortCallsSpec)

/-- 'laws.FnSortCallsCount', WHERE WHAT IT READS IS OF BULK AT MOST 1048576: true; the input reads as it did. -/
def fnSortCallsCountUptoRow : OpenClaim := { program := "ytdlchamdgnmojaa", sum := "82b65c3149db71e069b3f922e2f74b38b82d299ab027d7b54e03c6762220e6f4", func := "loop.example/liftsandlights/laws.FnSortCallsCount", spec := "fnSortCallsCount", unfollowed := true, recurses := true, apart := false, narrowed := true }
def FnSortCallsCountUptoSaid : Prop := fnSortCallsCountUptoRow.holds Try.pinned (OpenSpec.upto fnSortCallsCountSpec)

end Rows
end Go.Proofs.Ytdlchamdgnmojaa
