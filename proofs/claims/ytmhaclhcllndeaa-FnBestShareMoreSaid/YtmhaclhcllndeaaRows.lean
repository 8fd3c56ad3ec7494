/-
  No cell of these rows narrows 'for every input' (looked for: loops, veiled, ifaces, maps, wideKeys, modest, calm, conditions, laid).
  DERIVED. THE GIVEN ROWS OF THIS SEAT. 10 by the template 'for every input the law returns true; each argument reads behind the call as it read before'; 0 by the template 'total and deterministic' (their statements: YtmhaclhcllndeaaTotals.lean).
  GIVEN WITH THE SEED: the statements are not yours to turn. If you find one false, say at which input.
  Laid BY PROGRAM, IN A SANDBOX (cutbox-rows.mjs): the forced cells as the released guide's own fill.sh prints them over the translation 853d94f4fd941706… (all of the seat's roots in one cut). By AI agents, Wed Nov 11 2026. No macro, syntax, notation, axiom, sorry.
-/
import Derived.Test.YtmhaclhcllndeaaChecked
import GoSem.Claim
import GoSem.ClaimJoined
import GoSem.ClaimMapViews
import Derived.JoinedTies
import Derived.KernelRfl
namespace Go.Proofs.Ytmhaclhcllndeaa
/- THE CELL 'sum', in the pinned program and in every row, IS THE sha256 OF THE DUMP (.gsa) THAT YtmhaclhcllndeaaProg.lean LOADS. Nothing in Lean hashes anything: it is a label: what it is worth is what the hold of that sum in a sandbox is worth. -/
noncomputable def Try.pinned : Pinned := { name := "ytmhaclhcllndeaa", sum := "853d94f4fd94170637b2b406d34edd15edfd866a718cbaffd81cb0267610ba52", checked := Try.checked }
namespace Rows
def none {H : Type} : Left H := { results := [], args := [] }

/-- 'laws.FnExactNearestCar': WHATEVER THE INPUT: true; the input reads as it did. -/
def fnExactNearestCarSpec : ChangeSpec := { name := "fnExactNearestCar", fn := fun _ => fun
  | [d1, d2] => { results := [.lit (.bool true)], args := [d1, d2] }
  | _ => none }
def fnExactNearestCarRow : OpenClaim := { program := "ytmhaclhcllndeaa", sum := "853d94f4fd94170637b2b406d34edd15edfd866a718cbaffd81cb0267610ba52", func := "loop.example/liftsandlights/laws.FnExactNearestCar", spec := "fnExactNearestCar", apart := false }
def FnExactNearestCarSaid : Prop := fnExactNearestCarRow.holds Try.pinned (OpenSpec.ofChange fnExactNearestCarSpec)

/-- ITS FALSE NEIGHBOUR: 'it returns false'. Refute it at one input. -/
def fnExactNearestCarWrong : ChangeSpec := { name := "fnExactNearestCar", fn := fun _ => fun
  | [d1, d2] => { results := [.lit (.bool false)], args := [d1, d2] }
  | _ => none }
def FnExactNearestCarWrongFalsely : Prop := fnExactNearestCarRow.holds Try.pinned (OpenSpec.ofChange fnExactNearestCarWrong)

/-- 'laws.FnExactShareCost': WHATEVER THE INPUT: true; the input reads as it did. -/
def fnExactShareCostSpec : ChangeSpec := { name := "fnExactShareCost", fn := fun _ => fun
  | [d1, d2, d3] => { results := [.lit (.bool true)], args := [d1, d2, d3] }
  | _ => none }
def fnExactShareCostRow : OpenClaim := { program := "ytmhaclhcllndeaa", sum := "853d94f4fd94170637b2b406d34edd15edfd866a718cbaffd81cb0267610ba52", func := "loop.example/liftsandlights/laws.FnExactShareCost", spec := "fnExactShareCost", apart := false }
def FnExactShareCostSaid : Prop := fnExactShareCostRow.holds Try.pinned (OpenSpec.ofChange fnExactShareCostSpec)

/-- ITS FALSE NEIGHBOUR: 'it returns false'. Refute it at one input. -/
def fnExactShareCostWrong : ChangeSpec := { name := "fnExactShareCost", fn := fun _ => fun
  | [d1, d2, d3] => { results := [.lit (.bool false)], args := [d1, d2, d3] }
  | _ => none }
def FnExactShareCostWrongFalsely : Prop := fnExactShareCostRow.holds Try.pinned (OpenSpec.ofChange fnExactShareCostWrong)

/-- 'laws.FnExactGreedyShare': WHATEVER THE INPUT: true; the input reads as it did. -/
def fnExactGreedyShareSpec : ChangeSpec := { name := "fnExactGreedyShare", fn := fun _ => fun
  | [d1, d2] => { results := [.lit (.bool true)], args := [d1, d2] }
  | _ => none }
def fnExactGreedyShareRow : OpenClaim := { program := "ytmhaclhcllndeaa", sum := "853d94f4fd94170637b2b406d34edd15edfd866a718cbaffd81cb0267610ba52", func := "loop.example/liftsandlights/laws.FnExactGreedyShare", spec := "fnExactGreedyShare", apart := false }
def FnExactGreedyShareSaid : Prop := fnExactGreedyShareRow.holds Try.pinned (OpenSpec.ofChange fnExactGreedyShareSpec)

/-- ITS FALSE NEIGHBOUR: 'it returns false'. Refute it at one input. -/
def fnExactGreedyShareWrong : ChangeSpec := { name := "fnExactGreedyShare", fn := fun _ => fun
  | [d1, d2] => { results := [.lit (.bool false)], args := [d1, d2] }
  | _ => none }
def FnExactGreedyShareWrongFalsely : Prop := fnExactGreedyShareRow.holds Try.pinned (OpenSpec.ofChange fnExactGreedyShareWrong)

/-- 'laws.FnExactBestShare': WHATEVER THE INPUT: true; the input reads as it did. -/
def fnExactBestShareSpec : ChangeSpec := { name := "fnExactBestShare", fn := fun _ => fun
  | [d1, d2] => { results := [.lit (.bool true)], args := [d1, d2] }
  | _ => none }
def fnExactBestShareRow : OpenClaim := { program := "ytmhaclhcllndeaa", sum := "853d94f4fd94170637b2b406d34edd15edfd866a718cbaffd81cb0267610ba52", func := "loop.example/liftsandlights/laws.FnExactBestShare", spec := "fnExactBestShare", unfollowed := true, recurses := true, apart := false }
def FnExactBestShareSaid : Prop := fnExactBestShareRow.holds Try.pinned (OpenSpec.ofChange fnExactBestShareSpec)

/-- ITS FALSE NEIGHBOUR: 'it returns false'. Refute it at one input. -/
def fnExactBestShareWrong : ChangeSpec := { name := "fnExactBestShare", fn := fun _ => fun
  | [d1, d2] => { results := [.lit (.bool false)], args := [d1, d2] }
  | _ => none }
def FnExactBestShareWrongFalsely : Prop := fnExactBestShareRow.holds Try.pinned (OpenSpec.ofChange fnExactBestShareWrong)

/-- 'laws.FnNearestCarOwn': WHATEVER THE INPUT: true; the input reads as it did. -/
def fnNearestCarOwnSpec : ChangeSpec := { name := "fnNearestCarOwn", fn := fun _ => fun
  | [d] => { results := [.lit (.bool true)], args := [d] }
  | _ => none }
def fnNearestCarOwnRow : OpenClaim := { program := "ytmhaclhcllndeaa", sum := "853d94f4fd94170637b2b406d34edd15edfd866a718cbaffd81cb0267610ba52", func := "loop.example/liftsandlights/laws.FnNearestCarOwn", spec := "fnNearestCarOwn", apart := false }
def FnNearestCarOwnSaid : Prop := fnNearestCarOwnRow.holds Try.pinned (OpenSpec.ofChange fnNearestCarOwnSpec)

/-- ITS FALSE NEIGHBOUR: 'it returns false'. Refute it at one input. -/
def fnNearestCarOwnWrong : ChangeSpec := { name := "fnNearestCarOwn", fn := fun _ => fun
  | [d] => { results := [.lit (.bool false)], args := [d] }
  | _ => none }
def FnNearestCarOwnWrongFalsely : Prop := fnNearestCarOwnRow.holds Try.pinned (OpenSpec.ofChange fnNearestCarOwnWrong)

/-- 'laws.FnNearestCar': WHATEVER THE INPUT: true; the input reads as it did. -/
def fnNearestCarSpec : ChangeSpec := { name := "fnNearestCar", fn := fun _ => fun
  | [d] => { results := [.lit (.bool true)], args := [d] }
  | _ => none }
def fnNearestCarRow : OpenClaim := { program := "ytmhaclhcllndeaa", sum := "853d94f4fd94170637b2b406d34edd15edfd866a718cbaffd81cb0267610ba52", func := "loop.example/liftsandlights/laws.FnNearestCar", spec := "fnNearestCar", apart := false }
def FnNearestCarSaid : Prop := fnNearestCarRow.holds Try.pinned (OpenSpec.ofChange fnNearestCarSpec)

/-- ITS FALSE NEIGHBOUR: 'it returns false'. Refute it at one input. -/
def fnNearestCarWrong : ChangeSpec := { name := "fnNearestCar", fn := fun _ => fun
  | [d] => { results := [.lit (.bool false)], args := [d] }
  | _ => none }
def FnNearestCarWrongFalsely : Prop := fnNearestCarRow.holds Try.pinned (OpenSpec.ofChange fnNearestCarWrong)

/-- 'laws.FnShareCostOne': WHATEVER THE INPUT: true; the input reads as it did. -/
def fnShareCostOneSpec : ChangeSpec := { name := "fnShareCostOne", fn := fun _ => fun
  | [d] => { results := [.lit (.bool true)], args := [d] }
  | _ => none }
def fnShareCostOneRow : OpenClaim := { program := "ytmhaclhcllndeaa", sum := "853d94f4fd94170637b2b406d34edd15edfd866a718cbaffd81cb0267610ba52", func := "loop.example/liftsandlights/laws.FnShareCostOne", spec := "fnShareCostOne", apart := false }
def FnShareCostOneSaid : Prop := fnShareCostOneRow.holds Try.pinned (OpenSpec.ofChange fnShareCostOneSpec)

/-- ITS FALSE NEIGHBOUR: 'it returns false'. Refute it at one input. -/
def fnShareCostOneWrong : ChangeSpec := { name := "fnShareCostOne", fn := fun _ => fun
  | [d] => { results := [.lit (.bool false)], args := [d] }
  | _ => none }
def FnShareCostOneWrongFalsely : Prop := fnShareCostOneRow.holds Try.pinned (OpenSpec.ofChange fnShareCostOneWrong)

/-- 'laws.FnShareCost': WHATEVER THE INPUT: true; the input reads as it did. -/
def fnShareCostSpec : ChangeSpec := { name := "fnShareCost", fn := fun _ => fun
  | [d] => { results := [.lit (.bool true)], args := [d] }
  | _ => none }
def fnShareCostRow : OpenClaim := { program := "ytmhaclhcllndeaa", sum := "853d94f4fd94170637b2b406d34edd15edfd866a718cbaffd81cb0267610ba52", func := "loop.example/liftsandlights/laws.FnShareCost", spec := "fnShareCost", apart := false }
def FnShareCostSaid : Prop := fnShareCostRow.holds Try.pinned (OpenSpec.ofChange fnShareCostSpec)

/-- ITS FALSE NEIGHBOUR: 'it returns false'. Refute it at one input. -/
def fnShareCostWrong : ChangeSpec := { name := "fnShareCost", fn := fun _ => fun
  | [d] => { results := [.lit (.bool false)], args := [d] }
  | _ => none }
def FnShareCostWrongFalsely : Prop := fnShareCostRow.holds Try.pinned (OpenSpec.ofChange fnShareCostWrong)

/-- 'laws.FnGreedyShare': WHATEVER THE INPUT: true; the input reads as it did. -/
def fnGreedyShareSpec : ChangeSpec := { name := "fnGreedyShare", fn := fun _ => fun
  | [d] => { results := [.lit (.bool true)], args := [d] }
  | _ => none }
def fnGreedyShareRow : OpenClaim := { program := "ytmhaclhcllndeaa", sum := "853d94f4fd94170637b2b406d34edd15edfd866a718cbaffd81cb0267610ba52", func := "loop.example/liftsandlights/laws.FnGreedyShare", spec := "fnGreedyShare", apart := false }
def FnGreedyShareSaid : Prop := fnGreedyShareRow.holds Try.pinned (OpenSpec.ofChange fnGreedyShareSpec)

/-- ITS FALSE NEIGHBOUR: 'it returns false'. Refute it at one input. -/
def fnGreedyShareWrong : ChangeSpec := { name := "fnGreedyShare", fn := fun _ => fun
  | [d] => { results := [.lit (.bool false)], args := [d] }
  | _ => none }
def FnGreedyShareWrongFalsely : Prop := fnGreedyShareRow.holds Try.pinned (OpenSpec.ofChange fnGreedyShareWrong)

/-- 'laws.FnBestShareMore': WHATEVER THE INPUT: true; the input reads as it did. -/
def fnBestShareMoreSpec : ChangeSpec := { name := "fnBestShareMore", fn := fun _ => fun
  | [d] => { results := [.lit (.bool true)], args := [d] }
  | _ => none }
def fnBestShareMoreRow : OpenClaim := { program := "ytmhaclhcllndeaa", sum := "853d94f4fd94170637b2b406d34edd15edfd866a718cbaffd81cb0267610ba52", func := "loop.example/liftsandlights/laws.FnBestShareMore", spec := "fnBestShareMore", unfollowed := true, recurses := true, apart := false }
def FnBestShareMoreSaid : Prop := fnBestShareMoreRow.holds Try.pinned (OpenSpec.ofChange fnBestShareMoreSpec)

/-- ITS FALSE NEIGHBOUR: 'it returns false'. Refute it at one input. -/
def fnBestShareMoreWrong : ChangeSpec := { name := "fnBestShareMore", fn := fun _ => fun
  | [d] => { results := [.lit (.bool false)], args := [d] }
  | _ => none }
def FnBestShareMoreWrongFalsely : Prop := fnBestShareMoreRow.holds Try.pinned (OpenSpec.ofChange fnBestShareMoreWrong)

/- THE SECOND FORM. 'bulk': how many values and letters a reading holds, each counted each time it is reached (what is shared counts as often as it is met; a slice's spare places count too). A statement '..UptoSaid' is the law's where the arguments, and the package variables that the reading takes, are together of bulk at most 1048576: NARROWER than '..Said'. Prove '..Said' where nothing that the law and all that it calls make is longer than what came in: it says more and counts as full. Else prove '..UptoSaid'. A law counts once. -/
mutual
def uptoBulk {H : Type} : DataW H → Nat
  | .lit (.string bytes) => bytes.length + 1
  | .lit _ => 1
  | .nil => 1
  | .ptr d => uptoBulk d + 1
  | .slice elems spare => uptoBulkAll elems + uptoBulkAll spare + 1
  | .agg parts => uptoBulkAll parts + 1
  | .iface _ d => uptoBulk d + 1
  | .map entries => uptoBulkEntries entries + 1
  | .held _ => 1
def uptoBulkAll {H : Type} : List (DataW H) → Nat
  | [] => 0
  | d :: r => uptoBulk d + uptoBulkAll r
def uptoBulkEntries {H : Type} : List (Lit × DataW H) → Nat
  | [] => 0
  | x :: r => uptoBulkEntry x + uptoBulkEntries r
def uptoBulkEntry {H : Type} : Lit × DataW H → Nat
  | (.string bytes, d) => bytes.length + uptoBulk d + 1
  | (_, d) => uptoBulk d + 1
 end
def uptoSmall : (H : Type) → List (DataW H) → Bool := fun _ ds => decide (uptoBulkAll ds ≤ 1048576)
def OpenSpec.upto (s : _root_.Go.ChangeSpec) : _root_.Go.OpenSpec := { _root_.Go.OpenSpec.ofChange s with cond := some uptoSmall }

/-- 'laws.FnExactNearestCar', WHERE WHAT IT READS IS OF BULK AT MOST 1048576: true; the input reads as it did. -/
def fnExactNearestCarUptoRow : OpenClaim := { program := "ytmhaclhcllndeaa", sum := "853d94f4fd94170637b2b406d34edd15edfd866a718cbaffd81cb0267610ba52", func := "loop.example/liftsandlights/laws.FnExactNearestCar", spec := "fnExactNearestCar", apart := false, narrowed := true }
def FnExactNearestCarUptoSaid : Prop := fnExactNearestCarUptoRow.holds Try.pinned (OpenSpec.upto fnExactNearestCarSpec)

/-- 'laws.FnExactShareCost', WHERE WHAT IT READS IS OF BULK AT MOST 1048576: true; the input reads as it did. -/
def fnExactShareCostUptoRow : OpenClaim := { program := "ytmhaclhcllndeaa", sum := "853d94f4fd94170637b2b406d34edd15edfd866a718cbaffd81cb0267610ba52", func := "loop.example/liftsandlights/laws.FnExactShareCost", spec := "fnExactShareCost", apart := false, narrowed := true }
def FnExactShareCostUptoSaid : Prop := fnExactShareCostUptoRow.holds Try.pinned (OpenSpec.upto fnExactShareCostSpec)

/-- 'laws.FnExactGreedyShare', WHERE WHAT IT READS IS OF BULK AT MOST 1048576: true; the input reads as it did. -/
def fnExactGreedyShareUptoRow : OpenClaim := { program := "ytmhaclhcllndeaa", sum := "853d94f4fd94170637b2b406d34edd15edfd866a718cbaffd81cb0267610ba52", func := "loop.example/liftsandlights/laws.FnExactGreedyShare", spec := "fnExactGreedyShare", apart := false, narrowed := true }
def FnExactGreedyShareUptoSaid : Prop := fnExactGreedyShareUptoRow.holds Try.pinned (OpenSpec.upto fnExactGreedyShareSpec)

/-- 'laws.FnExactBestShare', WHERE WHAT IT READS IS OF BULK AT MOST 1048576: true; the input reads as it did. -/
def fnExactBestShareUptoRow : OpenClaim := { program := "ytmhaclhcllndeaa", sum := "853d94f4fd94170637b2b406d34edd15edfd866a718cbaffd81cb0267610ba52", func := "loop.example/liftsandlights/laws.FnExactBestShare", spec := "fnExactBestShare", unfollowed := true, recurses := true, apart := false, narrowed := true }
def FnExactBestShareUptoSaid : Prop := fnExactBestShareUptoRow.holds Try.pinned (OpenSpec.upto fnExactBestShareSpec)

/-- 'laws.FnNearestCarOwn', WHERE WHAT IT READS IS OF BULK AT MOST 1048576: true; the input reads as it did. -/
def fnNearestCarOwnUptoRow : OpenClaim := { program := "ytmhaclhcllndeaa", sum := "853d94f4fd94170637b2b406d34edd15edfd866a718cbaffd81cb0267610ba52", func := "loop.example/liftsandlights/laws.FnNearestCarOwn", spec := "fnNearestCarOwn", apart := false, narrowed := true }
def FnNearestCarOwnUptoSaid : Prop := fnNearestCarOwnUptoRow.holds Try.pinned (OpenSpec.upto fnNearestCarOwnSpec)

/-- 'laws.FnNearestCar', WHERE WHAT IT READS IS OF BULK AT MOST 1048576: true; the input reads as it did. -/
def fnNearestCarUptoRow : OpenClaim := { program := "ytmhaclhcllndeaa", sum := "853d94f4fd94170637b2b406d34edd15edfd866a718cbaffd81cb0267610ba52", func := "loop.example/liftsandlights/laws.FnNearestCar", spec := "fnNearestCar", apart := false, narrowed := true }
def FnNearestCarUptoSaid : Prop := fnNearestCarUptoRow.holds Try.pinned (OpenSpec.upto fnNearestCarSpec)

/-- 'laws.FnShareCostOne', WHERE WHAT IT READS IS OF BULK AT MOST 1048576: true; the input reads as it did. -/
def fnShareCostOneUptoRow : OpenClaim := { program := "ytmhaclhcllndeaa", sum := "853d94f4fd94170637b2b406d34edd15edfd866a718cbaffd81cb0267610ba52", func := "loop.example/liftsandlights/laws.FnShareCostOne", spec := "fnShareCostOne", apart := false, narrowed := true }
def FnShareCostOneUptoSaid : Prop := fnShareCostOneUptoRow.holds Try.pinned (OpenSpec.upto fnShareCostOneSpec)

/-- 'laws.FnShareCost', WHERE WHAT IT READS IS OF BULK AT MOST 1048576: true; the input reads as it did. -/
def fnShareCostUptoRow : OpenClaim := { program := "ytmhaclhcllndeaa", sum := "853d94f4fd94170637b2b406d34edd15edfd866a718cbaffd81cb0267610ba52", func := "loop.example/liftsandlights/laws.FnShareCost", spec := "fnShareCost", apart := false, narrowed := true }
def FnShareCostUptoSaid : Prop := fnShareCostUptoRow.holds Try.pinned (OpenSpec.upto fnShareCostSpec)

/-- 'laws.FnGreedyShare', WHERE WHAT IT READS IS OF BULK AT MOST 1048576: true; the input reads as it did. -/
def fnGreedyShareUptoRow : OpenClaim := { program := "ytmhaclhcllndeaa", sum := "853d94f4fd94170637b2b406d34edd15edfd866a718cbaffd81cb0267610ba52", func := "loop.example/liftsandlights/laws.FnGreedyShare", spec := "fnGreedyShare", apart := false, narrowed := true }
def FnGreedyShareUptoSaid : Prop := fnGreedyShareUptoRow.holds Try.pinned (OpenSpec.upto fnGreedyShareSpec)

/-- 'laws.FnBestShareMore', WHERE WHAT IT READS IS OF BULK AT MOST 1048576: true; the input reads as it did. -/
def fnBestShareMoreUptoRow : OpenClaim := { program := "ytmhaclhcllndeaa", sum := "853d94f4fd94170637b2b406d34edd15edfd866a718cbaffd81cb0267610ba52", func := "loop.example/liftsandlights/laws.FnBestShareMore", spec := "fnBestShareMore", unfollowed := true, recurses := true, apart := false, narrowed := true }
def FnBestShareMoreUptoSaid : Prop := fnBestShareMoreUptoRow.holds Try.pinned (OpenSpec.upto fnBestShareMoreSpec)

end Rows
end Go.Proofs.Ytmhaclhcllndeaa
