/-
  DERIVED: THE SHELF's CONTRACTS AT THIS DUMP, IN PLAIN WORDS (tools/lay-plain.mjs out of 'YtebflmbfgjbipaaLayss.lean', which tools/lay-shelf.mjs wrote): THE SAME DECLARATIONS UNDER THE SAME NAMES: 'import', 'namespace', 'open', 'def', 'theorem' AND NOTHING ELSE: no command of the shelf's: FOR A HAND-IN. Each laying: the table of numbers ('.._ren') and one theorem, a field a fact of the dump's own or the kernel's comparison; each contract: ONE APPLICATION.
-/
import Derived.Shelf.SlGeneric
import Derived.Shelf.SlicesG.Clone
import Derived.Ground.SlgnProg
import Derived.Shelf.SortG.Plain
import Derived.Shelf.SortG.SortNone
import Derived.Shelf.SlicesG.CompactI
import Derived.Shelf.SlicesG.SearchI
import Derived.Test.YtebflmbfgjbipaaChecked
namespace Go.Proofs
open Go.Shelf
def Ytebflmbfgjbipaa.layCloneI_ren : Go.Shelf.Ren := ⟨fun | 41 => 43 | n => n, fun | 22 => 22 | 23 => 3 | 4 => 4 | n => n, fun | n => n⟩
theorem Ytebflmbfgjbipaa.layCloneI : Go.Proofs.SlLaysN.n41 Try.prog Ytebflmbfgjbipaa.layCloneI_ren := {
  mixed := by kernel_rfl
  f41 := ⟨Try.f43.name, by decide, Try.func43.trans (congrArg some (by kernel_rfl))⟩
  t4 := Try.underlying4
  a4 := Try.isAgg4
  z4 := Try.sizeOf4
  v4 := Try.zeroValue4
  t22 := Try.underlying22
  a22 := Try.isAgg22
  z22 := Try.sizeOf22
  v22 := Try.zeroValue22
  t23 := Try.underlying3
  a23 := Try.isAgg3
  z23 := Try.sizeOf3
  v23 := Try.zeroValue3
  i23 := by kernel_rfl }
def Ytebflmbfgjbipaa.laySort_ren : Go.Shelf.Ren := ⟨fun | 53 => 44 | 64 => 57 | 63 => 56 | 78 => 70 | 79 => 71 | 70 => 62 | 71 => 63 | 72 => 64 | 73 => 65 | 74 => 66 | 75 => 67 | 59 => 58 | 76 => 68 | 77 => 69 | 88 => 74 | 89 => 75 | 90 => 76 | 91 => 77 | 92 => 78 | 68 => 72 | 96 => 79 | n => n, fun | 22 => 22 | 23 => 3 | 3 => 3 | 51 => 52 | 0 => 0 | 67 => 64 | 69 => 66 | 4 => 4 | 61 => 59 | 60 => 58 | 44 => 27 | 5 => 5 | 9 => 9 | 75 => 67 | 79 => 71 | 83 => 73 | 84 => 74 | n => n, fun | n => n⟩
theorem Ytebflmbfgjbipaa.laySort : Go.Proofs.SlLaysN.n53 Try.prog Ytebflmbfgjbipaa.laySort_ren := {
  mixed := by kernel_rfl
  f53 := ⟨Try.f44.name, by decide, Try.func44.trans (congrArg some (by kernel_rfl))⟩
  f59 := ⟨Try.f58.name, by decide, Try.func58.trans (congrArg some (by kernel_rfl))⟩
  f63 := ⟨Try.f56.name, by decide, Try.func56.trans (congrArg some (by kernel_rfl))⟩
  f64 := Try.func57.trans (congrArg some (by kernel_rfl))
  f68 := ⟨Try.f72.name, by decide, Try.func72.trans (congrArg some (by kernel_rfl))⟩
  f70 := ⟨Try.f62.name, by decide, Try.func62.trans (congrArg some (by kernel_rfl))⟩
  f71 := ⟨Try.f63.name, by decide, Try.func63.trans (congrArg some (by kernel_rfl))⟩
  f72 := ⟨Try.f64.name, by decide, Try.func64.trans (congrArg some (by kernel_rfl))⟩
  f73 := ⟨Try.f65.name, by decide, Try.func65.trans (congrArg some (by kernel_rfl))⟩
  f74 := ⟨Try.f66.name, by decide, Try.func66.trans (congrArg some (by kernel_rfl))⟩
  f75 := ⟨Try.f67.name, by decide, Try.func67.trans (congrArg some (by kernel_rfl))⟩
  f76 := ⟨Try.f68.name, by decide, Try.func68.trans (congrArg some (by kernel_rfl))⟩
  f77 := ⟨Try.f69.name, by decide, Try.func69.trans (congrArg some (by kernel_rfl))⟩
  f78 := Try.func70.trans (congrArg some (by kernel_rfl))
  f79 := Try.func71.trans (congrArg some (by kernel_rfl))
  f88 := ⟨Try.f74.name, by decide, Try.func74.trans (congrArg some (by kernel_rfl))⟩
  f89 := Try.func75.trans (congrArg some (by kernel_rfl))
  f90 := Try.func76.trans (congrArg some (by kernel_rfl))
  f91 := ⟨Try.f77.name, by decide, Try.func77.trans (congrArg some (by kernel_rfl))⟩
  f92 := ⟨Try.f78.name, by decide, Try.func78.trans (congrArg some (by kernel_rfl))⟩
  f96 := ⟨Try.f79.name, by decide, Try.func79.trans (congrArg some (by kernel_rfl))⟩
  t0 := Try.underlying0
  a0 := Try.isAgg0
  z0 := Try.sizeOf0
  v0 := Try.zeroValue0
  t3 := Try.underlying3
  a3 := Try.isAgg3
  z3 := Try.sizeOf3
  v3 := Try.zeroValue3
  t4 := Try.underlying4
  a4 := Try.isAgg4
  z4 := Try.sizeOf4
  v4 := Try.zeroValue4
  t5 := Try.underlying5
  a5 := Try.isAgg5
  z5 := Try.sizeOf5
  v5 := Try.zeroValue5
  t9 := Try.underlying9
  a9 := Try.isAgg9
  z9 := Try.sizeOf9
  v9 := Try.zeroValue9
  t22 := Try.underlying22
  a22 := Try.isAgg22
  z22 := Try.sizeOf22
  v22 := Try.zeroValue22
  t23 := Try.underlying3
  a23 := Try.isAgg3
  z23 := Try.sizeOf3
  v23 := Try.zeroValue3
  t44 := Try.underlying27
  a44 := Try.isAgg27
  z44 := Try.sizeOf27
  v44 := Try.zeroValue27
  t51 := Try.underlying52
  a51 := Try.isAgg52
  z51 := Try.sizeOf52
  v51 := Try.zeroValue52
  t60 := Try.underlying58
  a60 := Try.isAgg58
  z60 := Try.sizeOf58
  v60 := Try.zeroValue58
  t61 := Try.underlying59
  a61 := Try.isAgg59
  z61 := Try.sizeOf59
  v61 := Try.zeroValue59
  t67 := Try.underlying64
  a67 := Try.isAgg64
  z67 := Try.sizeOf64
  v67 := Try.zeroValue64
  t69 := Try.underlying66
  a69 := Try.isAgg66
  z69 := Try.sizeOf66
  v69 := Try.zeroValue66
  t75 := Try.underlying67
  a75 := Try.isAgg67
  z75 := Try.sizeOf67
  v75 := Try.zeroValue67
  t79 := Try.underlying71
  a79 := Try.isAgg71
  z79 := Try.sizeOf71
  v79 := Try.zeroValue71
  t83 := Try.underlying73
  a83 := Try.isAgg73
  z83 := Try.sizeOf73
  v83 := Try.zeroValue73
  t84 := Try.underlying74
  a84 := Try.isAgg74
  z84 := Try.sizeOf74
  v84 := Try.zeroValue74 }
def Ytebflmbfgjbipaa.layCompact_ren : Go.Shelf.Ren := ⟨fun | 43 => 45 | n => n, fun | 22 => 22 | 23 => 3 | 3 => 3 | 4 => 4 | 0 => 0 | n => n, fun | n => n⟩
theorem Ytebflmbfgjbipaa.layCompact : Go.Proofs.SlLaysN.n43 Try.prog Ytebflmbfgjbipaa.layCompact_ren := {
  mixed := by kernel_rfl
  f43 := ⟨Try.f45.name, by decide, Try.func45.trans (congrArg some (by kernel_rfl))⟩
  t0 := Try.underlying0
  a0 := Try.isAgg0
  z0 := Try.sizeOf0
  v0 := Try.zeroValue0
  t3 := Try.underlying3
  a3 := Try.isAgg3
  z3 := Try.sizeOf3
  v3 := Try.zeroValue3
  t4 := Try.underlying4
  a4 := Try.isAgg4
  z4 := Try.sizeOf4
  v4 := Try.zeroValue4
  t22 := Try.underlying22
  a22 := Try.isAgg22
  z22 := Try.sizeOf22
  v22 := Try.zeroValue22
  t23 := Try.underlying3
  a23 := Try.isAgg3
  z23 := Try.sizeOf3
  v23 := Try.zeroValue3
  i23 := by kernel_rfl }
def Ytebflmbfgjbipaa.laySearch_ren : Go.Shelf.Ren := ⟨fun | 49 => 46 | 59 => 58 | 60 => 59 | 68 => 72 | n => n, fun | 22 => 22 | 23 => 3 | 3 => 3 | 4 => 4 | 51 => 52 | 0 => 0 | n => n, fun | n => n⟩
theorem Ytebflmbfgjbipaa.laySearch : Go.Proofs.SlLaysN.n49 Try.prog Ytebflmbfgjbipaa.laySearch_ren := {
  mixed := by kernel_rfl
  f49 := ⟨Try.f46.name, by decide, Try.func46.trans (congrArg some (by kernel_rfl))⟩
  f59 := ⟨Try.f58.name, by decide, Try.func58.trans (congrArg some (by kernel_rfl))⟩
  f60 := ⟨Try.f59.name, by decide, Try.func59.trans (congrArg some (by kernel_rfl))⟩
  f68 := ⟨Try.f72.name, by decide, Try.func72.trans (congrArg some (by kernel_rfl))⟩
  t0 := Try.underlying0
  a0 := Try.isAgg0
  z0 := Try.sizeOf0
  v0 := Try.zeroValue0
  t3 := Try.underlying3
  a3 := Try.isAgg3
  z3 := Try.sizeOf3
  v3 := Try.zeroValue3
  t4 := Try.underlying4
  a4 := Try.isAgg4
  z4 := Try.sizeOf4
  v4 := Try.zeroValue4
  t22 := Try.underlying22
  a22 := Try.isAgg22
  z22 := Try.sizeOf22
  v22 := Try.zeroValue22
  t23 := Try.underlying3
  a23 := Try.isAgg3
  z23 := Try.sizeOf3
  v23 := Try.zeroValue3
  t51 := Try.underlying52
  a51 := Try.isAgg52
  z51 := Try.sizeOf52
  v51 := Try.zeroValue52 }
end Go.Proofs
