/-
  DERIVED: THE SHELF's CONTRACTS AT THIS DUMP, IN PLAIN WORDS (tools/lay-plain.mjs out of 'YthgbbfcpnmpjgaaLayss.lean', which tools/lay-shelf.mjs wrote): THE SAME DECLARATIONS UNDER THE SAME NAMES: 'import', 'namespace', 'open', 'def', 'theorem' AND NOTHING ELSE: no command of the shelf's: FOR A HAND-IN. Each laying: the table of numbers ('.._ren') and one theorem, a field a fact of the dump's own or the kernel's comparison; each contract: ONE APPLICATION.
-/
import Derived.Shelf.SlGeneric
import Derived.Shelf.SlicesG.Cmp
import Derived.Ground.SlgcProg
import Derived.Shelf.SlSortCmp.InsertionK
import Derived.Ground.SlsfProg
import Derived.Shelf.SlicesE.Clone
import Derived.Ground.SlgnProg
import Derived.Test.YthgbbfcpnmpjgaaChecked
namespace Go.Proofs
open Go.Shelf
def Ythgbbfcpnmpjgaa.layCmp_ren : Go.Shelf.Ren := ⟨fun | 5 => 45 | 7 => 61 | n => n, fun | 22 => 3 | 3 => 3 | 4 => 4 | n => n, fun | n => n⟩
theorem Ythgbbfcpnmpjgaa.layCmp : Go.Proofs.SlLaysC2.n5 Try.prog Ythgbbfcpnmpjgaa.layCmp_ren := {
  mixed := by kernel_rfl
  f5 := ⟨Try.f45.name, by decide, Try.func45.trans (congrArg some (by kernel_rfl))⟩
  f7 := ⟨Try.f61.name, by decide, Try.func61.trans (congrArg some (by kernel_rfl))⟩
  t3 := Try.underlying3
  a3 := Try.isAgg3
  z3 := Try.sizeOf3
  v3 := Try.zeroValue3
  t4 := Try.underlying4
  a4 := Try.isAgg4
  z4 := Try.sizeOf4
  v4 := Try.zeroValue4
  t22 := Try.underlying3
  a22 := Try.isAgg3
  z22 := Try.sizeOf3
  v22 := Try.zeroValue3 }
def Ythgbbfcpnmpjgaa.layIns_ren : Go.Shelf.Ren := ⟨fun | 20 => 66 | n => n, fun | 24 => 40 | 22 => 25 | 3 => 3 | 25 => 60 | 4 => 4 | 0 => 0 | n => n, fun | n => n⟩
theorem Ythgbbfcpnmpjgaa.layIns : Go.Proofs.SlLaysF0.n20 Try.prog Ythgbbfcpnmpjgaa.layIns_ren := {
  mixed := by kernel_rfl
  f20 := ⟨Try.f66.name, by decide, Try.func66.trans (congrArg some (by kernel_rfl))⟩
  t0 := Try.underlying0
  a0 := Try.isAgg0
  z0 := Try.sizeOf0
  v0 := Try.zeroValue0
  t3 := Try.underlying3
  a3 := Try.isAgg3
  z3 := Try.sizeOf3
  v3 := Try.zeroValue3
  t4 := Try.underlying4
  a4 := Try.isAgg4
  z4 := Try.sizeOf4
  v4 := Try.zeroValue4
  t22 := Try.underlying25
  a22 := Try.isAgg25
  z22 := Try.sizeOf25
  v22 := Try.zeroValue25
  t25 := Try.underlying60
  a25 := Try.isAgg60
  z25 := Try.sizeOf60
  v25 := Try.zeroValue60 }
def Ythgbbfcpnmpjgaa.layClone_ren : Go.Shelf.Ren := ⟨fun | 41 => 42 | n => n, fun | 22 => 25 | 23 => 40 | 4 => 4 | n => n, fun | n => n⟩
theorem Ythgbbfcpnmpjgaa.layClone : Go.Proofs.SlLaysE0.n41 Try.prog Ythgbbfcpnmpjgaa.layClone_ren := {
  mixed := by kernel_rfl
  f41 := ⟨Try.f42.name, by decide, Try.func42.trans (congrArg some (by kernel_rfl))⟩
  t4 := Try.underlying4
  a4 := Try.isAgg4
  z4 := Try.sizeOf4
  v4 := Try.zeroValue4
  t22 := Try.underlying25
  a22 := Try.isAgg25
  z22 := Try.sizeOf25
  v22 := Try.zeroValue25 }
end Go.Proofs
