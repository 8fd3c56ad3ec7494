/-
  DERIVED: THE SHELF's CONTRACTS AT THIS DUMP, IN PLAIN WORDS (tools/lay-plain.mjs out of 'YtdlchamdgnmojaaLayss.lean', which tools/lay-shelf.mjs wrote): THE SAME DECLARATIONS UNDER THE SAME NAMES: 'import', 'namespace', 'open', 'def', 'theorem' AND NOTHING ELSE: no command of the shelf's: FOR A HAND-IN. Each laying: the table of numbers ('.._ren') and one theorem, a field a fact of the dump's own or the kernel's comparison; each contract: ONE APPLICATION.
-/
import Derived.Shelf.SlGeneric
import Derived.Shelf.SlicesG.Cmp
import Derived.Ground.SlgcProg
import Derived.Shelf.SlSortCmp.InsertionK
import Derived.Ground.SlsfProg
import Derived.Shelf.SlicesE.Clone
import Derived.Ground.SlgnProg
import Derived.Test.YtdlchamdgnmojaaChecked
namespace Go.Proofs
open Go.Shelf
def Ytdlchamdgnmojaa.layCmp_ren : Go.Shelf.Ren := ⟨fun | 5 => 40 | 7 => 50 | n => n, fun | 22 => 3 | 3 => 3 | 4 => 4 | n => n, fun | n => n⟩
theorem Ytdlchamdgnmojaa.layCmp : Go.Proofs.SlLaysC2.n5 Try.prog Ytdlchamdgnmojaa.layCmp_ren := {
  mixed := by kernel_rfl
  f5 := ⟨Try.f40.name, by decide, Try.func40.trans (congrArg some (by kernel_rfl))⟩
  f7 := ⟨Try.f50.name, by decide, Try.func50.trans (congrArg some (by kernel_rfl))⟩
  t3 := Try.underlying3
  a3 := Try.isAgg3
  z3 := Try.sizeOf3
  v3 := Try.zeroValue3
  t4 := Try.underlying4
  a4 := Try.isAgg4
  z4 := Try.sizeOf4
  v4 := Try.zeroValue4
  t22 := Try.underlying3
  a22 := Try.isAgg3
  z22 := Try.sizeOf3
  v22 := Try.zeroValue3 }
def Ytdlchamdgnmojaa.layIns_ren : Go.Shelf.Ren := ⟨fun | 20 => 52 | n => n, fun | 24 => 25 | 22 => 31 | 3 => 3 | 25 => 49 | 4 => 4 | 0 => 0 | n => n, fun | n => n⟩
theorem Ytdlchamdgnmojaa.layIns : Go.Proofs.SlLaysF0.n20 Try.prog Ytdlchamdgnmojaa.layIns_ren := {
  mixed := by kernel_rfl
  f20 := ⟨Try.f52.name, by decide, Try.func52.trans (congrArg some (by kernel_rfl))⟩
  t0 := Try.underlying0
  a0 := Try.isAgg0
  z0 := Try.sizeOf0
  v0 := Try.zeroValue0
  t3 := Try.underlying3
  a3 := Try.isAgg3
  z3 := Try.sizeOf3
  v3 := Try.zeroValue3
  t4 := Try.underlying4
  a4 := Try.isAgg4
  z4 := Try.sizeOf4
  v4 := Try.zeroValue4
  t22 := Try.underlying31
  a22 := Try.isAgg31
  z22 := Try.sizeOf31
  v22 := Try.zeroValue31
  t25 := Try.underlying49
  a25 := Try.isAgg49
  z25 := Try.sizeOf49
  v25 := Try.zeroValue49 }
def Ytdlchamdgnmojaa.layClone_ren : Go.Shelf.Ren := ⟨fun | 41 => 37 | n => n, fun | 22 => 31 | 23 => 25 | 4 => 4 | n => n, fun | n => n⟩
theorem Ytdlchamdgnmojaa.layClone : Go.Proofs.SlLaysE0.n41 Try.prog Ytdlchamdgnmojaa.layClone_ren := {
  mixed := by kernel_rfl
  f41 := ⟨Try.f37.name, by decide, Try.func37.trans (congrArg some (by kernel_rfl))⟩
  t4 := Try.underlying4
  a4 := Try.isAgg4
  z4 := Try.sizeOf4
  v4 := Try.zeroValue4
  t22 := Try.underlying31
  a22 := Try.isAgg31
  z22 := Try.sizeOf31
  v22 := Try.zeroValue31 }
end Go.Proofs
