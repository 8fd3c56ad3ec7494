/-
  What the walks of the laws on drawn arguments begin with.
-/
import Derived.Test.YteclciglngidkaaReaderU
import Derived.Test.YteclciglngidkaaTrack
import Derived.OpenShut
namespace Go.Proofs.Yteclciglngidkaa
open Go.RowKit

theorem code8_of {w : World} {A : Option Addr} {n c : Nat} {zs : List Int} (hl : n ≤ c) (hr : RdI w .u8 A n zs) (hz : ∀ z ∈ zs, (Lit.int .u8 z).wf = true) : Code8 w w.heap.size A n c :=
  ⟨zs, hl, hr, fun b hb => bounds_u8 (hz b hb), RdI.old hr⟩
theorem blk3 {w : World} {g : Nat} {t : TypeId} {x y z : Value} (h : Blk w g t #[x, y, z]) : w.cell? ⟨g, 0, none⟩ = some x ∧ w.cell? ⟨g, 1, none⟩ = some y ∧ w.cell? ⟨g, 2, none⟩ = some z ∧ w.frozen? ⟨g, 0, none⟩ = false ∧ w.frozen? ⟨g, 1, none⟩ = false ∧ w.frozen? ⟨g, 2, none⟩ = false :=
  ⟨h.cell 0, h.cell 1, h.cell 2, h.frozen 0, h.frozen 1, h.frozen 2⟩

end Go.Proofs.Yteclciglngidkaa
