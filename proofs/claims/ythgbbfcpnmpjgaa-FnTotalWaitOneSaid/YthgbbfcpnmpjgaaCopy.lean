/-
  Contracts of the functions that copy a slice into memory of their own, and of those over slices of truth values.
-/
import Derived.Test.YthgbbfcpnmpjgaaInts
namespace Go.Proofs.Ythgbbfcpnmpjgaa
open Go.RowKit

end Go.Proofs.Ythgbbfcpnmpjgaa
