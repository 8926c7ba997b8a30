/-
  Numbers as bytes: the codec's writer and reader, and the document's, as plain functions.
-/
import Derived.Test.YthjnbidgliejkaaGreatTr
import Derived.Test.YthjnbidgliejkaaGreatFlatM3
namespace Go.Proofs.YthjnbidgliejkaaGreat
open Go.Flat
/-- a number of so many bytes off what is left -/
def rd (st : List UInt8 × Bool) (k : Nat) : Int × (List UInt8 × Bool) := if st.2 = true ∨ st.1.length < k then (0, ([], true)) else (valI (bytesI (st.1.take k)), (st.1.drop k, false))
end Go.Proofs.YthjnbidgliejkaaGreat
