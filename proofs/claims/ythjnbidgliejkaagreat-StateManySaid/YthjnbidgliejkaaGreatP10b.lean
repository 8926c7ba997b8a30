/-
  Configurations: their bytes, and what is read of bytes.
-/
import Derived.Test.YthjnbidgliejkaaGreatP10
import Derived.Test.YthjnbidgliejkaaGreatP03
namespace Go.Proofs.YthjnbidgliejkaaGreat
open Go.Flat
def q0 (s : List UInt8) := rd (s, false) 4
def q1 (s : List UInt8) := rd (q0 s).2 8
def q2 (s : List UInt8) := rd (q1 s).2 8
def q3 (s : List UInt8) := rd (q2 s).2 8
def q4 (s : List UInt8) := rd (q3 s).2 4
def q5 (s : List UInt8) := rd (q4 s).2 4
def q6 (s : List UInt8) := rd (q5 s).2 4
def q7 (s : List UInt8) := rd (q6 s).2 4
def q8 (s : List UInt8) := rd (q7 s).2 4
def q9 (s : List UInt8) := rd (q8 s).2 8
/-- the bytes are just a configuration's -/
structure Full (s : List UInt8) : Prop where
  z : (q9 s).1 = 0
  good : (q9 s).2.2 = false
  left : (q9 s).2.1 = []
end Go.Proofs.YthjnbidgliejkaaGreat
