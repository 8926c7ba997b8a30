/-
 A text's lines, as text.lines hands them over: those that are neither empty nor notes.
-/
import Derived.Test.YtjionkknnajjgaaGreatDoorShP
import Derived.Shelf.Strings.Cut
import Derived.Shelf.Strings.Prefix
set_option linter.unusedVariables false
namespace Go.Flat
def p0f (l:List UInt8):Bool := !(l==[]) && !(Lib.hasPrefix l [35])
def g0v:Nat→List UInt8→List (List UInt8)
 | 0,_=>[]
 | k+1,s=>if s=[] then [] else (if p0f (Lib.cut s [10]).1=true then [(Lib.cut s [10]).1] else [])++g0v k (Lib.cut s [10]).2.1
noncomputable def a1u (s:List UInt8):Option (List (List UInt8×Unit)):=tif (decide (s.length<4294967281)) (some ((g0v (s.length+1) s).map fun l=>(l,()))) none
end Go.Flat
