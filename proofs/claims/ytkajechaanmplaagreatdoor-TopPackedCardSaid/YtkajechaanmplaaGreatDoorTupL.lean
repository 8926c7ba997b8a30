/-
 A tuple of so many numbers, as a list.
-/
import Derived.Test.YtkajechaanmplaaGreatDoorFlatM4
namespace Go.Flat
set_option linter.unusedVariables false
def tupL:(n:Nat)→El (tup (List.replicate n (.int .u32)))→List Int
 | 0,_=>[]
 | 1,x=>[x]
 | n+2,x=>x.1::tupL (n+1) x.2
theorem tupL_len:∀(n:Nat) (x:El (tup (List.replicate n (.int .u32)))),(tupL n x).length=n:=by
 intro n;induction n with
 | zero=>intro x;rfl
 | succ n ih =>
  intro x;cases n with
  | zero=>rfl
  | succ n=>show (_::tupL (n+1) x.2).length=_;rw[List.length_cons,ih]
end Go.Flat
