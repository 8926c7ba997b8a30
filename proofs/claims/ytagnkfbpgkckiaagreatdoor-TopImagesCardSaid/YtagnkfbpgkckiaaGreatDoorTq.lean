/-
 A total of a state that is written out, by the kernel.
-/
import Derived.Test.YtagnkfbpgkckiaaGreatDoorQ3
import Derived.KernelRfl
set_option linter.unusedVariables false
namespace Go.Proofs.YtagnkfbpgkckiaaGreatDoor
open Go.Flat Go.Plim
def e2r:Conf:=(20,((10,(20,60)),((4,(5,6)),(3,9))))
def x12:Ser:=([([97],[])],(2,((0,(0,[(2,(1,(0,false)))])),((List.replicate 4 s0,(List.replicate 5 s0,List.replicate 6 s0)),(0,(1,((2,(1,(0,false))),((2,(1,(0,false))),((0,0),(0,(0,0)))))))))))
def S12:Sta:=(e2r,(0,((-1),[x12,ser0,ser0])))
theorem tot12x (n:Nat):r1b (n+39) S12 [] 1 0 10=some ((1,(1,(1,((0,0),(0,(0,0)))))),0):=by kernel_rfl
end Go.Proofs.YtagnkfbpgkckiaaGreatDoor
