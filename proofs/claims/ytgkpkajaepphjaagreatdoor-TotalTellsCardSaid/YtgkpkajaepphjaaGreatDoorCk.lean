/-
  The tables of the flat reading against the seat's program: closed facts, looked at by the kernel.
-/
import Derived.Test.YtgkpkajaepphjaaGreatDoorCx
import Derived.Test.YtgkpkajaepphjaaGreatDoorFlatM3
import Derived.KernelRfl
namespace Go.Proofs.YtgkpkajaepphjaaGreatDoor
open Go.Flat
theorem tab_all:infos.allB (fun n i=>infoB Tryz.prog n i) id=true:=by kernel_rfl
theorem l2u:sigT.allB (fun n _=>w1u Tryz.prog n) id=true:=by kernel_rfl
theorem mixed:Tryz.prog.follows .mixedOrders=true:=by kernel_rfl
theorem hands:p2p cx:=fun f H h=>by cases h
theorem tab:j0w cx:=tab_ok (T:=infos) (fun _=>rfl) tab_all
theorem ext_106:p2q Tryz.prog 106 1:=⟨Tryz.f106,add64Entry,by kernel_rfl,by kernel_rfl,by kernel_rfl,by kernel_rfl,by kernel_rfl,rfl⟩
theorem ext_286:p2q Tryz.prog 286 2:=⟨Tryz.f286,sub64Entry,by kernel_rfl,by kernel_rfl,by kernel_rfl,by kernel_rfl,by kernel_rfl,rfl⟩
theorem plain:Fns cx:=⟨plain_ok (T:=sigT) (fun _=>rfl) l2u,ext_ok (l:=exts) (fun _=>rfl) <| fun x hx=>by
  simp only[exts,List.mem_cons,List.not_mem_nil,or_false] at hx
  rcases hx with rfl | rfl
  · exact ext_106
  · exact ext_286⟩
end Go.Proofs.YtgkpkajaepphjaaGreatDoor
