/-
  The tables of the flat reading against the seat's program: closed facts, looked at by the kernel.
-/
import Derived.Test.YteopnkdnglpbfaaGreatDoorCx
import Derived.Test.YteopnkdnglpbfaaGreatDoorFlatM4
import Derived.KernelRfl
namespace Go.Proofs.YteopnkdnglpbfaaGreatDoor
open Go.Flat
theorem tab_all:infos.allB (fun n i=>infoB Tryz.prog n i) id=true:=by kernel_rfl
theorem i2n:sigT.allB (fun n _=>t1k Tryz.prog n) id=true:=by kernel_rfl
theorem mixed:Tryz.prog.follows .mixedOrders=true:=by kernel_rfl
theorem hands:c2k cx:=fun f H h=>by cases h
theorem tab:g0g cx:=tab_ok (T:=infos) (fun _=>rfl) tab_all
theorem ext_133:m2j Tryz.prog 133 1:=⟨Tryz.f133,add64Entry,by kernel_rfl,by kernel_rfl,by kernel_rfl,by kernel_rfl,by kernel_rfl,rfl⟩
theorem ext_171:m2j Tryz.prog 171 2:=⟨Tryz.f171,sub64Entry,by kernel_rfl,by kernel_rfl,by kernel_rfl,by kernel_rfl,by kernel_rfl,rfl⟩
theorem plain:Fns cx:=⟨plain_ok (T:=sigT) (fun _=>rfl) i2n,ext_ok (l:=exts) (fun _=>rfl) <| fun x hx=>by
  simp only[exts,q2l,List.not_mem_nil,or_false] at hx
  rcases hx with rfl | rfl
  · exact ext_133
  · exact ext_171⟩
end Go.Proofs.YteopnkdnglpbfaaGreatDoor
