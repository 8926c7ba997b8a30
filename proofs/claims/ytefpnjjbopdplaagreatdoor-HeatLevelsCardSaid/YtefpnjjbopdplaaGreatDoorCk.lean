/-
  The tables of the flat reading against the seat's program: closed facts, looked at by the kernel.
-/
import Derived.Test.YtefpnjjbopdplaaGreatDoorCx
import Derived.Test.YtefpnjjbopdplaaGreatDoorFlatM3
import Derived.KernelRfl
namespace Go.Proofs.YtefpnjjbopdplaaGreatDoor
open Go.Flat
theorem tab_all:infos.allB (fun n i=>infoB Tryz.prog n i) id=true:=by kernel_rfl
theorem plain_all:sigT.allB (fun n _=>plainB Tryz.prog n) id=true:=by kernel_rfl
theorem mixed:Tryz.prog.follows .mixedOrders=true:=by kernel_rfl
theorem hands:HandOk cx:=fun f H h=>by cases h
theorem tab:TabOk cx:=tab_ok (T:=infos) (fun _=>rfl) tab_all
theorem ext_108:ExtOk Tryz.prog 108 1:=⟨Tryz.f108,add64Entry,by kernel_rfl,by kernel_rfl,by kernel_rfl,by kernel_rfl,by kernel_rfl,rfl⟩
theorem ext_313:ExtOk Tryz.prog 313 2:=⟨Tryz.f313,sub64Entry,by kernel_rfl,by kernel_rfl,by kernel_rfl,by kernel_rfl,by kernel_rfl,rfl⟩
theorem plain:Fns cx:=⟨plain_ok (T:=sigT) (fun _=>rfl) plain_all,ext_ok (l:=exts) (fun _=>rfl) <| fun x hx=>by
  simp only[exts,List.mem_cons,List.not_mem_nil,or_false] at hx
  rcases hx with rfl | rfl
  · exact ext_108
  · exact ext_313⟩
end Go.Proofs.YtefpnjjbopdplaaGreatDoor
