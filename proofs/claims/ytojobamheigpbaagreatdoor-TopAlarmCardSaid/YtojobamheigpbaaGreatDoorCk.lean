/-
  The tables of the flat reading against the seat's program: closed facts, looked at by the kernel.
-/
import Derived.Test.YtojobamheigpbaaGreatDoorCx
import Derived.Test.YtojobamheigpbaaGreatDoorFlatM3
import Derived.KernelRfl
namespace Go.Proofs.YtojobamheigpbaaGreatDoor
open Go.Flat
theorem tab_all:infos.allB (fun n i=>infoB Tryz.prog n i) id=true:=by kernel_rfl
theorem l2i:sigT.allB (fun n _=>u1o Tryz.prog n) id=true:=by kernel_rfl
theorem mixed:Tryz.prog.follows .mixedOrders=true:=by kernel_rfl
theorem hands:e2m cx:=fun f H h=>by cases h
theorem tab:g0o cx:=tab_ok (T:=infos) (fun _=>rfl) tab_all
theorem ext_64:q2f Tryz.prog 64 1:=⟨Tryz.f64,add64Entry,by kernel_rfl,by kernel_rfl,by kernel_rfl,by kernel_rfl,by kernel_rfl,rfl⟩
theorem ext_217:q2f Tryz.prog 217 2:=⟨Tryz.f217,sub64Entry,by kernel_rfl,by kernel_rfl,by kernel_rfl,by kernel_rfl,by kernel_rfl,rfl⟩
theorem plain:Fns cx:=⟨plain_ok (T:=sigT) (fun _=>rfl) l2i,ext_ok (l:=exts) (fun _=>rfl) <| fun x hx=>by
  simp only[exts,List.mem_cons,List.not_mem_nil,or_false] at hx
  rcases hx with rfl | rfl
  · exact ext_64
  · exact ext_217⟩
end Go.Proofs.YtojobamheigpbaaGreatDoor
