/-
  The tables of the flat reading against the seat's program: closed facts, looked at by the kernel.
-/
import Derived.Test.YtojobamheigpbaaGreatDoorCx
import Derived.Test.YtojobamheigpbaaGreatDoorFlatM3
import Derived.Test.YtojobamheigpbaaGreatDoorQ3
import Derived.KernelRfl
namespace Go.Proofs.YtojobamheigpbaaGreatDoor
open Go.Flat
theorem tab_all:infos.allB (fun n i=>infoB Tryz.prog n i) id=true:=by kernel_rfl
theorem y1k:sigT.allB (fun n _=>k1c Tryz.prog n) id=true:=by kernel_rfl
theorem mixed:Tryz.prog.follows .mixedOrders=true:=by kernel_rfl
theorem hands:s1p cx:=fun f H h=>by
  have h:=o1y (l:=handL) h
  simp only[handL,List.mem_cons,List.not_mem_nil,or_false,Prod.mk.injEq] at h
  rcases h with ⟨rfl,rfl⟩ | ⟨rfl,rfl⟩ | ⟨rfl,rfl⟩
  · exact a1e (s:=n1p cx 124) (by kernel_rfl) (l1a blL blX)
  · exact a1e (s:=n1p cx 125) (by kernel_rfl) (b1x blL blX)
  · exact a1e (s:=n1p cx 127) (by kernel_rfl) (a2l blS blX)
theorem tab:f0f cx:=tab_ok (T:=infos) (fun _=>rfl) tab_all
theorem ext_64:d2d Tryz.prog 64 1:=⟨Tryz.f64,add64Entry,by kernel_rfl,by kernel_rfl,by kernel_rfl,by kernel_rfl,by kernel_rfl,rfl⟩
theorem ext_217:d2d Tryz.prog 217 2:=⟨Tryz.f217,sub64Entry,by kernel_rfl,by kernel_rfl,by kernel_rfl,by kernel_rfl,by kernel_rfl,rfl⟩
theorem plain:Fns cx:=⟨plain_ok (T:=sigT) (fun _=>rfl) y1k,ext_ok (l:=exts) (fun _=>rfl) <| fun x hx=>by
  simp only[exts,List.mem_cons,List.not_mem_nil,or_false] at hx
  rcases hx with rfl | rfl
  · exact ext_64
  · exact ext_217⟩
end Go.Proofs.YtojobamheigpbaaGreatDoor
