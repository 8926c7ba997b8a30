/-
  The tables of the flat reading against the seat's program: closed facts, looked at by the kernel.
-/
import Derived.Test.YtkajechaanmplaaGreatDoorCx
import Derived.Test.YtkajechaanmplaaGreatDoorFlatM4
import Derived.Test.YtkajechaanmplaaGreatDoorBl
import Derived.KernelRfl
namespace Go.Proofs.YtkajechaanmplaaGreatDoor
open Go.Flat
theorem tab_all:infos.allB (fun n i=>infoB Tryz.prog n i) id=true:=by kernel_rfl
theorem y1i:sigT.allB (fun n _=>k1a Tryz.prog n) id=true:=by kernel_rfl
theorem mixed:Tryz.prog.follows .mixedOrders=true:=by kernel_rfl
theorem hands:s1i cx:=fun f H h=>by
  have h:=o1w (l:=handL) h
  simp only[handL,List.mem_cons,List.not_mem_nil,or_false,Prod.mk.injEq] at h
  rcases h with ⟨rfl,rfl⟩ | ⟨rfl,rfl⟩ | ⟨rfl,rfl⟩
  · exact z0p (s:=n1k cx 86) (by kernel_rfl) (b1j blL blX blF166)
  · exact z0p (s:=n1k cx 88) (by kernel_rfl) (k1z blL blX blF167)
  · exact z0p (s:=n1k cx 89) (by kernel_rfl) (a2b blS blX)
theorem tab:e0u cx:=tab_ok (T:=infos) (fun _=>rfl) tab_all
theorem ext_170:ExtOk Tryz.prog 170 1:=⟨Tryz.f170,add64Entry,by kernel_rfl,by kernel_rfl,by kernel_rfl,by kernel_rfl,by kernel_rfl,rfl⟩
theorem plain:Fns cx:=⟨plain_ok (T:=sigT) (fun _=>rfl) y1i,ext_ok (l:=exts) (fun _=>rfl) <| fun x hx=>by
  simp only[exts,List.mem_cons,List.not_mem_nil,or_false] at hx
  subst hx
  exact ext_170⟩
end Go.Proofs.YtkajechaanmplaaGreatDoor
