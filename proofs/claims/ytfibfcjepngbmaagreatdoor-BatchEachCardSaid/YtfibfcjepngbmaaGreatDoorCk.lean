/-
  The tables of the flat reading against the seat's program: closed facts, looked at by the kernel.
-/
import Derived.Test.YtfibfcjepngbmaaGreatDoorCx
import Derived.Test.YtfibfcjepngbmaaGreatDoorFlatM4
import Derived.Test.YtfibfcjepngbmaaGreatDoorBl
import Derived.KernelRfl
namespace Go.Proofs.YtfibfcjepngbmaaGreatDoor
open Go.Flat
theorem tab_all:infos.allB (fun n i=>infoB Tryz.prog n i) id=true:=by kernel_rfl
theorem e2x:sigT.allB (fun n _=>o1p Tryz.prog n) id=true:=by kernel_rfl
theorem mixed:Tryz.prog.follows .mixedOrders=true:=by kernel_rfl
theorem hands:y1b cx:=fun f H h=>by
  have h:=u1u (l:=handL) h
  simp only[handL,q2l,List.not_mem_nil,or_false,Prod.mk.injEq] at h
  rcases h with ⟨rfl,rfl⟩ | ⟨rfl,rfl⟩ | ⟨rfl,rfl⟩ | ⟨rfl,rfl⟩
  · exact v0q (s:=m1t cx 60) (by kernel_rfl) (d1y blL blX blF166)
  · exact v0q (s:=m1t cx 62) (by kernel_rfl) (p1t blL blX blF167)
  · exact v0q (s:=m1t cx 63) (by kernel_rfl) (g2o blS blX)
  · exact v0q (s:=m1t cx 64) (by kernel_rfl) b2a
theorem tab:e0t cx:=tab_ok (T:=infos) (fun _=>rfl) tab_all
theorem ext_230:ExtOk Tryz.prog 230 1:=⟨Tryz.f230,add64Entry,by kernel_rfl,by kernel_rfl,by kernel_rfl,by kernel_rfl,by kernel_rfl,rfl⟩
theorem plain:Fns cx:=⟨plain_ok (T:=sigT) (fun _=>rfl) e2x,ext_ok (l:=exts) (fun _=>rfl) <| fun x hx=>by
  simp only[exts,q2l,List.not_mem_nil,or_false] at hx
  subst hx
  exact ext_230⟩
end Go.Proofs.YtfibfcjepngbmaaGreatDoor
