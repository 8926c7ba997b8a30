/-
  The tables of the flat reading against the seat's program: closed facts, looked at by the kernel.
-/
import Derived.Test.YtfibfcjepngbmaaGreatDoorCx
import Derived.Test.YtfibfcjepngbmaaGreatDoorFlatM4
import Derived.Test.YtfibfcjepngbmaaGreatDoorBl
import Derived.KernelRfl
namespace Go.Proofs.YtfibfcjepngbmaaGreatDoor
open Go.Flat
theorem tab_all:infos.allB (fun n i=>infoB Tryz.prog n i) id=true:=by kernel_rfl
theorem z1y:sigT.allB (fun n _=>l1f Tryz.prog n) id=true:=by kernel_rfl
theorem mixed:Tryz.prog.follows .mixedOrders=true:=by kernel_rfl
theorem hands:t1p cx:=fun f H h=>by
  have h:=q1e (l:=handL) h
  simp only[handL,List.mem_cons,List.not_mem_nil,or_false,Prod.mk.injEq] at h
  rcases h with ⟨rfl,rfl⟩ | ⟨rfl,rfl⟩ | ⟨rfl,rfl⟩ | ⟨rfl,rfl⟩
  · exact u0a (s:=f1p cx 60) (by kernel_rfl) (b1y blL blX blF166)
  · exact u0a (s:=f1p cx 62) (by kernel_rfl) (m1g blL blX blF167)
  · exact u0a (s:=f1p cx 63) (by kernel_rfl) (b2t blS blX)
  · exact u0a (s:=f1p cx 64) (by kernel_rfl) w1h
theorem tab:e0u cx:=tab_ok (T:=infos) (fun _=>rfl) tab_all
theorem ext_230:ExtOk Tryz.prog 230 1:=⟨Tryz.f230,add64Entry,by kernel_rfl,by kernel_rfl,by kernel_rfl,by kernel_rfl,by kernel_rfl,rfl⟩
theorem plain:Fns cx:=⟨plain_ok (T:=sigT) (fun _=>rfl) z1y,ext_ok (l:=exts) (fun _=>rfl) <| fun x hx=>by
  simp only[exts,List.mem_cons,List.not_mem_nil,or_false] at hx
  subst hx
  exact ext_230⟩
end Go.Proofs.YtfibfcjepngbmaaGreatDoor
