/-
  The tables of the flat reading against the seat's program: closed facts, looked at by the kernel.
-/
import Derived.Test.YtjffajodppnejaaGreatDoorCx
import Derived.Test.YtjffajodppnejaaGreatDoorFlatM4
import Derived.Test.YtjffajodppnejaaGreatDoorBl
import Derived.Test.YtjffajodppnejaaGreatDoorChk
import Derived.KernelRfl
namespace Go.Proofs.YtjffajodppnejaaGreatDoor
open Go.Flat
theorem tab_all:infos.allB (fun n i=>infoB Tryz.prog n i) id=true:=by kernel_rfl
theorem d2s:sigT.allB (fun n _=>o1e Tryz.prog n) id=true:=by kernel_rfl
theorem mixed:Tryz.prog.follows .mixedOrders=true:=by kernel_rfl
theorem hands:x1c cx:=fun f H h=>by
  have h:=t1j (l:=handL) h
  simp only[handL,List.mem_cons,List.not_mem_nil,or_false,Prod.mk.injEq] at h
  rcases h with ⟨rfl,rfl⟩ | ⟨rfl,rfl⟩ | ⟨rfl,rfl⟩ | ⟨rfl,rfl⟩ | ⟨rfl,rfl⟩ | ⟨rfl,rfl⟩ | ⟨rfl,rfl⟩ | ⟨rfl,rfl⟩
  · exact j0j (s:=v0n cx 51) (by kernel_rfl) (f1b blL blX blF166)
  · exact j0j (s:=v0n cx 53) (by kernel_rfl) (p1i blL blX blF167)
  · exact j0j (s:=v0n cx 54) (by kernel_rfl) (f2z blS blX)
  · exact j0j (s:=v0n cx 75) (by kernel_rfl) z1x
  · exact j0j (s:=v0n cx 88) (by kernel_rfl) z1z
  · exact j0j (s:=v0n cx 90) (by kernel_rfl) z1y
  · exact j0j (s:=v0n cx 110) (by kernel_rfl) (hc_Grow blL blX blG)
  · exact j0j (s:=v0n cx 111) (by kernel_rfl) (hc_Len blL blF170)
theorem tab:f0p cx:=tab_ok (T:=infos) (fun _=>rfl) tab_all
theorem ext_191:ExtOk Tryz.prog 191 1:=⟨Tryz.f191,add64Entry,by kernel_rfl,by kernel_rfl,by kernel_rfl,by kernel_rfl,by kernel_rfl,rfl⟩
theorem plain:Fns cx:=⟨plain_ok (T:=sigT) (fun _=>rfl) d2s,ext_ok (l:=exts) (fun _=>rfl) <| fun x hx=>by
  simp only[exts,List.mem_cons,List.not_mem_nil,or_false] at hx
  subst hx
  exact ext_191⟩
end Go.Proofs.YtjffajodppnejaaGreatDoor
