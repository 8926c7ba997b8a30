/-
  The tables of the flat reading against the seat's program: closed facts, looked at by the kernel.
-/
import Derived.Test.YtagnkfbpgkckiaaGreatCx
import Derived.Test.YtagnkfbpgkckiaaGreatFlatM4
import Derived.Test.YtagnkfbpgkckiaaGreatBl
import Derived.Test.YtagnkfbpgkckiaaGreatChk
import Derived.KernelRfl
namespace Go.Proofs.YtagnkfbpgkckiaaGreat
open Go.Flat
theorem tab_all:infos.allB (fun n i=>infoB Tryz.prog n i) id=true:=by kernel_rfl
theorem g2k:sigT.allB (fun n _=>r1c Tryz.prog n) id=true:=by kernel_rfl
theorem mixed:Tryz.prog.follows .mixedOrders=true:=by kernel_rfl
theorem hands:z1y cx:=fun f H h=>by
  have h:=w1l (l:=handL) h
  simp only[handL,List.mem_cons,List.not_mem_nil,or_false,Prod.mk.injEq] at h
  rcases h with ⟨rfl,rfl⟩ | ⟨rfl,rfl⟩ | ⟨rfl,rfl⟩ | ⟨rfl,rfl⟩ | ⟨rfl,rfl⟩ | ⟨rfl,rfl⟩ | ⟨rfl,rfl⟩
  · exact n0k (s:=z0y cx 73) (by kernel_rfl) c2w
  · exact n0k (s:=z0y cx 110) (by kernel_rfl) w1j
  · exact n0k (s:=z0y cx 111) (by kernel_rfl) (i1m blL blX blF166)
  · exact n0k (s:=z0y cx 112) (by kernel_rfl) (i2k blS blX)
  · exact n0k (s:=z0y cx 113) (by kernel_rfl) w1i
  · exact n0k (s:=z0y cx 160) (by kernel_rfl) (hc_Grow blL blX blG)
  · exact n0k (s:=z0y cx 161) (by kernel_rfl) (hc_Len blL blF170)
theorem tab:h0g cx:=tab_ok (T:=infos) (fun _=>rfl) tab_all
theorem ext_264:ExtOk Tryz.prog 264 1:=⟨Tryz.f264,add64Entry,by kernel_rfl,by kernel_rfl,by kernel_rfl,by kernel_rfl,by kernel_rfl,rfl⟩
theorem plain:Fns cx:=⟨plain_ok (T:=sigT) (fun _=>rfl) g2k,ext_ok (l:=exts) (fun _=>rfl) <| fun x hx=>by
  simp only[exts,List.mem_cons,List.not_mem_nil,or_false] at hx
  subst hx
  exact ext_264⟩
end Go.Proofs.YtagnkfbpgkckiaaGreat
