/-
  The tables of the flat reading against the seat's program: closed facts, looked at by the kernel.
-/
import Derived.Test.YtagnkfbpgkckiaaGreatCx
import Derived.Test.YtagnkfbpgkckiaaGreatFlatM4
import Derived.Test.YtagnkfbpgkckiaaGreatBl
import Derived.Test.YtagnkfbpgkckiaaGreatChk
import Derived.KernelRfl
namespace Go.Proofs.YtagnkfbpgkckiaaGreat
open Go.Flat
theorem tab_all:infos.allB (fun n i=>infoB Tryz.prog n i) id=true:=by kernel_rfl
theorem f2h:sigT.allB (fun n _=>r1n Tryz.prog n) id=true:=by kernel_rfl
theorem mixed:Tryz.prog.follows .mixedOrders=true:=by kernel_rfl
theorem hands:z1r cx:=fun f H h=>by
  have h:=w1q (l:=handL) h
  simp only[handL,List.mem_cons,List.not_mem_nil,or_false,Prod.mk.injEq] at h
  rcases h with ⟨rfl,rfl⟩ | ⟨rfl,rfl⟩ | ⟨rfl,rfl⟩ | ⟨rfl,rfl⟩ | ⟨rfl,rfl⟩ | ⟨rfl,rfl⟩ | ⟨rfl,rfl⟩
  · exact n0n (s:=a1e cx 73) (by kernel_rfl) b2y
  · exact n0n (s:=a1e cx 110) (by kernel_rfl) w1o
  · exact n0n (s:=a1e cx 111) (by kernel_rfl) (j1b blL blX blF166)
  · exact n0n (s:=a1e cx 112) (by kernel_rfl) (h2d blS blX)
  · exact n0n (s:=a1e cx 113) (by kernel_rfl) w1n
  · exact n0n (s:=a1e cx 160) (by kernel_rfl) (hc_Grow blL blX blG)
  · exact n0n (s:=a1e cx 161) (by kernel_rfl) (hc_Len blL blF170)
theorem tab:h0f cx:=tab_ok (T:=infos) (fun _=>rfl) tab_all
theorem ext_264:ExtOk Tryz.prog 264 1:=⟨Tryz.f264,add64Entry,by kernel_rfl,by kernel_rfl,by kernel_rfl,by kernel_rfl,by kernel_rfl,rfl⟩
theorem plain:Fns cx:=⟨plain_ok (T:=sigT) (fun _=>rfl) f2h,ext_ok (l:=exts) (fun _=>rfl) <| fun x hx=>by
  simp only[exts,List.mem_cons,List.not_mem_nil,or_false] at hx
  subst hx
  exact ext_264⟩
end Go.Proofs.YtagnkfbpgkckiaaGreat
