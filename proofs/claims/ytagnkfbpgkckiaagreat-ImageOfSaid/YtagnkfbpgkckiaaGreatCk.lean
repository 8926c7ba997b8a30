/-
  The tables of the flat reading against the seat's program: closed facts, looked at by the kernel.
-/
import Derived.Test.YtagnkfbpgkckiaaGreatCx
import Derived.Test.YtagnkfbpgkckiaaGreatFlatM4
import Derived.Test.YtagnkfbpgkckiaaGreatBl
import Derived.Test.YtagnkfbpgkckiaaGreatChk
import Derived.KernelRfl
namespace Go.Proofs.YtagnkfbpgkckiaaGreat
open Go.Flat
theorem tab_all:infos.allB (fun n i=>infoB Tryz.prog n i) id=true:=by kernel_rfl
theorem j2n:sigT.allB (fun n _=>u1v Tryz.prog n) id=true:=by kernel_rfl
theorem mixed:Tryz.prog.follows .mixedOrders=true:=by kernel_rfl
theorem hands:d2s cx:=fun f H h=>by
  have h:=a2i (l:=handL) h
  simp only[handL,q2m,List.not_mem_nil,or_false,Prod.mk.injEq] at h
  rcases h with ⟨rfl,rfl⟩ | ⟨rfl,rfl⟩ | ⟨rfl,rfl⟩ | ⟨rfl,rfl⟩ | ⟨rfl,rfl⟩ | ⟨rfl,rfl⟩ | ⟨rfl,rfl⟩
  · exact o0s (s:=d1l cx 73) (by kernel_rfl) g2a
  · exact o0s (s:=d1l cx 110) (by kernel_rfl) a2g
  · exact o0s (s:=d1l cx 111) (by kernel_rfl) (m1d blL blX blF166)
  · exact o0s (s:=d1l cx 112) (by kernel_rfl) (l2e blS blX)
  · exact o0s (s:=d1l cx 113) (by kernel_rfl) a2f
  · exact o0s (s:=d1l cx 160) (by kernel_rfl) (hc_Grow blL blX blG)
  · exact o0s (s:=d1l cx 161) (by kernel_rfl) (hc_Len blL blF170)
theorem tab:i0f cx:=tab_ok (T:=infos) (fun _=>rfl) tab_all
theorem ext_264:ExtOk Tryz.prog 264 1:=⟨Tryz.f264,add64Entry,by kernel_rfl,by kernel_rfl,by kernel_rfl,by kernel_rfl,by kernel_rfl,rfl⟩
theorem plain:Fns cx:=⟨plain_ok (T:=sigT) (fun _=>rfl) j2n,ext_ok (l:=exts) (fun _=>rfl) <| fun x hx=>by
  simp only[exts,q2m,List.not_mem_nil,or_false] at hx
  subst hx
  exact ext_264⟩
end Go.Proofs.YtagnkfbpgkckiaaGreat
