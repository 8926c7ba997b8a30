/-
  The tables of the flat reading against the seat's program: closed facts, looked at by the kernel.
-/
import Derived.Test.YtmcgmijdnfcfgaaCx
import Derived.Test.YtmcgmijdnfcfgaaFlatM4
import Derived.Test.YtmcgmijdnfcfgaaBl
import Derived.Test.YtmcgmijdnfcfgaaChk
import Derived.KernelRfl
namespace Go.Proofs.Ytmcgmijdnfcfgaa
open Go.Flat
theorem tab_all:infos.allB (fun n i=>infoB Try.prog n i) id=true:=by kernel_rfl
theorem i1g:sigT.allB (fun n _=>y0t Try.prog n) id=true:=by kernel_rfl
theorem mixed:Try.prog.follows .mixedOrders=true:=by kernel_rfl
theorem hands:e1f cx:=fun f H h=>by
  have h:=b1u (l:=handL) h
  simp only[handL,List.mem_cons,List.not_mem_nil,or_false,Prod.mk.injEq] at h
  rcases h with ⟨rfl,rfl⟩ | ⟨rfl,rfl⟩ | ⟨rfl,rfl⟩ | ⟨rfl,rfl⟩ | ⟨rfl,rfl⟩ | ⟨rfl,rfl⟩
  · exact k0a (s:=r0f cx 39) (by kernel_rfl) hc_Read
  · exact k0a (s:=r0f cx 48) (by kernel_rfl) (hc_Grow blL blX blG)
  · exact k0a (s:=r0f cx 49) (by kernel_rfl) (u0k blL blX blF166)
  · exact k0a (s:=r0f cx 50) (by kernel_rfl) (hc_Len blL blF170)
  · exact k0a (s:=r0f cx 51) (by kernel_rfl) (j1s blS blX)
  · exact k0a (s:=r0f cx 61) (by kernel_rfl) f1t
theorem tab:e0d cx:=tab_ok (T:=infos) (fun _=>rfl) tab_all
theorem plain:Fns cx:=⟨plain_ok (T:=sigT) (fun _=>rfl) i1g,ext_ok (l:=exts) (fun _=>rfl) <| fun x hx=>by
  simp[exts] at hx⟩
end Go.Proofs.Ytmcgmijdnfcfgaa
