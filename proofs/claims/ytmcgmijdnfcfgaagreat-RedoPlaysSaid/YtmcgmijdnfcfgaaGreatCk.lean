/-
  The tables of the flat reading against the seat's program: closed facts, looked at by the kernel.
-/
import Derived.Test.YtmcgmijdnfcfgaaGreatCx
import Derived.Test.YtmcgmijdnfcfgaaGreatFlatM4
import Derived.Test.YtmcgmijdnfcfgaaGreatBl
import Derived.Test.YtmcgmijdnfcfgaaGreatChk
import Derived.KernelRfl
namespace Go.Proofs.YtmcgmijdnfcfgaaGreat
open Go.Flat
theorem tab_all:infos.allB (fun n i=>infoB Tryz.prog n i) id=true:=by kernel_rfl
theorem m1u:sigT.allB (fun n _=>c1q Tryz.prog n) id=true:=by kernel_rfl
theorem mixed:Tryz.prog.follows .mixedOrders=true:=by kernel_rfl
theorem hands:j1h cx:=fun f H h=>by
  have h:=g1b (l:=handL) h
  simp only[handL,List.mem_cons,List.not_mem_nil,or_false,Prod.mk.injEq] at h
  rcases h with ⟨rfl,rfl⟩ | ⟨rfl,rfl⟩ | ⟨rfl,rfl⟩ | ⟨rfl,rfl⟩ | ⟨rfl,rfl⟩ | ⟨rfl,rfl⟩
  · exact l0t (s:=u0c cx 64) (by kernel_rfl) hc_Read
  · exact l0t (s:=u0c cx 72) (by kernel_rfl) (hc_Grow blL blX blG)
  · exact l0t (s:=u0c cx 73) (by kernel_rfl) (x0s blL blX blF166)
  · exact l0t (s:=u0c cx 74) (by kernel_rfl) (hc_Len blL blF170)
  · exact l0t (s:=u0c cx 75) (by kernel_rfl) (o1k blS blX)
  · exact l0t (s:=u0c cx 85) (by kernel_rfl) k1z
theorem tab:e0o cx:=tab_ok (T:=infos) (fun _=>rfl) tab_all
theorem plain:Fns cx:=⟨plain_ok (T:=sigT) (fun _=>rfl) m1u,ext_ok (l:=exts) (fun _=>rfl) <| fun x hx=>by
  simp[exts] at hx⟩
end Go.Proofs.YtmcgmijdnfcfgaaGreat
