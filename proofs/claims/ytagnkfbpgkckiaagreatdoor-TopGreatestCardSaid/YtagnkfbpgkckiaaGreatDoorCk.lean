/-
  The tables of the flat reading against the seat's program: closed facts, looked at by the kernel.
-/
import Derived.Test.YtagnkfbpgkckiaaGreatDoorCx
import Derived.Test.YtagnkfbpgkckiaaGreatDoorFlatM4
import Derived.Test.YtagnkfbpgkckiaaGreatDoorBl
import Derived.Test.YtagnkfbpgkckiaaGreatDoorChk
import Derived.KernelRfl
namespace Go.Proofs.YtagnkfbpgkckiaaGreatDoor
open Go.Flat
theorem tab_all:infos.allB (fun n i=>infoB Tryz.prog n i) id=true:=by kernel_rfl
theorem e2q:sigT.allB (fun n _=>q1b Tryz.prog n) id=true:=by kernel_rfl
theorem mixed:Tryz.prog.follows .mixedOrders=true:=by kernel_rfl
theorem hands:y1q cx:=fun f H h=>by
  have h:=v1i (l:=handL) h
  simp only[handL,List.mem_cons,List.not_mem_nil,or_false,Prod.mk.injEq] at h
  rcases h with ⟨rfl,rfl⟩ | ⟨rfl,rfl⟩ | ⟨rfl,rfl⟩ | ⟨rfl,rfl⟩ | ⟨rfl,rfl⟩ | ⟨rfl,rfl⟩ | ⟨rfl,rfl⟩
  · exact m0v (s:=z0j cx 49) (by kernel_rfl) b2k
  · exact m0v (s:=z0j cx 148) (by kernel_rfl) v1g
  · exact m0v (s:=z0j cx 149) (by kernel_rfl) (h1l blL blX blF166)
  · exact m0v (s:=z0j cx 150) (by kernel_rfl) (g2r blS blX)
  · exact m0v (s:=z0j cx 152) (by kernel_rfl) v1f
  · exact m0v (s:=z0j cx 198) (by kernel_rfl) (hc_Grow blL blX blG)
  · exact m0v (s:=z0j cx 199) (by kernel_rfl) (hc_Len blL blF170)
theorem tab:h0f cx:=tab_ok (T:=infos) (fun _=>rfl) tab_all
theorem ext_179:j2m Tryz.prog 179 1:=⟨Tryz.f179,add64Entry,by kernel_rfl,by kernel_rfl,by kernel_rfl,by kernel_rfl,by kernel_rfl,rfl⟩
theorem ext_266:j2m Tryz.prog 266 2:=⟨Tryz.f266,sub64Entry,by kernel_rfl,by kernel_rfl,by kernel_rfl,by kernel_rfl,by kernel_rfl,rfl⟩
theorem plain:Fns cx:=⟨plain_ok (T:=sigT) (fun _=>rfl) e2q,ext_ok (l:=exts) (fun _=>rfl) <| fun x hx=>by
  simp only[exts,List.mem_cons,List.not_mem_nil,or_false] at hx
  rcases hx with rfl | rfl
  · exact ext_179
  · exact ext_266⟩
end Go.Proofs.YtagnkfbpgkckiaaGreatDoor
