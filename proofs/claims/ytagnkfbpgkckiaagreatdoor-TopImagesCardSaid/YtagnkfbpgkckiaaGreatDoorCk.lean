/-
  The tables of the flat reading against the seat's program: closed facts, looked at by the kernel.
-/
import Derived.Test.YtagnkfbpgkckiaaGreatDoorCx
import Derived.Test.YtagnkfbpgkckiaaGreatDoorFlatM4
import Derived.Test.YtagnkfbpgkckiaaGreatDoorBl
import Derived.Test.YtagnkfbpgkckiaaGreatDoorChk
import Derived.KernelRfl
namespace Go.Proofs.YtagnkfbpgkckiaaGreatDoor
open Go.Flat
theorem tab_all:infos.allB (fun n i=>infoB Tryz.prog n i) id=true:=by kernel_rfl
theorem q2a:sigT.allB (fun n _=>y1a Tryz.prog n) id=true:=by kernel_rfl
theorem mixed:Tryz.prog.follows .mixedOrders=true:=by kernel_rfl
theorem hands:i2r cx:=fun f H h=>by
  have h:=e2l (l:=handL) h
  simp only[handL,q3k,List.not_mem_nil,or_false,Prod.mk.injEq] at h
  rcases h with ⟨rfl,rfl⟩ | ⟨rfl,rfl⟩ | ⟨rfl,rfl⟩ | ⟨rfl,rfl⟩ | ⟨rfl,rfl⟩ | ⟨rfl,rfl⟩ | ⟨rfl,rfl⟩
  · exact p0c (s:=d1x cx 49) (by kernel_rfl) m2f
  · exact p0c (s:=d1x cx 148) (by kernel_rfl) e2j
  · exact p0c (s:=d1x cx 149) (by kernel_rfl) (n1t blL blX blF166)
  · exact p0c (s:=d1x cx 150) (by kernel_rfl) (s2h blS blX)
  · exact p0c (s:=d1x cx 152) (by kernel_rfl) e2i
  · exact p0c (s:=d1x cx 198) (by kernel_rfl) (hc_Grow blL blX blG)
  · exact p0c (s:=d1x cx 199) (by kernel_rfl) (hc_Len blL blF170)
theorem tab:i0f cx:=tab_ok (T:=infos) (fun _=>rfl) tab_all
theorem ext_179:v2t Tryz.prog 179 1:=⟨Tryz.f179,add64Entry,by kernel_rfl,by kernel_rfl,by kernel_rfl,by kernel_rfl,by kernel_rfl,rfl⟩
theorem ext_266:v2t Tryz.prog 266 2:=⟨Tryz.f266,sub64Entry,by kernel_rfl,by kernel_rfl,by kernel_rfl,by kernel_rfl,by kernel_rfl,rfl⟩
theorem plain:Fns cx:=⟨plain_ok (T:=sigT) (fun _=>rfl) q2a,ext_ok (l:=exts) (fun _=>rfl) <| fun x hx=>by
  simp only[exts,q3k,List.not_mem_nil,or_false] at hx
  rcases hx with rfl | rfl
  · exact ext_179
  · exact ext_266⟩
end Go.Proofs.YtagnkfbpgkckiaaGreatDoor
