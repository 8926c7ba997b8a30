/-
  The tables of the flat reading against the seat's program: closed facts, looked at by the kernel.
-/
import Derived.Test.YtjionkknnajjgaaGreatDoorCx
import Derived.Test.YtjionkknnajjgaaGreatDoorFlatM4
import Derived.Test.YtjionkknnajjgaaGreatDoorBl
import Derived.Test.YtjionkknnajjgaaGreatDoorTl
import Derived.KernelRfl
namespace Go.Proofs.YtjionkknnajjgaaGreatDoor
open Go.Flat
theorem tab_all:infos.allB (fun n i=>infoB Tryz.prog n i) id=true:=by kernel_rfl
theorem plain_all:sigT.allB (fun n _=>plainB Tryz.prog n) id=true:=by kernel_rfl
theorem mixed:Tryz.prog.follows .mixedOrders=true:=by kernel_rfl
theorem hands:HandOk cx:=fun f H h=>by
  have h:=handGet_mem (l:=handL) h
  simp only[handL,List.mem_cons,List.not_mem_nil,or_false,Prod.mk.injEq] at h
  rcases h with ⟨rfl,rfl⟩ | ⟨rfl,rfl⟩ | ⟨rfl,rfl⟩ | ⟨rfl,rfl⟩ | ⟨rfl,rfl⟩ | ⟨rfl,rfl⟩ | ⟨rfl,rfl⟩ | ⟨rfl,rfl⟩
  · exact hand_core (s:=sigAt cx 23) (by kernel_rfl) (hc_WriteString blL blX blF166)
  · exact hand_core (s:=sigAt cx 24) (by kernel_rfl) (hc_WriteByte blL blX blF167)
  · exact hand_core (s:=sigAt cx 25) (by kernel_rfl) (hc_String blS blX)
  · exact hand_core (s:=sigAt cx 32) (by kernel_rfl) (hc_lines (fun W F (h:GlobOk cx W F)=>h.shp 0 1 (by kernel_rfl)))
  · exact hand_core (s:=sigAt cx 90) (by kernel_rfl) (hc_ParseUint Tryz.laysPu14 (fun W F (h:GlobOk cx W F)=>⟨(h.shp 2 2 (by kernel_rfl)).2,(h.shp 3 2 (by kernel_rfl)).2⟩))
  · exact hand_core (s:=sigAt cx 91) (by kernel_rfl) (hc_ParseInt Tryz.laysC174 (fun W F (h:GlobOk cx W F)=>⟨(h.shp 2 2 (by kernel_rfl)).2,(h.shp 3 2 (by kernel_rfl)).2⟩))
  · exact hand_core (s:=sigAt cx 123) (by kernel_rfl) (hc_Index Tryz.lays219 (fun W F (h:GlobOk cx W F)=>(h.shp 0 1 (by kernel_rfl)).2))
  · exact hand_core (s:=sigAt cx 129) (by kernel_rfl) (hc_Count Tryz.lays138 (fun W F (h:GlobOk cx W F)=>(h.shp 0 1 (by kernel_rfl)).2))
theorem tab:TabOk cx:=tab_ok (T:=infos) (fun _=>rfl) tab_all
theorem ext_233:ExtOk Tryz.prog 233 1:=⟨Tryz.f233,add64Entry,by kernel_rfl,by kernel_rfl,by kernel_rfl,by kernel_rfl,by kernel_rfl,rfl⟩
theorem plain:Fns cx:=⟨plain_ok (T:=sigT) (fun _=>rfl) plain_all,ext_ok (l:=exts) (fun _=>rfl) <| fun x hx=>by
  simp only[exts,List.mem_cons,List.not_mem_nil,or_false] at hx
  subst hx
  exact ext_233⟩
end Go.Proofs.YtjionkknnajjgaaGreatDoor
