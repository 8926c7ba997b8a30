/-
  The tables of the flat reading against the seat's program: closed facts, looked at by the kernel.
-/
import Derived.Test.YtgcaeappeolhjaaGreatDoorCx
import Derived.Test.YtgcaeappeolhjaaGreatDoorFlatM3
import Derived.Test.YtgcaeappeolhjaaGreatDoorBl
import Derived.KernelRfl
namespace Go.Proofs.YtgcaeappeolhjaaGreatDoor
open Go.Flat
theorem tab_all:infos.allB (fun n i=>infoB Tryz.prog n i) id=true:=by kernel_rfl
theorem plain_all:sigT.allB (fun n _=>plainB Tryz.prog n) id=true:=by kernel_rfl
theorem mixed:Tryz.prog.follows .mixedOrders=true:=by kernel_rfl
theorem hands:HandOk cx:=fun f H h=>by
  have h:=handGet_mem (l:=handL) h
  simp only[handL,List.mem_cons,List.not_mem_nil,or_false,Prod.mk.injEq] at h
  rcases h with ⟨rfl,rfl⟩ | ⟨rfl,rfl⟩ | ⟨rfl,rfl⟩ | ⟨rfl,rfl⟩ | ⟨rfl,rfl⟩ | ⟨rfl,rfl⟩ | ⟨rfl,rfl⟩
  · exact hand_core (s:=sigAt cx 40) (by kernel_rfl) (hc_WriteString blL blX blF166)
  · exact hand_core (s:=sigAt cx 41) (by kernel_rfl) (hc_WriteByte blL blX blF167)
  · exact hand_core (s:=sigAt cx 42) (by kernel_rfl) (hc_String blS blX)
  · exact hand_core (s:=sigAt cx 90) (by kernel_rfl) (hc_ParseUint Tryz.laysPu14 (fun W F (h:GlobOk cx W F)=>⟨(h.shp 2 2 (by kernel_rfl)).2,(h.shp 3 2 (by kernel_rfl)).2⟩))
  · exact hand_core (s:=sigAt cx 92) (by kernel_rfl) (hc_Index Tryz.lays219 (fun W F (h:GlobOk cx W F)=>(h.shp 0 1 (by kernel_rfl)).2))
  · exact hand_core (s:=sigAt cx 96) (by kernel_rfl) (hc_ParseInt Tryz.laysC174 (fun W F (h:GlobOk cx W F)=>⟨(h.shp 2 2 (by kernel_rfl)).2,(h.shp 3 2 (by kernel_rfl)).2⟩))
  · exact hand_core (s:=sigAt cx 118) (by kernel_rfl) (hc_Count Tryz.lays138 (fun W F (h:GlobOk cx W F)=>(h.shp 0 1 (by kernel_rfl)).2))
theorem tab:TabOk cx:=tab_ok (T:=infos) (fun _=>rfl) tab_all
theorem plain:Fns cx:=⟨plain_ok (T:=sigT) (fun _=>rfl) plain_all,ext_ok (l:=exts) (fun _=>rfl) <| fun x hx=>by
  simp[exts] at hx⟩
end Go.Proofs.YtgcaeappeolhjaaGreatDoor
