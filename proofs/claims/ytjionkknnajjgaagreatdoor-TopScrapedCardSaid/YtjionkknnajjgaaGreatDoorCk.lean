/-
  The tables of the flat reading against the seat's program: closed facts, looked at by the kernel.
-/
import Derived.Test.YtjionkknnajjgaaGreatDoorCx
import Derived.Test.YtjionkknnajjgaaGreatDoorFlatM4
import Derived.Test.YtjionkknnajjgaaGreatDoorBl
import Derived.Test.YtjionkknnajjgaaGreatDoorTl
import Derived.KernelRfl
namespace Go.Proofs.YtjionkknnajjgaaGreatDoor
open Go.Flat
theorem tab_all:infos.allB (fun n i=>infoB Tryz.prog n i) id=true:=by kernel_rfl
theorem y1t:sigT.allB (fun n _=>k1n Tryz.prog n) id=true:=by kernel_rfl
theorem mixed:Tryz.prog.follows .mixedOrders=true:=by kernel_rfl
theorem hands:s1p cx:=fun f H h=>by
  have h:=p1c (l:=handL) h
  simp only[handL,List.mem_cons,List.not_mem_nil,or_false,Prod.mk.injEq] at h
  rcases h with ⟨rfl,rfl⟩ | ⟨rfl,rfl⟩ | ⟨rfl,rfl⟩ | ⟨rfl,rfl⟩ | ⟨rfl,rfl⟩ | ⟨rfl,rfl⟩ | ⟨rfl,rfl⟩ | ⟨rfl,rfl⟩
  · exact i0m (s:=t0s cx 23) (by kernel_rfl) (c1o blL blX blF166)
  · exact i0m (s:=t0s cx 24) (by kernel_rfl) (l1q blL blX blF167)
  · exact i0m (s:=t0s cx 25) (by kernel_rfl) (a2u blS blX)
  · exact i0m (s:=t0s cx 32) (by kernel_rfl) (hc_lines (fun W F (h:GlobOk cx W F)=>h.shp 0 1 (by kernel_rfl)))
  · exact i0m (s:=t0s cx 90) (by kernel_rfl) (l1r Tryz.laysPu14 (fun W F (h:GlobOk cx W F)=>⟨(h.shp 2 2 (by kernel_rfl)).2,(h.shp 3 2 (by kernel_rfl)).2⟩))
  · exact i0m (s:=t0s cx 91) (by kernel_rfl) (p1a Tryz.laysC174 (fun W F (h:GlobOk cx W F)=>⟨(h.shp 2 2 (by kernel_rfl)).2,(h.shp 3 2 (by kernel_rfl)).2⟩))
  · exact i0m (s:=t0s cx 123) (by kernel_rfl) (hc_Index Tryz.lays219 (fun W F (h:GlobOk cx W F)=>(h.shp 0 1 (by kernel_rfl)).2))
  · exact i0m (s:=t0s cx 129) (by kernel_rfl) (hc_Count Tryz.lays138 (fun W F (h:GlobOk cx W F)=>(h.shp 0 1 (by kernel_rfl)).2))
theorem tab:f0q cx:=tab_ok (T:=infos) (fun _=>rfl) tab_all
theorem ext_233:ExtOk Tryz.prog 233 1:=⟨Tryz.f233,add64Entry,by kernel_rfl,by kernel_rfl,by kernel_rfl,by kernel_rfl,by kernel_rfl,rfl⟩
theorem plain:Fns cx:=⟨plain_ok (T:=sigT) (fun _=>rfl) y1t,ext_ok (l:=exts) (fun _=>rfl) <| fun x hx=>by
  simp only[exts,List.mem_cons,List.not_mem_nil,or_false] at hx
  subst hx
  exact ext_233⟩
end Go.Proofs.YtjionkknnajjgaaGreatDoor
