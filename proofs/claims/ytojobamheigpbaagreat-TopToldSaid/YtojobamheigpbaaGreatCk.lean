/-
  The tables of the flat reading against the seat's program: closed facts, looked at by the kernel.
-/
import Derived.Test.YtojobamheigpbaaGreatCx
import Derived.Test.YtojobamheigpbaaGreatFlatM3
import Derived.KernelRfl
namespace Go.Proofs.YtojobamheigpbaaGreat
open Go.Flat
theorem tab_all:infos.allB (fun n i=>infoB Tryz.prog n i) id=true:=by kernel_rfl
theorem x1t:sigT.allB (fun n _=>j1z Tryz.prog n) id=true:=by kernel_rfl
theorem mixed:Tryz.prog.follows .mixedOrders=true:=by kernel_rfl
theorem hands:s1c cx:=fun f H h=>by cases h
theorem tab:f0e cx:=tab_ok (T:=infos) (fun _=>rfl) tab_all
theorem ext_146:ExtOk Tryz.prog 146 1:=⟨Tryz.f146,add64Entry,by kernel_rfl,by kernel_rfl,by kernel_rfl,by kernel_rfl,by kernel_rfl,rfl⟩
theorem plain:Fns cx:=⟨plain_ok (T:=sigT) (fun _=>rfl) x1t,ext_ok (l:=exts) (fun _=>rfl) <| fun x hx=>by
  simp only[exts,List.mem_cons,List.not_mem_nil,or_false] at hx
  subst hx
  exact ext_146⟩
end Go.Proofs.YtojobamheigpbaaGreat
