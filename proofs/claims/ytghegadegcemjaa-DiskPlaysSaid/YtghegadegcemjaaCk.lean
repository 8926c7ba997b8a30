/-
  The tables of the flat reading against the seat's program: closed facts, looked at by the kernel.
-/
import Derived.Test.YtghegadegcemjaaCx
import Derived.Test.YtghegadegcemjaaFlatM3
import Derived.Test.YtghegadegcemjaaBl
import Derived.KernelRfl
namespace Go.Proofs.Ytghegadegcemjaa
open Go.Flat
theorem tab_all:infos.allB (fun n i=>infoB Try.prog n i) id=true:=by kernel_rfl
theorem w0p:sigT.allB (fun n _=>q0m Try.prog n) id=true:=by kernel_rfl
theorem mixed:Try.prog.follows .mixedOrders=true:=by kernel_rfl
theorem hands:u0h cx:=fun f H h=>by
  have h:=s0p (l:=handL) h
  simp only[handL,List.mem_cons,List.not_mem_nil,or_false,Prod.mk.injEq] at h
  rcases h with ⟨rfl,rfl⟩ | ⟨rfl,rfl⟩ | ⟨rfl,rfl⟩ | ⟨rfl,rfl⟩ | ⟨rfl,rfl⟩
  · exact h0x (s:=p0d cx 13) (by kernel_rfl) hc_Read
  · exact h0x (s:=p0d cx 40) (by kernel_rfl) (hc_Grow blL blX blG)
  · exact h0x (s:=p0d cx 41) (by kernel_rfl) (n0q blL blX blF166)
  · exact h0x (s:=p0d cx 42) (by kernel_rfl) (hc_Len blL blF170)
  · exact h0x (s:=p0d cx 43) (by kernel_rfl) (x0x blS blX)
theorem tab:d0e cx:=tab_ok (T:=infos) (fun _=>rfl) tab_all
theorem plain:Fns cx:=⟨plain_ok (T:=sigT) (fun _=>rfl) w0p,ext_ok (l:=exts) (fun _=>rfl) <| fun x hx=>by
  simp[exts] at hx⟩
end Go.Proofs.Ytghegadegcemjaa
