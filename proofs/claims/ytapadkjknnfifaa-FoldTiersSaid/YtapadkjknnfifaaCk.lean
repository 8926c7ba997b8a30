/-
  The tables of the flat reading against the seat's program: closed facts, looked at by the kernel.
-/
import Derived.Test.YtapadkjknnfifaaCx
import Derived.Test.YtapadkjknnfifaaFlatM3
import Derived.KernelRfl
namespace Go.Proofs.Ytapadkjknnfifaa
open Go.Flat
theorem tab_all : infos.allB (fun n i => infoB Try.prog n i) id = true := by kernel_rfl
theorem plain_all : sigT.allB (fun n _ => plainB Try.prog n) id = true := by kernel_rfl
theorem mixed : Try.prog.follows .mixedOrders = true := by kernel_rfl
theorem tab : TabOk cx := tab_ok (T := infos) (fun _ => rfl) tab_all
theorem ext_102 : ExtOk Try.prog 102 1 := ⟨Try.f102, add64Entry, by kernel_rfl, by kernel_rfl, by kernel_rfl, by kernel_rfl, by kernel_rfl, rfl⟩
theorem plain : Fns cx := ⟨plain_ok (T := sigT) (fun _ => rfl) plain_all, ext_ok (l := exts) (fun _ => rfl) <| fun x hx => by
  simp only [exts, List.mem_cons, List.not_mem_nil, or_false] at hx
  subst hx
  exact ext_102⟩
end Go.Proofs.Ytapadkjknnfifaa
