/-
  The tables of the flat reading against the seat's program: closed facts, looked at by the kernel.
-/
import Derived.Test.YtmooabafkcfbhaaCx
import Derived.Test.YtmooabafkcfbhaaFlatTW
import Derived.KernelRfl
namespace Go.Proofs.Ytmooabafkcfbhaa
open Go.Flat
theorem tab_all : infos.allB (fun n i => infoB Try.prog n i) id = true := by kernel_rfl
theorem plain_all : sigT.allB (fun n _ => plainB Try.prog n) id = true := by kernel_rfl
theorem mixed : Try.prog.follows .mixedOrders = true := by kernel_rfl
theorem tab : TabOk cx := tab_ok (T := infos) (fun _ => rfl) tab_all
theorem plain : ∀ f s, cx.sig f = some s → Plain cx.P f := plain_ok (T := sigT) (fun _ => rfl) plain_all
end Go.Proofs.Ytmooabafkcfbhaa
