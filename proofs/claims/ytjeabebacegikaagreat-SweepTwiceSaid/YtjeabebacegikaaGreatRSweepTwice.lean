/-
  SweepTwice: swept and cleared again nothing more goes, and the state is the same, whatever the state.
-/
import Derived.Test.YtjeabebacegikaaGreatRows
import Derived.Test.YtjeabebacegikaaGreatCk
import Derived.Test.YtjeabebacegikaaGreatFlatM3
import Derived.Test.YtjeabebacegikaaGreatQ3
import Derived.WalkKit
import Derived.ProofKit
import Derived.OpenShut
namespace Go.Proofs.YtjeabebacegikaaGreat.sweepTwice
open Go.Flat Go.ChangeShapes Go.WideShapes Go.ChangeAt
open Go.RowKit (Below)
set_option linter.unusedVariables false
theorem own : ownKnob Tryz.prog.godebug = none := by kernel_rfl
theorem laidOut : laidOutB Tryz.prog = true := by kernel_rfl
theorem rowTypes : rowTypesB Tryz.prog Tryz.f4.params.toList = true := by kernel_rfl
/-- the law, whatever its input: it is called, and answers true -/
theorem answers (x0 : El tyState) (w0 : Wf tyState x0) : evF cx 41 4 ((x0, ()) : El (cx.arg 4)) = some (true : Bool) :=
  sweepTwice_true 0 x0 w0
set_option maxRecDepth 100000 in
theorem lifted (os : Os) (started : os.Started) (H : Type) (enc : TypeId × Value → H) :
    ReturnsInHanded {} Tryz.checked os 4 .any (Rows.sweepTwiceSpec.pre6 enc Tryz.prog Tryz.f4 Rows.sweepTwiceRow.domain false) (Rows.sweepTwiceSpec.post enc Tryz.prog Tryz.f4 false true false false) := by
  refine returnsInHanded_of_change (C := Tryz.checked) own started (by kernel_rfl) Tryz.func4
    (ChangeSpec.witness6 (enc := enc) (C := Tryz.checked) false ⟨#[], #[.agg #[.int .i64 0, .int .i64 0, .int .i64 0, .int .i64 0, .int .i64 0, .int .i64 0, .int .i64 0, .int .i64 0, .int .i64 0, .int .i64 0, .int .i64 0, .slice none 0 0]], []⟩ 8 (by kernel_rfl) (by kernel_rfl) (by kernel_rfl) (by kernel_rfl)) ?_
  intro W base args ds gs before hval0 hW hcnd _
  have hval : ∀ (j : Nat) t v, Tryz.f4.params[j]? = some t → args[j]? = some v → Value.okWide Tryz.prog W .any base t v := hval0
  obtain ⟨p, q, hA0, hV, rfl, hfz, hnd⟩ := hW
  have hA : DataW.TrodAll enc Tryz.prog W 0 (fun _ => true) true Tryz.f4.params.toList args.toList ds p := hA0
  have hAll := hA
  rw [Tryz.params4] at hA hval
  obtain ⟨v0, vs0, d0, ds0, p0, q0, hargs, rfl, rfl, h0, r0⟩ := trodAll_cons hA
  obtain ⟨rfl, rfl, rfl⟩ := trodAll_nil r0
  obtain ⟨rfl, rfl⟩ := trodVars_none hV
  obtain rfl : args = #[v0] := by cases args; simp at hargs; rw [hargs]
  obtain ⟨x0, f0, g0, w0⟩ := open_arg (P := Tryz.prog) (t := 28) (c := tyState) (d := 30) (by kernel_rfl) (by kernel_rfl) (hval 0 28 v0 rfl rfl) h0
  refine (law_calls tab plain mixed (n := 41) (K := 4) (s := sigAt cx 4) (by kernel_rfl) (by kernel_rfl) (by kernel_rfl) (x := ((x0, ()) : El (cx.arg 4))) (answers x0 w0) rfl rfl
    (hg := GlobOk.none fun _ => rfl) (vs := [v0]) (W := W) ⟨f0, trivial⟩ (args_cons f0 g0 args_nil)).mono fun e W' ⟨he, hb⟩ => ?_
  subst he
  exact ⟨_, rfl, post_law (tb := 4) laidOut rowTypes rfl rfl (by kernel_rfl) Tryz.underlying4 hAll (by simpa using hfz) hb⟩
theorem over : Rows.sweepTwiceRow.holds Tryz.pinned (OpenSpec.ofChange Rows.sweepTwiceSpec) :=
  OpenClaim.holds_of_wide 4 Tryz.f4 rfl rfl rfl rfl rfl rfl rfl ⟨rfl, rfl, rfl, rfl, rfl⟩ rfl rfl rfl rfl rfl (by kernel_rfl) Tryz.func4 (by kernel_rfl)
    (of_decide_eq_true (by kernel_rfl)) (by unfold Func.isWrapper; first | (rw [if_pos (by decide +kernel)]; kernel_rfl) | (rw [if_neg (by decide +kernel)]; exact ⟨rfl, rfl⟩))
    (fun os started H enc _ => lifted os started H enc)
theorem proved : Rows.SweepTwiceSaid := over
end Go.Proofs.YtjeabebacegikaaGreat.sweepTwice
