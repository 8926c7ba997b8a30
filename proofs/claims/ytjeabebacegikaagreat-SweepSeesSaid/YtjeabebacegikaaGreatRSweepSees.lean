/-
  SweepSees: a state that is swept, and cleared, is right; what is kept of each series reads the same as ahead of it, whatever the state.
-/
import Derived.Test.YtjeabebacegikaaGreatRows
import Derived.Test.YtjeabebacegikaaGreatCk
import Derived.Test.YtjeabebacegikaaGreatFlatM3
import Derived.Test.YtjeabebacegikaaGreatQ3
import Derived.WalkKit
import Derived.ProofKit
import Derived.OpenShut
namespace Go.Proofs.YtjeabebacegikaaGreat.sweepSees
open Go.Flat Go.ChangeShapes Go.WideShapes Go.ChangeAt
open Go.RowKit (Below)
set_option linter.unusedVariables false
theorem own : ownKnob Tryz.prog.godebug = none := by kernel_rfl
theorem laidOut : laidOutB Tryz.prog = true := by kernel_rfl
theorem rowTypes : rowTypesB Tryz.prog Tryz.f5.params.toList = true := by kernel_rfl
/-- the law, whatever its input: it is called, and answers true -/
theorem answers (x0 : El tyState) (x1 : El (.int .i64)) (x2 : El (.int .i64)) (x3 : El (.int .i64)) (w0 : Wf tyState x0) (w1 : Wf (.int .i64) x1) (w2 : Wf (.int .i64) x2) (w3 : Wf (.int .i64) x3) : evF cx 41 5 ((x0, x1, x2, x3, ()) : El (cx.arg 5)) = some (true : Bool) :=
  sweepSees_true 0 x0 x1 x2 x3 w0
set_option maxRecDepth 100000 in
theorem lifted (os : Os) (started : os.Started) (H : Type) (enc : TypeId × Value → H) :
    ReturnsInHanded {} Tryz.checked os 5 .any (Rows.sweepSeesSpec.pre6 enc Tryz.prog Tryz.f5 Rows.sweepSeesRow.domain false) (Rows.sweepSeesSpec.post enc Tryz.prog Tryz.f5 false true false false) := by
  refine returnsInHanded_of_change (C := Tryz.checked) own started (by kernel_rfl) Tryz.func5
    (ChangeSpec.witness6 (enc := enc) (C := Tryz.checked) false ⟨#[], #[.agg #[.int .i64 0, .int .i64 0, .int .i64 0, .int .i64 0, .int .i64 0, .int .i64 0, .int .i64 0, .int .i64 0, .int .i64 0, .int .i64 0, .int .i64 0, .slice none 0 0], .int .i64 0, .int .i64 0, .int .i64 0], []⟩ 8 (by kernel_rfl) (by kernel_rfl) (by kernel_rfl) (by kernel_rfl)) ?_
  intro W base args ds gs before hval0 hW hcnd _
  have hval : ∀ (j : Nat) t v, Tryz.f5.params[j]? = some t → args[j]? = some v → Value.okWide Tryz.prog W .any base t v := hval0
  obtain ⟨p, q, hA0, hV, rfl, hfz, hnd⟩ := hW
  have hA : DataW.TrodAll enc Tryz.prog W 0 (fun _ => true) true Tryz.f5.params.toList args.toList ds p := hA0
  have hAll := hA
  rw [Tryz.params5] at hA hval
  obtain ⟨v0, vs0, d0, ds0, p0, q0, hargs, rfl, rfl, h0, r0⟩ := trodAll_cons hA
  obtain ⟨v1, vs1, d1, ds1, p1, q1, rfl, rfl, rfl, h1, r1⟩ := trodAll_cons r0
  obtain ⟨v2, vs2, d2, ds2, p2, q2, rfl, rfl, rfl, h2, r2⟩ := trodAll_cons r1
  obtain ⟨v3, vs3, d3, ds3, p3, q3, rfl, rfl, rfl, h3, r3⟩ := trodAll_cons r2
  obtain ⟨rfl, rfl, rfl⟩ := trodAll_nil r3
  obtain ⟨rfl, rfl⟩ := trodVars_none hV
  obtain rfl : args = #[v0, v1, v2, v3] := by cases args; simp at hargs; rw [hargs]
  obtain ⟨x0, f0, g0, w0⟩ := open_arg (P := Tryz.prog) (t := 28) (c := tyState) (d := 30) (by kernel_rfl) (by kernel_rfl) (hval 0 28 v0 rfl rfl) h0
  obtain ⟨x1, f1, g1, w1⟩ := open_arg (P := Tryz.prog) (t := 3) (c := (.int .i64)) (d := 30) (by kernel_rfl) (by kernel_rfl) (hval 1 3 v1 rfl rfl) h1
  obtain ⟨x2, f2, g2, w2⟩ := open_arg (P := Tryz.prog) (t := 2) (c := (.int .i64)) (d := 30) (by kernel_rfl) (by kernel_rfl) (hval 2 2 v2 rfl rfl) h2
  obtain ⟨x3, f3, g3, w3⟩ := open_arg (P := Tryz.prog) (t := 2) (c := (.int .i64)) (d := 30) (by kernel_rfl) (by kernel_rfl) (hval 3 2 v3 rfl rfl) h3
  refine (law_calls tab plain mixed (n := 41) (K := 5) (s := sigAt cx 5) (by kernel_rfl) (by kernel_rfl) (by kernel_rfl) (x := ((x0, x1, x2, x3, ()) : El (cx.arg 5))) (answers x0 x1 x2 x3 w0 w1 w2 w3) rfl rfl
    (hg := GlobOk.none fun _ => rfl) (vs := [v0, v1, v2, v3]) (W := W) ⟨f0, f1, f2, f3, trivial⟩ (args_cons f0 g0 (args_cons f1 g1 (args_cons f2 g2 (args_cons f3 g3 args_nil))))).mono fun e W' ⟨he, hb⟩ => ?_
  subst he
  exact ⟨_, rfl, post_law (tb := 4) laidOut rowTypes rfl rfl (by kernel_rfl) Tryz.underlying4 hAll (by simpa using hfz) hb⟩
theorem over : Rows.sweepSeesRow.holds Tryz.pinned (OpenSpec.ofChange Rows.sweepSeesSpec) :=
  OpenClaim.holds_of_wide 5 Tryz.f5 rfl rfl rfl rfl rfl rfl rfl ⟨rfl, rfl, rfl, rfl, rfl⟩ rfl rfl rfl rfl rfl (by kernel_rfl) Tryz.func5 (by kernel_rfl)
    (of_decide_eq_true (by kernel_rfl)) (by unfold Func.isWrapper; first | (rw [if_pos (by decide +kernel)]; kernel_rfl) | (rw [if_neg (by decide +kernel)]; exact ⟨rfl, rfl⟩))
    (fun os started H enc _ => lifted os started H enc)
theorem proved : Rows.SweepSeesSaid := over
end Go.Proofs.YtjeabebacegikaaGreat.sweepSees
