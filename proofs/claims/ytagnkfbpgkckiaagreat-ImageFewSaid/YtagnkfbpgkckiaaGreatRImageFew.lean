/-
 What a write changes are sectors of its place alone, and what time that goes by, and a sweep, change is the first one alone: for all states, all labels, all events, and every time.
-/
import Derived.Test.YtagnkfbpgkckiaaGreatRows
import Derived.Test.YtagnkfbpgkckiaaGreatCk
import Derived.Test.YtagnkfbpgkckiaaGreatFlatM4
import Derived.Test.YtagnkfbpgkckiaaGreatQ3
import Derived.WalkKit
import Derived.ProofKit
import Derived.OpenShut
namespace Go.Proofs.YtagnkfbpgkckiaaGreat.imageFew
open Go.Flat Go.ChangeShapes Go.WideShapes Go.ChangeAt
open Go.RowKit (Below)
set_option linter.unusedVariables false
theorem own:ownKnob Tryz.prog.godebug=none:=by kernel_rfl
theorem laidOut:laidOutB Tryz.prog=true:=by kernel_rfl
theorem rowTypes:x0y Tryz.prog Tryz.f6.params.toList=true:=by kernel_rfl
theorem answers (x0:El a0t) (x1:El (.slice b0i)) (x2:El a0h) (x3:El (.int .i64)) (w0:Wf a0t x0) (w1:Wf (.slice b0i) x1) (w2:Wf a0h x2) (w3:Wf (.int .i64) x3):evF cx 41 6 ((x0,x1,x2,x3,()):El (cx.arg 6))=some (true:Bool) :=
 n1i 0 x0 x1 x2 x3 w0 w1 w2
set_option maxRecDepth 100000 in
theorem lifted (os:Os) (started:os.Started) (H:Type) (enc:TypeId×Value→H) :
  ReturnsInHanded {} Tryz.checked os 6 .any (Rows.imageFewSpec.pre6 enc Tryz.prog Tryz.f6 Rows.imageFewRow.domain false) (Rows.imageFewSpec.post enc Tryz.prog Tryz.f6 false true false false):=by
 refine returnsInHanded_of_change (C:=Tryz.checked) own started (by kernel_rfl) Tryz.func6
  (ChangeSpec.witness6 (enc:=enc) (C:=Tryz.checked) false ⟨#[],#[.agg #[.int .i64 0,.int .i64 0,.int .i64 0,.int .i64 0,.int .i64 0,.int .i64 0,.int .i64 0,.int .i64 0,.int .i64 0,.int .i64 0,.int .i64 0,.slice none 0 0],.slice none 0 0,.agg #[.int .i64 0,.int .u64 0,.int .i64 0,.bool false],.int .i64 0],[]⟩ 8 (by kernel_rfl) (by kernel_rfl) (by kernel_rfl) (by kernel_rfl)) ?_
 intro W base args ds gs before hval0 hW hcnd _;have hval:∀(j:Nat) t v,Tryz.f6.params[j]? = some t→args[j]? = some v→Value.okWide Tryz.prog W .any base t v:=hval0;obtain ⟨p,q,hA0,hV,rfl,hfz,hnd⟩:=hW;have hA:DataW.TrodAll enc Tryz.prog W 0 (fun _=>true) true Tryz.f6.params.toList args.toList ds p:=hA0;have hAll:=hA;rw[Tryz.params6] at hA hval;obtain ⟨v0,vs0,d0,ds0,p0,q0,hargs,rfl,rfl,h0,r0⟩:=trodAll_cons hA;obtain ⟨v1,vs1,d1,ds1,p1,q1,rfl,rfl,rfl,h1,r1⟩:=trodAll_cons r0;obtain ⟨v2,vs2,d2,ds2,p2,q2,rfl,rfl,rfl,h2,r2⟩:=trodAll_cons r1
 obtain ⟨v3,vs3,d3,ds3,p3,q3,rfl,rfl,rfl,h3,r3⟩:=trodAll_cons r2;obtain ⟨rfl,rfl,rfl⟩:=trodAll_nil r3;obtain ⟨rfl,rfl⟩:=trodVars_none hV;obtain rfl:args = #[v0,v1,v2,v3]:=by cases args;simp at hargs;rw[hargs]
 obtain ⟨x0,f0,g0,w0⟩:=open_arg (P:=Tryz.prog) (t:=28) (c:=a0t) (d:=30) (by kernel_rfl) (by kernel_rfl) (hval 0 28 v0 rfl rfl) h0;obtain ⟨x1,f1,g1,w1⟩:=open_arg (P:=Tryz.prog) (t:=48) (c:=(.slice b0i)) (d:=30) (by kernel_rfl) (by kernel_rfl) (hval 1 48 v1 rfl rfl) h1;obtain ⟨x2,f2,g2,w2⟩:=open_arg (P:=Tryz.prog) (t:=31) (c:=a0h) (d:=30) (by kernel_rfl) (by kernel_rfl) (hval 2 31 v2 rfl rfl) h2;obtain ⟨x3,f3,g3,w3⟩:=open_arg (P:=Tryz.prog) (t:=2) (c:=(.int .i64)) (d:=30) (by kernel_rfl) (by kernel_rfl) (hval 3 2 v3 rfl rfl) h3
 refine (h2q tab plain mixed hands (n:=41) (K:=6) (s:=z0y cx 6) (by kernel_rfl) (by kernel_rfl) (by kernel_rfl) (x:=((x0,x1,x2,x3,()):El (cx.arg 6))) (answers x0 x1 x2 x3 w0 w1 w2 w3) rfl rfl
  (hg:=GlobOk.none fun _=>rfl) (vs:=[v0,v1,v2,v3]) (W:=W) ⟨f0,f1,f2,f3,trivial⟩ (z0h f0 g0 (z0h f1 g1 (z0h f2 g2 (z0h f3 g3 args_nil))))).mono fun e W' ⟨he,hb⟩ => ?_
 subst he;exact ⟨_,rfl,post_law (tb:=4) laidOut rowTypes rfl rfl (by kernel_rfl) Tryz.underlying4 hAll (by simpa using hfz) hb⟩
theorem over:Rows.imageFewRow.holds Tryz.pinned (OpenSpec.ofChange Rows.imageFewSpec) :=
 OpenClaim.holds_of_wide 6 Tryz.f6 rfl rfl rfl rfl rfl rfl rfl ⟨rfl,rfl,rfl,rfl,rfl⟩ rfl rfl rfl rfl rfl (by kernel_rfl) Tryz.func6 (by kernel_rfl)
  (of_decide_eq_true (by kernel_rfl)) (by unfold Func.isWrapper;first | (rw[if_pos (by decide +kernel)];kernel_rfl) | (rw[if_neg (by decide +kernel)];exact ⟨rfl,rfl⟩))
  (fun os started H enc _=>lifted os started H enc)
theorem proved:Rows.ImageFewSaid:=over
end Go.Proofs.YtagnkfbpgkckiaaGreat.imageFew
