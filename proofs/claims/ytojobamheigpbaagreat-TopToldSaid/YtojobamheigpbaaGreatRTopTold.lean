/-
 The events of a range, if they are told, are all that were ever taken of it, and if they are not, for their age, an event was lost or the range begins in a window that is gone in every tier: for every configuration, acts, labels and range.
-/
import Derived.Test.YtojobamheigpbaaGreatRows
import Derived.Test.YtojobamheigpbaaGreatCk
import Derived.Test.YtojobamheigpbaaGreatFlatM3
import Derived.Test.YtojobamheigpbaaGreatQ3
import Derived.WalkKit
import Derived.ProofKit
import Derived.OpenShut
namespace Go.Proofs.YtojobamheigpbaaGreat.topTold
open Go.Flat Go.ChangeShapes Go.WideShapes Go.ChangeAt
open Go.RowKit (Below)
set_option linter.unusedVariables false
theorem own:ownKnob Tryz.prog.godebug=none:=by kernel_rfl
theorem laidOut:laidOutB Tryz.prog=true:=by kernel_rfl
theorem rowTypes:t0k Tryz.prog Tryz.f3.params.toList=true:=by kernel_rfl
theorem answers (x0:El a0o) (x1:El (.slice h0p)) (x2:El (.slice a0l)) (x3:El (.int .i64)) (x4:El (.int .i64)) (w0:Wf a0o x0) (w1:Wf (.slice h0p) x1) (w2:Wf (.slice a0l) x2) (w3:Wf (.int .i64) x3) (w4:Wf (.int .i64) x4):evF cx 41 3 ((x0,x1,x2,x3,x4,()):El (cx.arg 3))=some (true:Bool) :=
 i1u 0 x0 x1 x2 x3 x4 w0 w1 w2
set_option maxRecDepth 100000 in
theorem lifted (os:Os) (started:os.Started) (H:Type) (enc:TypeId×Value→H) :
  ReturnsInHanded {} Tryz.checked os 3 .any (Rows.topToldSpec.pre6 enc Tryz.prog Tryz.f3 Rows.topToldRow.domain false) (Rows.topToldSpec.post enc Tryz.prog Tryz.f3 false true false false):=by
 refine returnsInHanded_of_change (C:=Tryz.checked) own started (by kernel_rfl) Tryz.func3
  (ChangeSpec.witness6 (enc:=enc) (C:=Tryz.checked) false ⟨#[],#[.agg #[.int .i64 0,.int .i64 0,.int .i64 0,.int .i64 0,.int .i64 0,.int .i64 0,.int .i64 0,.int .i64 0,.int .i64 0],.slice none 0 0,.slice none 0 0,.int .i64 0,.int .i64 0],[]⟩ 8 (by kernel_rfl) (by kernel_rfl) (by kernel_rfl) (by kernel_rfl)) ?_
 intro W base args ds gs before hval0 hW hcnd _;have hval:∀(j:Nat) t v,Tryz.f3.params[j]? = some t→args[j]? = some v→Value.okWide Tryz.prog W .any base t v:=hval0;obtain ⟨p,q,hA0,hV,rfl,hfz,hnd⟩:=hW;have hA:DataW.TrodAll enc Tryz.prog W 0 (fun _=>true) true Tryz.f3.params.toList args.toList ds p:=hA0;have hAll:=hA;rw[Tryz.params3] at hA hval;obtain ⟨v0,vs0,d0,ds0,p0,q0,hargs,rfl,rfl,h0,r0⟩:=trodAll_cons hA;obtain ⟨v1,vs1,d1,ds1,p1,q1,rfl,rfl,rfl,h1,r1⟩:=trodAll_cons r0;obtain ⟨v2,vs2,d2,ds2,p2,q2,rfl,rfl,rfl,h2,r2⟩:=trodAll_cons r1
 obtain ⟨v3,vs3,d3,ds3,p3,q3,rfl,rfl,rfl,h3,r3⟩:=trodAll_cons r2;obtain ⟨v4,vs4,d4,ds4,p4,q4,rfl,rfl,rfl,h4,r4⟩:=trodAll_cons r3;obtain ⟨rfl,rfl,rfl⟩:=trodAll_nil r4;obtain ⟨rfl,rfl⟩:=trodVars_none hV;obtain rfl:args = #[v0,v1,v2,v3,v4]:=by cases args;simp at hargs;rw[hargs]
 obtain ⟨x0,f0,g0,w0⟩:=open_arg (P:=Tryz.prog) (t:=25) (c:=a0o) (d:=30) (by kernel_rfl) (by kernel_rfl) (hval 0 25 v0 rfl rfl) h0;obtain ⟨x1,f1,g1,w1⟩:=open_arg (P:=Tryz.prog) (t:=26) (c:=(.slice h0p)) (d:=30) (by kernel_rfl) (by kernel_rfl) (hval 1 26 v1 rfl rfl) h1;obtain ⟨x2,f2,g2,w2⟩:=open_arg (P:=Tryz.prog) (t:=27) (c:=(.slice a0l)) (d:=30) (by kernel_rfl) (by kernel_rfl) (hval 2 27 v2 rfl rfl) h2;obtain ⟨x3,f3,g3,w3⟩:=open_arg (P:=Tryz.prog) (t:=2) (c:=(.int .i64)) (d:=30) (by kernel_rfl) (by kernel_rfl) (hval 3 2 v3 rfl rfl) h3
 obtain ⟨x4,f4,g4,w4⟩:=open_arg (P:=Tryz.prog) (t:=2) (c:=(.int .i64)) (d:=30) (by kernel_rfl) (by kernel_rfl) (hval 4 2 v4 rfl rfl) h4;refine (z1a tab plain mixed hands (n:=41) (K:=3) (s:=sigAt cx 3) (by kernel_rfl) (by kernel_rfl) (by kernel_rfl) (x:=((x0,x1,x2,x3,x4,()):El (cx.arg 3))) (answers x0 x1 x2 x3 x4 w0 w1 w2 w3 w4) rfl rfl
  (hg:=GlobOk.none fun _=>rfl) (vs:=[v0,v1,v2,v3,v4]) (W:=W) ⟨f0,f1,f2,f3,f4,trivial⟩ (p0b f0 g0 (p0b f1 g1 (p0b f2 g2 (p0b f3 g3 (p0b f4 g4 args_nil)))))).mono fun e W' ⟨he,hb⟩ => ?_
 subst he;exact ⟨_,rfl,post_law (tb:=4) laidOut rowTypes rfl rfl (by kernel_rfl) Tryz.underlying4 hAll (by simpa using hfz) hb⟩
theorem over:Rows.topToldRow.holds Tryz.pinned (OpenSpec.ofChange Rows.topToldSpec) :=
 OpenClaim.holds_of_wide 3 Tryz.f3 rfl rfl rfl rfl rfl rfl rfl ⟨rfl,rfl,rfl,rfl,rfl⟩ rfl rfl rfl rfl rfl (by kernel_rfl) Tryz.func3 (by kernel_rfl)
  (of_decide_eq_true (by kernel_rfl)) (by unfold Func.isWrapper;first | (rw[if_pos (by decide +kernel)];kernel_rfl) | (rw[if_neg (by decide +kernel)];exact ⟨rfl,rfl⟩))
  (fun os started H enc _=>lifted os started H enc)
theorem proved:Rows.TopToldSaid:=over
end Go.Proofs.YtojobamheigpbaaGreat.topTold
