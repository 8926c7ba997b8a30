/-
 Whatever is committed, recovered, written and lost, on a disk of any size, each answer, and the disk, is what the document says: for all configurations, all sizes, and all calls.
-/
import Derived.Test.YtmcgmijdnfcfgaaGreatRows
import Derived.Test.YtmcgmijdnfcfgaaGreatCk
import Derived.Test.YtmcgmijdnfcfgaaGreatFlatM4
import Derived.Test.YtmcgmijdnfcfgaaGreatQ1
import Derived.WalkKit
import Derived.ProofKit
import Derived.OpenShut
namespace Go.Proofs.YtmcgmijdnfcfgaaGreat.redoPlays
open Go.Flat Go.ChangeShapes Go.WideShapes Go.ChangeAt
open Go.RowKit (Below)
set_option linter.unusedVariables false
theorem own:ownKnob Tryz.prog.godebug=none:=by kernel_rfl
theorem laidOut:laidOutB Tryz.prog=true:=by kernel_rfl
theorem rowTypes:q0v Tryz.prog Tryz.f3.params.toList=true:=by kernel_rfl
theorem answers (x0:El a0l) (x1:El (.int .i64)) (x2:El (.slice b0a)) (w0:Wf a0l x0) (w1:Wf (.int .i64) x1) (w2:Wf (.slice b0a) x2):evF cx 11 3 ((x0,x1,x2,()):El (cx.arg 3))=some (true:Bool) :=
 x0j 1 (d1j 0) x0 x1 x2 w2
set_option maxRecDepth 100000 in
theorem lifted (os:Os) (started:os.Started) (H:Type) (enc:TypeId×Value→H) :
  ReturnsInHanded {} Tryz.checked os 3 .any (Rows.redoPlaysSpec.pre6 enc Tryz.prog Tryz.f3 Rows.redoPlaysRow.domain false) (Rows.redoPlaysSpec.post enc Tryz.prog Tryz.f3 false true false false):=by
 refine returnsInHanded_of_change (C:=Tryz.checked) own started (by kernel_rfl) Tryz.func3
  (ChangeSpec.witness6 (enc:=enc) (C:=Tryz.checked) false ⟨#[],#[.agg #[.int .i64 0,.int .i64 0,.int .i64 0,.int .i64 0,.int .i64 0,.int .i64 0,.int .i64 0,.int .i64 0,.int .i64 0],.int .i64 0,.slice none 0 0],[]⟩ 8 (by kernel_rfl) (by kernel_rfl) (by kernel_rfl) (by kernel_rfl)) ?_
 intro W base args ds gs before hval0 hW hcnd _;have hval:∀(j:Nat) t v,Tryz.f3.params[j]? = some t→args[j]? = some v→Value.okWide Tryz.prog W .any base t v:=hval0;obtain ⟨p,q,hA0,hV,rfl,hfz,hnd⟩:=hW;have hA:DataW.TrodAll enc Tryz.prog W 0 (fun _=>true) true Tryz.f3.params.toList args.toList ds p:=hA0;have hAll:=hA;rw[Tryz.params3] at hA hval;obtain ⟨v0,vs0,d0,ds0,p0,q0,hargs,rfl,rfl,h0,r0⟩:=trodAll_cons hA;obtain ⟨v1,vs1,d1,ds1,p1,q1,rfl,rfl,rfl,h1,r1⟩:=trodAll_cons r0;obtain ⟨v2,vs2,d2,ds2,p2,q2,rfl,rfl,rfl,h2,r2⟩:=trodAll_cons r1;obtain ⟨rfl,rfl,rfl⟩:=trodAll_nil r2
 obtain ⟨rfl,rfl⟩:=trodVars_none hV;obtain rfl:args = #[v0,v1,v2]:=by cases args;simp at hargs;rw[hargs]
 obtain ⟨x0,f0,g0,w0⟩:=open_arg (P:=Tryz.prog) (t:=25) (c:=a0l) (d:=30) (by kernel_rfl) (by kernel_rfl) (hval 0 25 v0 rfl rfl) h0;obtain ⟨x1,f1,g1,w1⟩:=open_arg (P:=Tryz.prog) (t:=3) (c:=(.int .i64)) (d:=30) (by kernel_rfl) (by kernel_rfl) (hval 1 3 v1 rfl rfl) h1;obtain ⟨x2,f2,g2,w2⟩:=open_arg (P:=Tryz.prog) (t:=26) (c:=(.slice b0a)) (d:=30) (by kernel_rfl) (by kernel_rfl) (hval 2 26 v2 rfl rfl) h2
 refine (n1z tab plain mixed hands (n:=11) (K:=3) (s:=u0c cx 3) (by kernel_rfl) (by kernel_rfl) (by kernel_rfl) (x:=((x0,x1,x2,()):El (cx.arg 3))) (answers x0 x1 x2 w0 w1 w2) rfl rfl
  (hg:=GlobOk.none fun _=>rfl) (vs:=[v0,v1,v2]) (W:=W) ⟨f0,f1,f2,trivial⟩ (w0z f0 g0 (w0z f1 g1 (w0z f2 g2 args_nil)))).mono fun e W' ⟨he,hb⟩ => ?_
 subst he;exact ⟨_,rfl,post_law (tb:=4) laidOut rowTypes rfl rfl (by kernel_rfl) Tryz.underlying4 hAll (by simpa using hfz) hb⟩
theorem over:Rows.redoPlaysRow.holds Tryz.pinned (OpenSpec.ofChange Rows.redoPlaysSpec) :=
 OpenClaim.holds_of_wide 3 Tryz.f3 rfl rfl rfl rfl rfl rfl rfl ⟨rfl,rfl,rfl,rfl,rfl⟩ rfl rfl rfl rfl rfl (by kernel_rfl) Tryz.func3 (by kernel_rfl)
  (of_decide_eq_true (by kernel_rfl)) (by unfold Func.isWrapper;first | (rw[if_pos (by decide +kernel)];kernel_rfl) | (rw[if_neg (by decide +kernel)];exact ⟨rfl,rfl⟩))
  (fun os started H enc _=>lifted os started H enc)
theorem proved:Rows.RedoPlaysSaid:=over
end Go.Proofs.YtmcgmijdnfcfgaaGreat.redoPlays
