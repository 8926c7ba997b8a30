/-
 Whatever is committed, and wherever the power fails, again and again: each commit is wholly there or not at all, for all configurations and all ways to fail.
-/
import Derived.Test.YtmcgmijdnfcfgaaRows
import Derived.Test.YtmcgmijdnfcfgaaCk
import Derived.Test.YtmcgmijdnfcfgaaFlatM4
import Derived.Test.YtmcgmijdnfcfgaaQ1
import Derived.WalkKit
import Derived.ProofKit
import Derived.OpenShut
namespace Go.Proofs.Ytmcgmijdnfcfgaa.redoAll
open Go.Flat Go.ChangeShapes Go.WideShapes Go.ChangeAt
open Go.RowKit (Below)
set_option linter.unusedVariables false
theorem own:ownKnob Try.prog.godebug=none:=by kernel_rfl
theorem laidOut:laidOutB Try.prog=true:=by kernel_rfl
theorem rowTypes:o0m Try.prog Try.f3.params.toList=true:=by kernel_rfl
theorem answers (x0:El a0m) (x1:El (.int .u8)) (x2:El (.slice a0o)) (x3:El (.slice a0q)) (w0:Wf a0m x0) (w1:Wf (.int .u8) x1) (w2:Wf (.slice a0o) x2) (w3:Wf (.slice a0q) x3):evF cx 11 3 ((x0,x1,x2,x3,()):El (cx.arg 3))=some (true:Bool) :=
 y0p 1 (z0l 0) x0 x1 x2 x3 w3
set_option maxRecDepth 100000 in
theorem lifted (os:Os) (started:os.Started) (H:Type) (enc:TypeId×Value→H) :
  ReturnsInHanded {} Try.checked os 3 .any (Rows.redoAllSpec.pre6 enc Try.prog Try.f3 Rows.redoAllRow.domain false) (Rows.redoAllSpec.post enc Try.prog Try.f3 false true false false):=by
 refine returnsInHanded_of_change (C:=Try.checked) own started (by kernel_rfl) Try.func3
  (ChangeSpec.witness6 (enc:=enc) (C:=Try.checked) false ⟨#[],#[.agg #[.int .i64 0,.int .i64 0,.int .i64 0,.int .i64 0,.int .i64 0,.int .i64 0,.int .i64 0,.int .i64 0,.int .i64 0],.int .u8 0,.slice none 0 0,.slice none 0 0],[]⟩ 8 (by kernel_rfl) (by kernel_rfl) (by kernel_rfl) (by kernel_rfl)) ?_
 intro W base args ds gs before hval0 hW hcnd _;have hval:∀(j:Nat) t v,Try.f3.params[j]? = some t→args[j]? = some v→Value.okWide Try.prog W .any base t v:=hval0;obtain ⟨p,q,hA0,hV,rfl,hfz,hnd⟩:=hW;have hA:DataW.TrodAll enc Try.prog W 0 (fun _=>true) true Try.f3.params.toList args.toList ds p:=hA0;have hAll:=hA;rw[Try.params3] at hA hval;obtain ⟨v0,vs0,d0,ds0,p0,q0,hargs,rfl,rfl,h0,r0⟩:=trodAll_cons hA;obtain ⟨v1,vs1,d1,ds1,p1,q1,rfl,rfl,rfl,h1,r1⟩:=trodAll_cons r0;obtain ⟨v2,vs2,d2,ds2,p2,q2,rfl,rfl,rfl,h2,r2⟩:=trodAll_cons r1;obtain ⟨v3,vs3,d3,ds3,p3,q3,rfl,rfl,rfl,h3,r3⟩:=trodAll_cons r2
 obtain ⟨rfl,rfl,rfl⟩:=trodAll_nil r3;obtain ⟨rfl,rfl⟩:=trodVars_none hV;obtain rfl:args = #[v0,v1,v2,v3]:=by cases args;simp at hargs;rw[hargs]
 obtain ⟨x0,f0,g0,w0⟩:=open_arg (P:=Try.prog) (t:=25) (c:=a0m) (d:=30) (by kernel_rfl) (by kernel_rfl) (hval 0 25 v0 rfl rfl) h0;obtain ⟨x1,f1,g1,w1⟩:=open_arg (P:=Try.prog) (t:=5) (c:=(.int .u8)) (d:=30) (by kernel_rfl) (by kernel_rfl) (hval 1 5 v1 rfl rfl) h1;obtain ⟨x2,f2,g2,w2⟩:=open_arg (P:=Try.prog) (t:=26) (c:=(.slice a0o)) (d:=30) (by kernel_rfl) (by kernel_rfl) (hval 2 26 v2 rfl rfl) h2;obtain ⟨x3,f3,g3,w3⟩:=open_arg (P:=Try.prog) (t:=27) (c:=(.slice a0q)) (d:=30) (by kernel_rfl) (by kernel_rfl) (hval 3 27 v3 rfl rfl) h3
 refine (j1h tab plain mixed hands (n:=11) (K:=3) (s:=r0f cx 3) (by kernel_rfl) (by kernel_rfl) (by kernel_rfl) (x:=((x0,x1,x2,x3,()):El (cx.arg 3))) (answers x0 x1 x2 x3 w0 w1 w2 w3) rfl rfl
  (hg:=GlobOk.none fun _=>rfl) (vs:=[v0,v1,v2,v3]) (W:=W) ⟨f0,f1,f2,f3,trivial⟩ (p0m f0 g0 (p0m f1 g1 (p0m f2 g2 (p0m f3 g3 args_nil))))).mono fun e W' ⟨he,hb⟩ => ?_
 subst he;exact ⟨_,rfl,post_law (tb:=4) laidOut rowTypes rfl rfl (by kernel_rfl) Try.underlying4 hAll (by simpa using hfz) hb⟩
theorem over:Rows.redoAllRow.holds Try.pinned (OpenSpec.ofChange Rows.redoAllSpec) :=
 OpenClaim.holds_of_wide 3 Try.f3 rfl rfl rfl rfl rfl rfl rfl ⟨rfl,rfl,rfl,rfl,rfl⟩ rfl rfl rfl rfl rfl (by kernel_rfl) Try.func3 (by kernel_rfl)
  (of_decide_eq_true (by kernel_rfl)) (by unfold Func.isWrapper;first | (rw[if_pos (by decide +kernel)];kernel_rfl) | (rw[if_neg (by decide +kernel)];exact ⟨rfl,rfl⟩))
  (fun os started H enc _=>lifted os started H enc)
theorem proved:Rows.RedoAllSaid:=over
end Go.Proofs.Ytmcgmijdnfcfgaa.redoAll
