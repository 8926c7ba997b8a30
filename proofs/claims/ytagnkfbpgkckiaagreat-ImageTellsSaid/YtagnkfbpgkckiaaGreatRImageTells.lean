/-
 Any state has the sectors, and any place, event and slot the bytes, that the document says, or none: for all states, all events, and all slots.
-/
import Derived.Test.YtagnkfbpgkckiaaGreatRows
import Derived.Test.YtagnkfbpgkckiaaGreatCk
import Derived.Test.YtagnkfbpgkckiaaGreatFlatM4
import Derived.Test.YtagnkfbpgkckiaaGreatQ3
import Derived.WalkKit
import Derived.ProofKit
import Derived.OpenShut
namespace Go.Proofs.YtagnkfbpgkckiaaGreat.imageTells
open Go.Flat Go.ChangeShapes Go.WideShapes Go.ChangeAt
open Go.RowKit (Below)
set_option linter.unusedVariables false
theorem own:ownKnob Tryz.prog.godebug=none:=by kernel_rfl
theorem laidOut:laidOutB Tryz.prog=true:=by kernel_rfl
theorem rowTypes:x0w Tryz.prog Tryz.f3.params.toList=true:=by kernel_rfl
theorem answers (x0:El a0w) (x1:El a0e) (x2:El a0c) (w0:Wf a0w x0) (w1:Wf a0e x1) (w2:Wf a0c x2):evF cx 41 3 ((x0,x1,x2,()):El (cx.arg 3))=some (true:Bool) :=
 g1f 0 x0 x1 x2 w0 w1 w2
set_option maxRecDepth 100000 in
theorem lifted (os:Os) (started:os.Started) (H:Type) (enc:TypeId×Value→H) :
  ReturnsInHanded {} Tryz.checked os 3 .any (Rows.imageTellsSpec.pre6 enc Tryz.prog Tryz.f3 Rows.imageTellsRow.domain false) (Rows.imageTellsSpec.post enc Tryz.prog Tryz.f3 false true false false):=by
 refine returnsInHanded_of_change (C:=Tryz.checked) own started (by kernel_rfl) Tryz.func3
  (ChangeSpec.witness6 (enc:=enc) (C:=Tryz.checked) false ⟨#[],#[.agg #[.int .i64 0,.int .i64 0,.int .i64 0,.int .i64 0,.int .i64 0,.int .i64 0,.int .i64 0,.int .i64 0,.int .i64 0,.int .i64 0,.int .i64 0,.slice none 0 0],.agg #[.int .i64 0,.int .u64 0,.int .i64 0,.bool false],.agg #[.int .i64 0,.int .i64 0,.int .i64 0,.int .u64 0,.int .i64 0,.bool false,.int .i64 0,.int .u64 0,.int .i64 0,.bool false,.int .u64 0,.int .u64 0,.int .i64 0,.int .i64 0,.int .i64 0]],[]⟩ 8 (by kernel_rfl) (by kernel_rfl) (by kernel_rfl) (by kernel_rfl)) ?_
 intro W base args ds gs before hval0 hW hcnd _;have hval:∀(j:Nat) t v,Tryz.f3.params[j]? = some t→args[j]? = some v→Value.okWide Tryz.prog W .any base t v:=hval0;obtain ⟨p,q,hA0,hV,rfl,hfz,hnd⟩:=hW;have hA:DataW.TrodAll enc Tryz.prog W 0 (fun _=>true) true Tryz.f3.params.toList args.toList ds p:=hA0;have hAll:=hA;rw[Tryz.params3] at hA hval;obtain ⟨v0,vs0,d0,ds0,p0,q0,hargs,rfl,rfl,h0,r0⟩:=trodAll_cons hA;obtain ⟨v1,vs1,d1,ds1,p1,q1,rfl,rfl,rfl,h1,r1⟩:=trodAll_cons r0;obtain ⟨v2,vs2,d2,ds2,p2,q2,rfl,rfl,rfl,h2,r2⟩:=trodAll_cons r1;obtain ⟨rfl,rfl,rfl⟩:=trodAll_nil r2
 obtain ⟨rfl,rfl⟩:=trodVars_none hV;obtain rfl:args = #[v0,v1,v2]:=by cases args;simp at hargs;rw[hargs]
 obtain ⟨x0,f0,g0,w0⟩:=open_arg (P:=Tryz.prog) (t:=28) (c:=a0w) (d:=30) (by kernel_rfl) (by kernel_rfl) (hval 0 28 v0 rfl rfl) h0;obtain ⟨x1,f1,g1,w1⟩:=open_arg (P:=Tryz.prog) (t:=31) (c:=a0e) (d:=30) (by kernel_rfl) (by kernel_rfl) (hval 1 31 v1 rfl rfl) h1;obtain ⟨x2,f2,g2,w2⟩:=open_arg (P:=Tryz.prog) (t:=37) (c:=a0c) (d:=30) (by kernel_rfl) (by kernel_rfl) (hval 2 37 v2 rfl rfl) h2;refine (g2k tab plain mixed hands (n:=41) (K:=3) (s:=a1e cx 3) (by kernel_rfl) (by kernel_rfl) (by kernel_rfl) (x:=((x0,x1,x2,()):El (cx.arg 3))) (answers x0 x1 x2 w0 w1 w2) rfl rfl
  (hg:=GlobOk.none fun _=>rfl) (vs:=[v0,v1,v2]) (W:=W) ⟨f0,f1,f2,trivial⟩ (h1q f0 g0 (h1q f1 g1 (h1q f2 g2 args_nil)))).mono fun e W' ⟨he,hb⟩ => ?_
 subst he;exact ⟨_,rfl,post_law (tb:=4) laidOut rowTypes rfl rfl (by kernel_rfl) Tryz.underlying4 hAll (by simpa using hfz) hb⟩
theorem over:Rows.imageTellsRow.holds Tryz.pinned (OpenSpec.ofChange Rows.imageTellsSpec) :=
 OpenClaim.holds_of_wide 3 Tryz.f3 rfl rfl rfl rfl rfl rfl rfl ⟨rfl,rfl,rfl,rfl,rfl⟩ rfl rfl rfl rfl rfl (by kernel_rfl) Tryz.func3 (by kernel_rfl)
  (of_decide_eq_true (by kernel_rfl)) (by unfold Func.isWrapper;first | (rw[if_pos (by decide +kernel)];kernel_rfl) | (rw[if_neg (by decide +kernel)];exact ⟨rfl,rfl⟩))
  (fun os started H enc _=>lifted os started H enc)
theorem proved:Rows.ImageTellsSaid:=over
end Go.Proofs.YtagnkfbpgkckiaaGreat.imageTells
