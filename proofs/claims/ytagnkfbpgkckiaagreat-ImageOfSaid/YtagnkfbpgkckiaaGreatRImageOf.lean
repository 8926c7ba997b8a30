/-
 Any sectors are the state's that the document says, or none's, and any two lists differ where it says: for all sectors, all lists, and every place.
-/
import Derived.Test.YtagnkfbpgkckiaaGreatRows
import Derived.Test.YtagnkfbpgkckiaaGreatCk
import Derived.Test.YtagnkfbpgkckiaaGreatFlatM4
import Derived.Test.YtagnkfbpgkckiaaGreatQ4
import Derived.WalkKit
import Derived.ProofKit
import Derived.OpenShut
set_option linter.unusedVariables false
open Go.RowKit (Below)
namespace Go.Proofs.YtagnkfbpgkckiaaGreat.imageOf
open Go.Flat Go.ChangeShapes Go.WideShapes Go.ChangeAt
theorem own:ownKnob Tryz.prog.godebug=none:=by kernel_rfl
theorem laidOut:laidOutB Tryz.prog=true:=by kernel_rfl
theorem rowTypes:a1q Tryz.prog Tryz.f4.params.toList=true:=by kernel_rfl
theorem answers (x0:El (.slice .str))(x1:El (.slice .str))(x2:El (.int .i64))(w0:Wf (.slice .str) x0)(w1:Wf (.slice .str) x1)(w2:Wf (.int .i64) x2):evF cx 41 4 ((x0,x1,x2,()):El (cx.arg 4))=some (true:Bool) :=
 v1v 0 x0 x1 x2
set_option maxRecDepth 100000 in
theorem lifted (os:Os)(started:os.Started)(H:Type)(enc:TypeId×Value->H) :
  ReturnsInHanded {} Tryz.checked os 4 .any (Rows.imageOfSpec.pre6 enc Tryz.prog Tryz.f4 Rows.imageOfRow.domain false) (Rows.imageOfSpec.post enc Tryz.prog Tryz.f4 false true false false):=by
 refine returnsInHanded_of_change (C:=Tryz.checked) own started (by kernel_rfl) Tryz.func4
  (ChangeSpec.witness6 (enc:=enc) (C:=Tryz.checked) false ⟨#[],#[.slice none 0 0,.slice none 0 0,.int .i64 0],[]⟩ 8 (by kernel_rfl) (by kernel_rfl) (by kernel_rfl) (by kernel_rfl)) ?_
 intro W base args ds gs before hval0 hW hcnd _;have hval:∀(j:Nat) t v,Tryz.f4.params[j]? = some t->args[j]? = some v->Value.okWide Tryz.prog W .any base t v:=hval0;obtain ⟨p,q,hA0,hV,rfl,hfz,hnd⟩:=hW;have hA:DataW.TrodAll enc Tryz.prog W 0 (fun _=>true) true Tryz.f4.params.toList args.toList ds p:=hA0;have hAll:=hA;rw[Tryz.params4] at hA hval;obtain ⟨v0,vs0,d0,ds0,p0,q0,hargs,rfl,rfl,h0,r0⟩:=trodAll_cons hA;obtain ⟨v1,vs1,d1,ds1,p1,q1,rfl,rfl,rfl,h1,r1⟩:=trodAll_cons r0;obtain ⟨v2,vs2,d2,ds2,p2,q2,rfl,rfl,rfl,h2,r2⟩:=trodAll_cons r1;obtain ⟨rfl,rfl,rfl⟩:=trodAll_nil r2
 obtain ⟨rfl,rfl⟩:=trodVars_none hV;obtain rfl:args = #[v0,v1,v2]:=by cases args;simp at hargs;rw[hargs]
 obtain ⟨x0,f0,g0,w0⟩:=open_arg (P:=Tryz.prog) (t:=41) (c:=(.slice .str)) (d:=30) (by kernel_rfl) (by kernel_rfl) (hval 0 41 v0 rfl rfl) h0;obtain ⟨x1,f1,g1,w1⟩:=open_arg (P:=Tryz.prog) (t:=41) (c:=(.slice .str)) (d:=30) (by kernel_rfl) (by kernel_rfl) (hval 1 41 v1 rfl rfl) h1;obtain ⟨x2,f2,g2,w2⟩:=open_arg (P:=Tryz.prog) (t:=3) (c:=(.int .i64)) (d:=30) (by kernel_rfl) (by kernel_rfl) (hval 2 3 v2 rfl rfl) h2
 refine (k2q tab plain mixed hands (n:=41) (K:=4) (s:=d1l cx 4) (by kernel_rfl) (by kernel_rfl) (by kernel_rfl) (x:=((x0,x1,x2,()):El (cx.arg 4))) (answers x0 x1 x2 w0 w1 w2) rfl rfl
  (hg:=GlobOk.none fun _=>rfl) (vs:=[v0,v1,v2]) (W:=W) ⟨f0,f1,f2,trivial⟩ (k1w f0 g0 (k1w f1 g1 (k1w f2 g2 args_nil)))).mono fun e W' ⟨he,hb⟩ => ?_
 subst he;exact ⟨_,rfl,post_law (tb:=4) laidOut rowTypes rfl rfl (by kernel_rfl) Tryz.underlying4 hAll (by simpa using hfz) hb⟩
theorem over:Rows.imageOfRow.holds Tryz.pinned (OpenSpec.ofChange Rows.imageOfSpec) :=
 OpenClaim.holds_of_wide 4 Tryz.f4 rfl rfl rfl rfl rfl rfl rfl ⟨rfl,rfl,rfl,rfl,rfl⟩ rfl rfl rfl rfl rfl (by kernel_rfl) Tryz.func4 (by kernel_rfl)
  (of_decide_eq_true (by kernel_rfl)) (by unfold Func.isWrapper;first | (rw[q0z (by decide +kernel)];kernel_rfl) | (rw[q0n (by decide +kernel)];exact ⟨rfl,rfl⟩))
  (fun os started H enc _=>lifted os started H enc)
theorem proved:Rows.ImageOfSaid:=over
end Go.Proofs.YtagnkfbpgkckiaaGreat.imageOf
