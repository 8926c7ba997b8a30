/-
  Behind a failure each sector is as it was when it was synced last, or as one of the writes behind that left it, if these were kept: for every number of sectors, acts and keeps.
-/
import Derived.Test.YtghegadegcemjaaRows
import Derived.Test.YtghegadegcemjaaCk
import Derived.Test.YtghegadegcemjaaFlatM3
import Derived.Test.YtghegadegcemjaaQ1
import Derived.WalkKit
import Derived.ProofKit
import Derived.OpenShut
namespace Go.Proofs.Ytghegadegcemjaa.diskWhole
open Go.Flat Go.ChangeShapes Go.WideShapes Go.ChangeAt
open Go.RowKit (Below)
set_option linter.unusedVariables false
theorem own:ownKnob Try.prog.godebug=none:=by kernel_rfl
theorem laidOut:laidOutB Try.prog=true:=by kernel_rfl
theorem rowTypes:rowTypesB Try.prog Try.f3.params.toList=true:=by kernel_rfl
theorem answers (x0:El (.int .i64)) (x1:El (.slice typlimsolllaw25_Act)) (x2:El (.slice typlimsolllaw25_Act)) (x3:El (.slice .bool)) (w0:Wf (.int .i64) x0) (w1:Wf (.slice typlimsolllaw25_Act) x1) (w2:Wf (.slice typlimsolllaw25_Act) x2) (w3:Wf (.slice .bool) x3):evF cx 7 3 ((x0,x1,x2,x3,()):El (cx.arg 3))=some (true:Bool) :=
  whole_true 0 (lives_val 1) x0 x1 x2 x3
set_option maxRecDepth 100000 in
theorem lifted (os:Os) (started:os.Started) (H:Type) (enc:TypeId×Value→H) :
    ReturnsInHanded {} Try.checked os 3 .any (Rows.diskWholeSpec.pre6 enc Try.prog Try.f3 Rows.diskWholeRow.domain false) (Rows.diskWholeSpec.post enc Try.prog Try.f3 false true false false):=by
  refine returnsInHanded_of_change (C:=Try.checked) own started (by kernel_rfl) Try.func3
    (ChangeSpec.witness6 (enc:=enc) (C:=Try.checked) false ⟨#[],#[.int .i64 0,.slice none 0 0,.slice none 0 0,.slice none 0 0],[]⟩ 8 (by kernel_rfl) (by kernel_rfl) (by kernel_rfl) (by kernel_rfl)) ?_
  intro W base args ds gs before hval0 hW hcnd _
  have hval:∀(j:Nat) t v,Try.f3.params[j]? = some t→args[j]? = some v→Value.okWide Try.prog W .any base t v:=hval0
  obtain ⟨p,q,hA0,hV,rfl,hfz,hnd⟩:=hW
  have hA:DataW.TrodAll enc Try.prog W 0 (fun _=>true) true Try.f3.params.toList args.toList ds p:=hA0
  have hAll:=hA
  rw[Try.params3] at hA hval
  obtain ⟨v0,vs0,d0,ds0,p0,q0,hargs,rfl,rfl,h0,r0⟩:=trodAll_cons hA
  obtain ⟨v1,vs1,d1,ds1,p1,q1,rfl,rfl,rfl,h1,r1⟩:=trodAll_cons r0
  obtain ⟨v2,vs2,d2,ds2,p2,q2,rfl,rfl,rfl,h2,r2⟩:=trodAll_cons r1
  obtain ⟨v3,vs3,d3,ds3,p3,q3,rfl,rfl,rfl,h3,r3⟩:=trodAll_cons r2
  obtain ⟨rfl,rfl,rfl⟩:=trodAll_nil r3
  obtain ⟨rfl,rfl⟩:=trodVars_none hV
  obtain rfl:args = #[v0,v1,v2,v3]:=by cases args;simp at hargs;rw[hargs]
  obtain ⟨x0,f0,g0,w0⟩:=open_arg (P:=Try.prog) (t:=3) (c:=(.int .i64)) (d:=30) (by kernel_rfl) (by kernel_rfl) (hval 0 3 v0 rfl rfl) h0
  obtain ⟨x1,f1,g1,w1⟩:=open_arg (P:=Try.prog) (t:=22) (c:=(.slice typlimsolllaw25_Act)) (d:=30) (by kernel_rfl) (by kernel_rfl) (hval 1 22 v1 rfl rfl) h1
  obtain ⟨x2,f2,g2,w2⟩:=open_arg (P:=Try.prog) (t:=22) (c:=(.slice typlimsolllaw25_Act)) (d:=30) (by kernel_rfl) (by kernel_rfl) (hval 2 22 v2 rfl rfl) h2
  obtain ⟨x3,f3,g3,w3⟩:=open_arg (P:=Try.prog) (t:=23) (c:=(.slice .bool)) (d:=30) (by kernel_rfl) (by kernel_rfl) (hval 3 23 v3 rfl rfl) h3
  refine (law_calls tab plain mixed hands (n:=7) (K:=3) (s:=sigAt cx 3) (by kernel_rfl) (by kernel_rfl) (by kernel_rfl) (x:=((x0,x1,x2,x3,()):El (cx.arg 3))) (answers x0 x1 x2 x3 w0 w1 w2 w3) rfl rfl
    (hg:=GlobOk.none fun _=>rfl) (vs:=[v0,v1,v2,v3]) (W:=W) ⟨f0,f1,f2,f3,trivial⟩ (args_cons f0 g0 (args_cons f1 g1 (args_cons f2 g2 (args_cons f3 g3 args_nil))))).mono fun e W' ⟨he,hb⟩ => ?_
  subst he
  exact ⟨_,rfl,post_law (tb:=4) laidOut rowTypes rfl rfl (by kernel_rfl) Try.underlying4 hAll (by simpa using hfz) hb⟩
theorem over:Rows.diskWholeRow.holds Try.pinned (OpenSpec.ofChange Rows.diskWholeSpec) :=
  OpenClaim.holds_of_wide 3 Try.f3 rfl rfl rfl rfl rfl rfl rfl ⟨rfl,rfl,rfl,rfl,rfl⟩ rfl rfl rfl rfl rfl (by kernel_rfl) Try.func3 (by kernel_rfl)
    (of_decide_eq_true (by kernel_rfl)) (by unfold Func.isWrapper;first | (rw[if_pos (by decide +kernel)];kernel_rfl) | (rw[if_neg (by decide +kernel)];exact ⟨rfl,rfl⟩))
    (fun os started H enc _=>lifted os started H enc)
theorem proved:Rows.DiskWholeSaid:=over
end Go.Proofs.Ytghegadegcemjaa.diskWhole
