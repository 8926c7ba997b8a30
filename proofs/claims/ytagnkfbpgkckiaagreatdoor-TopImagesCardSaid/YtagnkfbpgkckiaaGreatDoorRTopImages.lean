/-
 Whatever is done to a state ahead of it being laid as sectors, or behind it being had of these, comes to the same, and takes the same: for all states, all acts, and all questions.
-/
import Derived.Test.YtagnkfbpgkckiaaGreatDoorRows
import Derived.Test.YtagnkfbpgkckiaaGreatDoorCk
import Derived.Test.YtagnkfbpgkckiaaGreatDoorFlatM4
import Derived.Test.YtagnkfbpgkckiaaGreatDoorQ4
import Derived.WalkKit
import Derived.LaidMore
import Derived.SevenTiedAt
import Derived.Test.YtagnkfbpgkckiaaGreatDoorTie
import Derived.Test.YtagnkfbpgkckiaaGreatDoorCards
import Derived.Test.YtagnkfbpgkckiaaGreatDoorFlatM4
import Derived.ProofKit
import Derived.OpenShut
set_option linter.unusedVariables false
open Go.RowKit (Below)
namespace Go.Proofs.YtagnkfbpgkckiaaGreatDoor.topImages
open Go.Flat Go.ChangeShapes Go.WideShapes Go.ChangeAt
def l2v : List (String × DataW Unit) := [("math/bits.deBruijn64tab", Rows.laid_math_bits_deBruijn64tab)]
theorem door_met (os:Os)(args:Array Value):laidMetH Tryz.prog l2v ((World.doorLaid Tryz.prog 400 os).forCall (fun _ _=>0) ⟨#[],args,[]⟩).memory :=
 laidMetH_of_parts3 (fuel:=8) (laidMet_of_run' 8 (by kernel_rfl) (by kernel_rfl)) (by kernel_rfl) (by kernel_rfl)
theorem globs {W:World}(h:laidMetH Tryz.prog l2v W):GlobOk cx W (fun b=>b<W.heap.size):=by
 rw[MakeChecks.laidMetH_plain _ _ _ (by kernel_rfl)] at h;obtain ⟨ps,h,_,_⟩:=h;refine ⟨fun g t x e => ?_,fun g k e=>by cases e⟩;have e':=e2m (l:=globL) e;simp only[globL,q3k,List.not_mem_nil,or_false,Prod.mk.injEq] at e';obtain ⟨rfl,e'⟩:=e';cases e'
 exact laid_one (P := Tryz.prog) (w := W) ⟨ps, h⟩ (nm := "math/bits.deBruijn64tab") (d := Rows.laid_math_bits_deBruijn64tab) (by unfold l2v; simp) (g := 0) (t := 360) (by kernel_rfl) (by kernel_rfl) (c := (.wrap (.pair (.int .u8) (.pair (.int .u8) (.pair (.int .u8) (.pair (.int .u8) (.pair (.int .u8) (.pair (.int .u8) (.pair (.int .u8) (.pair (.int .u8) (.pair (.int .u8) (.pair (.int .u8) (.pair (.int .u8) (.pair (.int .u8) (.pair (.int .u8) (.pair (.int .u8) (.pair (.int .u8) (.pair (.int .u8) (.pair (.int .u8) (.pair (.int .u8) (.pair (.int .u8) (.pair (.int .u8) (.pair (.int .u8) (.pair (.int .u8) (.pair (.int .u8) (.pair (.int .u8) (.pair (.int .u8) (.pair (.int .u8) (.pair (.int .u8) (.pair (.int .u8) (.pair (.int .u8) (.pair (.int .u8) (.pair (.int .u8) (.pair (.int .u8) (.pair (.int .u8) (.pair (.int .u8) (.pair (.int .u8) (.pair (.int .u8) (.pair (.int .u8) (.pair (.int .u8) (.pair (.int .u8) (.pair (.int .u8) (.pair (.int .u8) (.pair (.int .u8) (.pair (.int .u8) (.pair (.int .u8) (.pair (.int .u8) (.pair (.int .u8) (.pair (.int .u8) (.pair (.int .u8) (.pair (.int .u8) (.pair (.int .u8) (.pair (.int .u8) (.pair (.int .u8) (.pair (.int .u8) (.pair (.int .u8) (.pair (.int .u8) (.pair (.int .u8) (.pair (.int .u8) (.pair (.int .u8) (.pair (.int .u8) (.pair (.int .u8) (.pair (.int .u8) (.pair (.int .u8) (.pair (.int .u8) (.int .u8)))))))))))))))))))))))))))))))))))))))))))))))))))))))))))))))))) (dep := 30) (by kernel_rfl) (x := gv0) (by kernel_rfl) (of_decide_eq_true (by kernel_rfl))
theorem own:ownKnob Tryz.prog.godebug=none:=by kernel_rfl
theorem laidOut:laidOutB Tryz.prog=true:=by kernel_rfl
theorem rowTypes:b1o Tryz.prog Tryz.f5.params.toList=true:=by kernel_rfl
theorem answers (x0:El a0i)(x1:El (.slice n0z))(x2:El a1n)(w0:Wf a0i x0)(w1:Wf (.slice n0z) x1)(w2:Wf a1n x2):evF cx 41 5 ((x0,x1,x2,()):El (cx.arg 5))=some (true:Bool) :=
 m1l 0 x0 x1 x2 w0 w1 w2
set_option maxRecDepth 100000 in
theorem lifted (os:Os)(started:os.Started)(H:Type)(enc:TypeId×Value->H) :
  ReturnsInHanded {} Tryz.checked os 5 .any (fun w args=>(Rows.topImagesSpec.pre enc Tryz.prog Tryz.f5 Rows.topImagesRow.domain false w args/\laidMetH Tryz.prog l2v w)/\sizedMet enc Tryz.prog Tryz.f5 (OpenSpec.ofChange Rows.topImagesSpec) false w args)
   (Rows.topImagesSpec.post enc Tryz.prog Tryz.f5 false true false false):=by
 refine returnsInHanded_of_change_and (C:=Tryz.checked) (X:=fun w _=>laidMetH Tryz.prog l2v w) (fun _ _ _ hh h=>h.of_heap hh) own started (by kernel_rfl) Tryz.func5
  (ChangeSpec.witness_shaped (enc:=enc) (C:=Tryz.checked) (os:=os) (X:=fun w _=>laidMetH Tryz.prog l2v w) false (World.doorLaid Tryz.prog 400 os) #[.agg #[.int .i64 0,.int .i64 0,.int .i64 0,.int .i64 0,.int .i64 0,.int .i64 0,.int .i64 0,.int .i64 0,.int .i64 0,.int .i64 0,.int .i64 0,.slice none 0 0],.slice none 0 0,.agg #[.slice none 0 0,.int .i64 0,.int .i64 0,.int .i64 0]] 8 rfl (World.shaped_of_RefB (by kernel_rfl) (by kernel_rfl)) (by kernel_rfl) (by kernel_rfl) (by kernel_rfl) (door_met os _)) ?_
 intro W base args ds gs before hval0 hW hcnd _ hL _;have hval:∀(j:Nat) t v,Tryz.f5.params[j]? = some t->args[j]? = some v->Value.okWide Tryz.prog W .any base t v:=hval0;obtain ⟨p,q,hA0,hV,rfl,hfz,hnd⟩:=hW;have hA:DataW.TrodAll enc Tryz.prog W 0 (fun _=>true) true Tryz.f5.params.toList args.toList ds p:=hA0;have hAll:=hA;rw[Tryz.params5] at hA hval;obtain ⟨v0,vs0,d0,ds0,p0,q0,hargs,rfl,rfl,h0,r0⟩:=trodAll_cons hA;obtain ⟨v1,vs1,d1,ds1,p1,q1,rfl,rfl,rfl,h1,r1⟩:=trodAll_cons r0;obtain ⟨v2,vs2,d2,ds2,p2,q2,rfl,rfl,rfl,h2,r2⟩:=trodAll_cons r1;obtain ⟨rfl,rfl,rfl⟩:=trodAll_nil r2
 obtain ⟨rfl,rfl⟩:=trodVars_none hV;obtain rfl:args = #[v0,v1,v2]:=by cases args;simp at hargs;rw[hargs]
 obtain ⟨x0,f0,g0,w0⟩:=open_arg (P:=Tryz.prog) (t:=28) (c:=a0i) (d:=30) (by kernel_rfl) (by kernel_rfl) (hval 0 28 v0 rfl rfl) h0;obtain ⟨x1,f1,g1,w1⟩:=open_arg (P:=Tryz.prog) (t:=71) (c:=(.slice n0z)) (d:=30) (by kernel_rfl) (by kernel_rfl) (hval 1 71 v1 rfl rfl) h1;obtain ⟨x2,f2,g2,w2⟩:=open_arg (P:=Tryz.prog) (t:=56) (c:=a1n) (d:=30) (by kernel_rfl) (by kernel_rfl) (hval 2 56 v2 rfl rfl) h2;refine (r2l tab plain mixed hands (n:=41) (K:=5) (s:=d1x cx 5) (by kernel_rfl) (by kernel_rfl) (by kernel_rfl) (x:=((x0,x1,x2,()):El (cx.arg 5))) (answers x0 x1 x2 w0 w1 w2) rfl rfl
  (hg:=globs hL) (vs:=[v0,v1,v2]) (W:=W) ⟨f0,f1,f2,trivial⟩ (m1c f0 g0 (m1c f1 g1 (m1c f2 g2 args_nil)))).mono fun e W' ⟨he,hb⟩ => ?_
 subst he;exact ⟨_,rfl,post_law (tb:=4) laidOut rowTypes rfl rfl (by kernel_rfl) Tryz.underlying4 hAll (by simpa using hfz) hb⟩
theorem band {a b:Bool}(h1:a=true)(h2:b=true):(a&&b)=true:=by rw[h1,h2];rfl
theorem c3:mapsRowed Tryz.pinned.checked.prog=true:=by kernel_rfl
theorem c10:(Rows.topImagesRow.inPlace==Tryz.pinned.checked.prog.inPlace 5)=true:=by kernel_rfl
theorem c11:(Rows.topImagesRow.unfollowed==Tryz.pinned.checked.prog.unfollowed 5)=true:=by kernel_rfl
theorem c12:(Rows.topImagesRow.recurses==Tryz.pinned.checked.prog.recurses 5)=true:=by kernel_rfl
theorem c13:(Rows.topImagesRow.named==Tryz.pinned.checked.prog.varsNamed 5)=true:=by kernel_rfl
theorem j5:(Tryz.pinned.checked.prog.make==some Rows.topImagesRow.make)=true:=by kernel_rfl
theorem j6:(Rows.topImagesRow.lifted==Tryz.pinned.checked.prog.liftsFinal)=true:=by kernel_rfl
theorem j7:Tryz.pinned.checked.prog.mayEnter=true:=by kernel_rfl
theorem j8:Tryz.pinned.checked.prog.stopsHeard=true:=by kernel_rfl
theorem j10:(Rows.topImagesRow.plainKeys==Tryz.pinned.checked.prog.plainKeys)=true:=by kernel_rfl
theorem closed:joinedFacts Tryz.pinned.checked.prog 5 Tryz.f5 Rows.topImagesSpec Rows.topImagesRow=true:=by
 unfold joinedFacts
 iterate 4 (refine band ?_ (by kernel_rfl))
 refine band ?_ j5;refine band ?_ j6;refine band ?_ j7;refine band ?_ j8;refine band ?_ (by kernel_rfl);refine band ?_ j10
 iterate 9 (refine band ?_ (by kernel_rfl))
 refine band ?_ c13;refine band ?_ c12;refine band ?_ c11;refine band ?_ c10
 iterate 6 (refine band ?_ (by kernel_rfl))
 refine band ?_ c3;exact band (by kernel_rfl) laidOut
theorem over:Rows.topImagesRow.holds Tryz.pinned (OpenSpec.ofChange Rows.topImagesSpec) :=
 OpenClaim.holds_of_wide 5 Tryz.f5 rfl rfl rfl rfl rfl rfl rfl ⟨rfl,rfl,rfl,rfl,rfl⟩ rfl rfl rfl rfl rfl (by kernel_rfl) Tryz.func5 closed
  (of_decide_eq_true (by kernel_rfl)) (by unfold Func.isWrapper;first | (rw[q0z (by decide +kernel)];kernel_rfl) | (rw[q0n (by decide +kernel)];exact ⟨rfl,rfl⟩))
  (fun os started H enc _=>lifted os started H enc)
theorem pf_w:Rows.topImagesRow.wfByText (OpenSpec.ofChange Rows.topImagesSpec)=true:=by kernel_rfl
theorem pf_m : Tryz.prog.mainIs = some (((true, "3d9f84fc25d0e5233fa5856619b94ba993e53894d5e37ae3625d309236d615ae") : Bool × String).1, ((true, "3d9f84fc25d0e5233fa5856619b94ba993e53894d5e37ae3625d309236d615ae") : Bool × String).2.toList) := by kernel_rfl
theorem pf_n : Tryz.prog.funcNamed "plimsoll/plimsolltop.TopImages" = some 5 := by kernel_rfl
theorem pf_l:false=Tryz.prog.looks []:=by kernel_rfl
theorem pf_s:([28,71,56].all fun u => !Tryz.prog.wantsStandIn u)=true:=by kernel_rfl
theorem pf_g:false=Rows.topImagesRow.goesBy Tryz.prog:=by kernel_rfl
set_option maxRecDepth 100000 in
theorem proved:Rows.TopImagesCardSaid :=
 Claim7.holds_tied_plain_at .later [] [.data] true (true, "3d9f84fc25d0e5233fa5856619b94ba993e53894d5e37ae3625d309236d615ae") false
  over (fun _ h=>by cases h) pf_w (fun _ h=>by cases h) topImages_row_tie rfl ⟨rfl,rfl⟩ pf_m rfl
  (fun f fn hf hfn=>by
   obtain rfl:f=5:=Option.some.inj (pf_n.symm.trans hf) |>.symm;obtain rfl:fn=Tryz.f5:=(Option.some.inj (Tryz.func5.symm.trans hfn)).symm;exact ⟨pf_l,fun j t ht=>by
    rw[Tryz.params5] at ht;have hm:t∈[28,71,56]:=by simpa using Array.mem_of_getElem? ht
    exact (show Tryz.prog.wantsStandIn t=false by simpa using List.all_eq_true.1 pf_s t hm)⟩)
  pf_g
end Go.Proofs.YtagnkfbpgkckiaaGreatDoor.topImages
