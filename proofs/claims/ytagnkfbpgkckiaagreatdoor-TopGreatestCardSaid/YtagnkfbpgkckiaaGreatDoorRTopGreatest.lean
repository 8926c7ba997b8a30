/-
 The series that rose most are told in order, and none that is not told rose more: for all states, all matchers, tiers, ranges and numbers.
-/
import Derived.Test.YtagnkfbpgkckiaaGreatDoorRows
import Derived.Test.YtagnkfbpgkckiaaGreatDoorCk
import Derived.Test.YtagnkfbpgkckiaaGreatDoorFlatM4
import Derived.Test.YtagnkfbpgkckiaaGreatDoorQ3
import Derived.WalkKit
import Derived.LaidMore
import Derived.SevenTiedAt
import Derived.Test.YtagnkfbpgkckiaaGreatDoorTie
import Derived.Test.YtagnkfbpgkckiaaGreatDoorCards
import Derived.Test.YtagnkfbpgkckiaaGreatDoorFlatM4
import Derived.ProofKit
import Derived.OpenShut
namespace Go.Proofs.YtagnkfbpgkckiaaGreatDoor.topGreatest
open Go.Flat Go.ChangeShapes Go.WideShapes Go.ChangeAt
open Go.RowKit (Below)
set_option linter.unusedVariables false
def b2a : List (String × DataW Unit) := [("math/bits.deBruijn64tab", Rows.laid_math_bits_deBruijn64tab)]
theorem door_met (os:Os) (args:Array Value):laidMetH Tryz.prog b2a ((World.doorLaid Tryz.prog 400 os).forCall (fun _ _=>0) ⟨#[],args,[]⟩).memory :=
 laidMetH_of_parts3 (fuel:=8) (laidMet_of_run' 8 (by kernel_rfl) (by kernel_rfl)) (by kernel_rfl) (by kernel_rfl)
theorem globs {W:World} (h:laidMetH Tryz.prog b2a W):GlobOk cx W (fun b=>b<W.heap.size):=by
 rw[MakeChecks.laidMetH_plain _ _ _ (by kernel_rfl)] at h;obtain ⟨ps,h,_,_⟩:=h;refine ⟨fun g t x e => ?_,fun g k e=>by cases e⟩;have e':=v1j (l:=globL) e;simp only[globL,List.mem_cons,List.not_mem_nil,or_false,Prod.mk.injEq] at e';obtain ⟨rfl,e'⟩:=e';cases e'
 exact laid_one (P := Tryz.prog) (w := W) ⟨ps, h⟩ (nm := "math/bits.deBruijn64tab") (d := Rows.laid_math_bits_deBruijn64tab) (by unfold b2a; simp) (g := 0) (t := 360) (by kernel_rfl) (by kernel_rfl) (c := (.wrap (.pair (.int .u8) (.pair (.int .u8) (.pair (.int .u8) (.pair (.int .u8) (.pair (.int .u8) (.pair (.int .u8) (.pair (.int .u8) (.pair (.int .u8) (.pair (.int .u8) (.pair (.int .u8) (.pair (.int .u8) (.pair (.int .u8) (.pair (.int .u8) (.pair (.int .u8) (.pair (.int .u8) (.pair (.int .u8) (.pair (.int .u8) (.pair (.int .u8) (.pair (.int .u8) (.pair (.int .u8) (.pair (.int .u8) (.pair (.int .u8) (.pair (.int .u8) (.pair (.int .u8) (.pair (.int .u8) (.pair (.int .u8) (.pair (.int .u8) (.pair (.int .u8) (.pair (.int .u8) (.pair (.int .u8) (.pair (.int .u8) (.pair (.int .u8) (.pair (.int .u8) (.pair (.int .u8) (.pair (.int .u8) (.pair (.int .u8) (.pair (.int .u8) (.pair (.int .u8) (.pair (.int .u8) (.pair (.int .u8) (.pair (.int .u8) (.pair (.int .u8) (.pair (.int .u8) (.pair (.int .u8) (.pair (.int .u8) (.pair (.int .u8) (.pair (.int .u8) (.pair (.int .u8) (.pair (.int .u8) (.pair (.int .u8) (.pair (.int .u8) (.pair (.int .u8) (.pair (.int .u8) (.pair (.int .u8) (.pair (.int .u8) (.pair (.int .u8) (.pair (.int .u8) (.pair (.int .u8) (.pair (.int .u8) (.pair (.int .u8) (.pair (.int .u8) (.pair (.int .u8) (.pair (.int .u8) (.int .u8)))))))))))))))))))))))))))))))))))))))))))))))))))))))))))))))))) (dep := 30) (by kernel_rfl) (x := gv0) (by kernel_rfl) (of_decide_eq_true (by kernel_rfl))
theorem own:ownKnob Tryz.prog.godebug=none:=by kernel_rfl
theorem laidOut:laidOutB Tryz.prog=true:=by kernel_rfl
theorem rowTypes:x0j Tryz.prog Tryz.f3.params.toList=true:=by kernel_rfl
theorem answers (x0:El a0n) (x1:El (.slice a0t)) (x2:El (.int .i64)) (x3:El (.int .i64)) (x4:El (.int .i64)) (x5:El (.int .i64)) (w0:Wf a0n x0) (w1:Wf (.slice a0t) x1) (w2:Wf (.int .i64) x2) (w3:Wf (.int .i64) x3) (w4:Wf (.int .i64) x4) (w5:Wf (.int .i64) x5):evF cx 42 3 ((x0,x1,x2,x3,x4,x5,()):El (cx.arg 3))=some (true:Bool) :=
 b1s 0 x0 x1 x2 x3 x4 x5 w0 w1
set_option maxRecDepth 100000 in
theorem lifted (os:Os) (started:os.Started) (H:Type) (enc:TypeId×Value→H) :
  ReturnsInHanded {} Tryz.checked os 3 .any (fun w args=>(Rows.topGreatestSpec.pre enc Tryz.prog Tryz.f3 Rows.topGreatestRow.domain false w args∧laidMetH Tryz.prog b2a w)∧sizedMet enc Tryz.prog Tryz.f3 (OpenSpec.ofChange Rows.topGreatestSpec) false w args)
   (Rows.topGreatestSpec.post enc Tryz.prog Tryz.f3 false true false false):=by
 refine returnsInHanded_of_change_and (C:=Tryz.checked) (X:=fun w _=>laidMetH Tryz.prog b2a w) (fun _ _ _ hh h=>h.of_heap hh) own started (by kernel_rfl) Tryz.func3
  (ChangeSpec.witness_shaped (enc:=enc) (C:=Tryz.checked) (os:=os) (X:=fun w _=>laidMetH Tryz.prog b2a w) false (World.doorLaid Tryz.prog 400 os) #[.agg #[.int .i64 0,.int .i64 0,.int .i64 0,.int .i64 0,.int .i64 0,.int .i64 0,.int .i64 0,.int .i64 0,.int .i64 0,.int .i64 0,.int .i64 0,.slice none 0 0],.slice none 0 0,.int .i64 0,.int .i64 0,.int .i64 0,.int .i64 0] 8 rfl (World.shaped_of_RefB (by kernel_rfl) (by kernel_rfl)) (by kernel_rfl) (by kernel_rfl) (by kernel_rfl) (door_met os _)) ?_
 intro W base args ds gs before hval0 hW hcnd _ hL _;have hval:∀(j:Nat) t v,Tryz.f3.params[j]? = some t→args[j]? = some v→Value.okWide Tryz.prog W .any base t v:=hval0;obtain ⟨p,q,hA0,hV,rfl,hfz,hnd⟩:=hW;have hA:DataW.TrodAll enc Tryz.prog W 0 (fun _=>true) true Tryz.f3.params.toList args.toList ds p:=hA0;have hAll:=hA;rw[Tryz.params3] at hA hval;obtain ⟨v0,vs0,d0,ds0,p0,q0,hargs,rfl,rfl,h0,r0⟩:=trodAll_cons hA;obtain ⟨v1,vs1,d1,ds1,p1,q1,rfl,rfl,rfl,h1,r1⟩:=trodAll_cons r0;obtain ⟨v2,vs2,d2,ds2,p2,q2,rfl,rfl,rfl,h2,r2⟩:=trodAll_cons r1
 obtain ⟨v3,vs3,d3,ds3,p3,q3,rfl,rfl,rfl,h3,r3⟩:=trodAll_cons r2;obtain ⟨v4,vs4,d4,ds4,p4,q4,rfl,rfl,rfl,h4,r4⟩:=trodAll_cons r3;obtain ⟨v5,vs5,d5,ds5,p5,q5,rfl,rfl,rfl,h5,r5⟩:=trodAll_cons r4;obtain ⟨rfl,rfl,rfl⟩:=trodAll_nil r5;obtain ⟨rfl,rfl⟩:=trodVars_none hV;obtain rfl:args = #[v0,v1,v2,v3,v4,v5]:=by cases args;simp at hargs;rw[hargs]
 obtain ⟨x0,f0,g0,w0⟩:=open_arg (P:=Tryz.prog) (t:=28) (c:=a0n) (d:=30) (by kernel_rfl) (by kernel_rfl) (hval 0 28 v0 rfl rfl) h0;obtain ⟨x1,f1,g1,w1⟩:=open_arg (P:=Tryz.prog) (t:=29) (c:=(.slice a0t)) (d:=30) (by kernel_rfl) (by kernel_rfl) (hval 1 29 v1 rfl rfl) h1;obtain ⟨x2,f2,g2,w2⟩:=open_arg (P:=Tryz.prog) (t:=3) (c:=(.int .i64)) (d:=30) (by kernel_rfl) (by kernel_rfl) (hval 2 3 v2 rfl rfl) h2;obtain ⟨x3,f3,g3,w3⟩:=open_arg (P:=Tryz.prog) (t:=2) (c:=(.int .i64)) (d:=30) (by kernel_rfl) (by kernel_rfl) (hval 3 2 v3 rfl rfl) h3
 obtain ⟨x4,f4,g4,w4⟩:=open_arg (P:=Tryz.prog) (t:=2) (c:=(.int .i64)) (d:=30) (by kernel_rfl) (by kernel_rfl) (hval 4 2 v4 rfl rfl) h4;obtain ⟨x5,f5,g5,w5⟩:=open_arg (P:=Tryz.prog) (t:=3) (c:=(.int .i64)) (d:=30) (by kernel_rfl) (by kernel_rfl) (hval 5 3 v5 rfl rfl) h5;refine (f2w tab plain mixed hands (n:=42) (K:=3) (s:=z0j cx 3) (by kernel_rfl) (by kernel_rfl) (by kernel_rfl) (x:=((x0,x1,x2,x3,x4,x5,()):El (cx.arg 3))) (answers x0 x1 x2 x3 x4 x5 w0 w1 w2 w3 w4 w5) rfl rfl
  (hg:=globs hL) (vs:=[v0,v1,v2,v3,v4,v5]) (W:=W) ⟨f0,f1,f2,f3,f4,f5,trivial⟩ (p0r f0 g0 (p0r f1 g1 (p0r f2 g2 (p0r f3 g3 (p0r f4 g4 (p0r f5 g5 args_nil))))))).mono fun e W' ⟨he,hb⟩ => ?_
 subst he;exact ⟨_,rfl,post_law (tb:=4) laidOut rowTypes rfl rfl (by kernel_rfl) Tryz.underlying4 hAll (by simpa using hfz) hb⟩
theorem band {a b:Bool} (h1:a=true) (h2:b=true):(a&&b)=true:=by rw[h1,h2];rfl
theorem c3:mapsRowed Tryz.pinned.checked.prog=true:=by kernel_rfl
theorem c10:(Rows.topGreatestRow.inPlace==Tryz.pinned.checked.prog.inPlace 3)=true:=by kernel_rfl
theorem c11:(Rows.topGreatestRow.unfollowed==Tryz.pinned.checked.prog.unfollowed 3)=true:=by kernel_rfl
theorem c12:(Rows.topGreatestRow.recurses==Tryz.pinned.checked.prog.recurses 3)=true:=by kernel_rfl
theorem c13:(Rows.topGreatestRow.named==Tryz.pinned.checked.prog.varsNamed 3)=true:=by kernel_rfl
theorem j5:(Tryz.pinned.checked.prog.make==some Rows.topGreatestRow.make)=true:=by kernel_rfl
theorem j6:(Rows.topGreatestRow.lifted==Tryz.pinned.checked.prog.liftsFinal)=true:=by kernel_rfl
theorem j7:Tryz.pinned.checked.prog.mayEnter=true:=by kernel_rfl
theorem j8:Tryz.pinned.checked.prog.stopsHeard=true:=by kernel_rfl
theorem j10:(Rows.topGreatestRow.plainKeys==Tryz.pinned.checked.prog.plainKeys)=true:=by kernel_rfl
theorem closed:joinedFacts Tryz.pinned.checked.prog 3 Tryz.f3 Rows.topGreatestSpec Rows.topGreatestRow=true:=by
 unfold joinedFacts
 iterate 4 (refine band ?_ (by kernel_rfl))
 refine band ?_ j5;refine band ?_ j6;refine band ?_ j7;refine band ?_ j8;refine band ?_ (by kernel_rfl);refine band ?_ j10
 iterate 9 (refine band ?_ (by kernel_rfl))
 refine band ?_ c13;refine band ?_ c12;refine band ?_ c11;refine band ?_ c10
 iterate 6 (refine band ?_ (by kernel_rfl))
 refine band ?_ c3;exact band (by kernel_rfl) laidOut
theorem over:Rows.topGreatestRow.holds Tryz.pinned (OpenSpec.ofChange Rows.topGreatestSpec) :=
 OpenClaim.holds_of_wide 3 Tryz.f3 rfl rfl rfl rfl rfl rfl rfl ⟨rfl,rfl,rfl,rfl,rfl⟩ rfl rfl rfl rfl rfl (by kernel_rfl) Tryz.func3 closed
  (of_decide_eq_true (by kernel_rfl)) (by unfold Func.isWrapper;first | (rw[if_pos (by decide +kernel)];kernel_rfl) | (rw[if_neg (by decide +kernel)];exact ⟨rfl,rfl⟩))
  (fun os started H enc _=>lifted os started H enc)
theorem pf_w:Rows.topGreatestRow.wfByText (OpenSpec.ofChange Rows.topGreatestSpec)=true:=by kernel_rfl
theorem pf_m : Tryz.prog.mainIs = some (((true, "3d9f84fc25d0e5233fa5856619b94ba993e53894d5e37ae3625d309236d615ae") : Bool × String).1, ((true, "3d9f84fc25d0e5233fa5856619b94ba993e53894d5e37ae3625d309236d615ae") : Bool × String).2.toList) := by kernel_rfl
theorem pf_n : Tryz.prog.funcNamed "plimsoll/plimsolltop.TopGreatest" = some 3 := by kernel_rfl
theorem pf_l:false=Tryz.prog.looks []:=by kernel_rfl
theorem pf_s:([28,29,3,2,2,3].all fun u => !Tryz.prog.wantsStandIn u)=true:=by kernel_rfl
theorem pf_g:false=Rows.topGreatestRow.goesBy Tryz.prog:=by kernel_rfl
set_option maxRecDepth 100000 in
theorem proved:Rows.TopGreatestCardSaid :=
 Claim7.holds_tied_plain_at .later [] [.data] true (true, "3d9f84fc25d0e5233fa5856619b94ba993e53894d5e37ae3625d309236d615ae") false
  over (fun _ h=>by cases h) pf_w (fun _ h=>by cases h) topGreatest_row_tie rfl ⟨rfl,rfl⟩ pf_m rfl
  (fun f fn hf hfn=>by
   obtain rfl:f=3:=Option.some.inj (pf_n.symm.trans hf) |>.symm;obtain rfl:fn=Tryz.f3:=(Option.some.inj (Tryz.func3.symm.trans hfn)).symm;exact ⟨pf_l,fun j t ht=>by
    rw[Tryz.params3] at ht;have hm:t∈[28,29,3,2,2,3]:=by simpa using Array.mem_of_getElem? ht
    exact (show Tryz.prog.wantsStandIn t=false by simpa using List.all_eq_true.1 pf_s t hm)⟩)
  pf_g
end Go.Proofs.YtagnkfbpgkckiaaGreatDoor.topGreatest
