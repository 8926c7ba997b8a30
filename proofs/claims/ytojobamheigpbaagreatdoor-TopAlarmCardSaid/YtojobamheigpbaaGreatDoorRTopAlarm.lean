/-
 A watch rings just if all events of its range that were ever taken rose, a second, by as much as it was to be told from, or more: for every configuration, acts and watch.
-/
import Derived.Test.YtojobamheigpbaaGreatDoorRows
import Derived.Test.YtojobamheigpbaaGreatDoorCk
import Derived.Test.YtojobamheigpbaaGreatDoorFlatM3
import Derived.Test.YtojobamheigpbaaGreatDoorQ4
import Derived.WalkKit
import Derived.LaidMore
import Derived.SevenTiedAt
import Derived.Test.YtojobamheigpbaaGreatDoorTie
import Derived.Test.YtojobamheigpbaaGreatDoorCards
import Derived.Test.YtojobamheigpbaaGreatDoorFlatM3
import Derived.ProofKit
import Derived.OpenShut
namespace Go.Proofs.YtojobamheigpbaaGreatDoor.topAlarm
open Go.Flat Go.ChangeShapes Go.WideShapes Go.ChangeAt
open Go.RowKit (Below)
set_option linter.unusedVariables false
def j0l : List (String × DataW Unit) := [("math/bits.deBruijn64tab", Rows.laid_math_bits_deBruijn64tab)]
theorem door_met (os:Os) (args:Array Value):laidMetH Tryz.prog j0l ((World.doorLaid Tryz.prog 400 os).forCall (fun _ _=>0) ⟨#[],args,[]⟩).memory :=
 laidMetH_of_parts3 (fuel:=8) (laidMet_of_run' 8 (by kernel_rfl) (by kernel_rfl)) (by kernel_rfl) (by kernel_rfl)
theorem z1w {W:World} (h:laidMetH Tryz.prog j0l W):GlobOk cx W (fun b=>b<W.heap.size):=by
 rw[MakeChecks.laidMetH_plain _ _ _ (by kernel_rfl)] at h;obtain ⟨ps,h,_,_⟩:=h;refine ⟨fun g t x e => ?_,fun g k e=>by cases e⟩;have e':=r0v (l:=q1p) e;simp only[q1p,List.mem_cons,List.not_mem_nil,or_false,Prod.mk.injEq] at e';obtain ⟨rfl,e'⟩:=e';cases e'
 exact f1d (P := Tryz.prog) (w := W) ⟨ps, h⟩ (nm := "math/bits.deBruijn64tab") (d := Rows.laid_math_bits_deBruijn64tab) (by unfold j0l; simp) (g := 0) (t := 310) (by kernel_rfl) (by kernel_rfl) (c := (.wrap (.pair (.int .u8) (.pair (.int .u8) (.pair (.int .u8) (.pair (.int .u8) (.pair (.int .u8) (.pair (.int .u8) (.pair (.int .u8) (.pair (.int .u8) (.pair (.int .u8) (.pair (.int .u8) (.pair (.int .u8) (.pair (.int .u8) (.pair (.int .u8) (.pair (.int .u8) (.pair (.int .u8) (.pair (.int .u8) (.pair (.int .u8) (.pair (.int .u8) (.pair (.int .u8) (.pair (.int .u8) (.pair (.int .u8) (.pair (.int .u8) (.pair (.int .u8) (.pair (.int .u8) (.pair (.int .u8) (.pair (.int .u8) (.pair (.int .u8) (.pair (.int .u8) (.pair (.int .u8) (.pair (.int .u8) (.pair (.int .u8) (.pair (.int .u8) (.pair (.int .u8) (.pair (.int .u8) (.pair (.int .u8) (.pair (.int .u8) (.pair (.int .u8) (.pair (.int .u8) (.pair (.int .u8) (.pair (.int .u8) (.pair (.int .u8) (.pair (.int .u8) (.pair (.int .u8) (.pair (.int .u8) (.pair (.int .u8) (.pair (.int .u8) (.pair (.int .u8) (.pair (.int .u8) (.pair (.int .u8) (.pair (.int .u8) (.pair (.int .u8) (.pair (.int .u8) (.pair (.int .u8) (.pair (.int .u8) (.pair (.int .u8) (.pair (.int .u8) (.pair (.int .u8) (.pair (.int .u8) (.pair (.int .u8) (.pair (.int .u8) (.pair (.int .u8) (.pair (.int .u8) (.pair (.int .u8) (.int .u8)))))))))))))))))))))))))))))))))))))))))))))))))))))))))))))))))) (dep := 30) (by kernel_rfl) (x := gv0) (by kernel_rfl) (of_decide_eq_true (by kernel_rfl))
theorem own:ownKnob Tryz.prog.godebug=none:=by kernel_rfl
theorem laidOut:laidOutB Tryz.prog=true:=by kernel_rfl
theorem r0c:m0r Tryz.prog Tryz.f7.params.toList=true:=by kernel_rfl
theorem answers (x0:El a0n) (x1:El (.slice b0y)) (x2:El k0l) (w0:Wf a0n x0) (w1:Wf (.slice b0y) x1) (w2:Wf k0l x2):evF cx 41 7 ((x0,x1,x2,()):El (cx.arg 7))=some (true:Bool) :=
 n1z 0 x0 x1 x2 w0 w1 w2
set_option maxRecDepth 100000 in
theorem lifted (os:Os) (started:os.Started) (H:Type) (enc:TypeId×Value→H) :
  ReturnsInHanded {} Tryz.checked os 7 .any (fun w args=>(Rows.topAlarmSpec.pre enc Tryz.prog Tryz.f7 Rows.topAlarmRow.domain false w args∧laidMetH Tryz.prog j0l w)∧sizedMet enc Tryz.prog Tryz.f7 (OpenSpec.ofChange Rows.topAlarmSpec) false w args)
   (Rows.topAlarmSpec.post enc Tryz.prog Tryz.f7 false true false false):=by
 refine returnsInHanded_of_change_and (C:=Tryz.checked) (X:=fun w _=>laidMetH Tryz.prog j0l w) (fun _ _ _ hh h=>h.of_heap hh) own started (by kernel_rfl) Tryz.func7
  (ChangeSpec.witness_shaped (enc:=enc) (C:=Tryz.checked) (os:=os) (X:=fun w _=>laidMetH Tryz.prog j0l w) false (World.doorLaid Tryz.prog 400 os) #[.agg #[.int .i64 0,.int .i64 0,.int .i64 0,.int .i64 0,.int .i64 0,.int .i64 0,.int .i64 0,.int .i64 0,.int .i64 0],.slice none 0 0,.agg #[.slice none 0 0,.int .i64 0,.int .i64 0,.int .i64 0,.int .u64 0,.int .u64 0,.int .u64 0,.int .u64 0]] 8 rfl (World.shaped_of_RefB (by kernel_rfl) (by kernel_rfl)) (by kernel_rfl) (by kernel_rfl) (by kernel_rfl) (door_met os _)) ?_
 intro W base args ds gs before hval0 hW hcnd _ hL _;have hval:∀(j:Nat) t v,Tryz.f7.params[j]? = some t→args[j]? = some v→Value.okWide Tryz.prog W .any base t v:=hval0;obtain ⟨p,q,hA0,hV,rfl,hfz,hnd⟩:=hW;have hA:DataW.TrodAll enc Tryz.prog W 0 (fun _=>true) true Tryz.f7.params.toList args.toList ds p:=hA0;have hAll:=hA;rw[Tryz.params7] at hA hval;obtain ⟨v0,vs0,d0,ds0,p0,q0,hargs,rfl,rfl,h0,r0⟩:=trodAll_cons hA;obtain ⟨v1,vs1,d1,ds1,p1,q1,rfl,rfl,rfl,h1,r1⟩:=trodAll_cons r0;obtain ⟨v2,vs2,d2,ds2,p2,q2,rfl,rfl,rfl,h2,r2⟩:=trodAll_cons r1;obtain ⟨rfl,rfl,rfl⟩:=trodAll_nil r2
 obtain ⟨rfl,rfl⟩:=trodVars_none hV;obtain rfl:args = #[v0,v1,v2]:=by cases args;simp at hargs;rw[hargs]
 obtain ⟨x0,f0,g0,w0⟩:=open_arg (P:=Tryz.prog) (t:=25) (c:=a0n) (d:=30) (by kernel_rfl) (by kernel_rfl) (hval 0 25 v0 rfl rfl) h0;obtain ⟨x1,f1,g1,w1⟩:=open_arg (P:=Tryz.prog) (t:=26) (c:=(.slice b0y)) (d:=30) (by kernel_rfl) (by kernel_rfl) (hval 1 26 v1 rfl rfl) h1;obtain ⟨x2,f2,g2,w2⟩:=open_arg (P:=Tryz.prog) (t:=89) (c:=k0l) (d:=30) (by kernel_rfl) (by kernel_rfl) (hval 2 89 v2 rfl rfl) h2;refine (z0l tab plain mixed hands (n:=41) (K:=7) (s:=y1f cx 7) (by kernel_rfl) (by kernel_rfl) (by kernel_rfl) (x:=((x0,x1,x2,()):El (cx.arg 7))) (answers x0 x1 x2 w0 w1 w2) rfl rfl
  (hg:=z1w hL) (vs:=[v0,v1,v2]) (W:=W) ⟨f0,f1,f2,trivial⟩ (c0p f0 g0 (c0p f1 g1 (c0p f2 g2 f1m)))).mono fun e W' ⟨he,hb⟩ => ?_
 subst he;exact ⟨_,rfl,e1y (tb:=4) laidOut r0c rfl rfl (by kernel_rfl) Tryz.underlying4 hAll (by simpa using hfz) hb⟩
theorem band {a b:Bool} (h1:a=true) (h2:b=true):(a&&b)=true:=by rw[h1,h2];rfl
theorem c3:mapsRowed Tryz.pinned.checked.prog=true:=by kernel_rfl
theorem c10:(Rows.topAlarmRow.inPlace==Tryz.pinned.checked.prog.inPlace 7)=true:=by kernel_rfl
theorem c11:(Rows.topAlarmRow.unfollowed==Tryz.pinned.checked.prog.unfollowed 7)=true:=by kernel_rfl
theorem c12:(Rows.topAlarmRow.recurses==Tryz.pinned.checked.prog.recurses 7)=true:=by kernel_rfl
theorem c13:(Rows.topAlarmRow.named==Tryz.pinned.checked.prog.varsNamed 7)=true:=by kernel_rfl
theorem j5:(Tryz.pinned.checked.prog.make==some Rows.topAlarmRow.make)=true:=by kernel_rfl
theorem j6:(Rows.topAlarmRow.lifted==Tryz.pinned.checked.prog.liftsFinal)=true:=by kernel_rfl
theorem j7:Tryz.pinned.checked.prog.mayEnter=true:=by kernel_rfl
theorem j8:Tryz.pinned.checked.prog.stopsHeard=true:=by kernel_rfl
theorem j10:(Rows.topAlarmRow.plainKeys==Tryz.pinned.checked.prog.plainKeys)=true:=by kernel_rfl
theorem closed:joinedFacts Tryz.pinned.checked.prog 7 Tryz.f7 Rows.topAlarmSpec Rows.topAlarmRow=true:=by
 unfold joinedFacts
 iterate 4 (refine band ?_ (by kernel_rfl))
 refine band ?_ j5;refine band ?_ j6;refine band ?_ j7;refine band ?_ j8;refine band ?_ (by kernel_rfl);refine band ?_ j10
 iterate 9 (refine band ?_ (by kernel_rfl))
 refine band ?_ c13;refine band ?_ c12;refine band ?_ c11;refine band ?_ c10
 iterate 6 (refine band ?_ (by kernel_rfl))
 refine band ?_ c3;exact band (by kernel_rfl) laidOut
theorem over:Rows.topAlarmRow.holds Tryz.pinned (OpenSpec.ofChange Rows.topAlarmSpec) :=
 OpenClaim.holds_of_wide 7 Tryz.f7 rfl rfl rfl rfl rfl rfl rfl ⟨rfl,rfl,rfl,rfl,rfl⟩ rfl rfl rfl rfl rfl (by kernel_rfl) Tryz.func7 closed
  (of_decide_eq_true (by kernel_rfl)) (by unfold Func.isWrapper;first | (rw[if_pos (by decide +kernel)];kernel_rfl) | (rw[if_neg (by decide +kernel)];exact ⟨rfl,rfl⟩))
  (fun os started H enc _=>lifted os started H enc)
theorem pf_w:Rows.topAlarmRow.wfByText (OpenSpec.ofChange Rows.topAlarmSpec)=true:=by kernel_rfl
theorem pf_m : Tryz.prog.mainIs = some (((true, "174ba1c184d5368b188e43b3cabb72dfe0647b04d1cfb926c67944694cc62ef2") : Bool × String).1, ((true, "174ba1c184d5368b188e43b3cabb72dfe0647b04d1cfb926c67944694cc62ef2") : Bool × String).2.toList) := by kernel_rfl
theorem pf_n : Tryz.prog.funcNamed "plimsoll/plimsolltop.TopAlarm" = some 7 := by kernel_rfl
theorem pf_l:false=Tryz.prog.looks []:=by kernel_rfl
theorem pf_s:([25,26,89].all fun u => !Tryz.prog.wantsStandIn u)=true:=by kernel_rfl
theorem pf_g:false=Rows.topAlarmRow.goesBy Tryz.prog:=by kernel_rfl
set_option maxRecDepth 100000 in
theorem proved:Rows.TopAlarmCardSaid :=
 Claim7.holds_tied_plain_at .later [] [.data] true (true, "174ba1c184d5368b188e43b3cabb72dfe0647b04d1cfb926c67944694cc62ef2") false
  over (fun _ h=>by cases h) pf_w (fun _ h=>by cases h) topAlarm_row_tie rfl ⟨rfl,rfl⟩ pf_m rfl
  (fun f fn hf hfn=>by
   obtain rfl:f=7:=Option.some.inj (pf_n.symm.trans hf) |>.symm;obtain rfl:fn=Tryz.f7:=(Option.some.inj (Tryz.func7.symm.trans hfn)).symm;exact ⟨pf_l,fun j t ht=>by
    rw[Tryz.params7] at ht;have hm:t∈[25,26,89]:=by simpa using Array.mem_of_getElem? ht
    exact (show Tryz.prog.wantsStandIn t=false by simpa using List.all_eq_true.1 pf_s t hm)⟩)
  pf_g
end Go.Proofs.YtojobamheigpbaaGreatDoor.topAlarm
