/-
 Parts are all rows, in order, of no more labels than asked for, as long as can be; cut by what a log has room for they change no more sectors than that: for all states, all rows and all numbers.
-/
import Derived.Test.YtjffajodppnejaaGreatDoorRows
import Derived.Test.YtjffajodppnejaaGreatDoorCk
import Derived.Test.YtjffajodppnejaaGreatDoorFlatM4
import Derived.Test.YtjffajodppnejaaGreatDoorQ3
import Derived.WalkKit
import Derived.LaidMore
import Derived.SevenTiedAt
import Derived.Test.YtjffajodppnejaaGreatDoorTie
import Derived.Test.YtjffajodppnejaaGreatDoorCards
import Derived.Test.YtjffajodppnejaaGreatDoorFlatM4
import Derived.ProofKit
import Derived.OpenShut
namespace Go.Proofs.YtjffajodppnejaaGreatDoor.batchParts
open Go.Flat Go.ChangeShapes Go.WideShapes Go.ChangeAt
open Go.RowKit (Below)
set_option linter.unusedVariables false
def o1w : List (String × DataW Unit) := [("math/bits.deBruijn32tab", Rows.laid_math_bits_deBruijn32tab), ("math/bits.deBruijn64tab", Rows.laid_math_bits_deBruijn64tab), ("internal/strconv.uint64pow10", Rows.laid_internal_strconv_uint64pow10)]
theorem door_met (os:Os) (args:Array Value):laidMetH Tryz.prog o1w ((World.doorLaid Tryz.prog 400 os).forCall (fun _ _=>0) ⟨#[],args,[]⟩).memory :=
 laidMetH_of_parts3 (fuel:=8) (laidMet_of_run' 8 (by kernel_rfl) (by kernel_rfl)) (by kernel_rfl) (by kernel_rfl)
theorem globs {W:World} (h:laidMetH Tryz.prog o1w W):GlobOk cx W (fun b=>b<W.heap.size):=by
 rw[MakeChecks.laidMetH_plain _ _ _ (by kernel_rfl)] at h;obtain ⟨ps,h,_,_⟩:=h;refine ⟨fun g t x e => ?_,fun g k e=>by cases e⟩;have e':=t1k (l:=globL) e;simp only[globL,List.mem_cons,List.not_mem_nil,or_false,Prod.mk.injEq] at e';rcases e' with ⟨rfl,e'⟩ | ⟨rfl,e'⟩ | ⟨rfl,e'⟩
 ·cases e'
  exact k1v (P := Tryz.prog) (w := W) ⟨ps, h⟩ (nm := "internal/strconv.uint64pow10") (d := Rows.laid_internal_strconv_uint64pow10) (by unfold o1w; simp) (g := 0) (t := 247) (by kernel_rfl) (by kernel_rfl) (c := (.wrap (.pair (.int .u64) (.pair (.int .u64) (.pair (.int .u64) (.pair (.int .u64) (.pair (.int .u64) (.pair (.int .u64) (.pair (.int .u64) (.pair (.int .u64) (.pair (.int .u64) (.pair (.int .u64) (.pair (.int .u64) (.pair (.int .u64) (.pair (.int .u64) (.pair (.int .u64) (.pair (.int .u64) (.pair (.int .u64) (.pair (.int .u64) (.pair (.int .u64) (.pair (.int .u64) (.int .u64)))))))))))))))))))))) (dep := 30) (by kernel_rfl) (x := gv0) (by kernel_rfl) (of_decide_eq_true (by kernel_rfl))
 ·cases e'
  exact k1v (P := Tryz.prog) (w := W) ⟨ps, h⟩ (nm := "math/bits.deBruijn32tab") (d := Rows.laid_math_bits_deBruijn32tab) (by unfold o1w; simp) (g := 2) (t := 272) (by kernel_rfl) (by kernel_rfl) (c := (.wrap (.pair (.int .u8) (.pair (.int .u8) (.pair (.int .u8) (.pair (.int .u8) (.pair (.int .u8) (.pair (.int .u8) (.pair (.int .u8) (.pair (.int .u8) (.pair (.int .u8) (.pair (.int .u8) (.pair (.int .u8) (.pair (.int .u8) (.pair (.int .u8) (.pair (.int .u8) (.pair (.int .u8) (.pair (.int .u8) (.pair (.int .u8) (.pair (.int .u8) (.pair (.int .u8) (.pair (.int .u8) (.pair (.int .u8) (.pair (.int .u8) (.pair (.int .u8) (.pair (.int .u8) (.pair (.int .u8) (.pair (.int .u8) (.pair (.int .u8) (.pair (.int .u8) (.pair (.int .u8) (.pair (.int .u8) (.pair (.int .u8) (.int .u8)))))))))))))))))))))))))))))))))) (dep := 30) (by kernel_rfl) (x := gv2) (by kernel_rfl) (of_decide_eq_true (by kernel_rfl))
 ·cases e'
  exact k1v (P := Tryz.prog) (w := W) ⟨ps, h⟩ (nm := "math/bits.deBruijn64tab") (d := Rows.laid_math_bits_deBruijn64tab) (by unfold o1w; simp) (g := 3) (t := 273) (by kernel_rfl) (by kernel_rfl) (c := (.wrap (tup (List.replicate 64 (.int .u8))))) (dep := 30) (by kernel_rfl) (x := gv3) (by kernel_rfl) (of_decide_eq_true (by kernel_rfl))
theorem own:ownKnob Tryz.prog.godebug=none:=by kernel_rfl
theorem laidOut:laidOutB Tryz.prog=true:=by kernel_rfl
theorem rowTypes:v0r Tryz.prog Tryz.f3.params.toList=true:=by kernel_rfl
theorem answers (x0:El b0b) (x1:El (.slice b0j)) (x2:El (.int .i64)) (w0:Wf b0b x0) (w1:Wf (.slice b0j) x1) (w2:Wf (.int .i64) x2):evF cx 61 3 ((x0,x1,x2,()):El (cx.arg 3))=some (true:Bool) :=
 d1d 0 x0 x1 x2 w0 w1
set_option maxRecDepth 100000 in
theorem lifted (os:Os) (started:os.Started) (H:Type) (enc:TypeId×Value→H) :
  ReturnsInHanded {} Tryz.checked os 3 .any (fun w args=>(Rows.batchPartsSpec.pre enc Tryz.prog Tryz.f3 Rows.batchPartsRow.domain false w args∧laidMetH Tryz.prog o1w w)∧sizedMet enc Tryz.prog Tryz.f3 (OpenSpec.ofChange Rows.batchPartsSpec) false w args)
   (Rows.batchPartsSpec.post enc Tryz.prog Tryz.f3 false true false false):=by
 refine returnsInHanded_of_change_and (C:=Tryz.checked) (X:=fun w _=>laidMetH Tryz.prog o1w w) (fun _ _ _ hh h=>h.of_heap hh) own started (by kernel_rfl) Tryz.func3
  (ChangeSpec.witness_shaped (enc:=enc) (C:=Tryz.checked) (os:=os) (X:=fun w _=>laidMetH Tryz.prog o1w w) false (World.doorLaid Tryz.prog 400 os) #[.agg #[.int .i64 0,.int .i64 0,.int .i64 0,.int .i64 0,.int .i64 0,.int .i64 0,.int .i64 0,.int .i64 0,.int .i64 0,.int .i64 0,.int .i64 0,.slice none 0 0],.slice none 0 0,.int .i64 0] 8 rfl (World.shaped_of_RefB (by kernel_rfl) (by kernel_rfl)) (by kernel_rfl) (by kernel_rfl) (by kernel_rfl) (door_met os _)) ?_
 intro W base args ds gs before hval0 hW hcnd _ hL _;have hval:∀(j:Nat) t v,Tryz.f3.params[j]? = some t→args[j]? = some v→Value.okWide Tryz.prog W .any base t v:=hval0;obtain ⟨p,q,hA0,hV,rfl,hfz,hnd⟩:=hW;have hA:DataW.TrodAll enc Tryz.prog W 0 (fun _=>true) true Tryz.f3.params.toList args.toList ds p:=hA0;have hAll:=hA;rw[Tryz.params3] at hA hval;obtain ⟨v0,vs0,d0,ds0,p0,q0,hargs,rfl,rfl,h0,r0⟩:=trodAll_cons hA;obtain ⟨v1,vs1,d1,ds1,p1,q1,rfl,rfl,rfl,h1,r1⟩:=trodAll_cons r0;obtain ⟨v2,vs2,d2,ds2,p2,q2,rfl,rfl,rfl,h2,r2⟩:=trodAll_cons r1;obtain ⟨rfl,rfl,rfl⟩:=trodAll_nil r2
 obtain ⟨rfl,rfl⟩:=trodVars_none hV;obtain rfl:args = #[v0,v1,v2]:=by cases args;simp at hargs;rw[hargs]
 obtain ⟨x0,f0,g0,w0⟩:=open_arg (P:=Tryz.prog) (t:=28) (c:=b0b) (d:=30) (by kernel_rfl) (by kernel_rfl) (hval 0 28 v0 rfl rfl) h0;obtain ⟨x1,f1,g1,w1⟩:=open_arg (P:=Tryz.prog) (t:=29) (c:=(.slice b0j)) (d:=30) (by kernel_rfl) (by kernel_rfl) (hval 1 29 v1 rfl rfl) h1;obtain ⟨x2,f2,g2,w2⟩:=open_arg (P:=Tryz.prog) (t:=3) (c:=(.int .i64)) (d:=30) (by kernel_rfl) (by kernel_rfl) (hval 2 3 v2 rfl rfl) h2;refine (f2f tab plain mixed hands (n:=61) (K:=3) (s:=v0n cx 3) (by kernel_rfl) (by kernel_rfl) (by kernel_rfl) (x:=((x0,x1,x2,()):El (cx.arg 3))) (answers x0 x1 x2 w0 w1 w2) rfl rfl
  (hg:=globs hL) (vs:=[v0,v1,v2]) (W:=W) ⟨f0,f1,f2,trivial⟩ (d1g f0 g0 (d1g f1 g1 (d1g f2 g2 args_nil)))).mono fun e W' ⟨he,hb⟩ => ?_
 subst he;exact ⟨_,rfl,post_law (tb:=4) laidOut rowTypes rfl rfl (by kernel_rfl) Tryz.underlying4 hAll (by simpa using hfz) hb⟩
theorem band {a b:Bool} (h1:a=true) (h2:b=true):(a&&b)=true:=by rw[h1,h2];rfl
theorem c3:mapsRowed Tryz.pinned.checked.prog=true:=by kernel_rfl
theorem c10:(Rows.batchPartsRow.inPlace==Tryz.pinned.checked.prog.inPlace 3)=true:=by kernel_rfl
theorem c11:(Rows.batchPartsRow.unfollowed==Tryz.pinned.checked.prog.unfollowed 3)=true:=by kernel_rfl
theorem c12:(Rows.batchPartsRow.recurses==Tryz.pinned.checked.prog.recurses 3)=true:=by kernel_rfl
theorem c13:(Rows.batchPartsRow.named==Tryz.pinned.checked.prog.varsNamed 3)=true:=by kernel_rfl
theorem j5:(Tryz.pinned.checked.prog.make==some Rows.batchPartsRow.make)=true:=by kernel_rfl
theorem j6:(Rows.batchPartsRow.lifted==Tryz.pinned.checked.prog.liftsFinal)=true:=by kernel_rfl
theorem j7:Tryz.pinned.checked.prog.mayEnter=true:=by kernel_rfl
theorem j8:Tryz.pinned.checked.prog.stopsHeard=true:=by kernel_rfl
theorem j10:(Rows.batchPartsRow.plainKeys==Tryz.pinned.checked.prog.plainKeys)=true:=by kernel_rfl
theorem closed:joinedFacts Tryz.pinned.checked.prog 3 Tryz.f3 Rows.batchPartsSpec Rows.batchPartsRow=true:=by
 unfold joinedFacts
 iterate 4 (refine band ?_ (by kernel_rfl))
 refine band ?_ j5;refine band ?_ j6;refine band ?_ j7;refine band ?_ j8;refine band ?_ (by kernel_rfl);refine band ?_ j10
 iterate 9 (refine band ?_ (by kernel_rfl))
 refine band ?_ c13;refine band ?_ c12;refine band ?_ c11;refine band ?_ c10
 iterate 6 (refine band ?_ (by kernel_rfl))
 refine band ?_ c3;exact band (by kernel_rfl) laidOut
theorem over:Rows.batchPartsRow.holds Tryz.pinned (OpenSpec.ofChange Rows.batchPartsSpec) :=
 OpenClaim.holds_of_wide 3 Tryz.f3 rfl rfl rfl rfl rfl rfl rfl ⟨rfl,rfl,rfl,rfl,rfl⟩ rfl rfl rfl rfl rfl (by kernel_rfl) Tryz.func3 closed
  (of_decide_eq_true (by kernel_rfl)) (by unfold Func.isWrapper;first | (rw[if_pos (by decide +kernel)];kernel_rfl) | (rw[if_neg (by decide +kernel)];exact ⟨rfl,rfl⟩))
  (fun os started H enc _=>lifted os started H enc)
theorem pf_w:Rows.batchPartsRow.wfByText (OpenSpec.ofChange Rows.batchPartsSpec)=true:=by kernel_rfl
theorem pf_m : Tryz.prog.mainIs = some (((true, "c30da1d64ff33c0eded128ed3130ffcc648d763c1f4103d25fda4e73599a9c6e") : Bool × String).1, ((true, "c30da1d64ff33c0eded128ed3130ffcc648d763c1f4103d25fda4e73599a9c6e") : Bool × String).2.toList) := by kernel_rfl
theorem pf_n : Tryz.prog.funcNamed "plimsoll/plimsolllaw36.BatchParts" = some 3 := by kernel_rfl
theorem pf_l:false=Tryz.prog.looks []:=by kernel_rfl
theorem pf_s:([28,29,3].all fun u => !Tryz.prog.wantsStandIn u)=true:=by kernel_rfl
theorem pf_g:false=Rows.batchPartsRow.goesBy Tryz.prog:=by kernel_rfl
set_option maxRecDepth 100000 in
theorem proved:Rows.BatchPartsCardSaid :=
 Claim7.holds_tied_plain_at .later [] [.data, .data, .data] true (true, "c30da1d64ff33c0eded128ed3130ffcc648d763c1f4103d25fda4e73599a9c6e") false
  over (fun _ h=>by cases h) pf_w (fun _ h=>by cases h) batchParts_row_tie rfl ⟨rfl,rfl⟩ pf_m rfl
  (fun f fn hf hfn=>by
   obtain rfl:f=3:=Option.some.inj (pf_n.symm.trans hf) |>.symm;obtain rfl:fn=Tryz.f3:=(Option.some.inj (Tryz.func3.symm.trans hfn)).symm;exact ⟨pf_l,fun j t ht=>by
    rw[Tryz.params3] at ht;have hm:t∈[28,29,3]:=by simpa using Array.mem_of_getElem? ht
    exact (show Tryz.prog.wantsStandIn t=false by simpa using List.all_eq_true.1 pf_s t hm)⟩)
  pf_g
end Go.Proofs.YtjffajodppnejaaGreatDoor.batchParts
