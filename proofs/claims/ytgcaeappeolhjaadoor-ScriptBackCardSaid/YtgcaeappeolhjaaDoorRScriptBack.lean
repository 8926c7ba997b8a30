/-
  An act is read from its line; what is read of a text is put again as it was: for every act and every text.
-/
import Derived.Test.YtgcaeappeolhjaaDoorRows
import Derived.Test.YtgcaeappeolhjaaDoorCk
import Derived.Test.YtgcaeappeolhjaaDoorFlatM3
import Derived.Test.YtgcaeappeolhjaaDoorQ1
import Derived.WalkKit
import Derived.LaidMore
import Derived.SevenTiedAt
import Derived.Test.YtgcaeappeolhjaaDoorTie
import Derived.Test.YtgcaeappeolhjaaDoorCards
import Derived.Test.YtgcaeappeolhjaaDoorFlatM3
import Derived.Test.YtgcaeappeolhjaaDoorShZ
import Derived.ProofKit
import Derived.OpenShut
namespace Go.Proofs.YtgcaeappeolhjaaDoor.scriptBack
open Go.Proofs Go.Flat Go.ChangeShapes Go.WideShapes Go.ChangeAt
open Go.RowKit (Below)
set_option linter.unusedVariables false
def laidL : List (String × DataW Unit) := [("math/bits.deBruijn32tab", Rows.laid_math_bits_deBruijn32tab), ("math/bits.deBruijn64tab", Rows.laid_math_bits_deBruijn64tab), ("internal/strconv.uint64pow10", Rows.laid_internal_strconv_uint64pow10), ("strconv.ErrRange", Rows.laid_strconv_ErrRange), ("strconv.ErrSyntax", Rows.laid_strconv_ErrSyntax)]
theorem door_met (os:Os) (args:Array Value):laidMetH Tryd.prog laidL ((World.doorLaid Tryd.prog 400 os).forCall (fun _ _=>0) ⟨#[],args,[]⟩).memory :=
  laidMetH_of_parts3 (fuel:=8) (laidMet_of_run' 8 (by kernel_rfl) (by kernel_rfl)) (by kernel_rfl) (by kernel_rfl)
theorem globs {W:World} (h:laidMetH Tryd.prog laidL W) (hs:W.ShapedOpen Tryd.prog):GlobOk cx W (fun b=>b<W.heap.size):=by
  rw[MakeChecks.laidMetH_plain _ _ _ (by kernel_rfl)] at h
  obtain ⟨ps,h,_,_⟩:=h
  refine ⟨fun g t x e => ?_,fun g k e => ?_⟩
  · have e':=globGet_mem (l:=globL) e
    simp only[globL,List.mem_cons,List.not_mem_nil,or_false,Prod.mk.injEq] at e'
    rcases e' with ⟨rfl,e'⟩ | ⟨rfl,e'⟩ | ⟨rfl,e'⟩
    · cases e'
      exact laid_one (P := Tryd.prog) (w := W) ⟨ps, h⟩ (nm := "internal/strconv.uint64pow10") (d := Rows.laid_internal_strconv_uint64pow10) (by unfold laidL; simp) (g := 1) (t := 134) (by kernel_rfl) (by kernel_rfl) (c := (.wrap (.pair (.int .u64) (.pair (.int .u64) (.pair (.int .u64) (.pair (.int .u64) (.pair (.int .u64) (.pair (.int .u64) (.pair (.int .u64) (.pair (.int .u64) (.pair (.int .u64) (.pair (.int .u64) (.pair (.int .u64) (.pair (.int .u64) (.pair (.int .u64) (.pair (.int .u64) (.pair (.int .u64) (.pair (.int .u64) (.pair (.int .u64) (.pair (.int .u64) (.pair (.int .u64) (.int .u64)))))))))))))))))))))) (dep := 30) (by kernel_rfl) (x := gv1) (by kernel_rfl) (of_decide_eq_true (by kernel_rfl))
    · cases e'
      exact laid_one (P := Tryd.prog) (w := W) ⟨ps, h⟩ (nm := "math/bits.deBruijn32tab") (d := Rows.laid_math_bits_deBruijn32tab) (by unfold laidL; simp) (g := 4) (t := 155) (by kernel_rfl) (by kernel_rfl) (c := (.wrap (.pair (.int .u8) (.pair (.int .u8) (.pair (.int .u8) (.pair (.int .u8) (.pair (.int .u8) (.pair (.int .u8) (.pair (.int .u8) (.pair (.int .u8) (.pair (.int .u8) (.pair (.int .u8) (.pair (.int .u8) (.pair (.int .u8) (.pair (.int .u8) (.pair (.int .u8) (.pair (.int .u8) (.pair (.int .u8) (.pair (.int .u8) (.pair (.int .u8) (.pair (.int .u8) (.pair (.int .u8) (.pair (.int .u8) (.pair (.int .u8) (.pair (.int .u8) (.pair (.int .u8) (.pair (.int .u8) (.pair (.int .u8) (.pair (.int .u8) (.pair (.int .u8) (.pair (.int .u8) (.pair (.int .u8) (.pair (.int .u8) (.int .u8)))))))))))))))))))))))))))))))))) (dep := 30) (by kernel_rfl) (x := gv4) (by kernel_rfl) (of_decide_eq_true (by kernel_rfl))
    · cases e'
      exact laid_one (P := Tryd.prog) (w := W) ⟨ps, h⟩ (nm := "math/bits.deBruijn64tab") (d := Rows.laid_math_bits_deBruijn64tab) (by unfold laidL; simp) (g := 5) (t := 156) (by kernel_rfl) (by kernel_rfl) (c := (.wrap (.pair (.int .u8) (.pair (.int .u8) (.pair (.int .u8) (.pair (.int .u8) (.pair (.int .u8) (.pair (.int .u8) (.pair (.int .u8) (.pair (.int .u8) (.pair (.int .u8) (.pair (.int .u8) (.pair (.int .u8) (.pair (.int .u8) (.pair (.int .u8) (.pair (.int .u8) (.pair (.int .u8) (.pair (.int .u8) (.pair (.int .u8) (.pair (.int .u8) (.pair (.int .u8) (.pair (.int .u8) (.pair (.int .u8) (.pair (.int .u8) (.pair (.int .u8) (.pair (.int .u8) (.pair (.int .u8) (.pair (.int .u8) (.pair (.int .u8) (.pair (.int .u8) (.pair (.int .u8) (.pair (.int .u8) (.pair (.int .u8) (.pair (.int .u8) (.pair (.int .u8) (.pair (.int .u8) (.pair (.int .u8) (.pair (.int .u8) (.pair (.int .u8) (.pair (.int .u8) (.pair (.int .u8) (.pair (.int .u8) (.pair (.int .u8) (.pair (.int .u8) (.pair (.int .u8) (.pair (.int .u8) (.pair (.int .u8) (.pair (.int .u8) (.pair (.int .u8) (.pair (.int .u8) (.pair (.int .u8) (.pair (.int .u8) (.pair (.int .u8) (.pair (.int .u8) (.pair (.int .u8) (.pair (.int .u8) (.pair (.int .u8) (.pair (.int .u8) (.pair (.int .u8) (.pair (.int .u8) (.pair (.int .u8) (.pair (.int .u8) (.pair (.int .u8) (.pair (.int .u8) (.pair (.int .u8) (.int .u8)))))))))))))))))))))))))))))))))))))))))))))))))))))))))))))))))) (dep := 30) (by kernel_rfl) (x := gv5) (by kernel_rfl) (of_decide_eq_true (by kernel_rfl))
  · have e':=extGet_mem (l:=gshL) e
    simp only[gshL,List.mem_cons,List.not_mem_nil,or_false,Prod.mk.injEq] at e'
    rcases e' with ⟨rfl,rfl⟩ | ⟨rfl,rfl⟩ | ⟨rfl,rfl⟩
    · exact shp_num (P:=Tryd.prog) (cell_of_shapedOpen_int (P:=Tryd.prog) (g:=0) (t:=3) (zero := #[.int .i64 0]) (k := .i64) hs (of_decide_eq_true (by kernel_rfl)) (by kernel_rfl) rfl (by kernel_rfl) (by kernel_rfl) Tryd.underlying3)
    · exact laid_iface (P := Tryd.prog) (w := W) ⟨ps, h⟩ (nm := "strconv.ErrSyntax") (dd := Rows.laid_strconv_ErrSyntax) rfl (by unfold laidL; simp) (g := 2) (by kernel_rfl)
    · exact laid_iface (P := Tryd.prog) (w := W) ⟨ps, h⟩ (nm := "strconv.ErrRange") (dd := Rows.laid_strconv_ErrRange) rfl (by unfold laidL; simp) (g := 3) (by kernel_rfl)
theorem own:ownKnob Tryd.prog.godebug=none:=by kernel_rfl
theorem laidOut:laidOutB Tryd.prog=true:=by kernel_rfl
theorem rowTypes:rowTypesB Tryd.prog Tryd.f3.params.toList=true:=by kernel_rfl
theorem answers (x0:El tyAct) (x1:El .str) (w0:Wf tyAct x0) (w1:Wf .str x1):evF cx 41 3 ((x0,x1,()):El (cx.arg 3))=some (true:Bool) :=
  scriptBack_law x0 x1 w0 w1
set_option maxRecDepth 100000 in
theorem lifted (os:Os) (started:os.Started) (H:Type) (enc:TypeId×Value→H) :
    ReturnsInHanded {} Tryd.checked os 3 .any (fun w args=>(Rows.scriptBackSpec.pre enc Tryd.prog Tryd.f3 Rows.scriptBackRow.domain false w args∧laidMetH Tryd.prog laidL w)∧sizedMet enc Tryd.prog Tryd.f3 (OpenSpec.ofChange Rows.scriptBackSpec) false w args)
      (Rows.scriptBackSpec.post enc Tryd.prog Tryd.f3 false true false false):=by
  refine handed_and_shaped (C:=Tryd.checked) (X:=fun w _=>laidMetH Tryd.prog laidL w) (fun _ _ _ hh h=>h.of_heap hh) own started (by kernel_rfl) Tryd.func3
    (ChangeSpec.witness_shaped (enc:=enc) (C:=Tryd.checked) (os:=os) (X:=fun w _=>laidMetH Tryd.prog laidL w) false (World.doorLaid Tryd.prog 400 os) #[.agg #[.int .u8 0,.slice none 0 0,.int .i64 0,.int .u64 0,.int .i64 0,.bool false,.int .i64 0,.int .i64 0,.int .i64 0,.int .i64 0],.string ⟨#[]⟩] 8 rfl (World.shaped_of_RefB (by kernel_rfl) (by kernel_rfl)) (by kernel_rfl) (by kernel_rfl) (by kernel_rfl) (door_met os _)) ?_
  intro W base args ds gs before hval0 hW hcnd _ hL hsh _
  have hval:∀(j:Nat) t v,Tryd.f3.params[j]? = some t→args[j]? = some v→Value.okWide Tryd.prog W .any base t v:=hval0
  obtain ⟨p,q,hA0,hV,rfl,hfz,hnd⟩:=hW
  have hA:DataW.TrodAll enc Tryd.prog W 0 (fun _=>true) true Tryd.f3.params.toList args.toList ds p:=hA0
  have hAll:=hA
  rw[Tryd.params3] at hA hval
  obtain ⟨v0,vs0,d0,ds0,p0,q0,hargs,rfl,rfl,h0,r0⟩:=trodAll_cons hA
  obtain ⟨v1,vs1,d1,ds1,p1,q1,rfl,rfl,rfl,h1,r1⟩:=trodAll_cons r0
  obtain ⟨rfl,rfl,rfl⟩:=trodAll_nil r1
  obtain ⟨rfl,rfl⟩:=trodVars_none hV
  obtain rfl:args = #[v0,v1]:=by cases args;simp at hargs;rw[hargs]
  obtain ⟨x0,f0,g0,w0⟩:=open_arg (P:=Tryd.prog) (t:=28) (c:=tyAct) (d:=30) (by kernel_rfl) (by kernel_rfl) (hval 0 28 v0 rfl rfl) h0
  obtain ⟨x1,f1,g1,w1⟩:=open_arg (P:=Tryd.prog) (t:=9) (c := .str) (d:=30) (by kernel_rfl) (by kernel_rfl) (hval 1 9 v1 rfl rfl) h1
  refine (law_calls tab plain mixed hands (n:=41) (K:=3) (s:=sigAt cx 3) (by kernel_rfl) (by kernel_rfl) (by kernel_rfl) (x:=((x0,x1,()):El (cx.arg 3))) (answers x0 x1 w0 w1) rfl rfl
    (hg:=globs hL hsh) (vs:=[v0,v1]) (W:=W) ⟨f0,f1,trivial⟩ (args_cons f0 g0 (args_cons f1 g1 args_nil))).mono fun e W' ⟨he,hb⟩ => ?_
  subst he
  exact ⟨_,rfl,post_law (tb:=4) laidOut rowTypes rfl rfl (by kernel_rfl) Tryd.underlying4 hAll (by simpa using hfz) hb⟩
theorem band {a b:Bool} (h1:a=true) (h2:b=true):(a&&b)=true:=by rw[h1,h2];rfl
theorem c3:mapsRowed Tryd.pinned.checked.prog=true:=by kernel_rfl
theorem c10:(Rows.scriptBackRow.inPlace==Tryd.pinned.checked.prog.inPlace 3)=true:=by kernel_rfl
theorem c11:(Rows.scriptBackRow.unfollowed==Tryd.pinned.checked.prog.unfollowed 3)=true:=by kernel_rfl
theorem c12:(Rows.scriptBackRow.recurses==Tryd.pinned.checked.prog.recurses 3)=true:=by kernel_rfl
theorem c13:(Rows.scriptBackRow.named==Tryd.pinned.checked.prog.varsNamed 3)=true:=by kernel_rfl
theorem j5:(Tryd.pinned.checked.prog.make==some Rows.scriptBackRow.make)=true:=by kernel_rfl
theorem j6:(Rows.scriptBackRow.lifted==Tryd.pinned.checked.prog.liftsFinal)=true:=by kernel_rfl
theorem j7:Tryd.pinned.checked.prog.mayEnter=true:=by kernel_rfl
theorem j8:Tryd.pinned.checked.prog.stopsHeard=true:=by kernel_rfl
theorem j10:(Rows.scriptBackRow.plainKeys==Tryd.pinned.checked.prog.plainKeys)=true:=by kernel_rfl
theorem closed:joinedFacts Tryd.pinned.checked.prog 3 Tryd.f3 Rows.scriptBackSpec Rows.scriptBackRow=true:=by
  unfold joinedFacts
  iterate 4 (refine band ?_ (by kernel_rfl))
  refine band ?_ j5
  refine band ?_ j6
  refine band ?_ j7
  refine band ?_ j8
  refine band ?_ (by kernel_rfl)
  refine band ?_ j10
  iterate 9 (refine band ?_ (by kernel_rfl))
  refine band ?_ c13
  refine band ?_ c12
  refine band ?_ c11
  refine band ?_ c10
  iterate 6 (refine band ?_ (by kernel_rfl))
  refine band ?_ c3
  exact band (by kernel_rfl) laidOut
theorem over:Rows.scriptBackRow.holds Tryd.pinned (OpenSpec.ofChange Rows.scriptBackSpec) :=
  OpenClaim.holds_of_wide 3 Tryd.f3 rfl rfl rfl rfl rfl rfl rfl ⟨rfl,rfl,rfl,rfl,rfl⟩ rfl rfl rfl rfl rfl (by kernel_rfl) Tryd.func3 closed
    (of_decide_eq_true (by kernel_rfl)) (by unfold Func.isWrapper;first | (rw[if_pos (by decide +kernel)];kernel_rfl) | (rw[if_neg (by decide +kernel)];exact ⟨rfl,rfl⟩))
    (fun os started H enc _=>lifted os started H enc)
theorem pf_w:Rows.scriptBackRow.wfByText (OpenSpec.ofChange Rows.scriptBackSpec)=true:=by kernel_rfl
theorem pf_m : Tryd.prog.mainIs = some (((true, "b255d5c48ea94269164612e06f58fd92f0c2e31ccbf64bc3671b3ac703a2b7e0") : Bool × String).1, ((true, "b255d5c48ea94269164612e06f58fd92f0c2e31ccbf64bc3671b3ac703a2b7e0") : Bool × String).2.toList) := by kernel_rfl
theorem pf_n : Tryd.prog.funcNamed "plimsoll/plimsolllaw29.ScriptBack" = some 3 := by kernel_rfl
theorem pf_l:true=Tryd.prog.looks []:=by kernel_rfl
theorem pf_s:([28,9].all fun u => !Tryd.prog.wantsStandIn u)=true:=by kernel_rfl
theorem pf_g:false=Rows.scriptBackRow.goesBy Tryd.prog:=by kernel_rfl
set_option maxRecDepth 100000 in
theorem proved:Rows.ScriptBackCardSaid :=
  Claim7.holds_tied_plain_at .later [] [.data, .data, .data, .sentinel, .sentinel] true (true, "b255d5c48ea94269164612e06f58fd92f0c2e31ccbf64bc3671b3ac703a2b7e0") true
    over (fun _ h=>by cases h) pf_w (fun _ h=>by cases h) scriptBack_row_tie rfl ⟨rfl,rfl⟩ pf_m rfl
    (fun f fn hf hfn=>by
      obtain rfl:f=3:=Option.some.inj (pf_n.symm.trans hf) |>.symm
      obtain rfl:fn=Tryd.f3:=(Option.some.inj (Tryd.func3.symm.trans hfn)).symm
      exact ⟨pf_l,fun j t ht=>by
        rw[Tryd.params3] at ht
        have hm:t∈[28,9]:=by simpa using Array.mem_of_getElem? ht
        exact (show Tryd.prog.wantsStandIn t=false by simpa using List.all_eq_true.1 pf_s t hm)⟩)
    pf_g
end Go.Proofs.YtgcaeappeolhjaaDoor.scriptBack
