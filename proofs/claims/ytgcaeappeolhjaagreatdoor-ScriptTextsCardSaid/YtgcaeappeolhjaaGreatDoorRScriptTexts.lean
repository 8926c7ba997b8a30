/-
  Any acts have the text, and any text the acts, that the document says, or it has not, from which line on: for every list of acts and every text.
-/
import Derived.Test.YtgcaeappeolhjaaGreatDoorRows
import Derived.Test.YtgcaeappeolhjaaGreatDoorCk
import Derived.Test.YtgcaeappeolhjaaGreatDoorFlatM3
import Derived.Test.YtgcaeappeolhjaaGreatDoorQ2
import Derived.WalkKit
import Derived.LaidMore
import Derived.SevenTiedAt
import Derived.Test.YtgcaeappeolhjaaGreatDoorTie
import Derived.Test.YtgcaeappeolhjaaGreatDoorCards
import Derived.Test.YtgcaeappeolhjaaGreatDoorFlatM3
import Derived.Test.YtgcaeappeolhjaaGreatDoorShZ
import Derived.ProofKit
import Derived.OpenShut
namespace Go.Proofs.YtgcaeappeolhjaaGreatDoor.scriptTexts
open Go.Proofs Go.Flat Go.ChangeShapes Go.WideShapes Go.ChangeAt
open Go.RowKit (Below)
set_option linter.unusedVariables false
def laidL : List (String × DataW Unit) := [("math/bits.deBruijn32tab", Rows.laid_math_bits_deBruijn32tab), ("math/bits.deBruijn64tab", Rows.laid_math_bits_deBruijn64tab), ("internal/strconv.uint64pow10", Rows.laid_internal_strconv_uint64pow10), ("strconv.ErrRange", Rows.laid_strconv_ErrRange), ("strconv.ErrSyntax", Rows.laid_strconv_ErrSyntax)]
theorem door_met (os:Os) (args:Array Value):laidMetH Tryz.prog laidL ((World.doorLaid Tryz.prog 400 os).forCall (fun _ _=>0) ⟨#[],args,[]⟩).memory :=
  laidMetH_of_parts3 (fuel:=8) (laidMet_of_run' 8 (by kernel_rfl) (by kernel_rfl)) (by kernel_rfl) (by kernel_rfl)
theorem globs {W:World} (h:laidMetH Tryz.prog laidL W) (hs:W.ShapedOpen Tryz.prog):GlobOk cx W (fun b=>b<W.heap.size):=by
  rw[MakeChecks.laidMetH_plain _ _ _ (by kernel_rfl)] at h
  obtain ⟨ps,h,_,_⟩:=h
  refine ⟨fun g t x e => ?_,fun g k e => ?_⟩
  · have e':=globGet_mem (l:=globL) e
    simp only[globL,List.mem_cons,List.not_mem_nil,or_false,Prod.mk.injEq] at e'
    rcases e' with ⟨rfl,e'⟩ | ⟨rfl,e'⟩ | ⟨rfl,e'⟩
    · cases e'
      exact laid_one (P := Tryz.prog) (w := W) ⟨ps, h⟩ (nm := "internal/strconv.uint64pow10") (d := Rows.laid_internal_strconv_uint64pow10) (by unfold laidL; simp) (g := 1) (t := 157) (by kernel_rfl) (by kernel_rfl) (c := (.wrap (.pair (.int .u64) (.pair (.int .u64) (.pair (.int .u64) (.pair (.int .u64) (.pair (.int .u64) (.pair (.int .u64) (.pair (.int .u64) (.pair (.int .u64) (.pair (.int .u64) (.pair (.int .u64) (.pair (.int .u64) (.pair (.int .u64) (.pair (.int .u64) (.pair (.int .u64) (.pair (.int .u64) (.pair (.int .u64) (.pair (.int .u64) (.pair (.int .u64) (.pair (.int .u64) (.int .u64)))))))))))))))))))))) (dep := 30) (by kernel_rfl) (x := gv1) (by kernel_rfl) (of_decide_eq_true (by kernel_rfl))
    · cases e'
      exact laid_one (P := Tryz.prog) (w := W) ⟨ps, h⟩ (nm := "math/bits.deBruijn32tab") (d := Rows.laid_math_bits_deBruijn32tab) (by unfold laidL; simp) (g := 4) (t := 177) (by kernel_rfl) (by kernel_rfl) (c := (.wrap (.pair (.int .u8) (.pair (.int .u8) (.pair (.int .u8) (.pair (.int .u8) (.pair (.int .u8) (.pair (.int .u8) (.pair (.int .u8) (.pair (.int .u8) (.pair (.int .u8) (.pair (.int .u8) (.pair (.int .u8) (.pair (.int .u8) (.pair (.int .u8) (.pair (.int .u8) (.pair (.int .u8) (.pair (.int .u8) (.pair (.int .u8) (.pair (.int .u8) (.pair (.int .u8) (.pair (.int .u8) (.pair (.int .u8) (.pair (.int .u8) (.pair (.int .u8) (.pair (.int .u8) (.pair (.int .u8) (.pair (.int .u8) (.pair (.int .u8) (.pair (.int .u8) (.pair (.int .u8) (.pair (.int .u8) (.pair (.int .u8) (.int .u8)))))))))))))))))))))))))))))))))) (dep := 30) (by kernel_rfl) (x := gv4) (by kernel_rfl) (of_decide_eq_true (by kernel_rfl))
    · cases e'
      exact laid_one (P := Tryz.prog) (w := W) ⟨ps, h⟩ (nm := "math/bits.deBruijn64tab") (d := Rows.laid_math_bits_deBruijn64tab) (by unfold laidL; simp) (g := 5) (t := 178) (by kernel_rfl) (by kernel_rfl) (c := (.wrap (.pair (.int .u8) (.pair (.int .u8) (.pair (.int .u8) (.pair (.int .u8) (.pair (.int .u8) (.pair (.int .u8) (.pair (.int .u8) (.pair (.int .u8) (.pair (.int .u8) (.pair (.int .u8) (.pair (.int .u8) (.pair (.int .u8) (.pair (.int .u8) (.pair (.int .u8) (.pair (.int .u8) (.pair (.int .u8) (.pair (.int .u8) (.pair (.int .u8) (.pair (.int .u8) (.pair (.int .u8) (.pair (.int .u8) (.pair (.int .u8) (.pair (.int .u8) (.pair (.int .u8) (.pair (.int .u8) (.pair (.int .u8) (.pair (.int .u8) (.pair (.int .u8) (.pair (.int .u8) (.pair (.int .u8) (.pair (.int .u8) (.pair (.int .u8) (.pair (.int .u8) (.pair (.int .u8) (.pair (.int .u8) (.pair (.int .u8) (.pair (.int .u8) (.pair (.int .u8) (.pair (.int .u8) (.pair (.int .u8) (.pair (.int .u8) (.pair (.int .u8) (.pair (.int .u8) (.pair (.int .u8) (.pair (.int .u8) (.pair (.int .u8) (.pair (.int .u8) (.pair (.int .u8) (.pair (.int .u8) (.pair (.int .u8) (.pair (.int .u8) (.pair (.int .u8) (.pair (.int .u8) (.pair (.int .u8) (.pair (.int .u8) (.pair (.int .u8) (.pair (.int .u8) (.pair (.int .u8) (.pair (.int .u8) (.pair (.int .u8) (.pair (.int .u8) (.pair (.int .u8) (.pair (.int .u8) (.int .u8)))))))))))))))))))))))))))))))))))))))))))))))))))))))))))))))))) (dep := 30) (by kernel_rfl) (x := gv5) (by kernel_rfl) (of_decide_eq_true (by kernel_rfl))
  · have e':=extGet_mem (l:=gshL) e
    simp only[gshL,List.mem_cons,List.not_mem_nil,or_false,Prod.mk.injEq] at e'
    rcases e' with ⟨rfl,rfl⟩ | ⟨rfl,rfl⟩ | ⟨rfl,rfl⟩
    · exact shp_num (P:=Tryz.prog) (cell_of_shapedOpen_int (P:=Tryz.prog) (g:=0) (t:=3) (zero := #[.int .i64 0]) (k := .i64) hs (of_decide_eq_true (by kernel_rfl)) (by kernel_rfl) rfl (by kernel_rfl) (by kernel_rfl) Tryz.underlying3)
    · exact laid_iface (P := Tryz.prog) (w := W) ⟨ps, h⟩ (nm := "strconv.ErrSyntax") (dd := Rows.laid_strconv_ErrSyntax) rfl (by unfold laidL; simp) (g := 2) (by kernel_rfl)
    · exact laid_iface (P := Tryz.prog) (w := W) ⟨ps, h⟩ (nm := "strconv.ErrRange") (dd := Rows.laid_strconv_ErrRange) rfl (by unfold laidL; simp) (g := 3) (by kernel_rfl)
theorem own:ownKnob Tryz.prog.godebug=none:=by kernel_rfl
theorem laidOut:laidOutB Tryz.prog=true:=by kernel_rfl
theorem rowTypes:rowTypesB Tryz.prog Tryz.f4.params.toList=true:=by kernel_rfl
theorem answers (x0:El (.slice tyAct)) (x1:El .str) (w0:Wf (.slice tyAct) x0) (w1:Wf .str x1):evF cx 41 4 ((x0,x1,()):El (cx.arg 4))=some (true:Bool) :=
  scriptTexts_law x0 x1 w0 w1
set_option maxRecDepth 100000 in
theorem lifted (os:Os) (started:os.Started) (H:Type) (enc:TypeId×Value→H) :
    ReturnsInHanded {} Tryz.checked os 4 .any (fun w args=>(Rows.scriptTextsSpec.pre enc Tryz.prog Tryz.f4 Rows.scriptTextsRow.domain false w args∧laidMetH Tryz.prog laidL w)∧sizedMet enc Tryz.prog Tryz.f4 (OpenSpec.ofChange Rows.scriptTextsSpec) false w args)
      (Rows.scriptTextsSpec.post enc Tryz.prog Tryz.f4 false true false false):=by
  refine handed_and_shaped (C:=Tryz.checked) (X:=fun w _=>laidMetH Tryz.prog laidL w) (fun _ _ _ hh h=>h.of_heap hh) own started (by kernel_rfl) Tryz.func4
    (ChangeSpec.witness_shaped (enc:=enc) (C:=Tryz.checked) (os:=os) (X:=fun w _=>laidMetH Tryz.prog laidL w) false (World.doorLaid Tryz.prog 400 os) #[.slice none 0 0,.string ⟨#[]⟩] 8 rfl (World.shaped_of_RefB (by kernel_rfl) (by kernel_rfl)) (by kernel_rfl) (by kernel_rfl) (by kernel_rfl) (door_met os _)) ?_
  intro W base args ds gs before hval0 hW hcnd _ hL hsh _
  have hval:∀(j:Nat) t v,Tryz.f4.params[j]? = some t→args[j]? = some v→Value.okWide Tryz.prog W .any base t v:=hval0
  obtain ⟨p,q,hA0,hV,rfl,hfz,hnd⟩:=hW
  have hA:DataW.TrodAll enc Tryz.prog W 0 (fun _=>true) true Tryz.f4.params.toList args.toList ds p:=hA0
  have hAll:=hA
  rw[Tryz.params4] at hA hval
  obtain ⟨v0,vs0,d0,ds0,p0,q0,hargs,rfl,rfl,h0,r0⟩:=trodAll_cons hA
  obtain ⟨v1,vs1,d1,ds1,p1,q1,rfl,rfl,rfl,h1,r1⟩:=trodAll_cons r0
  obtain ⟨rfl,rfl,rfl⟩:=trodAll_nil r1
  obtain ⟨rfl,rfl⟩:=trodVars_none hV
  obtain rfl:args = #[v0,v1]:=by cases args;simp at hargs;rw[hargs]
  obtain ⟨x0,f0,g0,w0⟩:=open_arg (P:=Tryz.prog) (t:=38) (c:=(.slice tyAct)) (d:=30) (by kernel_rfl) (by kernel_rfl) (hval 0 38 v0 rfl rfl) h0
  obtain ⟨x1,f1,g1,w1⟩:=open_arg (P:=Tryz.prog) (t:=9) (c := .str) (d:=30) (by kernel_rfl) (by kernel_rfl) (hval 1 9 v1 rfl rfl) h1
  refine (law_calls tab plain mixed hands (n:=41) (K:=4) (s:=sigAt cx 4) (by kernel_rfl) (by kernel_rfl) (by kernel_rfl) (x:=((x0,x1,()):El (cx.arg 4))) (answers x0 x1 w0 w1) rfl rfl
    (hg:=globs hL hsh) (vs:=[v0,v1]) (W:=W) ⟨f0,f1,trivial⟩ (args_cons f0 g0 (args_cons f1 g1 args_nil))).mono fun e W' ⟨he,hb⟩ => ?_
  subst he
  exact ⟨_,rfl,post_law (tb:=4) laidOut rowTypes rfl rfl (by kernel_rfl) Tryz.underlying4 hAll (by simpa using hfz) hb⟩
theorem band {a b:Bool} (h1:a=true) (h2:b=true):(a&&b)=true:=by rw[h1,h2];rfl
theorem c3:mapsRowed Tryz.pinned.checked.prog=true:=by kernel_rfl
theorem c10:(Rows.scriptTextsRow.inPlace==Tryz.pinned.checked.prog.inPlace 4)=true:=by kernel_rfl
theorem c11:(Rows.scriptTextsRow.unfollowed==Tryz.pinned.checked.prog.unfollowed 4)=true:=by kernel_rfl
theorem c12:(Rows.scriptTextsRow.recurses==Tryz.pinned.checked.prog.recurses 4)=true:=by kernel_rfl
theorem c13:(Rows.scriptTextsRow.named==Tryz.pinned.checked.prog.varsNamed 4)=true:=by kernel_rfl
theorem j5:(Tryz.pinned.checked.prog.make==some Rows.scriptTextsRow.make)=true:=by kernel_rfl
theorem j6:(Rows.scriptTextsRow.lifted==Tryz.pinned.checked.prog.liftsFinal)=true:=by kernel_rfl
theorem j7:Tryz.pinned.checked.prog.mayEnter=true:=by kernel_rfl
theorem j8:Tryz.pinned.checked.prog.stopsHeard=true:=by kernel_rfl
theorem j10:(Rows.scriptTextsRow.plainKeys==Tryz.pinned.checked.prog.plainKeys)=true:=by kernel_rfl
theorem closed:joinedFacts Tryz.pinned.checked.prog 4 Tryz.f4 Rows.scriptTextsSpec Rows.scriptTextsRow=true:=by
  unfold joinedFacts
  iterate 4 (refine band ?_ (by kernel_rfl))
  refine band ?_ j5
  refine band ?_ j6
  refine band ?_ j7
  refine band ?_ j8
  refine band ?_ (by kernel_rfl)
  refine band ?_ j10
  iterate 9 (refine band ?_ (by kernel_rfl))
  refine band ?_ c13
  refine band ?_ c12
  refine band ?_ c11
  refine band ?_ c10
  iterate 6 (refine band ?_ (by kernel_rfl))
  refine band ?_ c3
  exact band (by kernel_rfl) laidOut
theorem over:Rows.scriptTextsRow.holds Tryz.pinned (OpenSpec.ofChange Rows.scriptTextsSpec) :=
  OpenClaim.holds_of_wide 4 Tryz.f4 rfl rfl rfl rfl rfl rfl rfl ⟨rfl,rfl,rfl,rfl,rfl⟩ rfl rfl rfl rfl rfl (by kernel_rfl) Tryz.func4 closed
    (of_decide_eq_true (by kernel_rfl)) (by unfold Func.isWrapper;first | (rw[if_pos (by decide +kernel)];kernel_rfl) | (rw[if_neg (by decide +kernel)];exact ⟨rfl,rfl⟩))
    (fun os started H enc _=>lifted os started H enc)
theorem pf_w:Rows.scriptTextsRow.wfByText (OpenSpec.ofChange Rows.scriptTextsSpec)=true:=by kernel_rfl
theorem pf_m : Tryz.prog.mainIs = some (((true, "4d4ee52fa13180726aff9d6e276f108c939f684c46c4f25ed0b5ec0a8715d2a1") : Bool × String).1, ((true, "4d4ee52fa13180726aff9d6e276f108c939f684c46c4f25ed0b5ec0a8715d2a1") : Bool × String).2.toList) := by kernel_rfl
theorem pf_n : Tryz.prog.funcNamed "plimsoll/plimsolllaw29.ScriptTexts" = some 4 := by kernel_rfl
theorem pf_l:true=Tryz.prog.looks []:=by kernel_rfl
theorem pf_s:([38,9].all fun u => !Tryz.prog.wantsStandIn u)=true:=by kernel_rfl
theorem pf_g:false=Rows.scriptTextsRow.goesBy Tryz.prog:=by kernel_rfl
set_option maxRecDepth 100000 in
theorem proved:Rows.ScriptTextsCardSaid :=
  Claim7.holds_tied_plain_at .later [] [.data, .data, .data, .sentinel, .sentinel] true (true, "4d4ee52fa13180726aff9d6e276f108c939f684c46c4f25ed0b5ec0a8715d2a1") true
    over (fun _ h=>by cases h) pf_w (fun _ h=>by cases h) scriptTexts_row_tie rfl ⟨rfl,rfl⟩ pf_m rfl
    (fun f fn hf hfn=>by
      obtain rfl:f=4:=Option.some.inj (pf_n.symm.trans hf) |>.symm
      obtain rfl:fn=Tryz.f4:=(Option.some.inj (Tryz.func4.symm.trans hfn)).symm
      exact ⟨pf_l,fun j t ht=>by
        rw[Tryz.params4] at ht
        have hm:t∈[38,9]:=by simpa using Array.mem_of_getElem? ht
        exact (show Tryz.prog.wantsStandIn t=false by simpa using List.all_eq_true.1 pf_s t hm)⟩)
    pf_g
end Go.Proofs.YtgcaeappeolhjaaGreatDoor.scriptTexts
