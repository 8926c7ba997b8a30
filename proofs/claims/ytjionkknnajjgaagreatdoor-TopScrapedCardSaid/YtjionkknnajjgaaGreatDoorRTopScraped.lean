/-
 Rows that are shown as lines, with notes and a line that is none between them, and read, are the rows, and what is read comes, written one by one, to the same state: for every state, all rows, and every place.
-/
import Derived.Test.YtjionkknnajjgaaGreatDoorRows
import Derived.Test.YtjionkknnajjgaaGreatDoorCk
import Derived.Test.YtjionkknnajjgaaGreatDoorFlatM4
import Derived.Test.YtjionkknnajjgaaGreatDoorQ3
import Derived.WalkKit
import Derived.LaidMore
import Derived.Lay
import Derived.SevenTiedAt
import Derived.Test.YtjionkknnajjgaaGreatDoorTie
import Derived.Test.YtjionkknnajjgaaGreatDoorCards
import Derived.Test.YtjionkknnajjgaaGreatDoorFlatM4
import Derived.Test.YtjionkknnajjgaaGreatDoorShZ
import Derived.ProofKit
import Derived.OpenShut
namespace Go.Proofs.YtjionkknnajjgaaGreatDoor.topScraped
open Go.Proofs Go.Flat Go.ChangeShapes Go.WideShapes Go.ChangeAt
open Go.RowKit (Below)
set_option linter.unusedVariables false
def v0w : List (String × DataW Unit) := [("math/bits.deBruijn32tab", Rows.laid_math_bits_deBruijn32tab), ("math/bits.deBruijn64tab", Rows.laid_math_bits_deBruijn64tab), ("internal/strconv.uint64pow10", Rows.laid_internal_strconv_uint64pow10), ("unicode/utf8.acceptRanges", Rows.laid_unicode_utf8_acceptRanges), ("strconv.ErrRange", Rows.laid_strconv_ErrRange), ("strconv.ErrSyntax", Rows.laid_strconv_ErrSyntax), ("unicode/utf8.first", Rows.laid_unicode_utf8_first)]
theorem door_met (os:Os) (args:Array Value):laidMetH Tryz.prog v0w ((World.laidAll Tryz.prog os v0w).forCall (fun _ _=>0) ⟨#[],args,[]⟩).memory :=
 by rw[MakeChecks.laidMetH_plain _ _ _ (by kernel_rfl)];exact laidMet_laidAll _ (by kernel_rfl) (by kernel_rfl)
theorem globs {W:World} (h:laidMetH Tryz.prog v0w W) (hs:W.ShapedOpen Tryz.prog):GlobOk cx W (fun b=>b<W.heap.size):=by
 rw[MakeChecks.laidMetH_plain _ _ _ (by kernel_rfl)] at h;obtain ⟨ps,h,_,_⟩:=h;refine ⟨fun g t x e => ?_,fun g k e => ?_⟩
 ·have e':=p1d (l:=globL) e;simp only[globL,List.mem_cons,List.not_mem_nil,or_false,Prod.mk.injEq] at e';rcases e' with ⟨rfl,e'⟩ | ⟨rfl,e'⟩ | ⟨rfl,e'⟩ | ⟨rfl,e'⟩
  ·cases e'
   exact y0u (P := Tryz.prog) (w := W) ⟨ps, h⟩ (nm := "internal/strconv.uint64pow10") (d := Rows.laid_internal_strconv_uint64pow10) (by unfold v0w; simp) (g := 1) (t := 196) (by kernel_rfl) (by kernel_rfl) (c := (.wrap (.pair (.int .u64) (.pair (.int .u64) (.pair (.int .u64) (.pair (.int .u64) (.pair (.int .u64) (.pair (.int .u64) (.pair (.int .u64) (.pair (.int .u64) (.pair (.int .u64) (.pair (.int .u64) (.pair (.int .u64) (.pair (.int .u64) (.pair (.int .u64) (.pair (.int .u64) (.pair (.int .u64) (.pair (.int .u64) (.pair (.int .u64) (.pair (.int .u64) (.pair (.int .u64) (.int .u64)))))))))))))))))))))) (dep := 30) (by kernel_rfl) (x := gv1) (by kernel_rfl) (of_decide_eq_true (by kernel_rfl))
  ·cases e'
   exact y0u (P := Tryz.prog) (w := W) ⟨ps, h⟩ (nm := "math/bits.deBruijn32tab") (d := Rows.laid_math_bits_deBruijn32tab) (by unfold v0w; simp) (g := 4) (t := 275) (by kernel_rfl) (by kernel_rfl) (c := (.wrap (.pair (.int .u8) (.pair (.int .u8) (.pair (.int .u8) (.pair (.int .u8) (.pair (.int .u8) (.pair (.int .u8) (.pair (.int .u8) (.pair (.int .u8) (.pair (.int .u8) (.pair (.int .u8) (.pair (.int .u8) (.pair (.int .u8) (.pair (.int .u8) (.pair (.int .u8) (.pair (.int .u8) (.pair (.int .u8) (.pair (.int .u8) (.pair (.int .u8) (.pair (.int .u8) (.pair (.int .u8) (.pair (.int .u8) (.pair (.int .u8) (.pair (.int .u8) (.pair (.int .u8) (.pair (.int .u8) (.pair (.int .u8) (.pair (.int .u8) (.pair (.int .u8) (.pair (.int .u8) (.pair (.int .u8) (.pair (.int .u8) (.int .u8)))))))))))))))))))))))))))))))))) (dep := 30) (by kernel_rfl) (x := gv4) (by kernel_rfl) (of_decide_eq_true (by kernel_rfl))
  ·cases e'
   exact y0u (P := Tryz.prog) (w := W) ⟨ps, h⟩ (nm := "math/bits.deBruijn64tab") (d := Rows.laid_math_bits_deBruijn64tab) (by unfold v0w; simp) (g := 5) (t := 276) (by kernel_rfl) (by kernel_rfl) (c := (.wrap (.pair (.int .u8) (.pair (.int .u8) (.pair (.int .u8) (.pair (.int .u8) (.pair (.int .u8) (.pair (.int .u8) (.pair (.int .u8) (.pair (.int .u8) (.pair (.int .u8) (.pair (.int .u8) (.pair (.int .u8) (.pair (.int .u8) (.pair (.int .u8) (.pair (.int .u8) (.pair (.int .u8) (.pair (.int .u8) (.pair (.int .u8) (.pair (.int .u8) (.pair (.int .u8) (.pair (.int .u8) (.pair (.int .u8) (.pair (.int .u8) (.pair (.int .u8) (.pair (.int .u8) (.pair (.int .u8) (.pair (.int .u8) (.pair (.int .u8) (.pair (.int .u8) (.pair (.int .u8) (.pair (.int .u8) (.pair (.int .u8) (.pair (.int .u8) (.pair (.int .u8) (.pair (.int .u8) (.pair (.int .u8) (.pair (.int .u8) (.pair (.int .u8) (.pair (.int .u8) (.pair (.int .u8) (.pair (.int .u8) (.pair (.int .u8) (.pair (.int .u8) (.pair (.int .u8) (.pair (.int .u8) (.pair (.int .u8) (.pair (.int .u8) (.pair (.int .u8) (.pair (.int .u8) (.pair (.int .u8) (.pair (.int .u8) (.pair (.int .u8) (.pair (.int .u8) (.pair (.int .u8) (.pair (.int .u8) (.pair (.int .u8) (.pair (.int .u8) (.pair (.int .u8) (.pair (.int .u8) (.pair (.int .u8) (.pair (.int .u8) (.pair (.int .u8) (.pair (.int .u8) (.pair (.int .u8) (.int .u8)))))))))))))))))))))))))))))))))))))))))))))))))))))))))))))))))) (dep := 30) (by kernel_rfl) (x := gv5) (by kernel_rfl) (of_decide_eq_true (by kernel_rfl))
  ·cases e'
   exact y0u (P := Tryz.prog) (w := W) ⟨ps, h⟩ (nm := "unicode/utf8.acceptRanges") (d := Rows.laid_unicode_utf8_acceptRanges) (by unfold v0w; simp) (g := 7) (t := 289) (by kernel_rfl) (by kernel_rfl) (c := (.wrap (.pair a0b (.pair a0b (.pair a0b (.pair a0b (.pair a0b (.pair a0b (.pair a0b (.pair a0b (.pair a0b (.pair a0b (.pair a0b (.pair a0b (.pair a0b (.pair a0b (.pair a0b a0b))))))))))))))))) (dep := 30) (by kernel_rfl) (x := gv7) (by kernel_rfl) (of_decide_eq_true (by kernel_rfl))
 ·have e':=v1y (l:=gshL) e;simp only[gshL,List.mem_cons,List.not_mem_nil,or_false,Prod.mk.injEq] at e';rcases e' with ⟨rfl,rfl⟩ | ⟨rfl,rfl⟩ | ⟨rfl,rfl⟩
  ·exact shp_num (P:=Tryz.prog) (cell_of_shapedOpen_int (P:=Tryz.prog) (g:=0) (t:=3) (zero := #[.int .i64 0]) (k := .i64) hs (of_decide_eq_true (by kernel_rfl)) (by kernel_rfl) rfl (by kernel_rfl) (by kernel_rfl) Tryz.underlying3)
  · exact e1c (P := Tryz.prog) (w := W) ⟨ps, h⟩ (nm := "strconv.ErrSyntax") (dd := Rows.laid_strconv_ErrSyntax) rfl (by unfold v0w; simp) (g := 2) (by kernel_rfl)
  · exact e1c (P := Tryz.prog) (w := W) ⟨ps, h⟩ (nm := "strconv.ErrRange") (dd := Rows.laid_strconv_ErrRange) rfl (by unfold v0w; simp) (g := 3) (by kernel_rfl)
theorem own:ownKnob Tryz.prog.godebug=none:=by kernel_rfl
theorem laidOut:laidOutB Tryz.prog=true:=by kernel_rfl
theorem rowTypes:t0v Tryz.prog Tryz.f4.params.toList=true:=by kernel_rfl
theorem answers (x0:El a0v) (x1:El (.slice e0l)) (x2:El (.int .i64)) (w0:Wf a0v x0) (w1:Wf (.slice e0l) x1) (w2:Wf (.int .i64) x2):evF cx 41 4 ((x0,x1,x2,()):El (cx.arg 4))=some (true:Bool) :=
 z0j 0 x0 x1 x2 w0 w1
set_option maxRecDepth 100000 in
theorem lifted (os:Os) (started:os.Started) (H:Type) (enc:TypeId×Value→H) :
  ReturnsInHanded {} Tryz.checked os 4 .any (fun w args=>(Rows.topScrapedSpec.pre enc Tryz.prog Tryz.f4 Rows.topScrapedRow.domain false w args∧laidMetH Tryz.prog v0w w)∧sizedMet enc Tryz.prog Tryz.f4 (OpenSpec.ofChange Rows.topScrapedSpec) false w args)
   (Rows.topScrapedSpec.post enc Tryz.prog Tryz.f4 false true false false):=by
 refine w0a (C:=Tryz.checked) (X:=fun w _=>laidMetH Tryz.prog v0w w) (fun _ _ _ hh h=>h.of_heap hh) own started (by kernel_rfl) Tryz.func4
  (ChangeSpec.witness_shaped (enc:=enc) (C:=Tryz.checked) (os:=os) (X:=fun w _=>laidMetH Tryz.prog v0w w) false (World.laidAll Tryz.prog os v0w) #[.agg #[.int .i64 0,.int .i64 0,.int .i64 0,.int .i64 0,.int .i64 0,.int .i64 0,.int .i64 0,.int .i64 0,.int .i64 0,.int .i64 0,.int .i64 0,.slice none 0 0],.slice none 0 0,.int .i64 0] 8 (World.laidAll_os _ _ _) (World.shaped_of_ZipB (by kernel_rfl) (by kernel_rfl)) (by kernel_rfl) (by kernel_rfl) (by kernel_rfl) (door_met os _)) ?_
 intro W base args ds gs before hval0 hW hcnd _ hL hsh _;have hval:∀(j:Nat) t v,Tryz.f4.params[j]? = some t→args[j]? = some v→Value.okWide Tryz.prog W .any base t v:=hval0;obtain ⟨p,q,hA0,hV,rfl,hfz,hnd⟩:=hW;have hA:DataW.TrodAll enc Tryz.prog W 0 (fun _=>true) true Tryz.f4.params.toList args.toList ds p:=hA0;have hAll:=hA;rw[Tryz.params4] at hA hval;obtain ⟨v0,vs0,d0,ds0,p0,q0,hargs,rfl,rfl,h0,r0⟩:=trodAll_cons hA;obtain ⟨v1,vs1,d1,ds1,p1,q1,rfl,rfl,rfl,h1,r1⟩:=trodAll_cons r0;obtain ⟨v2,vs2,d2,ds2,p2,q2,rfl,rfl,rfl,h2,r2⟩:=trodAll_cons r1;obtain ⟨rfl,rfl,rfl⟩:=trodAll_nil r2
 obtain ⟨rfl,rfl⟩:=trodVars_none hV;obtain rfl:args = #[v0,v1,v2]:=by cases args;simp at hargs;rw[hargs]
 obtain ⟨x0,f0,g0,w0⟩:=open_arg (P:=Tryz.prog) (t:=48) (c:=a0v) (d:=30) (by kernel_rfl) (by kernel_rfl) (hval 0 48 v0 rfl rfl) h0;obtain ⟨x1,f1,g1,w1⟩:=open_arg (P:=Tryz.prog) (t:=22) (c:=(.slice e0l)) (d:=30) (by kernel_rfl) (by kernel_rfl) (hval 1 22 v1 rfl rfl) h1;obtain ⟨x2,f2,g2,w2⟩:=open_arg (P:=Tryz.prog) (t:=3) (c:=(.int .i64)) (d:=30) (by kernel_rfl) (by kernel_rfl) (hval 2 3 v2 rfl rfl) h2;refine (a2b tab plain mixed hands (n:=41) (K:=4) (s:=t0s cx 4) (by kernel_rfl) (by kernel_rfl) (by kernel_rfl) (x:=((x0,x1,x2,()):El (cx.arg 4))) (answers x0 x1 x2 w0 w1 w2) rfl rfl
  (hg:=globs hL hsh) (vs:=[v0,v1,v2]) (W:=W) ⟨f0,f1,f2,trivial⟩ (b1p f0 g0 (b1p f1 g1 (b1p f2 g2 args_nil)))).mono fun e W' ⟨he,hb⟩ => ?_
 subst he;exact ⟨_,rfl,post_law (tb:=4) laidOut rowTypes rfl rfl (by kernel_rfl) Tryz.underlying4 hAll (by simpa using hfz) hb⟩
theorem band {a b:Bool} (h1:a=true) (h2:b=true):(a&&b)=true:=by rw[h1,h2];rfl
theorem c3:mapsRowed Tryz.pinned.checked.prog=true:=by kernel_rfl
theorem c10:(Rows.topScrapedRow.inPlace==Tryz.pinned.checked.prog.inPlace 4)=true:=by kernel_rfl
theorem c11:(Rows.topScrapedRow.unfollowed==Tryz.pinned.checked.prog.unfollowed 4)=true:=by kernel_rfl
theorem c12:(Rows.topScrapedRow.recurses==Tryz.pinned.checked.prog.recurses 4)=true:=by kernel_rfl
theorem c13:(Rows.topScrapedRow.named==Tryz.pinned.checked.prog.varsNamed 4)=true:=by kernel_rfl
theorem j5:(Tryz.pinned.checked.prog.make==some Rows.topScrapedRow.make)=true:=by kernel_rfl
theorem j6:(Rows.topScrapedRow.lifted==Tryz.pinned.checked.prog.liftsFinal)=true:=by kernel_rfl
theorem j7:Tryz.pinned.checked.prog.mayEnter=true:=by kernel_rfl
theorem j8:Tryz.pinned.checked.prog.stopsHeard=true:=by kernel_rfl
theorem j10:(Rows.topScrapedRow.plainKeys==Tryz.pinned.checked.prog.plainKeys)=true:=by kernel_rfl
theorem closed:joinedFacts Tryz.pinned.checked.prog 4 Tryz.f4 Rows.topScrapedSpec Rows.topScrapedRow=true:=by
 unfold joinedFacts
 iterate 4 (refine band ?_ (by kernel_rfl))
 refine band ?_ j5;refine band ?_ j6;refine band ?_ j7;refine band ?_ j8;refine band ?_ (by kernel_rfl);refine band ?_ j10
 iterate 9 (refine band ?_ (by kernel_rfl))
 refine band ?_ c13;refine band ?_ c12;refine band ?_ c11;refine band ?_ c10
 iterate 6 (refine band ?_ (by kernel_rfl))
 refine band ?_ c3;exact band (by kernel_rfl) laidOut
theorem over:Rows.topScrapedRow.holds Tryz.pinned (OpenSpec.ofChange Rows.topScrapedSpec) :=
 OpenClaim.holds_of_wide 4 Tryz.f4 rfl rfl rfl rfl rfl rfl rfl ⟨rfl,rfl,rfl,rfl,rfl⟩ rfl rfl rfl rfl rfl (by kernel_rfl) Tryz.func4 closed
  (of_decide_eq_true (by kernel_rfl)) (by unfold Func.isWrapper;first | (rw[if_pos (by decide +kernel)];kernel_rfl) | (rw[if_neg (by decide +kernel)];exact ⟨rfl,rfl⟩))
  (fun os started H enc _=>lifted os started H enc)
theorem pf_w:Rows.topScrapedRow.wfByText (OpenSpec.ofChange Rows.topScrapedSpec)=true:=by kernel_rfl
theorem pf_m : Tryz.prog.mainIs = some (((true, "63c20400025651ee74ca9353bc42a0f083ce473715b29eea5baa64c736a3f1dc") : Bool × String).1, ((true, "63c20400025651ee74ca9353bc42a0f083ce473715b29eea5baa64c736a3f1dc") : Bool × String).2.toList) := by kernel_rfl
theorem pf_n : Tryz.prog.funcNamed "plimsoll/plimsolltop.TopScraped" = some 4 := by kernel_rfl
theorem pf_l:true=Tryz.prog.looks []:=by kernel_rfl
theorem pf_s:([48,22,3].all fun u => !Tryz.prog.wantsStandIn u)=true:=by kernel_rfl
theorem pf_g:false=Rows.topScrapedRow.goesBy Tryz.prog:=by kernel_rfl
set_option maxRecDepth 100000 in
theorem proved:Rows.TopScrapedCardSaid :=
 Claim7.holds_tied_plain_at .later [] [.data, .data, .data, .data, .sentinel, .sentinel, .pinned] true (true, "63c20400025651ee74ca9353bc42a0f083ce473715b29eea5baa64c736a3f1dc") true
  over (fun _ h=>by cases h) pf_w (fun _ h=>by cases h) topScraped_row_tie rfl ⟨rfl,rfl⟩ pf_m rfl
  (fun f fn hf hfn=>by
   obtain rfl:f=4:=Option.some.inj (pf_n.symm.trans hf) |>.symm;obtain rfl:fn=Tryz.f4:=(Option.some.inj (Tryz.func4.symm.trans hfn)).symm;exact ⟨pf_l,fun j t ht=>by
    rw[Tryz.params4] at ht;have hm:t∈[48,22,3]:=by simpa using Array.mem_of_getElem? ht
    exact (show Tryz.prog.wantsStandIn t=false by simpa using List.all_eq_true.1 pf_s t hm)⟩)
  pf_g
end Go.Proofs.YtjionkknnajjgaaGreatDoor.topScraped
