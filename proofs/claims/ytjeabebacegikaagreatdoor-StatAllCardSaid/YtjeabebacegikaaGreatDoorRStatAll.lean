/-
  StatAll: places that live, are dead, and are empty, are all; as many would go as go when it is swept; cleared none is dead.
-/
import Derived.Test.YtjeabebacegikaaGreatDoorRows
import Derived.Test.YtjeabebacegikaaGreatDoorCk
import Derived.Test.YtjeabebacegikaaGreatDoorFlatM3
import Derived.Test.YtjeabebacegikaaGreatDoorQ2
import Derived.WalkKit
import Derived.LaidMore
import Derived.SevenTiedAt
import Derived.Test.YtjeabebacegikaaGreatDoorTie
import Derived.Test.YtjeabebacegikaaGreatDoorCards
import Derived.Test.YtjeabebacegikaaGreatDoorFlatM3
import Derived.ProofKit
import Derived.OpenShut
namespace Go.Proofs.YtjeabebacegikaaGreatDoor.statAll
open Go.Flat Go.ChangeShapes Go.WideShapes Go.ChangeAt
open Go.RowKit (Below)
set_option linter.unusedVariables false
def laidL : List (String × DataW Unit) := [("math/bits.deBruijn32tab", Rows.laid_math_bits_deBruijn32tab), ("math/bits.deBruijn64tab", Rows.laid_math_bits_deBruijn64tab), ("internal/strconv.uint64pow10", Rows.laid_internal_strconv_uint64pow10)]
theorem door_met (os:Os) (args:Array Value):laidMetH Tryz.prog laidL ((World.doorLaid Tryz.prog 400 os).forCall (fun _ _=>0) ⟨#[],args,[]⟩).memory :=
  laidMetH_of_parts3 (fuel:=8) (laidMet_of_run' 8 (by kernel_rfl) (by kernel_rfl)) (by kernel_rfl) (by kernel_rfl)
theorem globs {W:World} (h:laidMetH Tryz.prog laidL W):GlobOk cx W (fun b=>b<W.heap.size):=by
  rw[MakeChecks.laidMetH_plain _ _ _ (by kernel_rfl)] at h
  obtain ⟨ps,h,_,_⟩:=h
  intro g t x e
  have e':=globGet_mem (l:=globL) e
  simp only[globL,List.mem_cons,List.not_mem_nil,or_false,Prod.mk.injEq] at e'
  rcases e' with ⟨rfl,e'⟩ | ⟨rfl,e'⟩ | ⟨rfl,e'⟩
  · cases e'
    exact laid_one (P := Tryz.prog) (w := W) ⟨ps, h⟩ (nm := "math/bits.deBruijn64tab") (d := Rows.laid_math_bits_deBruijn64tab) (by unfold laidL; simp) (g := 0) (t := 311) (by kernel_rfl) (by kernel_rfl) (c := (.wrap (.pair (.int .u8) (.pair (.int .u8) (.pair (.int .u8) (.pair (.int .u8) (.pair (.int .u8) (.pair (.int .u8) (.pair (.int .u8) (.pair (.int .u8) (.pair (.int .u8) (.pair (.int .u8) (.pair (.int .u8) (.pair (.int .u8) (.pair (.int .u8) (.pair (.int .u8) (.pair (.int .u8) (.pair (.int .u8) (.pair (.int .u8) (.pair (.int .u8) (.pair (.int .u8) (.pair (.int .u8) (.pair (.int .u8) (.pair (.int .u8) (.pair (.int .u8) (.pair (.int .u8) (.pair (.int .u8) (.pair (.int .u8) (.pair (.int .u8) (.pair (.int .u8) (.pair (.int .u8) (.pair (.int .u8) (.pair (.int .u8) (.pair (.int .u8) (.pair (.int .u8) (.pair (.int .u8) (.pair (.int .u8) (.pair (.int .u8) (.pair (.int .u8) (.pair (.int .u8) (.pair (.int .u8) (.pair (.int .u8) (.pair (.int .u8) (.pair (.int .u8) (.pair (.int .u8) (.pair (.int .u8) (.pair (.int .u8) (.pair (.int .u8) (.pair (.int .u8) (.pair (.int .u8) (.pair (.int .u8) (.pair (.int .u8) (.pair (.int .u8) (.pair (.int .u8) (.pair (.int .u8) (.pair (.int .u8) (.pair (.int .u8) (.pair (.int .u8) (.pair (.int .u8) (.pair (.int .u8) (.pair (.int .u8) (.pair (.int .u8) (.pair (.int .u8) (.pair (.int .u8) (.pair (.int .u8) (.int .u8)))))))))))))))))))))))))))))))))))))))))))))))))))))))))))))))))) (dep := 30) (by kernel_rfl) (x := gv0) (by kernel_rfl) (of_decide_eq_true (by kernel_rfl))
  · cases e'
    exact laid_one (P := Tryz.prog) (w := W) ⟨ps, h⟩ (nm := "internal/strconv.uint64pow10") (d := Rows.laid_internal_strconv_uint64pow10) (by unfold laidL; simp) (g := 1) (t := 316) (by kernel_rfl) (by kernel_rfl) (c := (.wrap (.pair (.int .u64) (.pair (.int .u64) (.pair (.int .u64) (.pair (.int .u64) (.pair (.int .u64) (.pair (.int .u64) (.pair (.int .u64) (.pair (.int .u64) (.pair (.int .u64) (.pair (.int .u64) (.pair (.int .u64) (.pair (.int .u64) (.pair (.int .u64) (.pair (.int .u64) (.pair (.int .u64) (.pair (.int .u64) (.pair (.int .u64) (.pair (.int .u64) (.pair (.int .u64) (.int .u64)))))))))))))))))))))) (dep := 30) (by kernel_rfl) (x := gv1) (by kernel_rfl) (of_decide_eq_true (by kernel_rfl))
  · cases e'
    exact laid_one (P := Tryz.prog) (w := W) ⟨ps, h⟩ (nm := "math/bits.deBruijn32tab") (d := Rows.laid_math_bits_deBruijn32tab) (by unfold laidL; simp) (g := 2) (t := 330) (by kernel_rfl) (by kernel_rfl) (c := (.wrap (.pair (.int .u8) (.pair (.int .u8) (.pair (.int .u8) (.pair (.int .u8) (.pair (.int .u8) (.pair (.int .u8) (.pair (.int .u8) (.pair (.int .u8) (.pair (.int .u8) (.pair (.int .u8) (.pair (.int .u8) (.pair (.int .u8) (.pair (.int .u8) (.pair (.int .u8) (.pair (.int .u8) (.pair (.int .u8) (.pair (.int .u8) (.pair (.int .u8) (.pair (.int .u8) (.pair (.int .u8) (.pair (.int .u8) (.pair (.int .u8) (.pair (.int .u8) (.pair (.int .u8) (.pair (.int .u8) (.pair (.int .u8) (.pair (.int .u8) (.pair (.int .u8) (.pair (.int .u8) (.pair (.int .u8) (.pair (.int .u8) (.int .u8)))))))))))))))))))))))))))))))))) (dep := 30) (by kernel_rfl) (x := gv2) (by kernel_rfl) (of_decide_eq_true (by kernel_rfl))
theorem own:ownKnob Tryz.prog.godebug=none:=by kernel_rfl
theorem laidOut:laidOutB Tryz.prog=true:=by kernel_rfl
theorem rowTypes:rowTypesB Tryz.prog Tryz.f4.params.toList=true:=by kernel_rfl
theorem answers (x0:El tyState) (w0:Wf tyState x0):evF cx 41 4 ((x0,()):El (cx.arg 4))=some (true:Bool) :=
  statAll_true 0 x0 w0
set_option maxRecDepth 100000 in
theorem lifted (os:Os) (started:os.Started) (H:Type) (enc:TypeId×Value→H) :
    ReturnsInHanded {} Tryz.checked os 4 .any (fun w args=>(Rows.statAllSpec.pre enc Tryz.prog Tryz.f4 Rows.statAllRow.domain false w args∧laidMetH Tryz.prog laidL w)∧sizedMet enc Tryz.prog Tryz.f4 (OpenSpec.ofChange Rows.statAllSpec) false w args)
      (Rows.statAllSpec.post enc Tryz.prog Tryz.f4 false true false false):=by
  refine returnsInHanded_of_change_and (C:=Tryz.checked) (X:=fun w _=>laidMetH Tryz.prog laidL w) (fun _ _ _ hh h=>h.of_heap hh) own started (by kernel_rfl) Tryz.func4
    (ChangeSpec.witness_shaped (enc:=enc) (C:=Tryz.checked) (os:=os) (X:=fun w _=>laidMetH Tryz.prog laidL w) false (World.doorLaid Tryz.prog 400 os) #[.agg #[.int .i64 0,.int .i64 0,.int .i64 0,.int .i64 0,.int .i64 0,.int .i64 0,.int .i64 0,.int .i64 0,.int .i64 0,.int .i64 0,.int .i64 0,.slice none 0 0]] 8 rfl (World.shaped_of_RefB (by kernel_rfl) (by kernel_rfl)) (by kernel_rfl) (by kernel_rfl) (by kernel_rfl) (door_met os _)) ?_
  intro W base args ds gs before hval0 hW hcnd _ hL _
  have hval:∀(j:Nat) t v,Tryz.f4.params[j]? = some t→args[j]? = some v→Value.okWide Tryz.prog W .any base t v:=hval0
  obtain ⟨p,q,hA0,hV,rfl,hfz,hnd⟩:=hW
  have hA:DataW.TrodAll enc Tryz.prog W 0 (fun _=>true) true Tryz.f4.params.toList args.toList ds p:=hA0
  have hAll:=hA
  rw[Tryz.params4] at hA hval
  obtain ⟨v0,vs0,d0,ds0,p0,q0,hargs,rfl,rfl,h0,r0⟩:=trodAll_cons hA
  obtain ⟨rfl,rfl,rfl⟩:=trodAll_nil r0
  obtain ⟨rfl,rfl⟩:=trodVars_none hV
  obtain rfl:args = #[v0]:=by cases args;simp at hargs;rw[hargs]
  obtain ⟨x0,f0,g0,w0⟩:=open_arg (P:=Tryz.prog) (t:=28) (c:=tyState) (d:=30) (by kernel_rfl) (by kernel_rfl) (hval 0 28 v0 rfl rfl) h0
  refine (law_calls tab plain mixed (n:=41) (K:=4) (s:=sigAt cx 4) (by kernel_rfl) (by kernel_rfl) (by kernel_rfl) (x:=((x0,()):El (cx.arg 4))) (answers x0 w0) rfl rfl
    (hg:=globs hL) (vs:=[v0]) (W:=W) ⟨f0,trivial⟩ (args_cons f0 g0 args_nil)).mono fun e W' ⟨he,hb⟩ => ?_
  subst he
  exact ⟨_,rfl,post_law (tb:=4) laidOut rowTypes rfl rfl (by kernel_rfl) Tryz.underlying4 hAll (by simpa using hfz) hb⟩
theorem band {a b:Bool} (h1:a=true) (h2:b=true):(a&&b)=true:=by rw[h1,h2];rfl
theorem c3:mapsRowed Tryz.pinned.checked.prog=true:=by kernel_rfl
theorem c10:(Rows.statAllRow.inPlace==Tryz.pinned.checked.prog.inPlace 4)=true:=by kernel_rfl
theorem c11:(Rows.statAllRow.unfollowed==Tryz.pinned.checked.prog.unfollowed 4)=true:=by kernel_rfl
theorem c12:(Rows.statAllRow.recurses==Tryz.pinned.checked.prog.recurses 4)=true:=by kernel_rfl
theorem c13:(Rows.statAllRow.named==Tryz.pinned.checked.prog.varsNamed 4)=true:=by kernel_rfl
theorem closed:joinedFacts Tryz.pinned.checked.prog 4 Tryz.f4 Rows.statAllSpec Rows.statAllRow=true:=by
  unfold joinedFacts
  iterate 19 (refine band ?_ (by kernel_rfl))
  refine band ?_ c13
  refine band ?_ c12
  refine band ?_ c11
  refine band ?_ c10
  iterate 6 (refine band ?_ (by kernel_rfl))
  refine band ?_ c3
  exact band (by kernel_rfl) laidOut
theorem over:Rows.statAllRow.holds Tryz.pinned (OpenSpec.ofChange Rows.statAllSpec) :=
  OpenClaim.holds_of_wide 4 Tryz.f4 rfl rfl rfl rfl rfl rfl rfl ⟨rfl,rfl,rfl,rfl,rfl⟩ rfl rfl rfl rfl rfl (by kernel_rfl) Tryz.func4 closed
    (of_decide_eq_true (by kernel_rfl)) (by unfold Func.isWrapper;first | (rw[if_pos (by decide +kernel)];kernel_rfl) | (rw[if_neg (by decide +kernel)];exact ⟨rfl,rfl⟩))
    (fun os started H enc _=>lifted os started H enc)
set_option maxRecDepth 100000 in
theorem proved:Rows.StatAllCardSaid :=
  Claim7.holds_tied_plain_at .later [] [.data, .data, .data] true (true, "815b94095973ff7e841a680909d0ff1b4de145e0a9a7d52c2e27fc20ad886f3f") false
    over (fun _ h=>by cases h) (by kernel_rfl) (fun _ h=>by cases h) statAll_row_tie rfl ⟨rfl,rfl⟩ (by kernel_rfl) rfl
    (fun f fn hf hfn=>by
      obtain rfl : f = 4 := Option.some.inj ((show Tryz.prog.funcNamed "plimsoll/plimsolllaw33.StatAll" = some 4 by kernel_rfl).symm.trans hf) |>.symm
      obtain rfl:fn=Tryz.f4:=(Option.some.inj (Tryz.func4.symm.trans hfn)).symm
      exact ⟨by kernel_rfl,fun j t ht=>by
        rw[Tryz.params4] at ht
        have hm:t∈[28]:=by simpa using Array.mem_of_getElem? ht
        have hall:([28].all fun u => !Tryz.prog.wantsStandIn u)=true:=by kernel_rfl
        exact (show Tryz.prog.wantsStandIn t=false by simpa using List.all_eq_true.1 hall t hm)⟩)
    (by kernel_rfl)
end Go.Proofs.YtjeabebacegikaaGreatDoor.statAll
