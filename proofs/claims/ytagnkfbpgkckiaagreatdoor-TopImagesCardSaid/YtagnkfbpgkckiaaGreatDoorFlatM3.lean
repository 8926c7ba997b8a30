/-
 The flat reading and its soundness, merged part 3 of 4 (TL, TM, TN, TO, TP, TQ, TR, TS, TT, TT2, TX, TU, TV, TW, X, Y).
-/
import Derived.Test.YtagnkfbpgkckiaaGreatDoorFlatM2
import Derived.MapKept
import Derived.LoopN
import Derived.RangeFuncIn
import Derived.RangeFuncRecord
import Derived.Scope
import Derived.RangeFuncLeaves
import Derived.ProofKit
import Derived.OpenShut
import Derived.IntWalk
set_option linter.unusedVariables false
set_option linter.unusedSimpArgs false
open Go.RowKit (Below)
open Go.IntKind (wrap)
namespace Go.Flat
section
section
variable {cx:Cx}{call:Oracle cx}{fx:Hints}{W W':World}{F F':Fz}{E E':EnvM}{h:Heap}{N:Nat->Prop}{ρ:Operand->V}{a:Act}{R:Type}
theorem argsC_rd (hc:CallSound cx call W F)(hr:HR cx.P W F E N h)(hρ:∀x,RdV cx.P W F E (ρ x) (a.eval x)):∀(t:Ty) (xs:List Operand) (x:El t) (lent:List Nat),
  f1m cx call h t (xs.map ρ)=some (x,lent)->f0n cx.P t x W (a0m F h E lent) (xs.map a.eval):=by
 intro t;induction t with
 | unit =>
  intro xs x lent hk;cases xs with
  | nil=>exact rfl
  | cons y ys=>simp[f1m] at hk
 | pair p q _ ihq =>
  intro xs x lent hk;cases xs with
  | nil=>simp[f1m] at hk
  | cons y ys =>
   have hv:=hρ y;simp only[q4i] at hk ⊢;cases hy:ρ y with
   | tup l=>rw[hy] at hk;simp[f1m] at hk
   | undef=>rw[hy] at hk;simp[f1m] at hk
   | lost=>rw[hy] at hk;simp[f1m] at hk
   | v ag cs =>
    rw[hy] at hk hv;simp only[f1m] at hk;split at hk
    case isFalse=>cases hk
    rename_i hag;cases h1:t0m cx call h p cs with
    | none=>rw[h1] at hk;cases hk
    | some z =>
     rw[h1] at hk;simp only[q3l] at hk;cases h2:f1m cx call h q (ys.map ρ) with
     | none=>rw[h2] at hk;cases hk
     | some w =>
      rw[h2] at hk;simp only[Option.map_some,Option.some.injEq,Prod.mk.injEq] at hk;obtain ⟨rfl,rfl⟩:=hk;obtain ⟨k1,k2⟩:=t0l hc hr (x:=z.1) (ns:=z.2) h1 hv.1;have hw:(a.eval y).cells.size=width p:=by simpa using k2
      refine ⟨_,_,rfl,RdV1.formed hv hag hw,Rd.congr p (fun j hj => ?_) (k1.later (Later.same a0m.left)),(ihq ys w.1 w.2 h2).later (Later.same a0m.right)⟩;simp[one]
 | _=>intro xs x lent hk;cases xs<;>simp[f1m] at hk
theorem toV_rd {P:Program}{t:Ty}{x:El t}{v:Value}(hf:formed t v)(hx:Rd P t x W F (one v)):RdV P W F E (toV t x) v:=by
 obtain ⟨vs,h1,h2,h3⟩:=n0n (E:=E) t x _ hx;have hvs:vs=v.cells.toList:=by
  apply q4u;intro j;by_cases hj:j<width t
  ·rw[<-h2 j hj,one,q3w]
  ·have:=hf.2.2;rw[q3d (by omega),q3d (by simp;omega)]
 subst hvs;exact ⟨h3,hf.1,hf.2.1⟩
theorem b1y {o:Oper}{cl:Go.Call}{k:V->Ups->Option R}{res:R}{z:Operand}{t r:Ty}{p:El t->Option (El r)}{x:El t}{y:El r}{lent:List Nat}(cc:Ctx cx call W F E N h ρ a)(ho:o.op = .call cl)
  (hcal:cl.callee = .value z) (hp:Rd cx.P (.fn t r) p W F (fun j=>if j=0 then some (a.eval z) else none)) (hargs:f1m cx call h t (cl.args.toList.map ρ)=some (x,lent)) (hy:p x=some y)
  (hk:k (toV r y) (a0k h (if shares r=true then lent else []))=some res):b0f cx W F E N h a o k res:=by
 obtain ⟨f,caps,hv,hpl,hcalls⟩:=hp;simp at hv;have hx:=argsC_rd cc.hc cc.hr cc.ρ t cl.args.toList x lent hargs;have hFp:∀b,a0m F h E lent b->b<W.heap.size:=fun b hb=>a0m.lt cc.hr cc.hF hb
 have hcall:=hcalls W (a0m F h E lent) _ x y (b0w lent) hFp hx hy;obtain ⟨fn,hf1,hf2,hf3⟩:=hpl;refine ⟨_,_,hk,?_⟩;intro rd next Q hsem hnext;have hrun:(execOp a.eval o).run cx.P W = .ok (.enter f ((cl.args.toList.map a.eval).toArray++caps)) W:=by
  have e1:(cl.args.toList.map a.eval).toArray=cl.args.map a.eval:=by
   apply Array.ext';simp
  rw[e1];have hf3':fn.body≠none:=fun e=>by rw[e] at hf3;cases hf3
  have hf2' : ¬ fn.name = "runtime.NumGoroutine" := by simpa using hf2
  simp[execOp,ho,resolve,hcal,hv,Deferred.ofValue,invoke,callFunc,hf1,hf2',hf3']
 refine ⟨fun _ _=>trivial,?_⟩;rw[show (Rnd rd).round=rd from rfl,hsem,hrun,Oper.uponIn_enter];refine ⟨(fun k=>by cases k),d1b (Calls.mono hcall fun e W' hpost => ?_)⟩;obtain ⟨v,F',rfl,hg,hfm,hrd⟩:=hpost;cases hsh:shares r with
 | true =>
  rw[hsh] at hnext;simp only[if_true] at hnext;exact hnext v W' F' E (OpPost.grow cc.hr cc.hF hg) (toV_rd hfm hrd)
 | false =>
  rw[hsh] at hnext;simp only[Bool.false_eq_true,if_false] at hnext;have hg2:Grow W (a0m F h E []) W' F:=by
   rw[b0c];exact ⟨hg.below,fun _ hb=>hb,fun _ hb => .inl hb⟩
  exact hnext v W' F E (OpPost.grow cc.hr cc.hF hg2) (toV_rd hfm (Rd.noshare r hsh hrd))
theorem op_callV {o:Oper}{cl:Go.Call}{k:V->Ups->Option R}{res:R}{z:Operand}{c:Cell}(cc:Ctx cx call W F E N h ρ a)(ho:o.op = .call cl)(hcal:cl.callee = .value z)(hz:ρ z = .v false [c])
  (hk:n2i cx call h c (cl.args.toList.map ρ) k=some res):b0f cx W F E N h a o k res:=by
 have hv:=cc.ρ z;rw[hz] at hv
 replace hv:=hv.single.1
 unfold n2i at hk;split at hk
 ·rename_i t r p;split at hk
  case isFalse=>cases hk
  split at hk
  case h_2=>cases hk
  rename_i x lent hargs;cases hy:p x with
  | none=>rw[hy] at hk;cases hk
  | some y =>
   rw[hy] at hk;exact b1y cc ho hcal hv.2.2 hargs hy hk
 ·rename_i f ct cv;split at hk
  case h_2=>cases hk
  rename_i s hs;split at hk
  case h_2=>cases hk
  rename_i r hr;simp only at hk;split at hk
  case h_2=>cases hk
  rename_i p hp;split at hk
  case h_2=>cases hk
  rename_i x lent hargs;cases hy:p x with
  | none=>rw[hy] at hk;cases hk
  | some y =>
   rw[hy] at hk;obtain ⟨caps,hv,hcap⟩:=hv;refine b1y cc ho hcal ?_ hargs hy hk;rw[hv];exact i2f cc.hc hp hcap
 ·cases hk
def keyD:Ty->Option TypeDesc
 | .str=>some .string
 | .int kd=>some (.int kd)
 | _=>none
theorem n0s {k:Ty}{x:El k}{v:Value}{d:TypeDesc}(h:keyV k x=some v)(hd:keyD k=some d):MapKept.IsKey d v:=by
 cases k<;>first | (cases hd;done) | skip
 case int kd =>
  cases hd;simp only[keyV,Option.some.injEq] at h;subst h;rfl
 case str =>
  cases hd;simp only[keyV,Option.some.injEq] at h;subst h;trivial
theorem r2v {kt:TypeId}{k:Ty}(ht:i0f cx)(h:l2w cx kt k=true):∃d,keyD k=some d/\cx.P.underlying kt=some d:=by
 unfold l2w at h;have hs:∀s,cx.shp kt=s->s = .other\/shpB cx.P kt s=true:=by
  intro s hs;unfold Cx.shp at hs;cases hi:cx.info kt with
  | none=>rw[hi] at hs;exact .inl hs.symm
  | some i=>rw[hi] at hs;right;rw[<-hs];exact (ht kt i hi).shp
 split at h
 case h_3=>cases h
 ·rename_i hsh;rcases hs _ hsh with k | k
  ·cases k
  ·unfold shpB at k;split at k<;>first | (cases k;done) | skip
   all_goals first | (rename_i e1 _;cases e1;done) | skip
   all_goals first | (rename_i e1 e2;exact ⟨_,rfl,e2⟩) | skip
   all_goals (rename_i e1;cases e1)
 ·rename_i kd kd' hsh;have hkd:kd=kd':=by simpa using h
  subst hkd;rcases hs _ hsh with k | k
  ·cases k
  ·unfold shpB at k;cases hu:cx.P.underlying kt with
   | none=>rw[hu] at k;cases k
   | some d =>
    rw[hu] at k;cases d<;>first | (cases k;done) | skip
    have:=of_decide_eq_true k;subst this;exact ⟨_,rfl,rfl⟩
theorem r2u {P:Program}{k:Ty}{x:El k}{v:Value}{d:TypeDesc}(hd:keyD k=some d)(h:c0x P W F E (.val k x) v):keyV k x=some v:=by
 have h:=h.2.2;cases k<;>first | (cases hd;done) | skip
 case int kd =>
  have:=h;simp only[Rd,RdP] at this;simp[keyV] at this ⊢
  first | exact this.symm | exact this.1.symm | (obtain ⟨q,_⟩:=this;exact q.symm)
 case str =>
  have:=h;simp only[Rd,RdP] at this;simp[keyV] at this ⊢
  first | exact this.symm | exact this.1.symm | (obtain ⟨q,_⟩:=this;exact q.symm)
theorem c2o {k:Ty}{x y:El k}{u v:Value}{d:TypeDesc}(hd:keyD k=some d)(hu:keyV k x=some u)(hv:keyV k y=some v):Instr.sameNow d u v=some (z1c k x y):=by
 cases k<;>first | (cases hd;done) | skip
 case int kd =>
  cases hd;simp only[keyV,Option.some.injEq] at hu hv;subst hu;subst hv;simp only[Instr.sameNow,z1c,if_true];congr 1
 case str =>
  cases hd;simp only[keyV,Option.some.injEq] at hu hv;subst hu;subst hv;simp only[Instr.sameNow,z1c,Option.some.injEq];rw[Bool.eq_iff_iff,MapKept.bytes_beq];constructor
  ·intro e;injection e with e;have:=congrArg Array.toList e;have e2:x=y:=by simpa using this
   rw[e2];exact beq_self_eq_true y
  ·intro e;have e2:x=y:=eq_of_beq e;rw[e2]
theorem g1h {k e:Ty}{x:El k}{u:Value}{d:TypeDesc}(hd:keyD k=some d)(hu:keyV k x=some u):∀(xs:List (El k×El e)) (es:List MapEntry) (i0:Nat),es.length=xs.length ->
  (∀i (h:i<xs.length),∃en,es[i]? = some en/\keyV k xs[i].1=some en.key) ->
  (mget k e xs x i0=none/\Instr.findNow d u es i0=some none)\/∃j p en,xs[j]? = some p/\es[j]? = some en/\mget k e xs x i0=some (i0+j,p.2)/\Instr.findNow d u es i0=some (some (i0+j,en.val))/\en.key=u:=by
 intro xs;induction xs with
 | nil=>intro es i0 hl _;cases es with
  | nil=>exact .inl ⟨rfl,rfl⟩
  | cons=>cases hl
 | cons p r ih =>
  intro es i0 hl hk;cases es with
  | nil=>cases hl
  | cons en es =>
   obtain ⟨en',h1,h2⟩:=hk 0 (by simp);simp only[List.getElem?_cons_zero,Option.some.injEq] at h1;subst h1;have hsn:=c2o hd hu h2;simp only[List.getElem_cons_zero] at hsn;obtain ⟨y,z⟩:=p;cases hq:z1c k x y with
   | true =>
    rw[hq] at hsn;refine .inr ⟨0,(y,z),en,rfl,rfl,by simp[mget,hq],by simp[Instr.findNow,hsn],?_⟩;obtain ⟨rr,hr1,hr2⟩:=MapKept.sameNow_of_keys (n0s hu hd) (n0s h2 hd);rw[hsn] at hr1;injection hr1 with hr1;exact (hr2.1 hr1.symm).symm
   | false =>
    rw[hq] at hsn;rcases ih es (i0+1) (by simpa using hl) (fun i hi=>by have:=hk (i+1) (by simp;omega);simp only[q4k] at this;exact this) with ⟨k1,k2⟩ | ⟨j,p,en2,k1,k2,k3,k4,k5⟩
    ·exact .inl ⟨by simp[mget,hq,k1],by simp[Instr.findNow,hsn,k2]⟩
    ·exact .inr ⟨j+1,p,en2,by simpa using k1,by simpa using k2,by simp[mget,hq,k3];omega,by simp[Instr.findNow,hsn,k4];omega,k5⟩
theorem k2i {P:Program}{t kt et:TypeId}{d:TypeDesc}{b:Nat}{es:Array MapEntry}{clock:Nat}{key z:Value}{q:Option (Nat×Value)}(ht:P.underlying t=some (.map kt et))(hd:P.underlying kt=some d)(hk:MapKept.IsKey d key)
  (hb:W.heap[b]? = some (.map es clock)) (hf:Instr.findNow d key es.toList 0=some q) (hz:(zeroValue et).run P W = .ok z W) :
  (Instr.lookup t (.map (some b)) key false).run P W = .ok (match q with | some y=>y.2 | none=>z) W:=by
 cases q with
 | none=>simp[Instr.lookup,run_underlying ht,MapKept.run_getObj_map hb,MapKept.run_checkKey hd hk,MapKept.run_findKey hd hf,hz,Result.andThen]
 | some y=>simp[Instr.lookup,run_underlying ht,MapKept.run_getObj_map hb,MapKept.run_checkKey hd hk,MapKept.run_findKey hd hf,Result.andThen]
theorem l2f {o:Oper}{k:V->Ups->Option R}{r:R}{t:TypeId}{kt e:Ty}(cc:Ctx cx call W F E N h ρ a)(hK:KOk N h k)(ho:o.op = .makeMap t none)
  (hk:k (.v false [.sl (nmOf fx o) (a0n h (nmOf fx o)+1)]) [(nmOf fx o,a0n h (nmOf fx o)+1,some (.sealed (nmOf fx o) (a0n h (nmOf fx o)+1) (a0n h (nmOf fx o)+1) (.mp kt e) [] none false))]=some r):b0f cx W F E N h a o k r:=by
 obtain ⟨hN,hlt⟩:=hK _ _ _ hk (nmOf fx o) (by simp[a0g]);have hvt:=b0m cc.hr hN hlt;have hmp:a1j kt ([]:List (El kt×El e)) (W.alloc (.map #[] 0)) [W.heap.size] (.map (some W.heap.size)) (fun _ y O u=>formed e u/\RdB cx.P e y (W.alloc (.map #[] 0)) F O (one u)) :=
  ⟨W.heap.size,#[],0,[],rfl,u0p W _,rfl,rfl,rfl,fun i hi=>by simp at hi⟩
 have hsize:(W.alloc (.map #[] 0)).heap.size=W.heap.size+1:=by
  show (W.heap.push _).size=_;simp
 have hpost:=OpPost.turn (P:=cx.P) (W':=W.alloc (.map #[] 0)) (F':=F) (E':=E.next (nmOf fx o) (some (.tree (.map (some W.heap.size)) [W.heap.size]))) (ver':=a0n h (nmOf fx o)+1)
  (B := .sealed (nmOf fx o) (a0n h (nmOf fx o)+1) (a0n h (nmOf fx o)+1) (.mp kt e) [] none false) (ns:=[]) (row:=none) cc.hr cc.hF hN hlt (EnvM.next_le _ _ _) (by rw[hvt];exact EnvM.next_top _ _ _) (fun m hm=>EnvM.next_other _ _ _ m hm)
  ⟨rfl,rfl,rfl,by rw[hsize];omega,fun k hk _=>p0j _ _ k hk⟩ (fun b hb=>by cases hb) (fun b hb=>by rw[b0c] at hb;exact hb) (fun b hb => .inl (by rw[b0c];exact hb))
  ⟨_,by rw[hvt];exact EnvM.next_m _ _ _,⟨_,_,rfl,by rw[hvt];exact EnvM.next_m _ _ _,by rw[hvt,EnvM.next_top];exact q3c _,fun j hj hj'=>by
   have:j=E.top (nmOf fx o)+1:=by omega
   subst this;exact ⟨_,EnvM.next_m _ _ _⟩,fun b hb=>by simp at hb;omega,fun _=>⟨by simp only[a1i];exact hmp,by simp,fun b hb hf=>by
   simp at hb;subst hb
   have:=cc.hF _ hf;omega⟩⟩,fun x hx => .inr (by
   have:x=W.heap.size:=by simpa [Loc.has] using hx
   omega)⟩
 refine ⟨_,_,hk,OpOk.of (v := .map (some W.heap.size)) ?_ hpost (RdV.mk1 ⟨?_,⟨.tree (.map (some W.heap.size)) [W.heap.size],?_⟩,fun L hL => ?_⟩ rfl)⟩
 ·simp[execOp,ho,Instr.makeMap]
 ·rw[hvt,EnvM.next_top];exact q3c _
 ·rw[hvt,EnvM.next_m]
 ·rw[hvt,EnvM.next_m] at hL;injection hL with hL;subst hL;rfl
theorem map_at {P:Program}(hr:HR P W F E N h){n ver base v0:Nat}{ck e:Ty}{xs:List (El ck×El e)}(hn:h[n]? = some (ver,some (.sealed n base ver (.mp ck e) xs none false)))(hb1:base<=v0)(hb2:v0<=ver){v:Value}(hv:RdV P W F E (.v false [.sl n v0]) v) :
  ∃bs,a1j ck xs W bs v (fun _ y O u=>formed e u/\RdB P e y W F O (one u))/\bs.Nodup/\(∀b∈bs,¬F b)/\(∀b∈bs,atName h E n b)/\ver=E.top n/\(∀j,base<=j->j<=ver->∃bs',E.m n j=some (.tree v bs')):=by
 obtain ⟨hN,L,hL,w,bs,rfl,g1,g2,g3,g4,g5⟩:=hr.blk n _ _ hn;obtain ⟨m1,m2,m3⟩:=g5 rfl;obtain ⟨bs',hbs'⟩:=g3 v0 hb1 hb2;have hone:=hv.2.2 rfl;have hrd:=hv.1;rw[oneCell_cells hone] at hrd;have hvw:v=w:=(hrd.2 0 _ _ rfl rfl).1.2.2 _ hbs';subst hvw;simp only[a1i] at m1;exact ⟨bs,m1,m2,m3,fun b hb=>⟨_,_,_,hn,hL,hb⟩,hr.top n _ _ hN hn,g3⟩
theorem g1g:∀(Os:List (List Nat)) (j:Nat) (O:List Nat),Os[j]? = some O->Os.flatten.Perm (O++(Os.set j []).flatten):=by
 intro Os;induction Os with
 | nil=>intro j O h;simp at h
 | cons Q Os ih =>
  intro j O h;cases j with
  | zero=>simp at h;subst h;simp
  | succ j =>
   simp only[List.set_cons_succ,List.flatten_cons];exact (List.Perm.append_left Q (ih j O (by simpa using h))).trans (List.perm_append_comm_assoc _ _ _)
theorem q2p {o:Oper}{k:V->Ups->Option R}{r:R}{t kt et:TypeId}{x i:Operand}{n v0 ver base:Nat}{ck e:Ty}{xs:List (El ck×El (.ref e))}{key:El ck}(cc:Ctx cx call W F E N h ρ a)(hK:KOk N h k)(ho:o.op = .lookup t x i false)
  (hs:cx.shp t = .map kt et) (hx:ρ x = .v false [.sl n v0]) (hi:ρ i = .v false [.val ck key]) (hn:h[n]? = some (ver,some (.sealed n base ver (.mp ck (.ref e)) xs none false))) (hb1:base<=v0) (hb2:v0<=ver)
  (hok:l2w cx kt ck=true) (hp:isPtr (cx.ty et)=true) (hk:d2x fx h o n ver base ck e xs key k=some r):b0f cx W F E N h a o k r:=by
 obtain ⟨d,hd1,hd2⟩:=r2v cc.tab hok;have ht:cx.P.underlying t=some (.map kt et):=by
  unfold Cx.shp at hs;cases hi:cx.info t with
  | none=>rw[hi] at hs;cases hs
  | some q =>
   rw[hi] at hs;have h1:=(cc.tab t q hi).shp;dsimp only at hs;rw[hs] at h1;unfold shpB at h1;cases hu:cx.P.underlying t with
   | none=>rw[hu] at h1;cases h1
   | some d' =>
    rw[hu] at h1;cases d'<;>first | (cases h1;done) | skip
    simp only[q1n] at h1;rw[q3u h1.1,q3u h1.2]
 have hz:(zeroValue et).run cx.P W = .ok (.pointer none) W:=by
  cases hte:cx.ty et with
  | none=>rw[hte] at hp;cases hp
  | some c =>
   rw[hte] at hp;cases c<;>first | (cases hp;done) | skip
   obtain ⟨ti,h1,h2,z,h3,h4,h5⟩:=(x0o cc.tab hte).ti;have hz1:z = .pointer none:=by
    have hrd:=(m0h (P:=cx.P) (W:=W) (F:=F) (E:=E) h4);simp only[zeroCells] at hrd;have hc:z.cells = #[z]:=by
     cases z<;>first | rfl | skip
     have:=h5.2 ⟨_,rfl⟩;simp[agg] at this
    rw[hc] at hrd;exact (hrd.2 0 _ _ rfl rfl).1
   subst hz1;simp[zeroValue,typeInfo,h1,h3]
 have hvx:=cc.ρ x;rw[hx] at hvx;have hvi:=cc.ρ i;rw[hi] at hvi;obtain ⟨bs,hm,hnd,hfree,hat,htop,hheads⟩:=map_at cc.hr hn hb1 hb2 hvx;have hkv:keyV ck key=some (a.eval i):=by
  have hone:=hvi.2.2 rfl;have hrd:=hvi.1;rw[oneCell_cells hone] at hrd;exact r2u hd1 (hrd.2 0 _ _ rfl rfl).1
 obtain ⟨b,es,clock,Os,e1,e2,e3,e4,rfl,e5⟩:=hm;have hrun:∀q,Instr.findNow d (a.eval i) es.toList 0=some q->(execOp a.eval o).run cx.P W = .ok (.value (match q with | some y=>y.2 | none => .pointer none)) W:=by
  intro q hq;simp[execOp,ho,e1,k2i ht hd2 (n0s hkv hd1) e2 hq hz,Result.andThen];cases q<;>rfl
 rcases g1h (e := .ref e) hd1 hkv xs es.toList 0 (by simpa using e3) (fun i hi=>by
   obtain ⟨en,O,k1,_,k3,_⟩:=e5 i hi
   exact ⟨en,by simpa using k1,k3⟩) with ⟨m1,m2⟩ | ⟨j,p,en,m1,m2,m3,m4,m5⟩
 ·unfold d2x at hk;rw[m1] at hk;exact b0f.value cc hk (hrun _ m2) (RdV.mk1 rfl rfl)
 ·unfold d2x at hk;rw[m3] at hk;simp only[Nat.zero_add,f0d] at hk;split at hk
  case h_2=>cases hk
  rename_i c hc;obtain ⟨hnb,hk⟩:=b0s hk;have hnb:=n0r.1 hnb;rw[List.nodup_cons] at hnb;have hKn:=hK _ _ _ hk;obtain ⟨hjl,hjx⟩:=q3o.1 m1;obtain ⟨en',O,q1,q2,q3,q4,q5⟩:=e5 j hjl;have hen:en'=en:=by
   have:=(q3w (xs:=es) (i:=j)).symm.trans m2;rw[q1] at this;injection this
  subst hen;rw[hjx] at q5;have hperm:=g1g Os j O q2;rw[List.nodup_cons] at hnd;have hnd2:(O++(Os.set j []).flatten).Nodup:=hperm.nodup_iff.1 hnd.2;rw[List.nodup_append] at hnd2;have hN:=hKn n (by simp[a0g]);have hT:Takes F h E [n] (b::Os.flatten):=⟨fun c hc=>⟨n,by simp,hat c hc⟩,hfree,fun _=>List.nodup_cons.2 hnd⟩;obtain ⟨z1,z2,z3⟩:=i1s (P:=cx.P) (W':=W) (F2:=a0m F h E []) (O':=b::Os.flatten) (ls:=[]) cc.hr hT (fun m hm=>by simp at hm;subst hm;exact hN) (Later.refl W _) (fun _ _ _=>rfl) (fun b hb => .inl hb) (fun b hb => .inl hb)
  have hmem:∀c∈O,c∈b::Os.flatten:=fun c hc=>q3h _ (hperm.mem_iff.2 (q3m.2 (.inl hc)))
  obtain ⟨E1,c1,us,u1,u2,u3⟩:=r0a (P:=cx.P) h (.ref e) p.2 [] (nmOf fx o) (O:=O) (g:=one en'.val) z1 (by rw[b0c];exact q5) hnd2.1 (fun c hc=>by rw[b0c];exact hfree c (hmem c hc)) (fun c hc=>z2 c (hmem c hc))
   (fun m hm=>by
    obtain ⟨g1,g2⟩:=hKn m (by
     simp only[a0g,q4i,q3k,List.map_map];right;obtain ⟨y,hy,rfl⟩:=q4g.1 hm
     exact q4g.2 ⟨y,hy,rfl⟩)
    exact ⟨g1,by rw[b0d,b0d];exact g2,b0m cc.hr g1 g2⟩) hnb.2
  have htop1:E1.top n=E.top n:=c1.tops n hnb.1;have hus:us=[en'.val]:=by
   have h0:=u2 0 (by simp[width]);have hl:us.length=1:=by simpa [width] using u1
   match us,hl with
   | [w],_ =>
    have hcell:=oneCell_cells (q4.2.1 rfl);rw[one,hcell] at h0
    simpa using h0.symm
  rw[hus,hc] at u3;have hE1:=c1.env;have c2:=c1.put (n:=n) (ver:=ver+1) (O:=b::Os.flatten) (L := .tree (a.eval x) (b::(Os.set j []).flatten)) (B := .sealed n base (ver+1) (.mp ck (.ref e)) xs (some (j,c)) false) hN.1 (by rw[b0d,b0d];exact hN.2) hnb.1 (by rw[htop])
   ⟨_,_,rfl,by rw[htop,<-htop1];exact EnvM.next_m _ _ _,by rw[EnvM.next_top,htop1,htop];exact q3c _,fun q hq hq'=>by
    rcases Nat.lt_or_ge ver q with k | k
    ·have:q=E1.top n+1:=by omega
     subst this;exact ⟨_,EnvM.next_m _ _ _⟩
    ·rw[(EnvM.next_le E1 n _).m n q (by omega),hE1.m n q (by omega)];exact hheads q hq k,fun y hy=>by
    have hb:=(Array.getElem?_eq_some_iff.1 e2).1;rcases q3k.1 hy with rfl | hy
    ·exact hb
    ·exact cc.hr.lt y ⟨n,hat y (q3h _ (hperm.mem_iff.2 (q3m.2 (.inr hy))))⟩,fun _=>⟨by
    simp only[a1i];refine ⟨b,es,clock,Os.set j [],e1,e2,e3,by simpa using e4,rfl,fun q hq => ?_⟩;obtain ⟨en2,O2,w1,w2,w3,w4⟩:=e5 q hq;by_cases hqj:q=j
    ·subst hqj;rw[q1] at w1;injection w1 with w1;subst w1;refine ⟨en',[],q1,by rw[List.getElem?_set];simp[e4,hq],w3,?_⟩;dsimp only;rw[q0z rfl,oneCell_cells (q4.2.1 rfl)];exact ⟨rfl,q4,u3.later (Later.refl W _) (EnvM.next_le _ _ _)⟩
    ·refine ⟨en2,O2,w1,by rw[q4e (fun e=>hqj e.symm)];exact w2,w3,?_⟩;dsimp only;rw[q0n hqj,b0c];exact w4,List.nodup_cons.2 ⟨fun hb=>hnd.1 (hperm.mem_iff.2 (q3m.2 (.inr hb))),hnd2.2.1⟩,fun y hy=>by
    rw[b0c];rcases q3k.1 hy with rfl | hy
    ·exact hfree y (by simp)
    ·exact hfree y (q3h _ (hperm.mem_iff.2 (q3m.2 (.inr hy))))⟩⟩ hmem (fun y hy=>by
   have hy:y∈b::(Os.set j []).flatten:=hy;rcases q3k.1 hy with rfl | hy
   ·exact ⟨by simp,fun hO=>hnd.1 (hperm.mem_iff.2 (q3m.2 (.inl hO))),z2 y (by simp)⟩
   ·have hy':=hperm.mem_iff.2 (q3m.2 (.inr hy))
    exact ⟨q3h _ hy',fun hO=>hnd2.2.2 y hO y hy rfl,z2 y (q3h _ hy')⟩)
  have c3:=c2.toU;obtain ⟨E2,e21,hop⟩:=l1x (P:=cx.P) (W':=W) (F2:=a0m F h E []) (takes:=[]) (ls:=[]) (O':=b::Os.flatten) cc.hr hT (fun m hm=>by cases hm) List.nodup_nil (fun m hm => .inr (by simp at hm;subst hm;simp[a0g])) (fun m hm=>by cases hm) (Later.refl W _) (fun _ _ _=>rfl) (fun b hb => .inl hb) (fun b hb => .inl hb)
   (fun y hy=>cc.hr.lt y ⟨n,hat y hy⟩) (by simpa [i0j,a0k] using hKn) c3
  rw[b0c] at hop;have hval:RdV cx.P W F E2 (.v false [c]) en'.val:=by
   rw[b0c] at u3;refine ⟨?_,(fun e=>by cases e),fun _=>q4.2.1 rfl⟩;rw[oneCell_cells (q4.2.1 rfl)];exact u3.later (Later.refl W _) ((EnvM.next_le _ _ _).trans e21)
  exact ⟨_,_,hk,OpOk.of (hrun _ m4) hop hval⟩
def setB (W:World)(b:Nat)(ob:Obj):World := { W with heap:=W.heap.setIfInBounds b ob }
theorem map_put {P:Program}{t kt et:TypeId}{k e:Ty}{d:TypeDesc}{b:Nat}{es:Array MapEntry}{clock:Nat}{xs:List (El k×El e)}{Os:List (List Nat)}{x:El k}{u w:Value}{y:El e}{O:List Nat}{Rr:El e->List Nat->Value->Prop}
  (ht:P.underlying t=some (.map kt et)) (hd:P.underlying kt=some d) (hk:keyD k=some d) (hu:keyV k x=some u) (hb:W.heap[b]? = some (.map es clock)) (hl:es.size=xs.length) (hl2:Os.length=xs.length)
  (hold:∀i (h:i<xs.length),∃en O,es[i]? = some en/\Os[i]? = some O/\keyV k xs[i].1=some en.key/\Rr xs[i].2 O en.val) (hnew:Rr y O w) :
  ∃(es':Array MapEntry) (clock':Nat) (Os':List (List Nat)),(Instr.mapUpdate t (.map (some b)) u w).run P W = .ok () (setB W b (.map es' clock'))/\es'.size=(mput k e xs x y).length/\Os'.length=(mput k e xs x y).length /\
   (∀i (h:i<(mput k e xs x y).length),∃en O,es'[i]? = some en/\Os'[i]? = some O/\keyV k (mput k e xs x y)[i].1=some en.key/\Rr (mput k e xs x y)[i].2 O en.val) /\
   (∀c∈Os'.flatten,c∈Os.flatten\/c∈O)/\((Os.flatten++O).Nodup->Os'.flatten.Nodup):=by
 have hput:∀(xs:List (El k×El e)) (i0:Nat),(mget k e xs x i0=none->mput k e xs x y=xs++[(x,y)])/\∀j v p,mget k e xs x i0=some (i0+j,v)->xs[j]? = some p->mput k e xs x y=xs.set j (p.1,y):=by
  intro xs;induction xs with
  | nil=>intro i0;exact ⟨fun _=>rfl,fun j v p h=>by cases h⟩
  | cons p r ih =>
   intro i0;obtain ⟨z,z2⟩:=p;obtain ⟨k1,k2⟩:=ih (i0+1);cases hq:z1c k x z with
   | true =>
    refine ⟨fun h=>by simp[mget,hq] at h,fun j v p h hp => ?_⟩;simp[mget,hq] at h;obtain ⟨rfl,rfl⟩:=h;simp at hp;subst hp;simp[mput,hq]
   | false =>
    refine ⟨fun h => ?_,fun j v p h hp => ?_⟩
    ·simp[mget,hq] at h;simp[mput,hq,k1 h]
    ·simp[mget,hq] at h;cases j with
     | zero =>
      exfalso;have hge:∀(r:List (El k×El e)) (i0 i:Nat) (v:El e),mget k e r x i0=some (i,v)->i0<=i:=by
       intro r;induction r with
       | nil=>intro i0 i v h;cases h
       | cons p r ih =>
        intro i0 i v h;obtain ⟨z,z2⟩:=p;cases hq:z1c k x z with
        | true=>simp[mget,hq] at h;omega
        | false=>simp[mget,hq] at h;have:=ih _ _ _ h;omega
      have:=hge _ _ _ _ h;omega
     | succ j =>
      simp[mput,hq,k2 j v p (by rw[h];congr 2;omega) (by simpa using hp)]
 rcases g1h (e:=e) hk hu xs es.toList 0 (by simpa using hl) (fun i hi=>by
   obtain ⟨en,O,k1,_,k3,_⟩:=hold i hi
   exact ⟨en,by simpa using k1,k3⟩) with ⟨m1,m2⟩ | ⟨j,p,en,m1,m2,m3,m4,m5⟩
 ·rw[(hput xs 0).1 m1];refine ⟨es.push { key:=u,val:=w,born:=clock },clock+1,Os++[O],?_,by simp[hl],by simp[hl2],fun i hi => ?_,fun c hc=>by simpa using hc,fun hnd=>by simpa using hnd⟩
  ·simp[Instr.mapUpdate,run_underlying ht,MapKept.run_getObj_map hb,MapKept.run_checkKey hd (n0s hu hk),MapKept.run_findKey hd m2,MapKept.run_setObj_map _ hb,Result.andThen,setB]
  ·by_cases hi2:i<xs.length
   ·obtain ⟨en,O2,k1,k2,k3,k4⟩:=hold i hi2;refine ⟨en,O2,?_,?_,?_,?_⟩
    ·rw[Array.getElem?_push,q0n (by omega)];exact k1
    ·rw[q4a (by omega)];exact k2
    ·rw[List.getElem_append_left hi2];exact k3
    ·rw[List.getElem_append_left hi2];exact k4
   ·have hie:i=xs.length:=by simp at hi;omega
    subst hie;refine ⟨{ key:=u,val:=w,born:=clock },O,?_,?_,?_,?_⟩
    ·rw[<-hl];simp
    ·rw[<-hl2];simp
    ·simpa using hu
    ·simpa using hnew
 ·rw[(hput xs 0).2 j p.2 p m3 m1];obtain ⟨hjl,hjx⟩:=q3o.1 m1;have m2':es[j]? = some en:=by simpa using m2
  refine ⟨es.modify j fun e => { e with key:=u,val:=w },clock,Os.set j O,?_,by simp[hl],by simp[hl2],fun i hi => ?_,fun c hc => ?_,fun hnd => ?_⟩
  ·simp only[Nat.zero_add] at m4;simp[Instr.mapUpdate,run_underlying ht,MapKept.run_getObj_map hb,MapKept.run_checkKey hd (n0s hu hk),MapKept.run_findKey hd m4,m2',m5,MapKept.run_keyThatStays (n0s hu hk),MapKept.run_setObj_map _ hb,Result.andThen,setB]
  ·have hi2:i<xs.length:=by simpa using hi
   obtain ⟨en2,O2,k1,k2,k3,k4⟩:=hold i hi2;by_cases hij:i=j
   ·subst hij;refine ⟨{ en with key:=u,val:=w },O,?_,?_,?_,?_⟩
    ·rw[Array.getElem?_modify,q0z rfl,m2'];rfl
    ·rw[List.getElem?_set];simp[hl2,hi2]
    ·rw[List.getElem_set_self,<-hjx,k3];have:en2=en:=by rw[k1] at m2';injection m2'
     rw[this,m5]
    ·rw[List.getElem_set_self];exact hnew
   ·refine ⟨en2,O2,?_,?_,?_,?_⟩
    ·rw[Array.getElem?_modify,q0n (fun e=>hij e.symm)];exact k1
    ·rw[q4e (fun e=>hij e.symm)];exact k2
    ·rw[List.getElem_set_ne (fun e=>hij e.symm)];exact k3
    ·rw[List.getElem_set_ne (fun e=>hij e.symm)];exact k4
  ·obtain ⟨l,hl3,hcl⟩:=List.mem_flatten.1 hc;rcases List.mem_or_eq_of_mem_set hl3 with q | rfl
   ·exact .inl (List.mem_flatten.2 ⟨l,q,hcl⟩)
   ·exact .inr hcl
  ·obtain ⟨_,O2,_,k2,_,_⟩:=hold j hjl;have h1:=g1g Os j O2 k2;have h2:=l1g (Os.set j []) j O (by rw[List.getElem?_set];simp[hl2,hjl]);rw[List.set_set] at h2;rw[List.nodup_append] at hnd;obtain ⟨n1,n2,n3⟩:=hnd;have n4:=h1.nodup_iff.1 n1;rw[List.nodup_append] at n4;rw[h2.nodup_iff,List.nodup_append];exact ⟨n2,n4.2.1,fun c hc c' hc' e=>n3 c' (h1.mem_iff.2 (q3m.2 (.inr hc'))) c hc e.symm⟩
theorem y1l {o:Oper}{k:V->Ups->Option R}{r:R}{t kt et:TypeId}{m i v:Operand}{n v0 ver base:Nat}{ck e:Ty}{xs:List (El ck×El e)}{key:El ck}{c:Cell}{y:El e}{taken lent:List Nat}(cc:Ctx cx call W F E N h ρ a)(hK:KOk N h k)(ho:o.op = .mapUpdate t m i v)
  (hs:cx.shp t = .map kt et) (hx:ρ m = .v false [.sl n v0]) (hi:ρ i = .v false [.val ck key]) (hv:ρ v = .v false [c]) (hn:h[n]? = some (ver,some (.sealed n base ver (.mp ck e) xs none false))) (hb1:base<=v0) (hb2:v0<=ver)
  (hok:l2w cx kt ck=true) (hw:width e=1) (hag:agg e=false) (hpk:e0x cx call h e [c]=some (y,[],taken,lent)) (hap:apartB (n::taken) lent=true)
  (hk:k .undef (i0j h taken++a0k h lent++[(n,ver+1,some (.sealed n base (ver+1) (.mp ck e) (mput ck e xs key y) none false))])=some r):b0f cx W F E N h a o k r:=by
 obtain ⟨d,hd1,hd2⟩:=r2v cc.tab hok;have ht:cx.P.underlying t=some (.map kt et):=by
  unfold Cx.shp at hs;cases hi:cx.info t with
  | none=>rw[hi] at hs;cases hs
  | some q =>
   rw[hi] at hs;have h1:=(cc.tab t q hi).shp;dsimp only at hs;rw[hs] at h1;unfold shpB at h1;cases hu:cx.P.underlying t with
   | none=>rw[hu] at h1;cases h1
   | some d' =>
    rw[hu] at h1;cases d'<;>first | (cases h1;done) | skip
    simp only[q1n] at h1;rw[q3u h1.1,q3u h1.2]
 have hvx:=cc.ρ m;rw[hx] at hvx;have hvi:=cc.ρ i;rw[hi] at hvi;have hvv:=cc.ρ v;rw[hv] at hvv;obtain ⟨bs,hm,hnd,hfree,hat,htop,hheads⟩:=map_at cc.hr hn hb1 hb2 hvx;have hkv:keyV ck key=some (a.eval i):=by
  have hone:=hvi.2.2 rfl;have hrd:=hvi.1;rw[oneCell_cells hone] at hrd;exact r2u hd1 (hrd.2 0 _ _ rfl rfl).1
 have hcells:=oneCell_cells (hvv.2.2 rfl);have hform:formed e (a.eval v):=hvv.formed (by rw[hag]) (by rw[hcells,hw];rfl);obtain ⟨O,p1,p2,_,_⟩:=g2u cc.hc cc.hr e [c] y [] taken lent hpk _ hvv.1;have p1':RdB cx.P e y W (a0m F h E lent) O (one (a.eval v)):=RdB.congr e (fun q _=>by rw[one,q3w]) p1;obtain ⟨b,es,clock,Os,e1,e2,e3,e4,rfl,e5⟩:=hm;obtain ⟨a1,_,a3⟩:=a1h hap;rw[List.nodup_cons] at a1 hnd;have hT:Takes F h E (n::taken) ((b::Os.flatten)++O):=Takes.append (t1:=[n]) cc.hr ⟨fun c hc=>⟨n,by simp,hat c hc⟩,hfree,fun _=>List.nodup_cons.2 hnd⟩ p2
 have hTn:=hT.nodup (List.nodup_cons.2 a1);have hbl:b<W.heap.size:=(Array.getElem?_eq_some_iff.1 e2).1;have hbF:¬a0m F h E lent b:=by
  rintro (k | ⟨q,hq,k⟩)
  ·exact hfree b (by simp) k
  ·exact a3 n (by simp) q hq (c0i cc.hr (hat b (by simp)) k)
 have hbO:b ∉ Os.flatten++O:=by
  have:=hTn;rw[q4w,List.nodup_cons] at this;exact this.1
 have hset:∀(ob:Obj) (q:Nat),q≠b->(setB W b ob).heap[q]? = W.heap[q]? := fun ob q hq=>by
  show (W.heap.setIfInBounds b ob)[q]? = _;simp[Ne.symm hq]
 have hself:∀ob:Obj,(setB W b ob).heap[b]? = some ob:=fun ob=>by
  show (W.heap.setIfInBounds b ob)[b]? = _;simp[hbl]
 have hsz:∀ob:Obj,(setB W b ob).heap.size=W.heap.size:=fun ob=>by
  show (W.heap.setIfInBounds b ob).size=_;simp
 have hlat:∀ob:Obj,Later W (a0m F h E lent) (setB W b ob) (a0m F h E lent):=fun ob =>
  ⟨rfl,rfl,rfl,by rw[hsz];exact q3c _,fun q hq=>hset ob q (fun e=>hbF (e ▸ hq)),fun _ h=>h⟩
 have hold:∀i (hi:i<xs.length),∃en O,es[i]? = some en/\Os[i]? = some O/\keyV ck xs[i].1=some en.key/\∀ob:Obj,formed e en.val/\RdB cx.P e xs[i].2 (setB W b ob) (a0m F h E lent) O (one en.val):=by
  intro q hq;obtain ⟨en,O2,k1,k2,k3,k4,k5⟩:=e5 q hq;refine ⟨en,O2,k1,k2,k3,fun ob=>⟨k4,RdB.later e k5 ((b0w lent).trans (hlat ob)) fun z hz=>hset ob z fun e=>hbO ?_⟩⟩;subst e;exact q3m.2 (.inl (List.mem_flatten.2 ⟨O2,q3y k2,hz⟩))
 obtain ⟨es',clock',Os',hrun,s1,s2,s3,s4,s5⟩:=map_put (Rr:=fun y O w=>∀ob:Obj,formed e w/\RdB cx.P e y (setB W b ob) (a0m F h E lent) O (one w)) ht hd2 hd1 hkv e2 e3 e4 hold
  (fun ob=>⟨hform,p1'.later e (hlat ob) fun z hz=>hset ob z fun e=>hbO (by subst e;exact q3m.2 (.inr hz))⟩)
 have hsub:∀c∈b::Os'.flatten,c∈(b::Os.flatten)++O:=by
  intro c hc;rcases q3k.1 hc with rfl | hc
  ·simp
  ·rcases s4 c hc with k | k
   ·exact q3m.2 (.inl (q3h _ k))
   ·exact q3m.2 (.inr k)
 have hOF:∀c∈(b::Os.flatten)++O,¬a0m F h E lent c:=by
  rintro c hc (k | ⟨q,hq,k⟩)
  ·exact hT.free c hc k
  ·obtain ⟨q',hq',k'⟩:=hT.at_ c hc;exact a3 q' hq' q hq (c0i cc.hr k' k)
 have hKn:=hK _ _ _ hk;have hNn:=hKn n (by simp[a0g]);have hlt':∀c∈b::Os'.flatten,c<(setB W b (.map es' clock')).heap.size:=fun c hc=>by
  rw[hsz];obtain ⟨q,_,k⟩:=hT.at_ c (hsub c hc);exact cc.hr.lt c ⟨q,k⟩
 have hframe:∀q,q<W.heap.size->q ∉ (b::Os.flatten)++O->(setB W b (.map es' clock')).heap[q]? = W.heap[q]? := fun q _ hq=>hset _ q fun e=>hq (by subst e;simp)
 obtain ⟨z1,z2,z3⟩:=i1s (P:=cx.P) (W':=setB W b (.map es' clock')) (F2:=a0m F h E lent) (O':=b::Os'.flatten) (ls:=lent) cc.hr hT (fun q hq=>by
   rcases q3k.1 hq with rfl | hq
   ·exact hNn
   ·exact hKn q (by simp[a0g,i0j];exact .inl hq)) (hlat _) hframe (fun b hb => .inl hb) (fun c hc => .inl (hsub c hc))
 have c2:=(Came.nil (O:=[]) z1).put (n:=n) (ver:=ver+1) (O:=b::Os'.flatten) (L := .tree (a.eval m) (b::Os'.flatten)) (B := .sealed n base (ver+1) (.mp ck e) (mput ck e xs key y) none false) hNn.1 (by rw[b0d,b0d];exact hNn.2) (by simp[b0l]) (by rw[htop])
  ⟨_,_,rfl,by rw[htop];exact EnvM.next_m _ _ _,by rw[EnvM.next_top,htop];exact q3c _,fun q hq hq'=>by
   rcases Nat.lt_or_ge ver q with k | k
   ·have:q=E.top n+1:=by omega
    subst this;exact ⟨_,EnvM.next_m _ _ _⟩
   ·rw[(EnvM.next_le E n _).m n q (by omega)];exact hheads q hq k,hlt',fun _=>⟨by
   simp only[a1i];refine ⟨b,es',clock',Os',e1,hself _,s1,s2,rfl,fun q hq => ?_⟩;obtain ⟨en,O2,k1,k2,k3,k4⟩:=s3 q hq;exact ⟨en,O2,k1,k2,k3,k4 _⟩,List.nodup_cons.2 ⟨fun hb=>hbO (q3m.2 (s4 b hb)),s5 (by
    have:=hTn;rw[q4w,List.nodup_cons] at this
    exact this.2)⟩,fun c hc=>hOF c (hsub c hc)⟩⟩ (fun c hc=>by cases hc) (fun c hc=>by
   have hc:c∈b::Os'.flatten:=hc
   exact ⟨hc,by simp,z2 c hc⟩)
 have c3:=c2.toU;obtain ⟨E2,_,hop⟩:=l1x (P:=cx.P) (W':=setB W b (.map es' clock')) (F2:=a0m F h E lent) (takes:=taken) (ls:=lent) (O':=b::Os'.flatten) cc.hr hT (fun q hq=>q3h _ hq) a1.2
  (fun q hq=>by
   rcases q3k.1 hq with rfl | hq
   ·exact .inr (by simp[a0g])
   ·exact .inl hq) (fun q hq hq'=>a3 q hq' q hq rfl) (hlat _) hframe (fun b hb => .inl hb) (fun c hc => .inl (hsub c hc)) hlt' (by simpa using hKn) c3
 refine ⟨_,_,hk,OpOk.skip (W':=setB W b (.map es' clock')) ?_ hop⟩;simp[execOp,ho,e1,hrun,Result.andThen]
end
end
section
section
variable {cx:Cx}{call:Oracle cx}{fx:Hints}{W W':World}{F F':Fz}{E E':EnvM}{h:Heap}{N:Nat->Prop}{ρ:Operand->V}{a:Act}{R:Type}
theorem argT {ts:Array TypeId}{s:Shp}(h:(ts[0]?).map cx.shp=some s):∃t,ts[0]? = some t/\cx.shp t=s:=by
 cases ht:ts[0]? with
 | none=>rw[ht] at h;cases h
 | some t=>rw[ht] at h;injection h with h;exact ⟨t,rfl,h⟩
theorem v1r {o:Oper}{cl:Go.Call}{b:Builtin}{k:V->Ups->Option R}{r:R}(cc:Ctx cx call W F E N h ρ a)(hK:KOk N h k)(ho:o.op = .call cl)(hc:cl.callee = .builtin b)
  (hk:x0m cx call fx h o b cl.argTypes (cl.args.toList.map ρ) k=some r):b0f cx W F E N h a o k r:=by
 unfold x0m at hk;split at hk
 ·rename_i c ha;split at hk
  ·rename_i s hs;exact op_len cc ho hc ha hs hk
  ·cases hk
 ·rename_i cs ha;split at hk
  ·rename_i n e hs;exact q2q cc ho hc ha hs hk
  ·cases hk
 ·rename_i kd m kd' n ha;exact op_min cc ho hc ha hk
 ·rename_i kd m kd' n ha;exact op_max cc ho hc ha hk
 ·rename_i kd m kd' n kd'' l ha;exact op_min3 cc ho hc ha hk
 ·rename_i kd m kd' n kd'' l ha;exact op_max3 cc ho hc ha hk
 ·rename_i s x ha;obtain ⟨p,q,hargs,hp,hq⟩:=args2 ha;split at hk
  ·rename_i et hs hz;split at hk
   case h_2=>cases hk
   rename_i e he;cases hw:i0m cx et e&&Nat.blt 0 (cx.bytes et) with
   | false=>rw[hw] at hk;cases hk
   | true =>
    rw[hw] at hk;obtain ⟨t,ht,hs'⟩:=argT hs;refine q2r (fx:=fx) cc hK ho hc hargs ht hs' hz he hw ?_;rw[hp,hq];exact hk
  ·cases hk
 ·rename_i d s ha;obtain ⟨p,q,hargs,hp,hq⟩:=args2 ha;split at hk
  ·rename_i et hs;split at hk
   case h_2=>cases hk
   rename_i e0 he;obtain ⟨t,ht,hs'⟩:=argT hs;exact op_copy cc ho hc hargs ht hs' he hp hq hk
  ·cases hk
 ·rename_i d ha;obtain ⟨p,hargs,hp⟩:=args1 ha;split at hk
  ·rename_i et hs;obtain ⟨t,ht,hs'⟩:=argT hs;split at hk
   ·exact d2o cc ho hc hargs ht hp ⟨_,f0f cc.tab hs'⟩ hk
   ·split at hk
    case h_2=>cases hk
    rename_i e0 he;exact op_clear cc ho hc hargs ht hs' he hp hk
  ·cases hk
 ·cases hk
theorem u2z {kind:Nat}{ty:Option Ty}{x y:V}{kk:Cell->Option R}{r:R}(h:binK kind ty .mul x y kk=some r):binK kind ty .mul y x kk=some r:=by
 unfold binK at h;split at h
 ·rename_i k a k' b;split at h
  ·rename_i hk;have:k=k':=hk.resolve_right (by decide);subst this;unfold binK;simp only[true_or,if_true];simp only[binI] at h ⊢;rw[Int.mul_comm];exact h
  ·cases h
 ·simp[binS] at h
 ·split at h
  ·rename_i heq;cases heq
  ·rename_i heq;cases heq
  ·cases h
 ·split at h
  ·rename_i heq _;cases heq
  ·rename_i heq _;cases heq
  ·cases h
theorem q1a {o:Oper}{k:V->Ups->Option R}{r:R}(cc:Ctx cx call W F E N h ρ a)(hfn:FnOk cx call)(hK:KOk N h k)(hk:evOp cx call fx o ρ h k=some r):b0f cx W F E N h a o k r:=by
 unfold evOp at hk;dsimp only at hk;split at hk
 ·rename_i x ho;exact q2o cc (.inl ho) hk
 ·rename_i x ho;exact q2o cc (.inr ho) hk
 ·rename_i z x y ho;split at hk
  ·rename_i b hz;exact op_pick cc ho hz hk
  ·cases hk
 ·rename_i t ho;split at hk
  ·rename_i e hs;exact d2r (fx:=fx) cc hK ho hs hk
  ·split at hk
   ·rename_i c ht;split at hk
    ·rename_i e z n hrow;cases hown:t1a fx o with
     | false=>rw[hown] at hrow;cases hrow
     | true=>rw[hown] at hrow;exact d2q (fx:=fx) cc hK ho ht hrow hk
    ·exact op_alloc (fx:=fx) cc hK ho ht hk
   ·cases hk
 ·rename_i t x ho;split at hk
  ·rename_i c ag cs ht hx;split at hk
   ·rename_i hl;exact op_box (fx:=fx) cc hK ho hx hl hk
   ·cases hk
  ·cases hk
 ·rename_i t ps ho;split at hk
  case h_2=>cases hk
  rename_i c ht;split at hk
  ·rename_i fs hs;split at hk
   ·rename_i cs hb hall;exact m1w cc ho ht hs hb hall hk
   ·cases hk
  ·rename_i n e hs;split at hk
   ·rename_i cs hb hall;exact d2p cc ho ht hs hb hall hk
   ·cases hk
  ·cases hk
 ·rename_i t n ps ho;split at hk
  case h_2=>cases hk
  rename_i et hs;split at hk
  case h_2=>cases hk
  rename_i e he;split at hk
  case h_2=>cases hk
  rename_i ls hp hw;split at hk
  case h_2=>cases hk
  rename_i xs lent hx;exact t1e (fx:=fx) cc hK ho hs he hp hw hx hk
 ·rename_i t x ho;split at hk
  ·rename_i c d ht hx;exact op_load cc.deRow ho ht hx hk
  ·cases hk
 ·rename_i t p x ho;split at hk
  ·rename_i c pc ag new ht hp hx;split at hk
   ·rename_i hw;exact op_store cc.deRow ho ht hp hx hw hk
   ·cases hk
  ·cases hk
 ·rename_i x ho;split at hk
  ·rename_i c hx;split at hk
   ·rename_i hn;exact d2m cc ho hx hn hk
   ·cases hk
  ·cases hk
 ·rename_i op t x y yt ho;cases hy:c1k y with
  | true=>rw[hy] at hk;exact op_nilSl cc ho hy hk
  | false =>
   rw[hy] at hk;simp only[cond_false] at hk;cases hz:l1b y with
   | true=>rw[hz] at hk;exact op_nilIf cc ho hz hk
   | false =>
   rw[hz] at hk;simp only[cond_false] at hk;cases hm:isMul op&&v2a y with
   | false=>rw[hm] at hk;exact g2x cc ho hk
   | true =>
    rw[hm] at hk;simp only[cond_true] at hk;rw[q1n] at hm;cases op<;>first | (exact absurd hm.1 (by decide)) | exact g2x cc ho (u2z hk)
 ·rename_i op t x ho;exact op_unOp cc ho hk
 ·rename_i s d x ho;split at hk
  ·rename_i k0 kd k1 n hs hd hx;exact l2j cc ho hs hd hx hk
  ·rename_i b hs hd hx;exact l2h cc ho hs hd hx hk
  ·rename_i et b hs hd hx;split at hk
   ·rename_i he;cases hown:t1a fx o with
    | true =>
     rw[hown] at hk;obtain ⟨hlen,hk⟩:=b0s hk;exact l2i cc hK ho hs hd he hx (of_decide_eq_true hlen) hk
    | false =>
     rw[hown] at hk;exact y1o cc ho hs hd he hx hk
   ·cases hk
  ·rename_i et c hs hd hx;split at hk
   ·rename_i he;exact t1c cc ho hs hd he hx hk
   ·cases hk
  ·cases hk
 ·rename_i f first caps ho
  split at hk
  ·rename_i t v lent h0 hc;exact d2n cc ho h0 hc hk
  ·cases hk
 ·rename_i t l c ho;split at hk
  case h_2=>cases hk
  rename_i et hs;split at hk
  case h_2=>cases hk
  rename_i e n m he hl hm;split at hk
  case h_2=>cases hk
  rename_i z hz hw;exact y1m (fx:=fx) cc hK ho hs he hl hm hz hw hk
 ·rename_i t x lo hi mx ho;split at hk
  ·rename_i hs;exact q2k cc ho hs hk
  ·rename_i et hs;split at hk
   ·rename_i ti hti;obtain ⟨ti',h1,_⟩:=(cc.tab et ti hti).info;exact q2m cc ho hs ⟨ti',h1⟩ hk
   ·cases hk
  ·rename_i n et hs;split at hk
   ·exact q2n cc ho hs hk
   ·exact q2l cc ho hs hk
  ·cases hk
 ·rename_i s x f ho;split at hk
  ·rename_i off ft c hf hx;cases hz:Nat.beq (cx.cells ft) 0 with
   | true=>rw[hz] at hk;cases hk
   | false =>
    rw[hz] at hk;simp only[cond_false] at hk;split at hk
    ·exact v0t cc ho hf hx hz rfl hk
    ·exact v0t cc ho hf hx hz rfl hk
    ·exact v0t cc ho hf hx hz rfl hk
    ·cases hk
  ·cases hk
 ·rename_i s x f ho;split at hk
  ·rename_i off ft cs hf hx;split at hk
   case h_2=>cases hk
   rename_i c hc;split at hk
   ·rename_i cs' hcut;exact op_field cc ho hf hx hc hcut hk
   ·cases hk
  ·cases hk
 ·rename_i t x i ho;split at hk
  ·rename_i n hi;exact y1n cc.deRow ho (z1h hi) hk
  ·cases hk
 ·rename_i t x i ho;split at hk
  ·rename_i n hi;exact op_index cc ho hi hk
  ·cases hk
 ·rename_i x i ho;split at hk
  ·rename_i vs hx;split at hk
   ·rename_i ag cs hi;exact l2g cc ho hx hi hk
   ·cases hk
  ·cases hk
 ·rename_i t ho;split at hk
  ·rename_i kt e ht;exact l2f (fx:=fx) cc hK ho hk
  ·cases hk
 ·rename_i t x i ho;split at hk
  case h_2=>cases hk
  rename_i kt et n v0 kc key hs hx hi;split at hk
  case h_2=>cases hk
  rename_i ver n' base top ck e xs hn;split at hk
  case isFalse=>cases hk
  rename_i hcond;obtain ⟨rfl,hb1,hb2,rfl⟩:=hcond;split at hk
  case h_2=>cases hk
  rename_i key' hce;obtain ⟨ex,rfl⟩:=b0g hce;subst ex;obtain ⟨hm,hk⟩:=b0s hk;simp only[q1n] at hm;exact q2p cc hK ho hs hx hi hn hb1 hb2 hm.1 hm.2 hk
 ·rename_i t m i v ho;split at hk
  case h_2=>cases hk
  rename_i kt et n v0 kc key c hs hx hi hv;split at hk
  case h_2=>cases hk
  rename_i ver n' base top ck e xs hn;split at hk
  case isFalse=>cases hk
  rename_i hcond;obtain ⟨rfl,hb1,hb2,rfl⟩:=hcond;split at hk
  case h_2=>cases hk
  rename_i key' hce;obtain ⟨ex,rfl⟩:=b0g hce;subst ex;obtain ⟨hm,hk⟩:=b0s hk;simp only[q1n,Bool.not_eq_true'] at hm;cases hp:e0x cx call h e [c] with
  | none=>rw[hp] at hk;cases hk
  | some y =>
   rw[hp] at hk;simp only[q3l] at hk;obtain ⟨y1,y2,y3,y4⟩:=y;dsimp only at hk;cases y2 with
   | cons=>cases hk
   | nil =>
   obtain ⟨hap,hk2⟩:=b0s hk;exact y1l cc hK ho hs hx hi hv hn hb1 hb2 hm.1 (q3u hm.2.1) hm.2.2 hp hap hk2
 ·rename_i c ho;split at hk
  ·rename_i b hc;exact v1r (fx:=fx) cc hK ho hc hk
  ·rename_i f hc;split at hk
   ·rename_i e he;exact op_ext cc ho hc he hk
   ·exact op_call (fx:=fx) cc hfn hK ho hc hk
  ·rename_i z hc;split at hk
   ·rename_i c' hz;exact op_callV cc ho ‹_› hz hk
   ·cases hk
  ·cases hk
 ·cases hk
theorem h2y {o:Oper}{k:V->Ups->Option R}{r:R}{ρ:Operand->V}{h:Heap}(hk:evOp cx call fx o ρ h k=some r)(rd:Option Nat)(e:Operand->Value):o.semAt rd e=execOp e o:=by
 refine Oper.semAt_eq rd e o fun c hc => ?_
 unfold evOp at hk;rw[hc] at hk;cases hk
end
end
section
structure Slots where
 nt:Nat
 K:List Nat
 kv:Nat->Value
 I:EnvM->Prop
 up:∀E E',I E->EnvLe E E'->I E'
 md:Bool
def Slots.may (S:Slots)(d:Nat):Prop:=d<S.nt/\d ∉ S.K
structure DefOk (n0:Nat)(W:World)(F:Fz)(live:Nat->Prop)(ds:List Deferred):Prop where
 nodup:ds.Nodup
 at_:∀d∈ds,∃D,d = { target := .collected D,args := #[] }/\W.heap[D]? = some (.deferred (some []))/\n0<=D/\¬F D/\¬live D
theorem DefOk.nil {n0:Nat}{W:World}{F:Fz}{live:Nat->Prop}:DefOk n0 W F live []:=⟨List.nodup_nil,fun d hd=>by cases hd⟩
theorem DefOk.turn {n0:Nat}{W W':World}{F F':Fz}{live live':Nat->Prop}{ds:List Deferred}(h:DefOk n0 W F live ds)
  (hs:∀D,D<W.heap.size->n0<=D->¬F D->¬live D->W.heap[D]? = some (.deferred (some []))->W'.heap[D]? = W.heap[D]? /\ ¬F' D/\¬live' D):DefOk n0 W' F' live' ds :=
 ⟨h.nodup,fun d hd=>by
  obtain ⟨D,h1,h2,h3,h4,h5⟩:=h.at_ d hd;obtain ⟨k1,k2,k3⟩:=hs D (Array.getElem?_eq_some_iff.1 h2).1 h3 h4 h5 h2
  exact ⟨D,h1,k1.trans h2,h3,k2,k3⟩⟩
section
variable {cx:Cx}{call:Oracle cx}{fx:Hints}{W0 W W':World}{F0 F F':Fz}{O0:List Nat}{E E':EnvM}{h:Heap}{ρ:Operand->V}{a:Act}{R:Type}{nt:Slots}{st:St}
structure StRel (cx:Cx)(W0:World)(F0:Fz)(O0:List Nat)(nt:Slots)(st:St)(a:Act)(W:World)(F:Fz)(E:EnvM):Prop where
 hr:HR cx.P W F E (fun _=>True) st.h
 hF:∀b,F b->b<W.heap.size
 t:∀s,RdV cx.P W F E (getT st.t s) (a.tmps.getD s undef)
 later:Later W0 F0 W F
 frame:∀b,b<W0.heap.size->b ∉ O0->W.heap[b]? = W0.heap[b]?
 own:∀b,a0w st.h E b->b∈O0\/W0.heap.size<=b
 fz:∀b,F b->F0 b\/b∈O0\/W0.heap.size<=b
 size:a.tmps.size=nt.nt
 keep:∀i∈nt.K,a.tmps.getD i undef=nt.kv i
 defers:(nt.md=false->a.defers=[])/\DefOk W0.heap.size W F (a0w st.h E) a.defers
 env:nt.I E
theorem g1l {P:Program}{N:World}(v:Value)(h1:v.oneCell'=true):c0x P N F E (c1w v) v:=by
 unfold c1w;split
 ·exact ⟨rfl,rfl,rfl⟩
 ·exact ⟨rfl,rfl,rfl⟩
 ·exact ⟨rfl,rfl,by simp[Rd,RdP]⟩
 ·exact rfl
 ·exact ⟨none,rfl⟩
 ·exact rfl
 ·exact ⟨rfl,rfl,.nilIface,rfl,rfl,fun _=>rfl,fun e=>by cases e⟩
 ·exact rfl
 ·trivial
theorem t2w {P:Program}(v:Value):RdV P W F E (i2e v) v:=by
 unfold i2e;split
 ·rename_i cs;cases h':cs.toList.all (·.oneCell') with
  | false=>exact trivial
  | true =>
   refine ⟨⟨by simp[Value.cells],fun j c u hj hu => ?_⟩,fun _=>⟨cs,rfl⟩,fun e=>by cases e⟩;simp only[Value.cells] at hu;rw[q4c,hu] at hj;simp at hj;subst hj;have h1:u.oneCell'=true:=by
    rw[List.all_eq_true] at h';exact h' u (q3y hu)
   exact ⟨g1l u h1,h1⟩
 ·exact trivial
 ·cases h':v.oneCell' with
  | false=>exact trivial
  | true=>exact RdV.mk1 (g1l v h') h'
theorem e1o (hg:GlobOk cx W F)(ht:∀s,RdV cx.P W F E (getT st.t s) (a.tmps.getD s undef))(x:Operand):RdV cx.P W F E (opnd cx st x) (a.eval x):=by
 cases x with
 | tmp t=>exact ht t
 | const v=>exact t2w v
 | global g =>
  show RdV cx.P W F E (match cx.glob g with | some x => .v false [.pin x.1 x.2 0] | none => .lost) (.pointer (some ⟨g,0,none⟩));cases h:cx.glob g with
  | none=>exact trivial
  | some x =>
   obtain ⟨h1,h2⟩:=hg.val g x.1 x.2 h;exact RdV.mk1 ⟨g,0,rfl,h1,h2⟩ rfl
 | func f=>exact RdV.mk1 ⟨#[],rfl,rfl⟩ rfl
theorem StRel.ctx (hc:CallSound cx call W0 F0)(tab:i0f cx)(hs:StRel cx W0 F0 O0 nt st a W F E):Ctx cx call W F E (fun _=>True) st.h (opnd cx st) a :=
 ⟨hc.later hs.later,tab,hs.hr,e1o (hc.glob.later hs.later) hs.t,hs.hF⟩
theorem i1j {dst:Option Nat}{v:Value}(hd:∀d,dst=some d->d<a.tmps.size)(s:Nat) :
  (a.put dst v).tmps.getD s undef=if dst=some s then v else a.tmps.getD s undef:=by
 cases dst with
 | none=>simp[Act.put]
 | some d =>
  have:=hd d rfl;simp only[Act.put,q3t,Array.getElem?_setIfInBounds,Option.some.injEq];by_cases e:d=s
  ·subst e;simp[this]
  ·simp[e]
theorem x0e {t:List (Nat×V)}{dst:Option Nat}{x:V}(s:Nat):getT (putV t dst x) s=if dst=some s then x else getT t s:=by
 cases dst with
 | none=>simp[putV]
 | some d =>
  simp only[putV,getT,Option.some.injEq];by_cases e:d=s
  ·subst e;simp
  ·have:Nat.beq d s=false:=by
    cases hb:Nat.beq d s with
    | false=>rfl
    | true=>exact absurd (q3u hb) e
   simp[this,e]
theorem g2q (dst:Option Nat)(v:Value):(a.put dst v).tmps.size=a.tmps.size:=by
 cases dst<;>simp[Act.put]
theorem put_defers (dst:Option Nat)(v:Value):(a.put dst v).defers=a.defers:=by
 cases dst<;>simp[Act.put]
theorem t2r {o:Oper}(h:(match o.dst with | some d=>Nat.blt d nt.nt && !hasN nt.K d | none=>true)=true)(d:Nat)(e:o.dst=some d):nt.may d:=by
 rw[e] at h;simp only[q1n,Bool.not_eq_true'] at h;refine ⟨by simpa [Nat.blt_eq] using h.1,fun k => ?_⟩;rw[c0w.2 k] at h;exact absurd h.2 (by simp)
theorem StRel.step {dst:Option Nat}{v:Value}{x:V}{u:Ups}(hs:StRel cx W0 F0 O0 nt st a W F E)(hd:∀d,dst=some d->nt.may d)(hp:OpPost cx.P W F E (fun _=>True) st.h W' F' E' u)(hv:RdV cx.P W' F' E' x v) :
  StRel cx W0 F0 O0 nt { t:=putV st.t dst x,h:=a0x st.h u } (a.put dst v) W' F' E':=by
 have old:∀m b,atName st.h E m b->b∈O0\/W0.heap.size<=b:=fun m b hat=>hs.own b ⟨m,hat⟩
 have hsz:W0.heap.size<=W.heap.size:=hs.later.size;refine ⟨hp.hr,fun b hb => ?_,fun s => ?_,hs.later.trans hp.later,fun b hb hO => ?_,fun b hb => ?_,fun b hb => ?_,by rw[g2q];exact hs.size,fun i hi => ?_,by
  rw[put_defers];refine ⟨hs.defers.1,hs.defers.2.turn fun D hD _ hF hL _=>⟨hp.frame D hD fun n _ hat=>hL ⟨n,hat⟩,fun hf => ?_,fun ⟨m,hat⟩ => ?_⟩⟩
  ·rcases hp.fz D hf with k | ⟨n,_,k⟩ | k
   ·exact hF k
   ·exact hL ⟨n,k⟩
   ·omega
  ·by_cases hm:m∈a0g u
   ·rcases hp.own m D hm hat with ⟨n,_,k⟩ | k
    ·exact hL ⟨n,k⟩
    ·omega
   ·have:atName st.h E' m D:=by
     obtain ⟨ver,B,L,h1,h2⟩:=hat;exact ⟨ver,B,L,by rw[<-b0o u st.h m hm];exact h1,h2⟩
    exact hL ⟨m,(s0g hp.env hs.hr).1 this⟩,nt.up _ _ hs.env hp.env⟩
 ·rcases hp.fz b hb with k | ⟨n,_,k⟩ | k
  ·exact q4o (hs.hF b k) hp.later.size
  ·exact q4o (hs.hr.lt b ⟨n,k⟩) hp.later.size
  ·exact k.2
 ·rw[i1j (fun d h=>by rw[hs.size];exact (hd d h).1),x0e];split
  ·exact hv
  ·exact (hs.t s).later hp.later hp.env
 ·rw[hp.frame b (by omega) (fun n _ hat => ?_)]
  ·exact hs.frame b hb hO
  ·rcases old n b hat with k | k
   ·exact hO k
   ·omega
 ·obtain ⟨m,hat⟩:=hb;by_cases hm:m∈a0g u
  ·rcases hp.own m b hm hat with ⟨n,_,k⟩ | k
   ·exact old n b k
   ·exact .inr (by omega)
  ·have:atName st.h E' m b:=by
    obtain ⟨ver,B,L,h1,h2⟩:=hat;exact ⟨ver,B,L,by rw[<-b0o u st.h m hm];exact h1,h2⟩
   exact old m b ((s0g hp.env hs.hr).1 this)
 ·rcases hp.fz b hb with k | ⟨n,_,k⟩ | k
  ·exact hs.fz b k
  ·exact .inr (old n b k)
  ·exact .inr (.inr (by omega))
 ·rw[i1j (fun d h=>by rw[hs.size];exact (hd d h).1),q0n (fun e=>(hd i e).2 hi)];exact hs.keep i hi
theorem StRel.skip {dst:Option Nat}(hs:StRel cx W0 F0 O0 nt st a W F E)(hd:∀d,dst=some d->nt.may d):StRel cx W0 F0 O0 nt { st with t:=putV st.t dst .undef } (a.put dst undef) W F E :=
 hs.step (u:=[]) hd (OpPost.refl hs.hr) rfl
theorem o1i {g:Nat}{b:Bool}(h:a.tmps.getD g undef = .bool b):a.tmps[g]? = some (.bool b):=by
 rw[q3t] at h;cases hg:a.tmps[g]? with
 | none=>rw[hg] at h;cases h
 | some v=>rw[hg] at h;simp at h;rw[h]
theorem guard_rd {ops:List Oper}{o:Oper}{k:Bool->St->Option R}{r:R}(ht:∀s,RdV cx.P W F E (getT st.t s) (a.tmps.getD s undef))(hk:p1s ops o st k=some r) :
  ∃run st',k run st'=some r/\Region.wanted o (yielded ops.toArray a.tmps)=run/\st'.h=st.h/\∀s,getT st'.t s=getT st.t s:=by
 unfold p1s at hk;split at hk
 ·rename_i hg;exact ⟨true,st,hk,by simp[Region.wanted,hg],rfl,fun _=>rfl⟩
 ·rename_i j want hg;split at hk
  ·cases hk
  rename_i g hj;have hj':((ops.toArray)[j]?).bind (·.dst)=some g:=by simpa using hj
  split at hk
  ·rename_i b hb;have hv:=ht g;rw[hb] at hv;have hv:=o1i (z0m hv);have same:∀s,getT ((g,V.v false [Cell.val .bool b])::st.t) s=getT st.t s:=by
    intro s;simp only[getT];cases hbe:Nat.beq g s with
    | false=>rfl
    | true=>rw[<-q3u hbe,hb];rfl
   cases b with
   | true=>exact ⟨want,_,hk,by simp only[Region.wanted,hg,yielded,hj',q3l,hv];cases want<;>rfl,rfl,same⟩
   | false=>exact ⟨!want,_,hk,by simp only[Region.wanted,hg,yielded,hj',q3l,hv];cases want<;>rfl,rfl,same⟩
  ·rename_i hb;have hv:=ht g;rw[hb] at hv;have hv:a.tmps.getD g undef=undef:=hv;refine ⟨false,st,hk,?_,rfl,fun _=>rfl⟩;simp only[Region.wanted,hg,yielded,hj',q3l];rw[q3t] at hv;cases hgt:a.tmps[g]? with
   | none=>cases want<;>rfl
   | some v =>
    rw[hgt] at hv;simp at hv;subst hv;cases want<;>rfl
  ·cases hk
theorem StRel.guard {st':St}(hs:StRel cx W0 F0 O0 nt st a W F E)(h1:st'.h=st.h)(h2:∀s,getT st'.t s=getT st.t s):StRel cx W0 F0 O0 nt st' a W F E :=
 ⟨by rw[h1];exact hs.hr,hs.hF,fun s=>by rw[h2];exact hs.t s,hs.later,hs.frame,by rw[h1];exact hs.own,hs.fz,hs.size,hs.keep,by rw[h1];exact hs.defers,hs.env⟩
theorem all_iff {u:Ups}{n:Nat}(h:u.all (fun x=>Nat.blt x.1 n)=true):∀m∈a0g u,m<n:=by
 intro m hm;simp only[a0g,q4g] at hm;obtain ⟨x,hx,rfl⟩:=hm;rw[List.all_eq_true] at h;have:=h x hx
 simpa [Nat.blt_eq] using this
def InOk (cx:Cx)(call:Oracle cx):Prop :=
 ∀(R:Type) (f:FuncId) (us:List V) (h:Heap) (nm:Nat) (k:V->Heap->Option R) (r:R),call.inl R f us h nm k=some r->(∃s,cx.sig f=some s) /\
  ∀(W:World) (F:Fz) (E:EnvM) (vs:List Value),GlobOk cx W F->(∀b,F b->b<W.heap.size)->HR cx.P W F E (fun _=>True) h->us.length=vs.length->(∀(i:Nat) p u,us[i]? = some p->vs[i]? = some u->RdV cx.P W F E p u) ->
   Calls cx.P f vs.toArray W fun e W'=>∃v F' E' x h',e = .returned v/\k x h'=some r/\HR cx.P W' F' E' (fun _=>True) h'/\RdV cx.P W' F' E' x v/\Later W F W' F'/\EnvLe E E'/\(∀b,F' b->b<W'.heap.size) /\
    (∀b,b<W.heap.size->¬a0w h E b->W'.heap[b]? = W.heap[b]?)/\(∀b,a0w h' E' b->a0w h E b\/W.heap.size<=b)/\(∀b,F' b->F b\/a0w h E b\/W.heap.size<=b)
theorem s2b (hc:CallSound cx call W0 F0)(hin:InOk cx call){o:Oper}{f:FuncId}{nm:Nat}{k:V->Heap->Option R}{r:R}(hf:inlOf cx o=some f)(hs:StRel cx W0 F0 O0 nt st a W F E)(hd:∀d,o.dst=some d->nt.may d)
  (hk:call.inl R f ((i1t o).toList.map (opnd cx st)) st.h nm k=some r) {rd:Option Nat} {next:Act->World->Prop} {Q:Exit->Act->World->Prop}
  (hQ:∀x h' v W' F' E',k x h'=some r->StRel cx W0 F0 O0 nt { t:=putV st.t o.dst x,h:=h' } (a.put o.dst v) W' F' E'->next (a.put o.dst v) W'):o.wpIn (Rnd rd) 0 cx.P a W next Q:=by
 unfold inlOf at hf;split at hf
 case h_2=>cases hf
 rename_i c ho;split at hf
 case h_2=>cases hf
 rename_i f' hcal;cases hif:cx.inl f' with
 | false=>rw[hif] at hf;cases hf
 | true =>
 rw[hif] at hf;simp only[cond_true,Option.some.injEq] at hf;subst hf;have hargs:i1t o=c.args:=by unfold i1t;rw[ho]
 rw[hargs] at hk;obtain ⟨⟨s,hsig⟩,hcalls⟩:=hin _ _ _ _ _ _ _ hk;obtain ⟨fn,hf1,hf2,hf3⟩:=hc.fns.plain f' s hsig;have hglob:=hc.glob.later hs.later;have hcalls:=hcalls W F E (c.args.toList.map a.eval) hglob hs.hF hs.hr (by simp) (fun i p u hp hu=>by
  rw[q4c] at hp hu;cases hx:c.args.toList[i]? with
  | none=>rw[hx] at hp;cases hp
  | some y =>
   rw[hx] at hp hu;simp only[Option.map_some,Option.some.injEq] at hp hu;subst hp;subst hu
   exact e1o hglob hs.t y)
 have hsem:o.semAt rd a.eval=execOp a.eval o:=Oper.semAt_eq rd a.eval o fun c' hc'=>by rw[ho] at hc';cases hc'
 have hrun:(execOp a.eval o).run cx.P W = .ok (.enter f' (c.args.toList.map a.eval).toArray) W:=by
  have e1:(c.args.toList.map a.eval).toArray=c.args.map a.eval:=by
   apply Array.ext';simp
  rw[e1];have hf3':fn.body≠none:=fun e=>by rw[e] at hf3;cases hf3
  have hf2' : ¬ fn.name = "runtime.NumGoroutine" := by simpa using hf2
  simp[execOp,ho,resolve,hcal,Deferred.ofValue,Act.eval,invoke,callFunc,hf1,hf2',hf3']
 refine ⟨fun _ _=>trivial,?_⟩;rw[show (Rnd rd).round=rd from rfl,hsem,hrun,Oper.uponIn_enter];refine ⟨(fun k=>by cases k),d1b (Calls.mono hcalls fun e W' hpost => ?_)⟩;obtain ⟨v,F',E',x,h',rfl,hku,hr,hv,hl,hE,hF,hframe,hown,hfz⟩:=hpost;have hsz:W0.heap.size<=W.heap.size:=hs.later.size;refine hQ x h' v W' F' E' hku ⟨hr,hF,fun s => ?_,hs.later.trans hl,fun b hb hO => ?_,fun b hb => ?_,fun b hb => ?_,by rw[g2q];exact hs.size,fun i hi => ?_,by
  rw[put_defers];refine ⟨hs.defers.1,hs.defers.2.turn fun D hD _ hFD hL _=>⟨hframe D hD hL,fun hf => ?_,fun hat => ?_⟩⟩
  ·rcases hfz D hf with k | k | k
   ·exact hFD k
   ·exact hL k
   ·omega
  ·rcases hown D hat with k | k
   ·exact hL k
   ·omega,nt.up _ _ hs.env hE⟩
 ·rw[i1j (fun d h=>by rw[hs.size];exact (hd d h).1),x0e];split
  ·exact hv
  ·exact (hs.t s).later hl hE
 ·rw[hframe b (by omega) (fun hat => ?_)]
  ·exact hs.frame b hb hO
  ·rcases hs.own b hat with k | k
   ·exact hO k
   ·omega
 ·rcases hown b hb with k | k
  ·exact hs.own b k
  ·exact .inr (by omega)
 ·rcases hfz b hb with k | k | k
  ·exact hs.fz b k
  ·exact .inr (hs.own b k)
  ·exact .inr (.inr (by omega))
 ·rw[i1j (fun d h=>by rw[hs.size];exact (hd d h).1),q0n (fun e=>(hd i e).2 hi)];exact hs.keep i hi
theorem e2v (hc:CallSound cx call W0 F0)(tab:i0f cx)(hfn:FnOk cx call)(hin:InOk cx call)(all:List Oper)(rd:Option Nat)(Q:Exit->Act->World->Prop):∀(ops:List Oper) (i:Nat) (st:St) (a:Act) (W:World) (F:Fz) (E:EnvM) (k:St->Option R) (r:R),
  all.drop i=ops->z1w nt.nt nt.K ops=true->StRel cx W0 F0 O0 nt st a W F E->m2t cx call fx all ops st k=some r ->
  (∀st' a' W' F' E',k st'=some r->StRel cx W0 F0 O0 nt st' a' W' F' E'->Q .normal a' W')->wpOpsIn (Rnd rd) 0 cx.P all.toArray Q (List.range' i ops.length) a W:=by
 intro ops;induction ops with
 | nil =>
  intro i st a W F E k r _ _ hs hk hQ;exact hQ st a W F E hk hs
 | cons o rest ih =>
  intro i st a W F E k r hdrop hd hs hk hQ;have hget:all[i]? = some o:=by
   have:(all.drop i)[0]? = some o:=by rw[hdrop];rfl
   rw[q4j] at this
   simpa using this
  have hdrop':all.drop (i+1)=rest:=by rw[<-List.tail_drop,hdrop];rfl
  simp only[z1w,List.all_cons,q1n] at hd;obtain ⟨hd1,hd2⟩:=hd;have hdst:∀d,o.dst=some d->nt.may d:=fun d e=>t2r hd1 d e
  simp only[q3i,List.range'_succ];simp only[m2t] at hk;obtain ⟨run,st1,hk1,hwant,he1,he2⟩:=guard_rd hs.t hk;have hs1:=hs.guard he1 he2;have hg:(all.toArray)[i]? = some o:=by simpa using hget
  simp only[wpOpsIn,hg];cases run with
  | true =>
   simp only[hwant,if_true];dsimp only at hk1;split at hk1
   ·rename_i f hf;exact s2b hc hin hf hs1 hdst hk1 fun x h' v W' F' E' hku hs'=>ih (i+1) _ _ W' F' E' k r hdrop' hd2 hs' hku hQ
   have hsem:=h2y hk1;have hsound:=q1a (fx:=fx) (hs1.ctx hc tab) hfn (o:=o) (r:=r) ?_ hk1
   ·obtain ⟨x,u,hku,hok⟩:=hsound;dsimp only at hku;split at hku
    case h_2=>cases hku
    refine hok rd _ _ (hsem rd _) fun v W' F' E' hp hv => ?_
    exact ih (i+1) _ _ W' F' E' k r hdrop' hd2 (hs1.step hdst hp hv) hku hQ
   ·intro x u r' hku n hn;dsimp only at hku;split at hku
    case h_2=>cases hku
    rename_i hall;exact ⟨trivial,all_iff hall n hn⟩
  | false =>
   simp only[hwant,Bool.false_eq_true,if_false];exact ⟨fun _ _=>trivial,ih (i+1) _ _ W F E k r hdrop' hd2 (hs1.skip hdst) hk1 hQ⟩
end
end
section
section
variable {cx:Cx}{call:Oracle cx}{fx:Hints}{h:Heap}{ρ:Operand->V}{R:Type}
theorem i1u {α β:Type}(o:Option α)(f:α->Option R)(f':α->Option β)(g:β->Option R)(h:∀x,f x=(f' x).bind g):o.bind f=(o.bind f').bind g:=by cases o<;>simp[h]
theorem via {α β:Type}(o:Option α){A:Option R}{B:Option β}{k:α->Option R}{k':α->Option β}{g:β->Option R}(h1:A=o.bind k)(h2:B=o.bind k')(h3:∀x,k x=(k' x).bind g):A=B.bind g:=by
 rw[h1,h2];exact i1u o k k' g h3
theorem d0m (b:Bool)(o:Option R){α:Type}(f:α->Option R)(p:Option α)(hp:o=p.bind f):must b o=(must b p).bind f:=by
 cases b<;>simp[must,hp]
theorem d1a {α:Type}(b:Bool)(o o':Option R){p p':Option α}{g:α->Option R}(h:o=p.bind g)(h':o'=p'.bind g):(bif b then o else o')=(bif b then p else p').bind g:=by cases b<;>assumption
theorem rowK_nat {α:Type}{e:Ty}{xs:List (El e)}:∀(n j:Nat) (k:List Cell->Option R) (f:List Cell->Option α) (g:α->Option R),(∀c,k c=(f c).bind g)->rowK e xs n j k=(rowK e xs n j f).bind g:=by
 intro n;induction n with
 | zero=>intro j k f g h;exact h []
 | succ n ih =>
  intro j k f g h;unfold rowK;exact i1u _ _ _ _ fun y=>ih _ _ _ _ fun c=>h _
theorem y1u (w:Nat)(c:Cell)(k:List Cell->Option R):t1l h w c k=(t1l h w c some).bind k:=by
 unfold t1l;split
 ·split
  ·split
   ·split<;>rfl
   ·rfl
  ·rfl
 ·split<;>rfl
 ·split
  ·split
   ·refine d1a _ _ _ ?_ ?_
    ·refine i1u _ _ _ _ fun y => ?_
     split<;>rfl
    ·refine d1a _ _ _ ?_ rfl;rw[c2s,c2s];exact rowK_nat _ _ _ _ _ fun c=>d1a _ _ _ rfl rfl
   ·rfl
  ·rfl
 ·rfl
theorem o1m (c:Cell)(new:List Cell)(k:Ups->Option R):o1n cx call h c new k=(o1n cx call h c new some).bind k:=by
 unfold o1n;split
 ·split
  ·split
   ·split<;>rfl
   ·rfl
  ·rfl
 ·split
  ·split
   ·refine d1a _ _ _ ?_ ?_
    ·refine i1u _ _ _ _ fun y => ?_
     split
     ·split
      ·split<;>rfl
      ·rfl
     ·rfl
    ·refine d1a _ _ _ ?_ rfl;split
     ·refine d0m _ _ _ _ ?_;split<;>rfl
     ·rfl
   ·rfl
  ·rfl
 ·rfl
theorem x0n (e:Ty)(c:Cell)(k:List (El e)->Option R):arrK cx call h e c k=(arrK cx call h e c some).bind k:=by
 unfold arrK;split<;>rfl
theorem h2m (s:Shp)(c:Cell)(k:Nat->Option R):lenK h s c k=(lenK h s c some).bind k:=by
 unfold lenK;split
 ·split<;>rfl
 ·split
  ·rfl
  ·rfl
  ·split
   ·split<;>rfl
   ·rfl
  ·rfl
  ·rfl
 ·rfl
theorem x0f (i:Int){α:Type}(k:Nat->Option R)(f:Nat->Option α)(g:α->Option R)(hk:∀j,k j=(f j).bind g):∀n j,v0o i n j k=(v0o i n j f).bind g:=by
 intro n;induction n with
 | zero=>intro j;rfl
 | succ n ih =>
  intro j;simp only[v0o];cases decide (i=(j:Int)) with
  | true=>exact hk j
  | false=>exact ih _
theorem k0d {α:Type}(b:Bool)(o:Option R)(p:Option α)(g:α->Option R)(h:o=p.bind g):(bif b then o else none)=(bif b then p else none).bind g:=by cases b<;>simp[h]
theorem y0s (t:TypeId)(x:V)(i:Int)(k:Cell->Option R):n0t cx h t x i k=(n0t cx h t x i some).bind k:=by
 unfold n0t;split
 ·cases Nat.beq _ 0 with
  | true=>rfl
  | false =>
   simp only[cond_false];split
   ·refine x0f _ _ _ _ ?_ _ _;intro _;rfl
   ·split
    ·cases at? _ i<;>rfl
    ·refine x0f _ _ _ _ ?_ _ _;intro _;rfl
   ·split
    ·exact d0m _ _ _ _ rfl
    ·refine x0f _ _ _ _ ?_ _ _;intro _;rfl
   ·rfl
 ·split
  ·refine k0d _ _ _ _ ?_;cases at? _ i<;>rfl
  ·split
   ·split
    ·refine k0d _ _ _ _ ?_;cases at? _ i<;>rfl
    ·rfl
   ·rfl
  ·split
   ·split
    ·refine k0d _ _ _ _ ?_;cases at? _ i<;>rfl
    ·rfl
   ·rfl
  ·rfl
 ·rfl
theorem p1o (t:TypeId)(x:V)(i:Int)(k:V->Option R):p1p cx t x i k=(p1p cx t x i some).bind k:=by
 unfold p1p;split
 ·split
  ·split
   ·cases at? _ i<;>rfl
   ·refine x0f _ _ _ _ (fun j => ?_) _ _;split<;>rfl
  ·rfl
 ·cases at? _ i<;>rfl
 ·rfl
theorem o2e (n l:Nat)(hi:Option V){α:Type}(k:Nat->Nat->Option R)(f:Nat->Nat->Option α)(g:α->Option R)(hk:∀i j,k i j=(f i j).bind g):upK n l hi k=(upK n l hi f).bind g:=by
 unfold upK;split
 ·exact d0m _ _ _ _ (hk _ _)
 ·split
  ·exact d0m _ _ _ _ (hk _ _)
  ·rfl
theorem j0c (n:Nat)(lo hi:Option V){α:Type}(k:Nat->Nat->Option R)(f:Nat->Nat->Option α)(g:α->Option R)(hk:∀i j,k i j=(f i j).bind g):m0n n lo hi k=(m0n n lo hi f).bind g:=by
 unfold m0n;split
 ·exact o2e _ _ _ _ _ _ hk
 ·split
  ·exact d0m _ _ _ _ (o2e _ _ _ _ _ _ hk)
  ·rfl
theorem o1u (et:TypeId)(x:V)(lo hi mx:Option V)(k:Cell->Option R):o1v cx h et x lo hi mx k=(o1v cx h et x lo hi mx some).bind k:=by
 unfold o1v;split
 ·split
  ·split
   ·rfl
   ·rfl
   ·split
    ·split<;>rfl
    ·rfl
   ·rfl
  ·rfl
 ·split
  ·exact k0d _ _ _ _ (j0c _ _ _ _ _ _ fun _ _=>rfl)
  ·exact j0c _ _ _ _ _ _ fun _ _=>rfl
  ·split
   ·split
    ·exact k0d _ _ _ _ (j0c _ _ _ _ _ _ fun _ _=>rfl)
    ·rfl
   ·rfl
  ·split
   ·split
    ·exact k0d _ _ _ _ (j0c _ _ _ _ _ _ fun _ _=>rfl)
    ·rfl
   ·rfl
  ·rfl
theorem o1s (n:Nat)(et:TypeId)(x:V)(lo hi mx:Option V)(k:Cell->Option R):o1t cx h n et x lo hi mx k=(o1t cx h n et x lo hi mx some).bind k:=by
 unfold o1t;split
 ·split
  ·split
   ·exact k0d _ _ _ _ (d0m _ _ _ _ (j0c _ _ _ _ _ _ fun _ _=>rfl))
   ·rfl
  ·rfl
 ·rfl
theorem j2v (n:Nat)(et:TypeId)(x:V)(lo hi mx:Option V){α:Type}(k:Cell->Ups->Option R)(f:Cell->Ups->Option α)(g:α->Option R)(hk:∀c u,k c u=(f c u).bind g):sliceB cx h n et x lo hi mx k=(sliceB cx h n et x lo hi mx f).bind g:=by
 unfold sliceB;split
 ·split
  ·split
   ·split
    ·exact j0c _ _ _ _ _ _ fun _ _=>hk _ _
    ·rfl
   ·rfl
  ·rfl
 ·rfl
theorem o1q (x:V)(lo hi mx:Option V)(k:Cell->Option R):o1r x lo hi mx k=(o1r x lo hi mx some).bind k:=by
 unfold o1r;split
 ·exact j0c _ _ _ _ _ _ fun _ _=>rfl
 ·rfl
theorem m1e (o:Oper)(e:Ty)(bytes:Nat)(s x:V)(k:Cell->Ups->Option R):f1n cx call fx h o e bytes s x k=(f1n cx call fx h o e bytes s x fun c u=>some (c,u)).bind fun p=>k p.1 p.2:=by
 have news:∀ {α:Type} (kk:List (El e)->Option R) (f:List (El e)->Option α) (g:α->Option R),(∀ys,kk ys=(f ys).bind g) ->
   (match x with
   | .v false [.val .str b]=>match d0b (a := .slice (.int .u8)) (b := .slice e) ((b:List UInt8).map fun (c:UInt8)=>(c.toNat:Int)) with | some y=>kk y | none=>none
   | .v false [c]=>arrK cx call h e c kk
   | _=>none) =
   (match x with
   | .v false [.val .str b]=>match d0b (a := .slice (.int .u8)) (b := .slice e) ((b:List UInt8).map fun (c:UInt8)=>(c.toNat:Int)) with | some y=>f y | none=>none
   | .v false [c]=>arrK cx call h e c f
   | _=>none).bind g:=by
  intro α kk f g hk;split
  ·split
   ·exact hk _
   ·rfl
  ·rw[x0n,x0n e _ f];cases arrK cx call h e _ some with
   | none=>rfl
   | some ys=>exact hk ys
  ·rfl
 unfold f1n;dsimp only;split
 ·exact news _ _ _ fun ys=>d0m _ _ _ _ rfl
 ·split
  ·split
   ·split
    ·exact news _ _ _ fun ys=>d0m _ _ _ _ rfl
    ·rfl
   ·rfl
  ·rfl
 ·split
  ·split
   ·split
    ·exact news _ _ _ fun ys=>d0m _ _ _ _ rfl
    ·rfl
   ·rfl
  ·rfl
 ·rfl
theorem p1f (c:Cell){α:Type}(k:(n ver off len:Nat)->(e:Ty)->List (El e)->Option R)(f:(n ver off len:Nat)->(e:Ty)->List (El e)->Option α)(g:α->Option R)
  (hk:∀n ver off len e xs,k n ver off len e xs=(f n ver off len e xs).bind g):b1x h c k=(b1x h c f).bind g:=by
 unfold b1x;split
 ·split
  ·split
   ·exact hk _ _ _ _ _ _
   ·rfl
  ·rfl
 ·split
  ·split
   ·exact d0m _ _ _ _ (hk _ _ _ _ _ _)
   ·rfl
  ·rfl
 ·rfl
theorem a2o (o:Oper)(b:Builtin)(ts:Array TypeId)(args:List V)(k:V->Ups->Option R) :
  x0m cx call fx h o b ts args k=(x0m cx call fx h o b ts args fun x u=>some (x,u)).bind fun p=>k p.1 p.2:=by
 unfold x0m;split
 ·split
  ·exact via _ (h2m _ _ _) (h2m _ _ _) fun _=>rfl
  ·rfl
 ·split<;>rfl
 ·rfl
 ·rfl
 ·rfl
 ·rfl
 ·split
  ·split
   ·refine k0d _ _ _ _ ?_;exact via _ (m1e _ _ _ _ _ _) (m1e _ _ _ _ _ _) fun _=>rfl
   ·rfl
  ·rfl
 ·split
  ·split
   ·refine p1f _ _ _ _ fun n ver off len e xs => ?_
    split
    ·split
     ·split<;>rfl
     ·exact via _ (x0n _ _ _) (x0n _ _ _) fun _=>rfl
    ·rfl
   ·rfl
  ·rfl
 ·split
  ·split
   ·rfl
   ·split
    ·refine p1f _ _ _ _ fun n ver off len e xs => ?_
     split
     ·split<;>rfl
     ·rfl
    ·rfl
  ·rfl
 ·rfl
theorem v2e (t:Ty)(c:Cell)(x:El t)(nm:Nat){α:Type}(k:Ups->Nat->Option R)(f:Ups->Nat->Option α)(g:α->Option R)(hk:∀u n,k u n=(f u n).bind g):v0r.backK h t c x nm k=(v0r.backK h t c x nm f).bind g:=by
 unfold v0r.backK;split
 ·rw[f0d,f0d];exact hk _ _
 ·exact hk _ _
 ·split
  ·split
   ·exact d0m _ _ _ _ (hk _ _)
   ·rfl
  ·rfl
 ·split
  ·split
   ·exact hk _ _
   ·rfl
  ·rfl
 ·split
  ·split
   ·exact hk _ _
   ·rfl
  ·rfl
 ·rfl
theorem y1i (e:Ty×Option Cell)(x:El e.1)(nm:Nat){α:Type}(k:List (Bool×List Cell)->Ups->Nat->Option R)(f:List (Bool×List Cell)->Ups->Nat->Option α)(g:α->Option R)
  (hk:∀vs u n,k vs u n=(f vs u n).bind g):t1b h e x nm k=(t1b h e x nm f).bind g:=by
 obtain ⟨t,oc⟩:=e;cases oc with
 | none=>simp only[t1b];rw[f0d,f0d];exact hk _ _ _
 | some c=>simp only[t1b];exact v2e _ _ _ _ _ _ _ fun u n=>hk _ _ _
theorem q2h:∀(bt:List (Ty×Option Cell)) (y:El (tup (bt.map Prod.fst))) (nm:Nat) {α:Type} (k:List (Bool×List Cell)->Ups->Option R) (f:List (Bool×List Cell)->Ups->Option α) (g:α->Option R),
  (∀vs u,k vs u=(f vs u).bind g)->v0r h bt y nm k=(v0r h bt y nm f).bind g:=by
 intro bt;induction bt with
 | nil=>intro y nm α k f g hk;exact hk _ _
 | cons e r ih =>
  intro y nm α k f g hk;cases r with
  | nil=>rw[k1n,k1n];exact y1i _ _ _ _ _ _ fun vs u n=>hk _ _
  | cons e2 r=>rw[e1m,e1m];exact y1i _ _ _ _ _ _ fun vs u n=>ih _ _ _ _ _ fun vs' u'=>hk _ _
theorem u2s (o:Oper)(f:FuncId)(args:List V)(k:V->Ups->Option R):n2j cx call fx h o f args k=(n2j cx call fx h o f args fun x u=>some (x,u)).bind fun p=>k p.1 p.2:=by
 unfold n2j;split
 ·rfl
 ·split
  ·rfl
  ·split
   ·dsimp only;split
    ·rfl
    ·cases call f _ with
     | none=>rfl
     | some r =>
      simp only[q3l];split
      ·rfl
      ·exact q2h _ _ _ _ _ _ fun vs u=>d0m _ _ _ _ rfl
   ·rfl
theorem extK_nat (e:Nat)(args:List V)(k:V->Ups->Option R):extK e args k=(extK e args fun x u=>some (x,u)).bind fun p=>k p.1 p.2:=by
 unfold extK;split
 ·exact d0m _ _ _ _ rfl
 ·exact d0m _ _ _ _ rfl
 ·rfl
theorem u2r (c:Cell)(args:List V)(k:V->Ups->Option R):n2i cx call h c args k=(n2i cx call h c args fun x u=>some (x,u)).bind fun p=>k p.1 p.2:=by
 unfold n2i;split
 ·split
  ·split
   ·rename_i p _ _ _ _ _;cases p _<;>rfl
   ·rfl
  ·rfl
 ·split
  ·split
   ·dsimp only;split
    ·split
     ·rename_i p _ _ _ _ _;cases p _<;>rfl
     ·rfl
    ·rfl
   ·rfl
  ·rfl
 ·rfl
theorem binI_nat (op:BinOp)(kd:IntKind)(x y:Int)(k:Cell->Option R):binI op kd x y k=(binI op kd x y some).bind k:=by
 cases op<;>simp only[binI]<;>(try rfl)
 ·cases decide (y=0)<;>rfl
 ·cases decide (y=0)<;>rfl
 ·cases decide (y<0)<;>rfl
 ·cases decide (y<0)<;>rfl
theorem binS_nat (op:BinOp)(x y:List UInt8)(k:Cell->Option R):binS op x y k=(binS op x y some).bind k:=by
 cases op<;>simp only[binS]<;>(try rfl);exact k0d _ _ _ _ rfl
theorem i2m (kind:Nat)(ty:Option Ty)(op:BinOp)(x y:V)(k:Cell->Option R):binK kind ty op x y k=(binK kind ty op x y some).bind k:=by
 unfold binK;split
 ·split
  ·exact binI_nat _ _ _ _ _
  ·rfl
 ·exact binS_nat _ _ _ _
 ·split<;>rfl
 ·split<;>rfl
theorem p1h (kind:Nat)(op:BinOp)(x:V)(k:Cell->Option R):p1i kind op x k=(p1i kind op x some).bind k:=by
 unfold p1i;split
 ·rename_i xs;cases decide (xs.length=0)<;>rfl
 ·rename_i xs;cases decide (xs.length=0)<;>rfl
 ·rfl
 ·rfl
 ·rfl
theorem p1j (kind:Nat)(op:BinOp)(x:V)(k:Cell->Option R):p1k kind op x k=(p1k kind op x some).bind k:=by
 unfold p1k;split<;>rfl
theorem o2f (op:UnOp)(x:V)(k:Cell->Option R):unK op x k=(unK op x some).bind k:=by
 unfold unK;split<;>rfl
theorem u2y {α β:Type}(m:Option β)(f:β->Option R)(g:β->Option α)(k:α->Option R)(h:∀y,f y=(g y).bind k):m.bind f=(m.bind g).bind k:=by
 cases m with
 | none=>rfl
 | some y=>exact h y
theorem r2g {o:Oper}{n ver base:Nat}{kt e:Ty}{xs:List (El kt×El e)}{key:El kt}(k:V->Ups->Option R):d2x fx h o n ver base kt e xs key k=(d2x fx h o n ver base kt e xs key fun x u=>some (x,u)).bind fun p=>k p.1 p.2:=by
 unfold d2x;split
 ·rfl
 ·rw[f0d,f0d];split
  ·exact d0m _ _ _ _ rfl
  ·rfl
theorem i2a (o:Oper)(k:V->Ups->Option R):evOp cx call fx o ρ h k=(evOp cx call fx o ρ h fun x u=>some (x,u)).bind fun p=>k p.1 p.2:=by
 have cell:∀(f:(Cell->Option R)->Option R) (g:(Cell->Option (V×Ups))->Option (V×Ups)) (m:Option Cell),(∀k,f k=m.bind k)->(∀k,g k=m.bind k) ->
   f (fun c=>k (.v false [c]) [])=(g fun c=>some (.v false [c],[])).bind fun p=>k p.1 p.2:=by
  intro f g m hf hg;rw[hf,hg];cases m<;>rfl
 unfold evOp;dsimp only;split
 ·rfl
 ·rfl
 ·split
  ·rename_i b _;cases b<;>rfl
  ·rfl
 ·split
  ·rfl
  ·split
   ·split<;>rfl
   ·rfl
 ·split
  ·split<;>rfl
  ·rfl
 ·split
  ·split
   ·split<;>rfl
   ·split<;>rfl
   ·rfl
  ·rfl
 ·split
  ·split
   ·split
    ·split
     ·split<;>rfl
     ·rfl
    ·rfl
   ·rfl
  ·rfl
 ·split
  ·exact via _ (y1u _ _ _) (y1u _ _ _) fun _=>rfl
  ·rfl
 ·split
  ·split
   ·exact via _ (o1m _ _ _) (o1m _ _ _) fun _=>rfl
   ·rfl
  ·rfl
 ·split
  ·split<;>rfl
  ·rfl
 ·rename_i y _ _;cases c1k y with
  | true=>exact cell _ _ _ (fun k=>p1h _ _ _ k) (fun k=>p1h _ _ _ k)
  | false =>
   cases l1b y with
   | true=>exact cell _ _ _ (fun k=>p1j _ _ _ k) (fun k=>p1j _ _ _ k)
   | false=>exact cell _ _ _ (fun k=>i2m _ _ _ _ _ k) (fun k=>i2m _ _ _ _ _ k)
 ·exact cell _ _ _ (fun k=>o2f _ _ k) (fun k=>o2f _ _ k)
 ·split
  ·rfl
  ·rfl
  ·split
   ·cases t1a fx o with
    | true=>exact d0m _ _ _ _ rfl
    | false=>rfl
   ·rfl
  ·split
   ·exact via _ (x0n _ _ _) (x0n _ _ _) fun _=>rfl
   ·rfl
  ·rfl
 ·split<;>rfl
 ·split
  ·split
   ·split
    ·exact d0m _ _ _ _ rfl
    ·rfl
   ·rfl
  ·rfl
 ·split
  ·exact cell _ _ _ (fun k=>o1q _ _ _ _ k) (fun k=>o1q _ _ _ _ k)
  ·split
   ·exact cell _ _ _ (fun k=>o1u _ _ _ _ _ k) (fun k=>o1u _ _ _ _ _ k)
   ·rfl
  ·split
   ·exact j2v _ _ _ _ _ _ _ _ _ fun _ _=>rfl
   ·exact cell _ _ _ (fun k=>o1s _ _ _ _ _ _ k) (fun k=>o1s _ _ _ _ _ _ k)
  ·rfl
 ·split
  ·cases Nat.beq _ 0 with
   | true=>rfl
   | false=>simp only[cond_false];split<;>rfl
  ·rfl
 ·split
  ·split
   ·split<;>rfl
   ·rfl
  ·rfl
 ·split
  ·exact cell _ _ _ (fun k=>y0s _ _ _ k) (fun k=>y0s _ _ _ k)
  ·rfl
 ·split
  ·exact via _ (p1o _ _ _ _) (p1o _ _ _ _) fun _=>rfl
  ·rfl
 ·split
  ·split<;>rfl
  ·rfl
 ·split<;>rfl
 ·split
  ·split
   ·split
    ·split
     ·exact d0m _ _ _ _ (r2g _)
     ·rfl
    ·rfl
   ·rfl
  ·rfl
 ·split
  ·split
   ·split
    ·split
     ·refine d0m _ _ _ _ ?_;refine u2y _ _ _ _ fun y => ?_
      split
      ·exact d0m _ _ _ _ rfl
      ·rfl
     ·rfl
    ·rfl
   ·rfl
  ·rfl
 ·split
  ·exact a2o _ _ _ _ _
  ·split
   ·exact extK_nat _ _ _
   ·exact u2s _ _ _ _
  ·split
   ·exact u2r _ _ _
   ·rfl
  ·rfl
 ·rfl
end
end
section
section
variable {cx:Cx}{call:Oracle cx}{fx:Hints}{h:Heap}{ρ ρ':Operand->V}{R:Type}
theorem v0s {x:Option Operand}(h:∀y,x=some y->ρ y=ρ' y):x.map ρ=x.map ρ':=by
 cases x with
 | none=>rfl
 | some y=>simp[h y rfl]
theorem m2u (o:Oper)(k:V->Ups->Option R)(hρ:∀x∈o.op.operands.toList,ρ x=ρ' x):evOp cx call fx o ρ h k=evOp cx call fx o ρ' h k:=by
 unfold evOp;dsimp only;generalize hop:o.op=op at hρ;cases op<;>simp only[Op.operands] at hρ<;>(try dsimp only)
 case move x=>rw[hρ x (by simp)]
 case assign x=>rw[hρ x (by simp)]
 case pick c a b=>rw[hρ c (by simp),hρ a (by simp),hρ b (by simp)]
 case box t x=>rw[hρ x (by simp)]
 case build t ps =>
  have:(ps.toList.map fun x=>(x.1,ρ x.2))=ps.toList.map fun x=>(x.1,ρ' x.2):=List.map_congr_left fun x hx=>by rw[hρ x.2 (by simp;exact ⟨x.1,Array.mem_toList_iff.1 hx⟩)]
  rw[this]
 case buildSlice t n ps =>
  have:(ps.toList.map fun x=>(x.1,ρ x.2))=ps.toList.map fun x=>(x.1,ρ' x.2):=List.map_congr_left fun x hx=>by rw[hρ x.2 (by simp;exact ⟨x.1,Array.mem_toList_iff.1 hx⟩)]
  rw[this]
 case load t x=>rw[hρ x (by simp)]
 case store t a x=>rw[hρ a (by simp),hρ x (by simp)]
 case nilCheck x=>rw[hρ x (by simp)]
 case binOp op t x y yt=>rw[hρ x (by simp),hρ y (by simp)]
 case unOp op t x=>rw[hρ x (by simp)]
 case convert s d x=>rw[hρ x (by simp)]
 case makeFunc t first caps =>
  have:caps.toList.map ρ=caps.toList.map ρ':=List.map_congr_left fun x hx=>hρ x (by simp;exact .inr (Array.mem_toList_iff.1 hx))
  cases t<;>first | simp only[this] | rfl
 case makeSlice t l c=>rw[hρ l (by simp),hρ c (by simp)]
 case slice t x lo hi mx =>
  rw[hρ x (by simp),v0s (x:=lo) fun y hy=>hρ y (by simp[hy]),v0s (x:=hi) fun y hy=>hρ y (by simp[hy]),v0s (x:=mx) fun y hy=>hρ y (by simp[hy])]
 case fieldAddr s x f=>rw[hρ x (by simp)]
 case field s x f=>rw[hρ x (by simp)]
 case indexAddr t x i=>rw[hρ x (by simp),hρ i (by simp)]
 case index t x i=>rw[hρ x (by simp),hρ i (by simp)]
 case extract x i=>rw[hρ x (by simp)]
 case makeMap t r=>cases r<;>rfl
 case lookup t x i ok =>
  cases ok with
  | true=>rfl
  | false=>dsimp only;rw[hρ x (by simp),hρ i (by simp)]
 case mapUpdate t m i v=>rw[hρ m (by simp),hρ i (by simp),hρ v (by simp)]
 case call c =>
  simp only[Call.operands] at hρ;have h1:c.args.toList.map ρ=c.args.toList.map ρ':=List.map_congr_left fun x hx=>hρ x (by simp;exact .inr (Array.mem_toList_iff.1 hx))
  have h2:∀z,c.callee = .value z->ρ z=ρ' z:=fun z hz=>hρ z (by simp[hz])
  rw[h1];cases hcal:c.callee with
  | builtin b=>rfl
  | invoke r n=>rfl
  | value z=>cases z<;>simp only[h2 _ hcal]
end
theorem p0v (h:Heap)(ns:List Nat)(n:Nat):(restrict h ns)[n]? = (h[n]?).map fun e=>if hasN ns n=true then e else (0,none):=by
 unfold restrict;rw[q4c,List.getElem?_zipIdx];cases h[n]? <;> simp
theorem o0s {h:Heap}{ns:List Nat}{n:Nat}(hn:n∈ns):(restrict h ns)[n]? = h[n]? := by
 rw[p0v,c0w.2 hn];cases h[n]? <;> simp
theorem f1y {h:Heap}{ns:List Nat}{n:Nat}(hn:n ∉ ns){ver:Nat}{B:Blk}:(restrict h ns)[n]? ≠ some (ver,some B):=by
 rw[p0v];have:hasN ns n=false:=by
  cases hh:hasN ns n with
  | false=>rfl
  | true=>exact absurd (c0w.1 hh) hn
 rw[this];cases h[n]? <;> simp
theorem v0j (h:Heap)(ns:List Nat):(restrict h ns).length=h.length:=by simp[restrict]
section
variable {P:Program}{W W':World}{F F':Fz}{E E':EnvM}{h:Heap}
theorem m1b {ns:List Nat}{n b:Nat}(hat:atName (restrict h ns) E n b):n∈ns/\atName h E n b:=by
 obtain ⟨ver,B,L,h1,h2⟩:=hat;by_cases hn:n∈ns
 ·rw[o0s hn] at h1;exact ⟨hn,ver,B,L,h1,h2⟩
 ·exact absurd h1 (f1y hn)
theorem HR.restrict {ns:List Nat}(hr:HR P W F E (fun _=>True) h):HR P W F E (· ∈ ns) (Flat.restrict h ns):=by
 have back:∀n ver B,(Flat.restrict h ns)[n]? = some (ver,some B)->n∈ns/\h[n]? = some (ver,some B):=by
  intro n ver B hn;by_cases hm:n∈ns
  ·rw[o0s hm] at hn;exact ⟨hm,hn⟩
  ·exact absurd hn (f1y hm)
 refine ⟨fun n ver b hn hb => ?_,fun n ver b hb => ?_,fun n m vn vm bn bm L M x h1 h2 => ?_⟩
 ·rw[o0s hn] at hb;exact hr.top n ver b trivial hb
 ·obtain ⟨k1,k2⟩:=back n ver b hb;obtain ⟨_,L,k3,k4⟩:=hr.blk n ver b k2;exact ⟨k1,L,k3,k4⟩
 ·exact hr.inj n m vn vm bn bm L M x (back n vn bn h1).2 (back m vm bm h2).2
theorem OpPost.widen {ns:List Nat}{u:Ups}(hr:HR P W F E (fun _=>True) h)(hp:OpPost P W F E (· ∈ ns) (Flat.restrict h ns) W' F' E' u)(hu:∀n∈a0g u,n∈ns):OpPost P W F E (fun _=>True) h W' F' E' u:=by
 have inn:∀n:Nat,n∈ns->(a0x h u)[n]? = (a0x (Flat.restrict h ns) u)[n]? := by
  intro n hn;by_cases hm:n∈a0g u
  ·exact k0u u _ _ n hm (v0j h ns).symm
  ·rw[b0o u _ n hm,b0o u _ n hm,o0s hn]
 have out:∀n:Nat,n ∉ ns->(a0x h u)[n]? = h[n]? := fun n hn=>b0o u _ n (fun k=>hn (hu n k))
 have old:∀m b,atName (Flat.restrict h ns) E m b->atName h E m b:=fun m b k=>(m1b k).2
 have verle:∀n ver B,h[n]? = some (ver,some B)->ver<=E.top n:=fun n ver B hn=>Nat.le_of_eq (hr.top n ver _ trivial hn)
 have far:∀n ver B L b,n ∉ ns->h[n]? = some (ver,some B)->E.m n ver=some L->L.has b->b<W.heap.size/\(∀m∈a0g u,¬atName (Flat.restrict h ns) E m b):=by
  intro n ver B L b hn h1 h2 h3;refine ⟨hr.lt b ⟨n,ver,B,L,h1,h2,h3⟩,fun m hm hat => ?_⟩;have:=c0i hr (old m b hat) ⟨ver,B,L,h1,h2,h3⟩;subst this;exact hn (hu m hm)
 refine ⟨⟨fun n ver b _ hb => ?_,fun n ver B hb => ?_,fun n m vn vm bn bm L M x h1 h2 h3 h4 h5 h6 => ?_⟩,hp.later,hp.env,fun b hb hnot=>hp.frame b hb fun n hn k=>hnot n hn (old n b k),fun b hb => ?_,fun m b hm hat => ?_,hp.tops⟩
 ·by_cases hn:n∈ns
  ·rw[inn n hn] at hb;exact hp.hr.top n ver b hn hb
  ·rw[out n hn] at hb;rw[hp.tops n (fun k=>hn (hu n k))];exact hr.top n ver b trivial hb
 ·by_cases hn:n∈ns
  ·rw[inn n hn] at hb;obtain ⟨_,k⟩:=hp.hr.blk n ver B hb;exact ⟨trivial,k⟩
  ·rw[out n hn] at hb;obtain ⟨_,L,k1,k2⟩:=hr.blk n ver B hb;refine ⟨trivial,L,by rw[hp.env.m n ver (verle n ver B hb)];exact k1,k2.later hp.later hp.env fun b hLb => ?_⟩;obtain ⟨f1,f2⟩:=far n ver B L b hn hb k1 hLb;refine ⟨hp.frame b f1 f2,fun hnf hf => ?_⟩;rcases hp.fz b hf with q | ⟨m,hm,q⟩ | q
   ·exact hnf q
   ·exact f2 m hm q
   ·omega
 ·-- one in,one out
  have mixed:∀n m vn vm bn bm L M,n∈ns->m ∉ ns->(a0x h u)[n]? = some (vn,some bn)->(a0x h u)[m]? = some (vm,some bm)->E'.m n vn=some L->E'.m m vm=some M->L.has x->M.has x->False:=by
   intro n m vn vm bn bm L M hn hm h1 h2 h3 h4 h5 h6;rw[out m hm] at h2;rw[hp.env.m m vm (verle m vm bm h2)] at h4;obtain ⟨f1,f2⟩:=far m vm bm M x hm h2 h4 h6;rw[inn n hn] at h1;by_cases hnu:n∈a0g u
   ·rcases hp.own n x hnu ⟨vn,bn,L,h1,h3,h5⟩ with ⟨q,hq,k⟩ | k
    ·exact f2 q hq k
    ·omega
   ·rw[b0o u _ n hnu,o0s hn] at h1;rw[hp.env.m n vn (verle n vn bn h1)] at h3;have:=hr.inj n m vn vm bn bm L M x h1 h2 h3 h4 h5 h6;subst this;exact hm hn
  by_cases hn:n∈ns
  ·by_cases hm:m∈ns
   ·rw[inn n hn] at h1;rw[inn m hm] at h2;exact hp.hr.inj n m vn vm bn bm L M x h1 h2 h3 h4 h5 h6
   ·exact (mixed n m vn vm bn bm L M hn hm h1 h2 h3 h4 h5 h6).elim
  ·by_cases hm:m∈ns
   ·exact (mixed m n vm vn bm bn M L hm hn h2 h1 h4 h3 h6 h5).elim
   ·rw[out n hn] at h1;rw[out m hm] at h2;rw[hp.env.m n vn (verle n vn bn h1)] at h3;rw[hp.env.m m vm (verle m vm bm h2)] at h4;exact hr.inj n m vn vm bn bm L M x h1 h2 h3 h4 h5 h6
 ·rcases hp.fz b hb with q | ⟨m,hm,q⟩ | q
  ·exact .inl q
  ·exact .inr (.inl ⟨m,hm,old m b q⟩)
  ·exact .inr (.inr q)
 ·have:atName (a0x (Flat.restrict h ns) u) E' m b:=by
   obtain ⟨v,B,L,k1,k2⟩:=hat;exact ⟨v,B,L,by rw[<-inn m (hu m hm)];exact k1,k2⟩
  rcases hp.own m b hm this with ⟨q,hq,k⟩ | k
  ·exact .inl ⟨q,hq,old q b k⟩
  ·exact .inr k
end
end
section
theorem bit_eq (x i:Nat):Nat.beq (Nat.land (Nat.shiftRight x i) 1) 1=x.testBit i:=by
 have h:Nat.land (Nat.shiftRight x i) 1=(x >>> i) &&& 1:=rfl;rw[h];simp only[Nat.testBit,Nat.and_one_is_mod,Nat.one_and_eq_mod_two];rcases Nat.mod_two_eq_zero_or_one (x >>> i) with e | e<;>rw[e]<;>rfl
theorem k1p (bs:List Nat)(i j:Nat):ordered bs i j=(bs.getD j 0).testBit i:=bit_eq _ _
def asks (o:Oper)(i:Nat):Prop:=∃e∈o.after.toList,Region.binds .any e=true/\e.on=i
theorem v2b (acc:List Nat)(o:Oper)(i:Nat):(n2n acc o).testBit i=true↔∃m,asks o m/\(i=m\/(acc.getD m 0).testBit i=true):=by
 have key:∀(es:List Edge) (s:Nat),((es.foldl (fun s e=>match Region.binds .any e with | true=>Nat.lor s (Nat.lor (Nat.shiftLeft 1 e.on) (acc.getD e.on 0)) | false=>s) s).testBit i=true) ↔
   (s.testBit i=true\/∃e∈es,Region.binds .any e=true/\(i=e.on\/(acc.getD e.on 0).testBit i=true)):=by
  intro es;induction es with
  | nil=>intro s;simp
  | cons e r ih =>
   intro s;rw[List.foldl_cons,ih];cases hb:Region.binds .any e with
   | false=>simp[hb]
   | true =>
    have h1:(Nat.lor s (Nat.lor (Nat.shiftLeft 1 e.on) (acc.getD e.on 0))).testBit i=(s.testBit i||((1 <<< e.on).testBit i||(acc.getD e.on 0).testBit i)):=by
     show (s ||| ((1 <<< e.on) ||| (acc.getD e.on 0))).testBit i=_;rw[Nat.testBit_or,Nat.testBit_or]
    have h2:(1 <<< e.on).testBit i=decide (i=e.on):=by
     rw[Nat.shiftLeft_eq,Nat.one_mul,Nat.testBit_two_pow];rw[q3r];exact eq_comm
    dsimp only;rw[h1,h2];simp only[Bool.or_eq_true,q3a,q3k];constructor
    ·rintro ((h | h | h) | ⟨e',he',h⟩)
     ·exact .inl h
     ·exact .inr ⟨e,.inl rfl,hb,.inl h⟩
     ·exact .inr ⟨e,.inl rfl,hb,.inr h⟩
     ·exact .inr ⟨e',.inr he',h⟩
    ·rintro (h | ⟨e',rfl | he',h1,h2⟩)
     ·exact .inl (.inl h)
     ·rcases h2 with h2 | h2
      ·exact .inl (.inr (.inl h2))
      ·exact .inl (.inr (.inr h2))
     ·exact .inr ⟨e',he',h1,h2⟩
 unfold n2n;refine (key o.after.toList 0).trans ?_;simp only[Nat.zero_testBit,Bool.false_eq_true,false_or,asks];constructor
 ·rintro ⟨e,h1,h2,h3⟩;exact ⟨e.on,⟨e,h1,h2,rfl⟩,h3⟩
 ·rintro ⟨m,⟨e,h1,h2,rfl⟩,h3⟩;exact ⟨e,h1,h2,h3⟩
theorem l1z:∀(ops:List Oper) (acc:List Nat) (m:Nat),m<acc.length->(befs ops acc)[m]? = acc[m]? := by
 intro ops;induction ops with
 | nil=>intro acc m _;rfl
 | cons o r ih =>
  intro acc m hm;simp only[befs];rw[ih _ m (by simp;omega),q4a hm]
theorem befs_get:∀(ops:List Oper) (acc:List Nat) (k:Nat) (o:Oper),ops[k]? = some o->∃acc',(befs ops acc)[acc.length+k]? = some (n2n acc' o)/\acc'.length=acc.length+k/\∀m,m<acc.length+k->acc'[m]? = (befs ops acc)[m]? := by
 intro ops;induction ops with
 | nil=>intro acc k o h;simp at h
 | cons o' r ih =>
  intro acc k o h;cases k with
  | zero =>
   simp at h;subst h;refine ⟨acc,?_,rfl,fun m hm => ?_⟩
   ·simp only[befs,Nat.add_zero];rw[l1z r _ _ (by simp),q3f (q3c _)];simp
   ·simp only[befs,Nat.add_zero] at hm ⊢;rw[l1z r _ m (by simp;omega),q4a hm]
  | succ k =>
   simp only[q4k] at h;obtain ⟨acc',h1,h2,h3⟩:=ih (acc++[n2n acc o']) k o h;simp only[befs];simp only[q3b,q3i,List.length_nil,Nat.zero_add] at h1 h2 h3;refine ⟨acc',by rw[<-h1];congr 1;omega,by omega,fun m hm=>h3 m (by omega)⟩
theorem m1a:∀(ops:List Oper) (b k:Nat) (o:Oper),n2o ops b=true->ops[k]? = some o->∀i,asks o i->i<b+k:=by
 intro ops;induction ops with
 | nil=>intro b k o _ h;simp at h
 | cons o' r ih =>
  intro b k o hb h i hi;simp only[n2o,q1n] at hb;cases k with
  | zero =>
   simp at h;subst h;obtain ⟨e,h1,h2,rfl⟩:=hi;have:=hb.1;rw[List.all_eq_true] at this;have:=this e h1;rw[h2] at this
   simpa [Nat.blt_eq] using this
  | succ k =>
   have:=ih (b+1) k o hb.2 (by simpa using h) i hi;omega
theorem e1n {ops:List Oper}(hb:n2o ops 0=true){D:Nat->Prop}(hD:∀j o,ops[j]? = some o->D j->∀m,asks o m->D m):∀j o,ops[j]? = some o->(∀m,asks o m->D m)->∀i,ordered (befs ops []) i j=true->i<j/\D i:=by
 intro j;induction j using Nat.strongRecOn with
 | _ j ih =>
  intro o ho hready i hi;obtain ⟨acc,h1,h2,h3⟩:=befs_get ops [] j o ho;simp only[List.length_nil,Nat.zero_add] at h1 h2 h3;rw[k1p] at hi;have hj:(befs ops []).getD j 0=n2n acc o:=by rw[List.getD_eq_getElem?_getD,h1];rfl
  rw[hj,v2b] at hi;obtain ⟨m,hm,hi⟩:=hi;have hmj:=m1a ops 0 j o hb ho m hm;rw[Nat.zero_add] at hmj;rcases hi with rfl | hi
  ·exact ⟨hmj,hready _ hm⟩
  ·have hacc:acc.getD m 0=(befs ops []).getD m 0:=by rw[List.getD_eq_getElem?_getD,List.getD_eq_getElem?_getD,h3 m hmj]
   rw[hacc,<-k1p] at hi;have hlt:m<ops.length:=by
    have:j<ops.length:=by
     rcases Nat.lt_or_ge j ops.length with q | q
     ·exact q
     ·rw[q3d q] at ho;cases ho
    omega
   have hom:ops[m]? = some ops[m]:=q2z hlt;obtain ⟨q1,q2⟩:=ih m hmj _ hom (hD m _ hom (hready m hm)) i hi;exact ⟨by omega,q2⟩
theorem n0w:∀(ops:List Oper) (s b i:Nat),f0r ops s b=some i->b<=i/\∃o,ops[i-b]? = some o/\o.dst=some s:=by
 intro ops;induction ops with
 | nil=>intro s b i h;cases h
 | cons o r ih =>
  intro s b i h;simp only[f0r] at h;cases hd:o.dst with
  | none =>
   rw[hd] at h;obtain ⟨h1,o',h2,h3⟩:=ih s (b+1) i h;exact ⟨by omega,o',by rw[show i-b=(i-(b+1))+1 by omega];simpa using h2,h3⟩
  | some d =>
   rw[hd] at h;dsimp only at h;cases hb:Nat.beq d s with
   | true =>
    rw[hb] at h;simp at h;subst h;exact ⟨q3c _,o,by simp,by rw[hd,q3u hb]⟩
   | false =>
    rw[hb] at h;obtain ⟨h1,o',h2,h3⟩:=ih s (b+1) i h;exact ⟨by omega,o',by rw[show i-b=(i-(b+1))+1 by omega];simpa using h2,h3⟩
theorem n2t:∀(ops:List Oper) (s b j:Nat) (o:Oper),(ops.filterMap (·.dst)).Nodup->ops[j]? = some o->o.dst=some s->f0r ops s b=some (b+j):=by
 intro ops;induction ops with
 | nil=>intro s b j o _ h;simp at h
 | cons o' r ih =>
  intro s b j o hn h hd;simp only[f0r];cases j with
  | zero =>
   simp at h;subst h;rw[hd];simp
  | succ j =>
   simp only[q4k] at h;have hmem:o∈r:=q3y h;cases hd':o'.dst with
   | none =>
    rw[List.filterMap_cons,hd'] at hn;dsimp only;rw[ih s (b+1) j o hn h hd];congr 1;omega
   | some d =>
    rw[List.filterMap_cons,hd',List.nodup_cons] at hn;have hne:d≠s:=fun e=>hn.1 (by rw[List.mem_filterMap];exact ⟨o,hmem,by rw[hd,e]⟩)
    have:Nat.beq d s=false:=by
     cases hb:Nat.beq d s with
     | false=>rfl
     | true=>exact absurd (q3u hb) hne
    dsimp only;rw[this];simp only[cond_false];rw[ih s (b+1) j o hn.2 h hd];congr 1;omega
theorem look_all {ops:List Oper}{bs:List Nat}:∀(l:List Oper) (b k:Nat) (o:Oper),k1w ops bs l b=true->l[k]? = some o->∀s∈looks ops o,h2i ops bs (b+k) s=true:=by
 intro l;induction l with
 | nil=>intro b k o _ h;simp at h
 | cons o' r ih =>
  intro b k o hl h s hs;simp only[k1w,q1n] at hl;cases k with
  | zero =>
   simp at h;subst h;have:=hl.1;rw[List.all_eq_true] at this;exact this s hs
  | succ k =>
   have:=ih (b+1) k o hl.2 (by simpa using h) s hs;rw[show b+(k+1)=b+1+k by omega];exact this
theorem look_ok {ops:List Oper}{bs:List Nat}{j s i:Nat}(h:h2i ops bs j s=true)(hw:f0r ops s 0=some i):i=j\/ordered bs i j=true\/ordered bs j i=true:=by
 unfold h2i at h;rw[hw] at h;simp only[Bool.or_eq_true] at h;rcases h with h | h
 ·exact .inl (q3u h)
 ·exact .inr h
end
section
abbrev Ent:=Option (V×Ups×List Nat×List Nat)
def Ent.val:Ent->V
 | none => .undef
 | some x=>x.1
def Ent.ups:Ent->Ups
 | none=>[]
 | some x=>x.2.1
def y1j (cx:Cx)(T:Nat->V):Operand->V
 | .tmp t=>T t
 | .const v=>i2e v
 | .global g=>match cx.glob g with | some x => .v false [.pin x.1 x.2 0] | none => .lost
 | .func f => .v false [.clo f .unit ()]
def w0b (ops:List Oper)(o:Oper)(T:Nat->V):Option Bool :=
 match o.guard with
 | none=>some true
 | some (j,want) =>
  match (ops[j]?).bind (·.dst) with
  | none=>none
  | some g =>
   match T g with
   | .v false [.val .bool b]=>some (bif b then want else !want)
   | .undef=>some false
   | _=>none
def putT (T:Nat->V)(dst:Option Nat)(x:V):Nat->V:=fun s=>if dst=some s then x else T s
section
variable {cx:Cx}{call:Oracle cx}{fx:Hints}{R:Type}
def Trace (cx:Cx)(call:Oracle cx)(fx:Hints)(all:List Oper):List Oper->(Nat->V)->Heap->List Ent->(Nat->V)->Heap->Prop
 | [],T,h,L,T',h'=>L=[]/\T'=T/\h'=h
 | o :: r, T, h, L, T', h' => ∃ e L', L = e :: L' /\
     (match e with
      | none=>w0b all o T=some false
      | some (x,u,s1,s2)=>w0b all o T=some true/\evOp cx call fx o (y1j cx T) (restrict h (s1++s2)) (fun x u=>some (x,u))=some (x,u)/\(∀n∈a0g u,n∈s2/\n<h.length)) /\
     Trace cx call fx all r (putT T o.dst e.val) (a0x h e.ups) L' T' h'
theorem guardK_T {ops:List Oper}{o:Oper}{st:St}{k:Bool->St->Option R}{r:R}(hk:p1s ops o st k=some r) :
  ∃run st',k run st'=some r/\w0b ops o (getT st.t)=some run/\st'.h=st.h/\getT st'.t=getT st.t:=by
 unfold p1s at hk;unfold w0b;cases hg:o.guard with
 | none=>rw[hg] at hk;exact ⟨true,st,hk,rfl,rfl,rfl⟩
 | some jw =>
  obtain ⟨j,want⟩:=jw;rw[hg] at hk;dsimp only at hk ⊢;cases hj:(ops[j]?).bind (·.dst) with
  | none=>rw[hj] at hk;cases hk
  | some g =>
   rw[hj] at hk;dsimp only at hk ⊢;split at hk
   ·rename_i b hb;have same:getT ((g,V.v false [Cell.val .bool b])::st.t)=getT st.t:=by
     funext s;simp only[getT];cases hbe:Nat.beq g s with
     | false=>rfl
     | true=>rw[<-q3u hbe,hb];rfl
    simp only[hb];cases b with
    | true=>exact ⟨want,_,hk,rfl,rfl,same⟩
    | false=>exact ⟨!want,_,hk,rfl,rfl,same⟩
   ·rename_i hb;simp only[hb];exact ⟨false,st,hk,rfl,rfl,rfl⟩
   ·cases hk
theorem opnd_T (st:St):opnd cx st=y1j cx (getT st.t):=by
 funext x;cases x<;>rfl
def trOf:List Ent->Nat->Tr->Tr
 | [],_,tr=>tr
 | none::L,i,tr=>trOf L (i+1) tr
 | some (_,_,s1,s2)::L,i,tr=>trOf L (i+1) (c1b i s1 s2 tr)
theorem j2f (o:Oper)(ρ:Operand->V)(h:Heap){k:List Nat->List Nat->Option R}{r:R}(hk:o2i cx fx o ρ h k=some r):∃s1 s2,k s1 s2=some r:=by
 have force:∀(ns:List Nat) {kk:List Nat->Option R},g1f ns kk=some r->∃ms,kk ms=some r:=by
  intro ns;induction ns with
  | nil=>intro kk h;exact ⟨_,h⟩
  | cons n rest ih=>intro kk h;obtain ⟨ms,h⟩:=ih h;exact ⟨_,h⟩
 have close:∀(d:Nat) (ns:List Nat) {kk:List Nat->Option R},a2e h d ns kk=some r->∃ms,kk ms=some r:=by
  intro d;induction d with
  | zero=>intro ns kk hh;exact force ns hh
  | succ d ih =>
   intro ns kk hh;obtain ⟨ms,hh⟩:=force ns hh;obtain ⟨ms',hh⟩:=ih _ hh;exact ⟨_,hh⟩
 have wr:∀ns,a2e h 4 ns (fun ns=>g1f (fresh cx fx o) fun fr=>k [] (ns++fr))=some r->∃s1 s2,k s1 s2=some r:=by
  intro ns hh;obtain ⟨ms,hh⟩:=close 4 ns hh;obtain ⟨fr,hh⟩:=force _ hh;exact ⟨_,_,hh⟩
 have rd:∀ns,a2e h 4 ns (fun ns=>k ns [])=some r->∃s1 s2,k s1 s2=some r:=by
  intro ns hh;obtain ⟨ms,hh⟩:=close 4 ns hh;exact ⟨_,_,hh⟩
 unfold o2i at hk;dsimp only at hk;split at hk
 all_goals (try exact ⟨_,_,hk⟩)
 all_goals (try exact rd _ hk)
 all_goals (try exact wr _ hk)
 all_goals (try (obtain ⟨fr,hk⟩:=force _ hk;exact ⟨_,_,hk⟩))
 ·split at hk
  ·exact wr _ hk
  ·exact rd _ hk
 ·split at hk
  ·exact wr _ hk
  ·exact rd _ hk
 ·split at hk
  ·split at hk
   ·obtain ⟨ms,hk⟩:=close 4 _ hk;obtain ⟨fr,hk⟩:=force _ hk;exact ⟨_,_,hk⟩
   ·exact wr _ hk
  ·exact wr _ hk
theorem z1t (all:List Oper):∀(ops:List Oper) (i:Nat) (st:St) (tr:Tr) (k:St->Tr->Option R) (r:R),z1u cx call fx all ops i st tr k=some r ->
  ∃L st',k st' (trOf L i tr)=some r/\Trace cx call fx all ops (getT st.t) st.h L (getT st'.t) st'.h:=by
 intro ops;induction ops with
 | nil=>intro i st tr k r hk;exact ⟨[],st,hk,rfl,rfl,rfl⟩
 | cons o rest ih =>
  intro i st tr k r hk;simp only[z1u] at hk;obtain ⟨run,st1,hk,hg,hh,ht⟩:=guardK_T hk;cases run with
  | true =>
   dsimp only at hk;obtain ⟨s1,s2,hk⟩:=j2f _ _ _ hk;rw[i2a] at hk;cases hev:evOp cx call fx o (opnd cx st1) (restrict st1.h (s1++s2)) (fun x u=>some (x,u)) with
   | none=>rw[hev] at hk;cases hk
   | some p =>
    obtain ⟨x,u⟩:=p;rw[hev] at hk;simp only[q3l] at hk;split at hk
    case h_2=>cases hk
    rename_i hall;obtain ⟨L,st',h1,h2⟩:=ih _ _ _ _ r hk;refine ⟨some (x,u,s1,s2)::L,st',h1,some (x,u,s1,s2),L,rfl,⟨hg,?_,fun n hn => ?_⟩,?_⟩
    ·rw[<-ht,<-hh,<-opnd_T];exact hev
    ·simp only[a0g,q4g] at hn;obtain ⟨y,hy,rfl⟩:=hn;rw[List.all_eq_true] at hall;have:=hall y hy;simp only[q1n] at this;exact ⟨c0w.1 this.1,by rw[<-hh];simpa [Nat.blt_eq] using this.2⟩
    ·have:putT (getT st.t) o.dst (Ent.val (some (x,u,s1,s2)))=getT (putV st1.t o.dst x):=by
      funext s;rw[x0e,ht];rfl
     rw[this,<-hh];exact h2
  | false =>
   dsimp only at hk;obtain ⟨L,st',h1,h2⟩:=ih _ _ _ _ r hk;refine ⟨none::L,st',h1,none,L,rfl,hg,?_⟩;have:putT (getT st.t) o.dst (Ent.val none)=getT (putV st1.t o.dst .undef):=by
    funext s;rw[x0e,ht];rfl
   rw[this,<-hh];exact h2
theorem q1x:∀(L:List Ent) (i:Nat) (tr:Tr),trOf L i tr=trOf L i []++tr:=by
 intro L;induction L with
 | nil=>intro i tr;rfl
 | cons e L ih =>
  intro i tr;cases e with
  | none=>exact ih _ _
  | some x =>
   obtain ⟨x,u,s1,s2⟩:=x;simp only[trOf];rw[ih,ih (i+1) (c1b i s1 s2 [])];rw[q3e];congr 1;unfold c1b;split<;>simp
theorem trOf_mem:∀(L:List Ent) (i j:Nat) (x:V) (u:Ups) (s1 s2:List Nat),L[j]? = some (some (x,u,s1,s2))->¬(s1=[]/\s2=[])->(i+j,s1,s2)∈trOf L i []:=by
 intro L;induction L with
 | nil=>intro i j x u s1 s2 h;simp at h
 | cons e L ih =>
  intro i j x u s1 s2 h hne;cases j with
  | zero =>
   simp at h;subst h;simp only[trOf];rw[q1x];have:c1b i s1 s2 []=[(i,s1,s2)]:=by
    unfold c1b;split
    ·exact absurd ⟨rfl,rfl⟩ hne
    ·rfl
   rw[this];simp
  | succ j =>
   simp only[q4k] at h;have:=ih (i+1) j x u s1 s2 h hne;cases e with
   | none=>simp only[trOf];rw[show i+(j+1)=i+1+j by omega];exact this
   | some y =>
    obtain ⟨y,v,t1,t2⟩:=y;simp only[trOf];rw[q1x,show i+(j+1)=i+1+j by omega];exact List.mem_append_left _ this
theorem a2f (b:List Nat×List Nat):clash ([],[]) b=false/\clash b ([],[])=false:=by
 have h1:∀l:List Nat,meet [] l=false:=fun l=>rfl
 have h2:∀l:List Nat,meet l []=false:=by
  intro l;induction l with
  | nil=>rfl
  | cons n r ih=>simp[meet,hasN]
 simp[clash,h1,h2]
theorem v2h {bs:List Nat}:∀ {tr:Tr},f1o bs tr=true->∀(pre post:Tr) (x y:Nat×List Nat×List Nat),tr=pre++x::post->y∈post->clash x.2 y.2=true->ordered bs x.1 y.1=true:=by
 intro tr;induction tr with
 | nil=>intro _ pre post x y h;simp at h
 | cons z r ih =>
  intro h pre post x y he hy hc;obtain ⟨zi,zs⟩:=z;simp only[f1o,q1n] at h;cases pre with
  | nil =>
   simp at he;obtain ⟨rfl,rfl⟩:=he;have:=h.1;rw[List.all_eq_true] at this;have:=this y hy;simp only[Bool.or_eq_true,Bool.not_eq_true'] at this;rcases this with q | q
   ·simp only at hc;rw[hc] at q;cases q
   ·exact q
  | cons w pre =>
   simp at he;exact ih h.2 pre post x y he.2 hy hc
theorem j2e:∀(L:List Ent) (b i j:Nat) (x y:V) (u v:Ups) (s1 s2 t1 t2:List Nat),i<j->L[i]? = some (some (x,u,s1,s2))->L[j]? = some (some (y,v,t1,t2))->¬(s1=[]/\s2=[])->¬(t1=[]/\t2=[]) ->
  ∃pre post,(trOf L b []).reverse=pre++(b+i,s1,s2)::post/\(b+j,t1,t2)∈post:=by
 intro L;induction L with
 | nil=>intro b i j x y u v s1 s2 t1 t2 _ h;simp at h
 | cons e L ih =>
  intro b i j x y u v s1 s2 t1 t2 hij h1 h2 hs ht;obtain ⟨j,rfl⟩:∃j',j=j'+1:=⟨j-1,by omega⟩;simp only[q4k] at h2;cases i with
  | zero =>
   simp at h1;subst h1;simp only[trOf];rw[q1x];have:c1b b s1 s2 []=[(b,s1,s2)]:=by
    unfold c1b;split
    ·exact absurd ⟨rfl,rfl⟩ hs
    ·rfl
   rw[this,List.reverse_append];refine ⟨[],(trOf L (b+1) []).reverse,rfl,?_⟩;rw[List.mem_reverse,show b+(j+1)=b+1+j by omega];exact trOf_mem L (b+1) j y v t1 t2 h2 ht
  | succ i =>
   simp only[q4k] at h1;obtain ⟨pre,post,k1,k2⟩:=ih (b+1) i j x y u v s1 s2 t1 t2 (by omega) h1 h2 hs ht;have e1:b+(i+1)=b+1+i:=by omega
   have e2:b+(j+1)=b+1+j:=by omega
   rw[e1,e2];cases e with
   | none=>exact ⟨pre,post,k1,k2⟩
   | some z =>
    obtain ⟨z,w,r1,r2⟩:=z;simp only[trOf];rw[q1x,List.reverse_append,k1];exact ⟨(c1b b r1 r2 []).reverse++pre,post,by rw[q3e],k2⟩
theorem v1t {bs:List Nat}{L:List Ent}(h:f1o bs (trOf L 0 []).reverse=true){i j:Nat}(hij:i<j){x y:V}{u v:Ups}{s1 s2 t1 t2:List Nat}(h1:L[i]? = some (some (x,u,s1,s2)))(h2:L[j]? = some (some (y,v,t1,t2)))
  (hc:clash (s1,s2) (t1,t2)=true):ordered bs i j=true:=by
 by_cases hs:s1=[]/\s2=[]
 ·obtain ⟨rfl,rfl⟩:=hs;rw[(a2f _).1] at hc;cases hc
 by_cases ht:t1=[]/\t2=[]
 ·obtain ⟨rfl,rfl⟩:=ht;rw[(a2f _).2] at hc;cases hc
 obtain ⟨pre,post,k1,k2⟩:=j2e L 0 i j x y u v s1 s2 t1 t2 hij h1 h2 hs ht;simp only[Nat.zero_add] at k1 k2;exact v2h h pre post _ _ k1 k2 hc
theorem meet_iff {a b:List Nat}:meet a b=true↔∃n,n∈a/\n∈b:=by
 simp only[meet,List.any_eq_true,c0w]
theorem l1p {s1 s2 t1 t2:List Nat}:clash (s1,s2) (t1,t2)=true↔(∃n,n∈s2/\n∈t1++t2)\/∃n,n∈t2/\n∈s1:=by
 simp only[clash,Bool.or_eq_true,meet_iff]
end
end
section
def ent (L:List Ent)(i:Nat):Ent:=(L[i]?).getD none
def TD (ops:List Oper)(L:List Ent)(T0:Nat->V)(D:Nat->Bool):Nat->V:=fun s =>
 match f0r ops s 0 with
 | some i=>if D i=true then (ent L i).val else T0 s
 | none=>T0 s
def HD (L:List Ent)(h0:Heap)(D:Nat->Bool):Nat->Heap
 | 0=>h0
 | n+1=>if D n=true then a0x (HD L h0 D n) (ent L n).ups else HD L h0 D n
theorem s0i (L:List Ent)(h0:Heap)(D:Nat->Bool):∀n,(HD L h0 D n).length=h0.length:=by
 intro n;induction n with
 | zero=>rfl
 | succ n ih=>simp only[HD];split<;>simp[b0d,ih]
theorem HD_get {L:List Ent}{h0:Heap}{D D':Nat->Bool}{m:Nat}:∀n,(∀i,i<n->m∈a0g (ent L i).ups->D i=D' i)->(HD L h0 D n)[m]? = (HD L h0 D' n)[m]? := by
 intro n;induction n with
 | zero=>intro _;rfl
 | succ n ih =>
  intro h;have ih:=ih fun i hi=>h i (by omega)
  simp only[HD];by_cases hm:m∈a0g (ent L n).ups
  ·have e:=h n (by omega) hm;rw[<-e];split
   ·exact k0u _ _ _ m hm (by rw[s0i,s0i])
   ·exact ih
  ·have k:∀(E:Nat->Bool),(if E n=true then a0x (HD L h0 E n) (ent L n).ups else HD L h0 E n)[m]? = (HD L h0 E n)[m]? := by
    intro E;split
    ·exact b0o _ _ m hm
    ·rfl
   rw[k D,k D'];exact ih
theorem v1x {L:List Ent}{h0:Heap}{D D':Nat->Bool}:∀n,(∀i,i<n->D i=D' i)->HD L h0 D n=HD L h0 D' n:=by
 intro n h;apply q4u;intro m;exact HD_get n fun i hi _=>h i hi
theorem c2j (h:Heap)(u v:Ups)(hd:∀n,n∈a0g u->n ∉ a0g v):a0x (a0x h u) v=a0x (a0x h v) u:=by
 apply q4u;intro n;by_cases h1:n∈a0g u
 ·rw[b0o v _ n (hd n h1)];exact k0u u _ _ n h1 (by rw[b0d])
 ·rw[b0o u (a0x h v) n h1];by_cases h2:n∈a0g v
  ·exact k0u v _ _ n h2 (by rw[b0d])
  ·rw[b0o v _ n h2,b0o v _ n h2,b0o u _ n h1]
def addD (D:Nat->Bool)(j:Nat):Nat->Bool:=fun i=>D i||Nat.beq i j
theorem m1f (D:Nat->Bool)(j:Nat):addD D j j=true:=by simp[addD]
theorem s0h (D:Nat->Bool)(j i:Nat)(h:i≠j):addD D j i=D i:=by
 have:Nat.beq i j=false:=by
  cases hb:Nat.beq i j with
  | false=>rfl
  | true=>exact absurd (q3u hb) h
 simp[addD,this]
theorem HD_put {L:List Ent}{h0:Heap}{D:Nat->Bool}{j:Nat}(hj:D j=false):∀n,j<n->(∀i,j<i->i<n->D i=true->∀m,m∈a0g (ent L j).ups->m ∉ a0g (ent L i).ups) ->
  HD L h0 (addD D j) n=a0x (HD L h0 D n) (ent L j).ups:=by
 intro n;induction n with
 | zero=>intro h;omega
 | succ n ih =>
  intro hlt hd;simp only[HD];by_cases e:j=n
  ·subst e;rw[m1f,q0z rfl,hj,q0n (by simp),v1x (D:=addD D j) (D':=D) j fun i hi=>s0h D j i (by omega)]
  ·have hjn:j<n:=by omega
   rw[s0h D j n (fun q=>e q.symm),ih hjn fun i h1 h2=>hd i h1 (by omega)];split
   ·rename_i hDn;exact c2j _ _ _ (hd n hjn (by omega) hDn)
   ·rfl
theorem TD_put {ops:List Oper}{L:List Ent}{T0:Nat->V}{D:Nat->Bool}{j:Nat}{o:Oper}(hn:(ops.filterMap (·.dst)).Nodup)(ho:ops[j]? = some o)(hj:D j=false) :
  TD ops L T0 (addD D j)=putT (TD ops L T0 D) o.dst (ent L j).val:=by
 funext s;unfold putT;by_cases hd:o.dst=some s
 ·have hw:=n2t ops s 0 j o hn ho hd;rw[Nat.zero_add] at hw;rw[q0z hd];simp only[TD,hw,m1f,if_true]
 ·rw[q0n hd];unfold TD;cases hw:f0r ops s 0 with
  | none=>rfl
  | some i =>
   obtain ⟨_,o',k1,k2⟩:=n0w ops s 0 i hw;rw[Nat.sub_zero] at k1;have hne:i≠j:=fun e=>by
    subst e;rw[ho] at k1;injection k1 with k1;subst k1;exact hd k2
   simp only[s0h D j i hne]
def upto (j:Nat):Nat->Bool:=fun i=>Nat.blt i j
theorem upto_succ (j:Nat):upto (j+1)=addD (upto j) j:=by
 funext i;simp only[upto,addD];rw[Bool.eq_iff_iff];simp[Nat.blt_eq,Nat.beq_eq];omega
theorem a1m (j:Nat):upto j j=false:=by
 cases h:upto j j with
 | false=>rfl
 | true=>simp[upto,Nat.blt_eq] at h
theorem l0m {j i:Nat}:upto j i=true↔i<j:=by simp[upto,Nat.blt_eq]
section
variable {cx:Cx}{call:Oracle cx}{fx:Hints}{R:Type}
def v2u (cx:Cx)(call:Oracle cx)(fx:Hints)(all:List Oper)(T0:Nat->V)(h0:Heap)(L:List Ent)(j:Nat)(o:Oper):Prop :=
 match ent L j with
 | none=>w0b all o (TD all L T0 (upto j))=some false
 | some (x,u,s1,s2)=>w0b all o (TD all L T0 (upto j))=some true/\evOp cx call fx o (y1j cx (TD all L T0 (upto j))) (restrict (HD L h0 (upto j) all.length) (s1++s2)) (fun x u=>some (x,u))=some (x,u) /\
   (∀n∈a0g u,n∈s2/\n<h0.length)
theorem j2d {all:List Oper}{T0:Nat->V}{h0:Heap}{L:List Ent}{T':Nat->V}{h':Heap}(hn:(all.filterMap (·.dst)).Nodup):∀(r:List Oper) (j:Nat) (L':List Ent) (T:Nat->V) (h:Heap),
  all.drop j=r->L.drop j=L'->T=TD all L T0 (upto j)->h=HD L h0 (upto j) all.length->Trace cx call fx all r T h L' T' h' ->
   (∀i o,j<=i->all[i]? = some o->v2u cx call fx all T0 h0 L i o)/\T'=TD all L T0 (upto all.length)/\h'=HD L h0 (upto all.length) all.length:=by
 intro r;induction r with
 | nil =>
  intro j L' T h hr hL hT hh htr;obtain ⟨_,rfl,rfl⟩:=htr;have hlen:all.length<=j:=by
   have:=congrArg List.length hr;simp at this;omega
  have e:∀i,i<all.length->upto j i=upto all.length i:=by
   intro i hi;rw[l0m.2 hi,l0m.2 (by omega)]
  refine ⟨fun i o hi ho => ?_,?_,?_⟩
  ·rw[q3d (by omega)] at ho;cases ho
  ·rw[hT];funext s;unfold TD;cases hw:f0r all s 0 with
   | none=>rfl
   | some i =>
    obtain ⟨_,o',k1,_⟩:=n0w all s 0 i hw;rw[Nat.sub_zero] at k1;have hi:i<all.length:=by
     rcases Nat.lt_or_ge i all.length with q | q
     ·exact q
     ·rw[q3d q] at k1;cases k1
    simp only[e i hi]
  ·rw[hh];exact v1x _ e
 | cons o r ih =>
  intro j L' T h hr hL hT hh htr;obtain ⟨e,L2,rfl,he,htr⟩:=htr;have ho:all[j]? = some o:=by
   have:(all.drop j)[0]? = some o:=by rw[hr];rfl
   rw[q4j] at this
   simpa using this
  have hjl:j<all.length:=by
   rcases Nat.lt_or_ge j all.length with q | q
   ·exact q
   ·rw[q3d q] at ho;cases ho
  have hent:ent L j=e:=by
   have:(L.drop j)[0]? = some e:=by rw[hL];rfl
   rw[q4j] at this;unfold ent;rw[show j=j+0 from rfl,this];rfl
  have hr':all.drop (j+1)=r:=by rw[<-List.tail_drop,hr];rfl
  have hL':L.drop (j+1)=L2:=by rw[<-List.tail_drop,hL];rfl
  obtain ⟨k1,k2,k3⟩:=ih (j+1) L2 _ _ hr' hL'
   (by rw[hT,upto_succ,TD_put hn ho (a1m j),hent])
   (by rw[hh,upto_succ,HD_put (a1m j) all.length hjl (fun i h1 _ h3=>by rw[l0m] at h3;omega),hent]) htr
  refine ⟨fun i o' hi ho' => ?_,k2,k3⟩;by_cases hij:i=j
  ·subst hij;rw[ho] at ho';injection ho' with ho';subst ho';unfold v2u;rw[hent];cases e with
   | none=>rw[<-hT];exact he
   | some x =>
    obtain ⟨x,u,s1,s2⟩:=x;rw[<-hT,<-hh];exact ⟨he.1,he.2.1,fun n hn=>⟨(he.2.2 n hn).1,by have:=(he.2.2 n hn).2;rw[hh,s0i] at this;exact this⟩⟩
  ·exact k1 i o' (by omega) ho'
end
section
variable {cx:Cx}{call:Oracle cx}{fx:Hints}{W0 W W':World}{F0 F F':Fz}{O0:List Nat}{E E':EnvM}{h:Heap}{a:Act}{nt:Slots}{st:St}
theorem c1o {ops:List Oper}{o:Oper}{T:Nat->V}{run:Bool}(ht:∀s,RdV cx.P W F E (T s) (a.tmps.getD s undef))(hg:w0b ops o T=some run):Region.wanted o (yielded ops.toArray a.tmps)=run:=by
 unfold w0b at hg;cases hgu:o.guard with
 | none=>rw[hgu] at hg;injection hg with hg;subst hg;simp[Region.wanted,hgu]
 | some jw =>
  obtain ⟨j,want⟩:=jw;rw[hgu] at hg;dsimp only at hg;cases hj:(ops[j]?).bind (·.dst) with
  | none=>rw[hj] at hg;cases hg
  | some g =>
   rw[hj] at hg;dsimp only at hg;have hj':((ops.toArray)[j]?).bind (·.dst)=some g:=by simpa using hj
   have hv:=ht g;split at hg
   ·rename_i b hb;injection hg with hg;rw[hb] at hv;have hv:=o1i (z0m hv);simp only[Region.wanted,hgu,yielded,hj',q3l,hv];subst hg;cases b<;>cases want<;>rfl
   ·rename_i hb;injection hg with hg;subst hg;rw[hb] at hv;have hv:a.tmps.getD g undef=undef:=hv;simp only[Region.wanted,hgu,yielded,hj',q3l];rw[q3t] at hv;cases hgt:a.tmps[g]? with
    | none=>cases want<;>rfl
    | some v =>
     rw[hgt] at hv;simp at hv;subst hv;cases want<;>rfl
   ·cases hg
def RelT (cx:Cx)(W0:World)(F0:Fz)(O0:List Nat)(nt:Slots)(T:Nat->V)(h:Heap)(a:Act)(W:World)(F:Fz)(E:EnvM):Prop :=
 ∃st:St,st.h=h/\getT st.t=T/\StRel cx W0 F0 O0 nt st a W F E
theorem StRel.drew (hs:StRel cx W0 F0 O0 nt st a W F E){st':St}(h1:st'.h=st.h)(h2:getT st'.t=getT st.t):StRel cx W0 F0 O0 nt st' a { W with drawn:=W.drawn+1 } F E:=by
 have hl:Later W F { W with drawn:=W.drawn+1 } F:=⟨rfl,rfl,rfl,q3c _,fun _ _=>rfl,fun _ hb=>hb⟩;refine ⟨by rw[h1];exact hs.hr.world hl (fun b _=>⟨rfl,fun h=>h⟩),hs.hF,fun s=>by rw[h2];exact (hs.t s).later hl (EnvLe.refl E),hs.later.trans hl,hs.frame,by rw[h1];exact hs.own,hs.fz,hs.size,hs.keep,by rw[h1];exact ⟨hs.defers.1,hs.defers.2.turn fun D _ _ h1 h2 _=>⟨rfl,h1,h2⟩⟩,hs.env⟩
def t1g (s2:List Nat)(len:Nat)(u:Ups):Bool:=u.all fun y=>hasN s2 y.1&&Nat.blt y.1 len
theorem k1r {s2:List Nat}{len:Nat}{u:Ups}:t1g s2 len u=true↔∀n∈a0g u,n∈s2/\n<len:=by
 unfold t1g;rw[List.all_eq_true];constructor
 ·intro h n hn;simp only[a0g,q4g] at hn;obtain ⟨y,hy,rfl⟩:=hn;have:=h y hy;simp only[q1n] at this;exact ⟨c0w.1 this.1,by simpa [Nat.blt_eq] using this.2⟩
 ·intro h y hy;obtain ⟨k1,k2⟩:=h y.1 (by simp only[a0g,q4g];exact ⟨y,hy,rfl⟩);simp only[q1n];exact ⟨c0w.2 k1,by simpa [Nat.blt_eq] using k2⟩
structure Open (cx:Cx)(call:Oracle cx)(fx:Hints)(ops:List Oper)(T0:Nat->V)(h0:Heap)(L:List Ent):Prop where
 nodup:(ops.filterMap (·.dst)).Nodup
 look:k1w ops (befs ops []) ops 0=true
 back:n2o ops 0=true
 ents:∀i o,ops[i]? = some o->v2u cx call fx ops T0 h0 L i o
 apart:f1o (befs ops []) (trOf L 0 []).reverse=true
theorem e2z {rd:Option Nat}{ops:List Oper}{T0:Nat->V}{h0:Heap}{L:List Ent}{Q:Exit->Act->World->Prop}(hc:CallSound cx call W0 F0)(tab:i0f cx)(hfn:FnOk cx call)(ho:Open cx call fx ops T0 h0 L)(hd:z1w nt.nt nt.K ops=true)
  (hQ:∀a W F E,RelT cx W0 F0 O0 nt (TD ops L T0 (upto ops.length)) (HD L h0 (upto ops.length) ops.length) a W F E->Q .normal a W) :
  ∀(fuel:Nat) (listed:Array Bool) (a:Act) (W:World) (F:Fz) (E:EnvM),listed.size=ops.length->((List.range ops.length).filter fun i => !listed.getD i true).length<=fuel ->
   (∀j o,ops[j]? = some o->listed.getD j true=true->∀m,asks o m->listed.getD m true=true) ->
   RelT cx W0 F0 O0 nt (TD ops L T0 (fun i=>listed.getD i true)) (HD L h0 (fun i=>listed.getD i true) ops.length) a W F E->wpAnyIn (Rnd rd) 0 cx.P .any ops.toArray Q fuel listed a W:=by
 have done:∀(listed:Array Bool) (a:Act) (W:World) (F:Fz) (E:EnvM),listed.size=ops.length->(∀i,i<ops.length->listed.getD i true=true) ->
   RelT cx W0 F0 O0 nt (TD ops L T0 (fun i=>listed.getD i true)) (HD L h0 (fun i=>listed.getD i true) ops.length) a W F E->Q .normal a W:=by
  intro listed a W F E _ hall hrel;have e1:HD L h0 (fun i=>listed.getD i true) ops.length=HD L h0 (upto ops.length) ops.length:=v1x _ fun i hi=>by rw[hall i hi,l0m.2 hi]
  have e2:TD ops L T0 (fun i=>listed.getD i true)=TD ops L T0 (upto ops.length):=by
   funext s;unfold TD;cases hw:f0r ops s 0 with
   | none=>rfl
   | some i =>
    obtain ⟨_,o',k1,_⟩:=n0w ops s 0 i hw;rw[Nat.sub_zero] at k1;have hi:i<ops.length:=by
     rcases Nat.lt_or_ge i ops.length with q | q
     ·exact q
     ·rw[q3d q] at k1;cases k1
    simp only[hall i hi,l0m.2 hi]
  rw[e1,e2] at hrel;exact hQ a W F E hrel
 have readyNil:∀(listed:Array Bool),listed.size=ops.length->Region.ready .any ops.toArray listed=[]->∀i,i<ops.length->listed.getD i true=true:=by
  intro listed hsz hr i;induction i using Nat.strongRecOn with
  | _ i ih =>
   intro hi;cases hl:listed.getD i true with
   | true=>rfl
   | false =>
    exfalso;have hmem:i∈Region.ready .any ops.toArray listed:=by
     rw[mem_ready];have hoi:ops[i]? = some ops[i]:=q2z hi;refine ⟨hl,ops[i],by simp[hi],fun e he hbind => ?_⟩;have hlt:=m1a ops 0 i _ ho.back hoi e.on ⟨e,Array.mem_toList_iff.2 he,hbind,rfl⟩;have:=ih e.on (by omega) (by omega);have hes:e.on<listed.size:=by omega
     simp only[q3t,Array.getElem?_eq_getElem hes,Option.getD_some] at this ⊢;exact this
    rw[hr] at hmem;cases hmem
 intro fuel;induction fuel with
 | zero =>
  intro listed a W F E hsz hcnt hclosed hrel;have hall:∀i,i<ops.length->listed.getD i true=true:=by
   intro i hi;cases hl:listed.getD i true with
   | true=>rfl
   | false =>
    have:i∈(List.range ops.length).filter fun i => !listed.getD i true:=by
     rw[q4m,q4v,hl];exact ⟨hi,rfl⟩
    have h0:((List.range ops.length).filter fun i => !listed.getD i true)=[]:=q3n (by omega);rw[h0] at this;cases this
  refine ⟨?_,done listed a W F E hsz hall hrel⟩;cases hr:Region.ready .any ops.toArray listed with
  | nil=>rfl
  | cons i r =>
   exfalso;have hmem:i∈Region.ready .any ops.toArray listed:=by rw[hr];simp
   rw[mem_ready] at hmem;obtain ⟨h2,o,h1,_⟩:=hmem;have h1:i<ops.length:=by
    have:ops[i]? = some o:=by simpa using h1
    rcases Nat.lt_or_ge i ops.length with q | q
    ·exact q
    ·rw[q3d q] at this;cases this
   rw[hall i h1] at h2;cases h2
 | succ fuel ih =>
  intro listed a W F E hsz hcnt hclosed hrel;refine ⟨fun hr=>done listed a W F E hsz (readyNil listed hsz hr) hrel,fun j hj => ?_⟩;rw[mem_ready] at hj;obtain ⟨hnl,o,hoj,hready⟩:=hj;have hoj:ops[j]? = some o:=by simpa using hoj
  have hjl:j<ops.length:=by
   rcases Nat.lt_or_ge j ops.length with q | q
   ·exact q
   ·rw[q3d q] at hoj;cases hoj
  generalize hDe:(fun i=>listed.getD i true)=D at hrel;have hDi:∀i,listed.getD i true=D i:=fun i=>by rw[<-hDe]
  have hDj:D j=false:=by rw[<-hDi];exact hnl
  have hreadyD:∀m,asks o m->D m=true:=by
   rintro m ⟨e,he,hbind,rfl⟩;have:=hready e (Array.mem_toList_iff.1 he) hbind;have hlt:=m1a ops 0 j o ho.back hoj e.on ⟨e,he,hbind,rfl⟩;have hes:e.on<listed.size:=by omega
   rw[<-hDi];simp only[q3t,Array.getElem?_eq_getElem hes,Option.getD_some] at this ⊢;exact this
  have hclosedD:∀j o,ops[j]? = some o->D j=true->∀m,asks o m->D m=true:=fun j o h1 h2 m h3=>by
   rw[<-hDi] at h2 ⊢;exact hclosed j o h1 h2 m h3
  have before:∀i,ordered (befs ops []) i j=true->i<j/\D i=true:=e1n ho.back (D:=fun i=>D i=true) hclosedD j o hoj hreadyD;have behind:∀i,i<ops.length->ordered (befs ops []) j i=true->j<i/\D i=false:=by
   intro i hi hord;have hoi:ops[i]? = some ops[i]:=q2z hi;have h1:=(e1n ho.back (D:=fun _=>True) (fun _ _ _ _ _ _=>trivial) i _ hoi (fun _ _=>trivial) j hord).1;refine ⟨h1,?_⟩;cases hDi':D i with
   | false=>rfl
   | true =>
    have:=(e1n ho.back (D:=fun i=>D i=true) hclosedD i _ hoi (hclosedD i _ hoi hDi') j hord).2;rw[hDj] at this;cases this
  have agree:∀s∈looks ops o,TD ops L T0 D s=TD ops L T0 (upto j) s:=by
   intro s hs;have hlk:=look_all ops 0 j o ho.look hoj s hs;rw[Nat.zero_add] at hlk;unfold TD;cases hw:f0r ops s 0 with
   | none=>rfl
   | some i =>
    obtain ⟨_,o',k1,_⟩:=n0w ops s 0 i hw;rw[Nat.sub_zero] at k1;have hi:i<ops.length:=by
     rcases Nat.lt_or_ge i ops.length with q | q
     ·exact q
     ·rw[q3d q] at k1;cases k1
    rcases look_ok hlk hw with rfl | h1 | h1
    ·simp only[hDj,a1m]
    ·obtain ⟨q1,q2⟩:=before i h1;simp only[q2,l0m.2 q1]
    ·obtain ⟨q1,q2⟩:=behind i hi h1;have:upto j i=false:=by
      cases hu:upto j i with
      | false=>rfl
      | true=>rw[l0m] at hu;omega
     simp only[q2,this]
  have hents:=ho.ents j o hoj;have entLt:∀i x,ent L i=some x->L[i]? = some (some x):=by
   intro i x hx;unfold ent at hx;cases hLi:L[i]? with
   | none=>rw[hLi] at hx;cases hx
   | some e=>rw[hLi] at hx;simp at hx;rw[hx]
  have upsIn:∀i,i<ops.length->∀m,m∈a0g (ent L i).ups->∃x u s1 s2,ent L i=some (x,u,s1,s2)/\m∈s2:=by
   intro i hi m hm;have he:=ho.ents i _ (q2z hi);unfold v2u at he;cases hx:ent L i with
   | none=>rw[hx] at hm;cases hm
   | some x =>
    obtain ⟨x,u,s1,s2⟩:=x;rw[hx] at he hm;exact ⟨x,u,s1,s2,rfl,(he.2.2 m hm).1⟩
  obtain ⟨st,hst1,hst2,hs⟩:=hrel;have hdst:∀d,o.dst=some d->nt.may d:=fun d e=>t2r (List.all_eq_true.1 hd o (q3y hoj)) d e
  have hsize':(listed.setIfInBounds j true).size=ops.length:=by simp[hsz]
  have hDnew:(fun i=>(listed.setIfInBounds j true).getD i true)=addD D j:=by
   funext i;by_cases e:i=j
   ·subst e;rw[m1f];have:i<listed.size:=by omega
    simp[q3t,this]
   ·rw[s0h D j i e,<-hDi];exact getD_set_ne true (fun q=>e q.symm)
  have hcnt':((List.range ops.length).filter fun i => !(listed.setIfInBounds j true).getD i true).length<=fuel:=by
   have e1:((List.range ops.length).filter fun i => !(listed.setIfInBounds j true).getD i true)=((List.range ops.length).filter fun i => !listed.getD i true).filter fun i => !Nat.beq i j:=by
    rw[List.filter_filter];apply List.filter_congr;intro i _;have:(listed.setIfInBounds j true).getD i true=addD D j i:=congrFun hDnew i;rw[this,hDi];simp only[addD,Bool.not_or];rw[Bool.and_comm]
   rw[e1];have hlt:(((List.range ops.length).filter fun i => !listed.getD i true).filter fun i => !Nat.beq i j).length<((List.range ops.length).filter fun i => !listed.getD i true).length:=by
    rw[List.length_filter_lt_length_iff_exists];exact ⟨j,by rw[q4m,q4v,hnl];exact ⟨hjl,rfl⟩,by simp⟩
   omega
  have hclosed':∀i o',ops[i]? = some o'->(listed.setIfInBounds j true).getD i true=true->∀m,asks o' m->(listed.setIfInBounds j true).getD m true=true:=by
   intro i o' h1 h2 m h3;have g:∀i,(listed.setIfInBounds j true).getD i true=addD D j i:=fun i=>congrFun hDnew i
   rw[g] at h2 ⊢;by_cases e:i=j
   ·subst e;rw[hoj] at h1;injection h1 with h1;subst h1;simp[addD,hreadyD m h3]
   ·rw[s0h D j i e] at h2;simp[addD,hclosedD i o' h1 h2 m h3]
  have next:∀(a':Act) (W':World) (F':Fz) (E':EnvM),RelT cx W0 F0 O0 nt (putT (TD ops L T0 D) o.dst (ent L j).val) (a0x (HD L h0 D ops.length) (ent L j).ups) a' W' F' E' ->
    wpAnyIn (Rnd rd) 0 cx.P .any ops.toArray Q fuel (listed.setIfInBounds j true) a' W':=by
   intro a' W' F' E' hr;refine ih _ a' W' F' E' hsize' hcnt' hclosed' ?_;rw[hDnew,TD_put ho.nodup hoj hDj,HD_put hDj ops.length hjl ?_]
   ·exact hr
   ·intro i h1 h2 h3 m hm hm';obtain ⟨x,u,s1,s2,e1,m1⟩:=upsIn j hjl m hm;obtain ⟨y,v,t1,t2,e2,m2⟩:=upsIn i h2 m hm';have hcl:clash (s1,s2) (t1,t2)=true:=l1p.2 (.inl ⟨m,m1,by simp[m2]⟩);have:=(behind i h2 (v1t ho.apart h1 (entLt _ _ e1) (entLt _ _ e2) hcl)).2;rw[h3] at this;cases this
  have hoja:(ops.toArray)[j]? = some o:=by simpa using hoj
  have guardEq:w0b ops o (TD ops L T0 D)=w0b ops o (TD ops L T0 (upto j)):=by
   unfold w0b;cases hgu:o.guard with
   | none=>rfl
   | some jw =>
    obtain ⟨g,want⟩:=jw;dsimp only;cases hgj:(ops[g]?).bind (·.dst) with
    | none=>rfl
    | some s =>
     dsimp only;rw[agree s (by simp[looks,hgu,hgj])]
  have ht:∀s,RdV cx.P W F E (TD ops L T0 D s) (a.tmps.getD s undef):=fun s=>by rw[<-hst2];exact hs.t s
  unfold wpOpIn;rw[hoja];dsimp only;unfold v2u at hents;cases hej:ent L j with
  | none =>
   rw[hej] at hents next;have hw:=c1o (cx:=cx) ht (by rw[guardEq];exact hents);rw[hw];simp only[Bool.false_eq_true,if_false];refine ⟨fun _ _=>trivial,next _ W F E ⟨{ st with t:=putV st.t o.dst .undef },by simp[hst1,Ent.ups,a0x],?_,hs.skip hdst⟩⟩;funext s;rw[x0e,hst2];rfl
  | some x =>
   obtain ⟨x,u,s1,s2⟩:=x;rw[hej] at hents next;obtain ⟨hg,hev,hnm⟩:=hents;have hw:=c1o (cx:=cx) ht (by rw[guardEq];exact hg);rw[hw];simp only[if_true];have hres:restrict (HD L h0 D ops.length) (s1++s2)=restrict (HD L h0 (upto j) ops.length) (s1++s2):=by
    apply q4u;intro m;rw[p0v,p0v];by_cases hm:m∈s1++s2
    ·rw[HD_get (D:=D) (D':=upto j) ops.length fun i hi hmi => ?_];obtain ⟨y,v,t1,t2,e2,m2⟩:=upsIn i hi m hmi;rcases Nat.lt_trichotomy i j with hij | hij | hij
     ·have hcl:clash (t1,t2) (s1,s2)=true:=l1p.2 (.inl ⟨m,m2,hm⟩);rw[(before i (v1t ho.apart hij (entLt _ _ e2) (entLt _ _ hej) hcl)).2,l0m.2 hij]
     ·subst hij;rw[hDj,a1m]
     ·have hcl:clash (s1,s2) (t1,t2)=true:=by
       rw[l1p];rcases q3m.1 hm with q | q
       ·exact .inr ⟨m,m2,q⟩
       ·exact .inl ⟨m,q,by simp[m2]⟩
      rw[(behind i hi (v1t ho.apart hij (entLt _ _ hej) (entLt _ _ e2) hcl)).2];cases hu:upto j i with
      | false=>rfl
      | true=>rw[l0m] at hu;omega
    ·have:hasN (s1++s2) m=false:=by
      cases hh:hasN (s1++s2) m with
      | false=>rfl
      | true=>exact absurd (c0w.1 hh) hm
     rw[this];have key:∀(k:Heap),k.length=h0.length->(k[m]?).map (fun e=>if false=true then e else ((0,none):Nat×Option Blk))=if m<h0.length then some (0,none) else none:=by
      intro k hk;by_cases hlt:m<h0.length
      ·rw[q2z (by omega),q0z hlt];rfl
      ·rw[q3d (by omega),q0n hlt];rfl
     rw[key _ (s0i _ _ _ _),key _ (s0i _ _ _ _)]
   have hρ:∀y∈o.op.operands.toList,y1j cx (TD ops L T0 D) y=y1j cx (TD ops L T0 (upto j)) y:=by
    intro y hy;cases y with
    | tmp t =>
     exact agree t (by
      unfold looks;apply List.mem_append_left;rw[List.mem_filterMap]
      exact ⟨.tmp t,hy,rfl⟩)
    | _=>rfl
   have hev2:evOp cx call fx o (y1j cx (TD ops L T0 D)) (restrict (HD L h0 D ops.length) (s1++s2)) (fun x u=>some (x,u))=some (x,u):=by
    rw[hres,m2u o _ hρ];exact hev
   have hev3:evOp cx call fx o (y1j cx (TD ops L T0 D)) (restrict (HD L h0 D ops.length) (s1++s2)) (fun x u=>if t1g s2 h0.length u=true then some (x,u) else none)=some (x,u):=by
    rw[i2a,hev2];simp only[q3l];rw[q0z (k1r.2 hnm)]
   have hctx:Ctx cx call W F E (· ∈ s1++s2) (restrict (HD L h0 D ops.length) (s1++s2)) (y1j cx (TD ops L T0 D)) a:=by
    refine ⟨hc.later hs.later,tab,?_,fun y => ?_,hs.hF⟩
    ·rw[<-hst1];exact hs.hr.restrict
    ·rw[<-hst2,<-opnd_T];exact e1o (hc.glob.later hs.later) hs.t y
   obtain ⟨x',u',hk',hok⟩:=q1a (fx:=fx) hctx hfn (k:=fun x u=>if t1g s2 h0.length u=true then some (x,u) else none) (by
    intro x' u' r' hk n hn;dsimp only at hk;split at hk
    case isFalse=>cases hk
    rename_i hin;obtain ⟨q1,q2⟩:=k1r.1 hin n hn
    exact ⟨by simp[q1],by rw[v0j,s0i];exact q2⟩) hev3
   dsimp only at hk';split at hk'
   case isFalse=>cases hk'
   simp only[Option.some.injEq,Prod.mk.injEq] at hk';obtain ⟨rfl,rfl⟩:=hk';refine hok rd _ _ (h2y hev3 rd _) fun v W' F' E' hp hv => ?_
   have hpw:=OpPost.widen (by rw[<-hst1];exact hs.hr) hp (fun n hn=>by simp[(hnm n hn).1]);rw[<-hst1] at hpw;refine next _ W' F' E' ⟨_,?_,?_,hs.step hdst hpw hv⟩
   ·rw[hst1];rfl
   ·funext s;rw[x0e,hst2];rfl
end
end
section
section
variable {cx:Cx}{call:Oracle cx}{fx:Hints}{W0 W W':World}{F0 F F':Fz}{O0:List Nat}{E E':EnvM}{h:Heap}{a:Act}{R:Type}{nt:Slots}{st:St}
theorem n1z {rd:Option Nat}{id:Nat}{ops:Array Oper}{draw:Bool}{Q:Exit->Act->World->Prop}{k:St->Option R}{r:R}(hc:CallSound cx call W0 F0)(tab:i0f cx)(hfn:FnOk cx call)(hin:InOk cx call)(hm:cx.P.follows .mixedOrders=true)
  (hd:z1w nt.nt nt.K ops.toList=true) (hs:StRel cx W0 F0 O0 nt st a W F E) (hk:u1q cx call fx ops.toList draw st k=some r)
  (hQ:∀st' a' W' F' E',k st'=some r->StRel cx W0 F0 O0 nt st' a' W' F' E'->Q .normal a' W'):(Code.region id ops draw).wpIn (Rnd rd) 0 cx.P Q a W:=by
 unfold u1q at hk;cases draw with
 | false =>
  dsimp only at hk;apply wpIn_region;have:=e2v (W0:=W0) (F0:=F0) (O0:=O0) (nt:=nt) hc tab hfn hin ops.toList rd Q ops.toList 0 st a W F E k r (by simp) hd hs hk hQ;rw[List.range_eq_range']
  simpa using this
 | true =>
  dsimp only at hk;split at hk
  case isFalse=>cases hk
  rename_i hap;simp only[z1x,q1n] at hap;obtain ⟨h1,h2,h3⟩:=hap;obtain ⟨L,st',hk',htr⟩:=z1t ops.toList ops.toList 0 st [] _ r hk;split at hk'
  case isFalse=>cases hk'
  rename_i hapt;have hnd:=n0r.1 h1;have hz:∀i,upto 0 i=false:=fun i=>by
   cases hu:upto 0 i with
   | false=>rfl
   | true=>rw[l0m] at hu;omega
  have hT0:TD ops.toList L (getT st.t) (upto 0)=getT st.t:=by
   funext s;unfold TD;cases f0r ops.toList s 0 with
   | none=>rfl
   | some i=>simp only[hz i];rfl
  have hH0:∀(D:Nat->Bool) (n:Nat),(∀i,i<n->D i=false)->HD L st.h D n=st.h:=by
   intro D n;induction n with
   | zero=>intro _;rfl
   | succ n ih =>
    intro hD;simp only[HD,hD n (by omega),Bool.false_eq_true,if_false];exact ih fun i hi=>hD i (by omega)
  obtain ⟨k1,k2,k3⟩:=j2d (L:=L) (T0:=getT st.t) (h0:=st.h) hnd ops.toList 0 L _ _ (by simp) (by simp) hT0.symm (hH0 _ _ fun i _=>hz i).symm htr;apply wpIn_region_any hm;refine e2z (W0:=W0) (F0:=F0) (O0:=O0) (nt:=nt) (L:=L) (T0:=getT st.t) (h0:=st.h) hc tab hfn ⟨hnd,h2,h3,fun i o ho=>k1 i o (Nat.zero_le _) ho,hapt⟩ hd (fun a' W' F' E' hr => ?_)
   ops.size _ a _ F E (by simp) ?_ ?_ ?_
  ·obtain ⟨st2,e1,e2,hs2⟩:=hr;rw[<-k3] at e1;rw[<-k2] at e2;exact hQ st' a' W' F' E' hk' (hs2.guard e1.symm (fun s=>by rw[e2]))
  ·have:((List.range ops.toList.length).filter fun i => !(Array.replicate ops.size false).getD i true).length<=(List.range ops.toList.length).length:=List.length_filter_le _ _
   simpa using this
  ·intro j o hj hl;exfalso;have hlt:j<ops.size:=by
    rcases Nat.lt_or_ge j ops.size with q | q
    ·exact q
    ·rw[q3d (by simpa using q)] at hj;cases hj
   simp[q3t,hlt] at hl
  ·have hf:∀i,i<ops.toList.length->(Array.replicate ops.size false).getD i true=false:=by
    intro i hi;have:i<ops.size:=by simpa using hi
    simp[q3t,this]
   refine ⟨st,(hH0 _ _ hf).symm,?_,hs.drew rfl rfl⟩;funext s;unfold TD;cases hw:f0r ops.toList s 0 with
   | none=>rfl
   | some i =>
    obtain ⟨_,o',q1,_⟩:=n0w ops.toList s 0 i hw;rw[Nat.sub_zero] at q1;have hi:i<ops.toList.length:=by
     rcases Nat.lt_or_ge i ops.toList.length with q | q
     ·exact q
     ·rw[q3d q] at q1;cases q1
    simp only[hf i hi];rfl
def e0i (l:List (Nat×Ty))(a:Act):List Value:=l.map fun p=>a.tmps.getD p.1 undef
structure KeepRel (cx:Cx)(W0:World)(F0:Fz)(O0:List Nat)(nt:Slots)(l:List (Nat×Ty))(x:El (b0r l))(a:Act)(W:World)(F:Fz)(O:List Nat):Prop where
 hF:∀b,F b->b<W.heap.size
 later:Later W0 F0 W F
 frame:∀b,b<W0.heap.size->b ∉ O0->W.heap[b]? = W0.heap[b]?
 own:∀b∈O,b∈O0\/W0.heap.size<=b
 fz:∀b,F b->F0 b\/b∈O0\/W0.heap.size<=b
 size:a.tmps.size=nt.nt
 keep:∀i∈nt.K,a.tmps.getD i undef=nt.kv i
 defers:(nt.md=false->a.defers=[])/\DefOk W0.heap.size W F (· ∈ O) a.defers
 forms:c0r (l.map (·.2)) (e0i l a)
 rd:RdB cx.P (b0r l) x W F O (cat (e0i l a))
 nodup:O.Nodup
 free:∀b∈O,¬F b
theorem y1g (hc:CallSound cx call W F)(hr:HR cx.P W F E (fun _=>True) st.h)(ht:∀s,RdV cx.P W F E (getT st.t s) (a.tmps.getD s undef)):∀(l:List (Nat×Ty)) (x:El (b0r l)) (ns:List Nat),
  r0p cx call st l=some (x,ns)->∃taken lent O,ns.Perm (taken++lent)/\c0r (l.map (·.2)) (e0i l a)/\RdB cx.P (b0r l) x W (a0m F st.h E lent) O (cat (e0i l a))/\Takes F st.h E taken O:=by
 intro l;induction l with
 | nil =>
  intro x ns hk;simp only[r0p,Option.some.injEq] at hk;obtain ⟨_,rfl⟩:=hk;exact ⟨[],[],[],List.Perm.refl _,trivial,rfl,Takes.nil⟩
 | cons p l ih =>
  obtain ⟨s,t⟩:=p;intro x ns hk;simp only[r0p] at hk;split at hk
  case h_2=>cases hk
  rename_i ag cs hg;split at hk
  case isFalse=>cases hk
  rename_i hag;have hv:=ht s;rw[hg] at hv;cases h1:q0v cx call st.h t cs with
  | none=>rw[h1] at hk;cases hk
  | some z =>
   rw[h1] at hk;simp only[q3l] at hk;cases h2:r0p cx call st l with
   | none=>rw[h2] at hk;cases hk
   | some q =>
    rw[h2] at hk;simp only[Option.map_some,Option.some.injEq] at hk;obtain ⟨rfl,rfl⟩:=hk;obtain ⟨O1,k1,k2,k3⟩:=e1l hc hr (x:=z.1) (taken:=z.2.1) (lent:=z.2.2) h1 hv.1;obtain ⟨t2,l2,O2,m0,m1,m2,m3⟩:=ih q.1 q.2 h2;have hw:(a.tmps.getD s undef).cells.size=width t:=by simpa using k3
    refine ⟨z.2.1++t2,z.2.2++l2,O1++O2,?_,⟨RdV1.formed hv hag hw,m1⟩,⟨O1,O2,rfl,RdB.congr t (fun j hj => ?_) (k1.later t (Later.same a0m.left) (fun _ _=>rfl)),?_⟩,k2.append hr m3⟩
    ·rw[q3e,q3e];exact List.Perm.append_left _ ((List.Perm.append_left _ m0).trans (List.perm_append_comm_assoc _ _ _))
    ·show cat (a.tmps.getD s undef::e0i l a) j=_;rw[i0d hw j hj,one,q3w]
    ·show RdB cx.P (b0r l) q.1 W _ O2 (fun j=>cat (a.tmps.getD s undef::e0i l a) (width t+j));rw[k0e hw];exact m2.later (b0r l) (Later.same a0m.right) (fun _ _=>rfl)
theorem e1k (hc:CallSound cx call W0 F0)(hs:StRel cx W0 F0 O0 nt st a W F E){l:List (Nat×Ty)}{x:El (b0r l)}(hk:r0o cx call st l=some x) :
  ∃F' O,KeepRel cx W0 F0 O0 nt l x a W F' O/\(∀b∈O,a0w st.h E b)/\(∀b,F' b->F b\/a0w st.h E b)/\Later W F W F':=by
 unfold r0o at hk;split at hk
 case h_2=>cases hk
 rename_i x' ns hp;split at hk
 case isFalse=>cases hk
 rename_i hnd;injection hk with hk;subst hk;obtain ⟨taken,lent,O,k0,k1,k2,k3⟩:=y1g (hc.later hs.later) hs.hr hs.t l x' ns hp;have hnd':(taken++lent).Nodup:=(k0.nodup_iff).1 (n0r.1 hnd);rw[List.nodup_append] at hnd';have hO:∀b∈O,a0w st.h E b:=fun b hb=>by
  obtain ⟨n,_,hat⟩:=k3.at_ b hb;exact ⟨n,hat⟩
 have hF2:∀b,a0m F st.h E lent b->F b\/a0w st.h E b:=fun b hb=>by
  rcases hb with hb | ⟨n,_,hat⟩
  ·exact .inl hb
  ·exact .inr ⟨n,hat⟩
 refine ⟨a0m F st.h E lent,O,⟨fun b hb=>a0m.lt hs.hr hs.hF hb,hs.later.trans (b0w lent),hs.frame,fun b hb => ?_,fun b hb => ?_,hs.size,hs.keep,?_,k1,k2,k3.nodup hnd'.1,?_⟩,hO,hF2,b0w lent⟩
 ·obtain ⟨n,_,hat⟩:=k3.at_ b hb;exact hs.own b ⟨n,hat⟩
 ·rcases hb with hb | ⟨n,_,hat⟩
  ·exact hs.fz b hb
  ·exact .inr (hs.own b ⟨n,hat⟩)
 ·exact ⟨hs.defers.1,hs.defers.2.turn fun D _ _ h1 h2 _=>⟨rfl,fun hf=>(hF2 D hf).elim h1 h2,fun hm=>h2 (hO D hm)⟩⟩
 ·rintro b hb (hf | ⟨n,hn,hat⟩)
  ·exact k3.free b hb hf
  ·obtain ⟨m,hm,hat'⟩:=k3.at_ b hb;exact hnd'.2.2 m hm n hn (c0i hs.hr hat' hat)
theorem k1m (hc:CallSound cx call W0 F0)(hs:StRel cx W0 F0 O0 nt st a W F E){l:List (Nat×Ty)}{x:El (b0r l)}(hk:r0o cx call st l=some x):∃F' O,KeepRel cx W0 F0 O0 nt l x a W F' O:=by
 obtain ⟨F',O,h,_⟩:=e1k hc hs hk;exact ⟨F',O,h⟩
theorem p1t {bs:List (Nat×Nat×Blk)}(hf:h2t h bs=true):(∀n∈b0l bs,n<h.length)/\(b0l bs).Nodup:=by
 simp only[h2t,q1n] at hf;refine ⟨fun n hn => ?_,n0r.1 hf.2⟩;simp only[b0l,q4g] at hn;obtain ⟨b,hb,rfl⟩:=hn;have:=List.all_eq_true.1 hf.1 b hb
 simpa [Nat.blt_eq] using this
theorem u2p {P:Program}{t:Ty}{cs:List Cell}{v:Value}{g:Get}(hf:formed t v)(hc:f0o P W F E t cs g)(hg:∀j,j<width t->g j=one v j):RdV P W F E (.v (agg t) cs) v:=by
 obtain ⟨vs,v1,v2,v3⟩:=hc;have hvs:vs=v.cells.toList:=by
  apply q4u;intro j;by_cases hj:j<width t
  ·rw[<-v2 j hj,hg j hj,one,q3w]
  ·have:=hf.2.2;rw[q3d (by omega),q3d (by simp;omega)]
 subst hvs;exact ⟨v3,hf.1,hf.2.1⟩
theorem m1j {P:Program}:∀(l:List (Nat×Ty)) (x:El (b0r l)) (t:List (Nat×V)) (h:Heap) (nm:Nat) (k:St->Option R) (r:R),s0n l x t h nm k=some r ->
  ∀ {E:EnvM} {O:List Nat},HR P W F E (fun _=>True) h->c0r (l.map (·.2)) (e0i l a)->RdB P (b0r l) x W F O (cat (e0i l a))->O.Nodup->(∀b∈O,¬F b)->(∀b∈O,¬a0w h E b) ->
   (∀s,RdV P W F E (getT t s) (a.tmps.getD s undef)) ->
   ∃st' E',k st'=some r/\HR P W F E' (fun _=>True) st'.h/\(∀s,RdV P W F E' (getT st'.t s) (a.tmps.getD s undef))/\(∀b,a0w st'.h E' b->a0w h E b\/b∈O):=by
 intro l;induction l with
 | nil=>intro x t h nm k r hk E O hr _ _ _ _ _ ht;exact ⟨⟨t,h⟩,E,hk,hr,ht,fun b hb => .inl hb⟩
 | cons p l ih =>
  obtain ⟨s,ty⟩:=p;intro x t h nm k r hk E O hr hf hx hO hF hL ht;simp only[s0n,f0d] at hk;obtain ⟨hfr,hk⟩:=b0s hk;obtain ⟨f1,f2⟩:=p1t hfr;obtain ⟨O1,O2,rfl,x1,x2⟩:=hx;rw[List.nodup_append] at hO;have hf':formed ty (a.tmps.getD s undef)/\c0r (l.map (·.2)) (e0i l a):=hf;obtain ⟨E1,c1,cc1⟩:=r0a h ty x.1 [] nm hr x1 hO.1 (fun b hb=>hF b (by simp[hb])) (fun b hb=>hL b (by simp[hb])) (fun n hn=>⟨trivial,f1 n hn,b0m hr trivial (f1 n hn)⟩) f2;have hlive:∀b∈O2,¬a0w (e0f h (b0k h ty x.1 [] nm).2.1) E1 b:=by
   rintro b hb ⟨m,hat⟩;rcases c1.at_ m b hat with ⟨_,k⟩ | ⟨_,k⟩
   ·exact hO.2.2 b k b hb rfl
   ·exact hL b (by simp[hb]) ⟨m,k⟩
  have hg:(fun j=>cat (e0i ((s,ty)::l) a) (width ty+j))=cat (e0i l a):=k0e (vs:=e0i l a) hf'.1.2.2;have x2':RdB P (b0r l) x.2 W F O2 (fun j=>cat (e0i ((s,ty)::l) a) (width ty+j)):=x2;rw[hg] at x2';obtain ⟨st',E2,m1,m2,m3,m4⟩:=ih x.2 _ _ _ k r hk c1.hr hf'.2 x2' hO.2.1 (fun b hb=>hF b (by simp[hb])) hlive (fun s'=>by
   simp only[getT];cases hbe:Nat.beq s s' with
   | false=>exact (ht s').later (Later.refl W F) c1.env
   | true =>
    have:=q3u hbe;subst this
    exact u2p hf'.1 cc1 (i0d (vs:=e0i l a) hf'.1.2.2))
  refine ⟨st',E2,m1,m2,m3,fun b hb => ?_⟩;rcases m4 b hb with ⟨m,hat⟩ | q
  ·rcases c1.at_ m b hat with ⟨_,k⟩ | ⟨_,k⟩
   ·exact .inr (by simp[k])
   ·exact .inl ⟨m,k⟩
  ·exact .inr (by simp[q])
theorem p1l {P:Program}(fx:Hints):HR P W F ⟨fun _ _=>none,fun _=>0⟩ (fun _=>True) (t0p fx):=by
 have get:∀(n:Nat) (x:Nat×Option Blk),(t0p fx)[n]? = some x->x=(0,none):=by
  intro n x hx;unfold t0p at hx;rw[List.getElem?_replicate] at hx;split at hx
  ·injection hx with hx;exact hx.symm
  ·cases hx
 refine ⟨fun n ver b _ hb => ?_,fun n ver b hb => ?_,fun n m vn vm bn bm L M x h1 => ?_⟩
 ·have:=get n _ hb;injection this
 ·have:=get n _ hb;injection this with _ h2;cases h2
 ·have:=get n _ h1;injection this with _ h2;cases h2
theorem p0x (fx:Hints){E:EnvM}{b:Nat}:¬a0w (t0p fx) E b:=by
 rintro ⟨n,ver,B,L,h1,_⟩;unfold t0p at h1;rw[List.getElem?_replicate] at h1;split at h1
 ·injection h1 with h1;injection h1 with _ h1;cases h1
 ·cases h1
theorem f1r {l:List (Nat×Ty)}{x:El (b0r l)}{k:St->Option R}{r:R}{O:List Nat}(hk:n0f fx l x k=some r)(hI:∀E,nt.I E)(hs:KeepRel cx W0 F0 O0 nt l x a W F O) :
  ∃st' E',k st'=some r/\StRel cx W0 F0 O0 nt st' a W F E'/\∀b,a0w st'.h E' b->b∈O:=by
 unfold n0f at hk;obtain ⟨st',E',h1,h2,h3,h4⟩:=m1j (P:=cx.P) (W:=W) (F:=F) (a:=a) l x [] (t0p fx) 0 k r hk (p1l fx) hs.forms hs.rd hs.nodup hs.free (fun b _=>p0x fx) (fun s=>trivial);have hL:∀b,a0w st'.h E' b->b∈O:=fun b hb=>by
  rcases h4 b hb with q | q
  ·exact (p0x fx q).elim
  ·exact q
 exact ⟨st',E',h1,⟨h2,hs.hF,h3,hs.later,hs.frame,fun b hb=>hs.own b (hL b hb),hs.fz,hs.size,hs.keep,⟨hs.defers.1,hs.defers.2.turn fun D _ _ h1 h2 _=>⟨rfl,h1,fun h=>h2 (hL D h)⟩⟩,hI E'⟩,hL⟩
theorem z0a {l:List (Nat×Ty)}{x:El (b0r l)}{k:St->Option R}{r:R}{O:List Nat}(hk:n0f fx l x k=some r)(hI:∀E,nt.I E)(hs:KeepRel cx W0 F0 O0 nt l x a W F O) :
  ∃st' E',k st'=some r/\StRel cx W0 F0 O0 nt st' a W F E':=by
 obtain ⟨st',E',h1,h2,_⟩:=f1r hk hI hs;exact ⟨st',E',h1,h2⟩
end
end
section
theorem e2k {a b:List Nat}{n:Nat}:hasN (a++b) n=(hasN a n||hasN b n):=by
 induction a with
 | nil=>rfl
 | cons m r ih=>simp only[q4w,hasN,ih,Bool.or_assoc]
theorem q1g {nt:Nat}{K L:List Nat}:∀c:Code,noRF c=true->d0f nt K c=true->i1a L c=true->d0f nt (K++L) c=true:=by
 intro c;induction c with
 | region id ops draw =>
  intro _ h1 h2;simp only[d0f,z1w,i1a] at h1 h2 ⊢;rw[List.all_eq_true] at h1 h2 ⊢;intro o ho;have h1:=h1 o ho;have h2:=h2 o ho;split
  ·rename_i d hd;rw[hd] at h1 h2;simp only[q1n,Bool.not_eq_true'] at h1 h2 ⊢;exact ⟨h1.1,by rw[e2k,h1.2,h2];rfl⟩
  ·rfl
 | seq a b iha ihb =>
  intro h0 h1 h2;simp only[noRF,d0f,i1a,q1n] at h0 h1 h2 ⊢;exact ⟨iha h0.1 h1.1 h2.1,ihb h0.2 h1.2 h2.2⟩
 | cond c a b iha ihb =>
  intro h0 h1 h2;simp only[noRF,d0f,i1a,q1n] at h0 h1 h2 ⊢;exact ⟨iha h0.1 h1.1 h2.1,ihb h0.2 h1.2 h2.2⟩
 | block id a ih=>intro h0 h1 h2;exact ih h0 h1 h2
 | loop a ih=>intro h0 h1 h2;exact ih h0 h1 h2
 | rangeFunc g ps a b iha ihb=>intro h0;cases h0
 | scope a _=>intro h0;cases h0
 | _=>intro _ _ _;rfl
def s1z:List Nat->List Value->Array Value->Array Value
 | p::ps,v::vs,t=>s1z ps vs (t.setIfInBounds p v)
 | _,_,t=>t
theorem putPs_eq:∀(ps:List Nat) (vs:List Value) (t:Array Value),(ps.zip vs).foldl (fun t (p,v)=>t.setIfInBounds p v) t=s1z ps vs t:=by
 intro ps;induction ps with
 | nil=>intro vs t;cases vs<;>rfl
 | cons p ps ih =>
  intro vs t;cases vs with
  | nil=>rfl
  | cons v vs=>exact ih vs _
theorem k2z:∀(ps:List Nat) (vs:List Value) (t:Array Value),(s1z ps vs t).size=t.size:=by
 intro ps;induction ps with
 | nil=>intro vs t;cases vs<;>rfl
 | cons p ps ih =>
  intro vs t;cases vs with
  | nil=>rfl
  | cons v vs=>show (s1z ps vs _).size=_;rw[ih];simp
theorem d2j:∀(ps:List Nat) (vs:List Value) (t:Array Value) (s:Nat),s ∉ ps->(s1z ps vs t).getD s undef=t.getD s undef:=by
 intro ps;induction ps with
 | nil=>intro vs t s _;cases vs<;>rfl
 | cons p ps ih =>
  intro vs t s hs;cases vs with
  | nil=>rfl
  | cons v vs =>
   show (s1z ps vs _).getD s undef=_;rw[ih vs _ s (fun h=>hs (q3h _ h))];simp only[q3t,Array.getElem?_setIfInBounds];rw[q0n (fun e=>hs (by rw[<-e];exact List.mem_cons_self))]
section
variable {cx:Cx}{call:Oracle cx}{fx:Hints}{W0 W W':World}{F0 F F':Fz}{O0:List Nat}{E E':EnvM}{h:Heap}{a:Act}{R:Type}{nt:Slots}{st:St}
theorem parK_rd:∀(ps:List Nat) (e:Ty) (y:El e) (t t':List (Nat×V)) (vs:List Value) (tm:Array Value),parK ps e y t=some t'->f0n cx.P e y W F vs->(∀p∈ps,p<tm.size)->(∀s,RdV cx.P W F E (getT t s) (tm.getD s undef)) ->
  vs.length=ps.length/\∀s,RdV cx.P W F E (getT t' s) ((s1z ps vs tm).getD s undef):=by
 intro ps;induction ps with
 | nil =>
  intro e y t t' vs tm hk hv _ ht;cases e with
  | unit =>
   simp only[parK,Option.some.injEq] at hk;subst hk;have:vs=[]:=hv;subst this;exact ⟨rfl,ht⟩
  | _=>cases hk
 | cons p ps ih =>
  intro e y t t' vs tm hk hv hp ht;cases e with
  | pair a b =>
   simp only[parK] at hk;obtain ⟨v,r,rfl,f1,f2,f3⟩:=hv;have hv1:RdV cx.P W F E (toV a y.1) v:=by
    obtain ⟨ws,w1,w2,w3⟩:=n0n (E:=E) a y.1 _ f2;exact u2p f1 ⟨ws,w1,w2,w3⟩ fun j _=>rfl
   obtain ⟨k1,k2⟩:=ih b y.2 _ t' r (tm.setIfInBounds p v) hk f3 (fun q hq=>by simpa using hp q (q3h _ hq)) (fun s=>by
    simp only[getT];have hlt:=hp p List.mem_cons_self;cases hbe:Nat.beq p s with
    | true =>
     have:=q3u hbe;subst this
     simpa [q3t,Array.getElem?_setIfInBounds,hlt] using hv1
    | false =>
     have hne:p≠s:=fun e=>by subst e;simp at hbe
     have:=ht s
     simpa [q3t,Array.getElem?_setIfInBounds,hne] using this)
   exact ⟨by simp[k1],k2⟩
  | _=>cases hk
open Classical in
theorem StRel.rebase {nt':Slots}{a':Act}{W2:World}(hs:StRel cx W0 F0 O0 nt st a W F E)(hl:Later W F W2 F)(hsz:W2.heap.size=W.heap.size)(hsame:∀b,a0w st.h E b->W2.heap[b]? = W.heap[b]?)
  (ht:a'.tmps=a.tmps) (hn:nt'.nt=nt.nt) (hk:∀i∈nt'.K,a.tmps.getD i undef=nt'.kv i) (hI:nt'.I E) (hd:a'.defers=[]) :
  ∃O1:List Nat,(∀b,b∈O1↔a0w st.h E b)/\StRel cx W2 F O1 nt' st a' W2 F E:=by
 have hO:∀b,b∈(List.range W.heap.size).filter (fun b=>decide (a0w st.h E b))↔a0w st.h E b:=fun b=>by
  simp only[q4m,q4v,q3a];exact ⟨fun h=>h.2,fun h=>⟨hs.hr.lt b h,h⟩⟩
 exact ⟨_,hO,hs.hr.world hl (fun b hb=>⟨hsame b hb,fun h=>h⟩),fun b hb=>by rw[hsz];exact hs.hF b hb,fun s=>by rw[ht];exact (hs.t s).later hl (EnvLe.refl E),Later.refl W2 F,fun _ _ _=>rfl,fun b hb => .inl ((hO b).2 hb),fun _ hb => .inl hb,
  by rw[ht,hn];exact hs.size,fun i hi=>by rw[ht];exact hk i hi,⟨fun _=>hd,by rw[hd];exact .nil⟩,hI⟩
theorem m0a {l:Nat}{o:Obj}(hl:¬F l):Later W F (W.putObj l o) F :=
 ⟨rfl,rfl,rfl,by simp,fun b hb=>World.putObj_heap_other (fun e=>hl (e ▸ hb)),fun _ h=>h⟩
theorem StRel.dead {l:Nat}{o:Obj}(hs:StRel cx W0 F0 O0 nt st a W F E)(h0:W0.heap.size<=l)(hF:¬F l)(hL:¬a0w st.h E l)(hd:W.heap[l]? ≠ some (.deferred (some []))):StRel cx W0 F0 O0 nt st a (W.putObj l o) F E:=by
 have hl:=m0a (W:=W) (o:=o) hF;refine ⟨hs.hr.world hl (fun b hb=>⟨World.putObj_heap_other (fun e=>hL (e ▸ hb)),fun h=>h⟩),fun b hb=>by simpa using hs.hF b hb,fun s=>(hs.t s).later hl (EnvLe.refl E),hs.later.trans hl,fun b hb hO => ?_,hs.own,hs.fz,hs.size,hs.keep,⟨hs.defers.1,hs.defers.2.turn fun D hD _ h1 h2 h3=>⟨World.putObj_heap_other (fun e=>hd (e ▸ h3)),h1,h2⟩⟩,hs.env⟩;rw[World.putObj_heap_other (by omega)];exact hs.frame b hb hO
theorem KeepRel.dead {l:Nat}{o:Obj}{live:List (Nat×Ty)}{x:El (b0r live)}{O:List Nat}(hs:KeepRel cx W0 F0 O0 nt live x a W F O)(h0:W0.heap.size<=l)(hF:¬F l)(hL:l ∉ O)(hd:W.heap[l]? ≠ some (.deferred (some []))):KeepRel cx W0 F0 O0 nt live x a (W.putObj l o) F O:=by
 have hl:=m0a (W:=W) (o:=o) hF;refine ⟨fun b hb=>by simpa using hs.hF b hb,hs.later.trans hl,fun b hb hO => ?_,hs.own,hs.fz,hs.size,hs.keep,⟨hs.defers.1,hs.defers.2.turn fun D hD _ h1 h2 h3=>⟨World.putObj_heap_other (fun e=>hd (e ▸ h3)),h1,h2⟩⟩,hs.forms,RdB.later (b0r live) hs.rd hl (fun b hb=>World.putObj_heap_other (fun e=>hL (e ▸ hb))),hs.nodup,hs.free⟩;rw[World.putObj_heap_other (by omega)];exact hs.frame b hb hO
def g1u (cx:Cx)(call:Oracle cx)(fx:Hints)(W0:World)(F0:Fz)(O0:List Nat)(nt:Slots)(rd:Option Nat)(Rf:Type)(ret:St->Option Rf)(c:Code):Prop :=
 ∀(R:Type) (kr:Rf->Option R) (st:St) (k:Exit->St->Option R) (r:R) (a:Act) (W:World) (F:Fz) (E:EnvM) (Q:Exit->Act->World->Prop),
  d0f nt.nt nt.K c=true->StRel cx W0 F0 O0 nt st a W F E->evC cx call fx Rf ret c R kr st k=some r ->
  (∀e st' a' W' F' E',k e st'=some r->StRel cx W0 F0 O0 nt st' a' W' F' E'->Q e a' W') ->
  (∀y st' a' W' F' E',kr y=some r->ret st'=some y->StRel cx W0 F0 O0 nt st' a' W' F' E'->Q .ret a' W')->c.wpIn (Rnd rd) 0 cx.P Q a W
theorem c2t {Rf:Type}{ret:St->Option Rf}{asg body:Code}{live:List (Nat×Ty)}{e:Ty}{ps:Array Nat}{l D0:Nat}{fn:FuncId}{x z:El (b0r live)}{A:World}{FA:Fz}{O:List Nat}{y:El e}{vs:List Value}
  (hasg:∀(W0:World) (F0:Fz) (O0:List Nat) (nt:Slots),CallSound cx call W0 F0->(∀E,nt.I E)->g1u cx call fx W0 F0 O0 nt (some l) Rf ret asg)
  (hbody:∀(W0:World) (F0:Fz) (O0:List Nat) (nt:Slots),CallSound cx call W0 F0->(∀E,nt.I E)->g1u cx call fx W0 F0 O0 nt (some l) Rf ret body)
  (hc:CallSound cx call W0 F0) (hI:∀E,nt.I E) (hps:∀p∈ps.toList,p<nt.nt/\p ∉ nt.K/\p ∉ live.map (·.1))
  (hba:d0f nt.nt (nt.K++live.map (·.1)) asg=true) (hbb:d0f nt.nt (nt.K++live.map (·.1)) body=true)
  (hs:KeepRel cx W0 F0 O0 nt live x a A FA O)
  (hl:A.heap[l]? = some (.loop { state := .ready,pending:=none,fn:=fn,tmps:=a.tmps,params:=ps,assign:=asg,body:=body,defers:=D0 })) (hl0:W0.heap.size<=l) (hlF:¬FA l) (hlO:l ∉ O)
  (hv:f0n cx.P e y A FA vs)
  (hk:(n0f fx live x fun st=>(parK ps.toList e y st.t).bind fun t=>evC cx call fx Rf ret asg _ (fun _=>none) { st with t:=t } (onN fun st=>evC cx call fx Rf ret body _ (fun _=>none) st (onN fun st=>r0o cx call st live)))=some z)
  {R:Ending->World->Prop} (hR:∀A' FA' O',KeepRel cx W0 F0 O0 nt live z a A' FA' O'->A'.heap[l]? = A.heap[l]? -> Later A FA A' FA' ->
   (∀b,b<A.heap.size->b ∉ O->A'.heap[b]? = A.heap[b]?)->(∀b∈O',b∈O\/A.heap.size<=b)->(∀b,FA' b->FA b\/b∈O\/A.heap.size<=b)->R (.returned (.bool true)) A') :
  YieldAt Fence.wide 0 cx.P l vs.toArray A R:=by
 obtain ⟨st,E1,hk,hst,hlive⟩:=f1r hk hI hs;cases hpk:parK ps.toList e y st.t with
 | none=>rw[hpk] at hk;cases hk
 | some t1 =>
 rw[hpk] at hk;simp only[q3l] at hk;have hlt:l<A.heap.size:=(Array.getElem?_eq_some_iff.1 hl).1;have hcA:CallSound cx call A FA:=hc.later hs.later
 let nt':Slots:=⟨nt.nt,nt.K++live.map (·.1),fun i=>a.tmps.getD i undef,nt.I,nt.up,false⟩
 obtain ⟨O1,hO1,hs1⟩:=hst.rebase (nt':=nt') (a' := { tmps:=a.tmps,defers:=[] }) (Later.refl A FA) rfl (fun _ _=>rfl) rfl rfl (fun i _=>rfl) hst.env rfl;obtain ⟨hvl,ht1⟩:=parK_rd ps.toList e y st.t t1 vs a.tmps hpk hv (fun p hp=>by rw[hs.size];exact (hps p hp).1) hst.t;have hs2:StRel cx A FA O1 nt' { st with t:=t1 } { tmps:=s1z ps.toList vs a.tmps,defers:=[] } A FA E1 :=
  ⟨hs1.hr,hs1.hF,ht1,hs1.later,hs1.frame,hs1.own,hs1.fz,by rw[k2z];exact hs1.size,fun i hi=>by
   rw[d2j _ _ _ _ (fun hp=>by
    rcases q3m.1 hi with h | h
    ·exact (hps i hp).2.1 h
    ·exact (hps i hp).2.2 h)],hs1.defers,hs1.env⟩
 have hl1:l ∉ O1:=fun h=>hlO (hlive l ((hO1 l).1 h))
 have hsz:vs.toArray.size=ps.size:=by simpa using hvl
 have hy:=run_yield (P:=cx.P) (args:=vs.toArray) hl hsz;have hfold:(ps.zip vs.toArray).foldl (fun tmps (t,a)=>tmps.setIfInBounds t a) a.tmps=s1z ps.toList vs a.tmps:=by
  rw[<-putPs_eq,<-Array.foldl_toList,Array.toList_zip]
 dsimp only at hy;rw[hfold] at hy;refine ⟨fn,_,asg,body,hy,roundIn_of_wpIn trivial ?_⟩;refine hasg A FA O1 nt' hcA hI _ _ _ _ z _ A FA E1 _ hba hs2 hk (fun ex st' a' W' F' E' h1 h2 => ?_) (fun y st' a' W' F' E' h1=>by cases h1);cases ex with
 | normal =>
  simp only[onN] at h1;have hlW:W'.heap[l]? = A.heap[l]? := h2.frame l hlt hl1;have hbr:=run_beginRound (P:=cx.P) (hlW.trans hl) rfl;have nl':∀b,b<A.heap.size->b ∉ O->¬a0w st'.h E' b:=fun b hb hbO hat=>by
   rcases h2.own b hat with h | h
   ·exact hbO (hlive b ((hO1 b).1 h))
   ·omega
  have nf':∀b,b<A.heap.size->b ∉ O->¬FA b->¬F' b:=fun b hb hbO hf hat=>by
   rcases h2.fz b hat with h | h | h
   ·exact hf h
   ·exact hbO (hlive b ((hO1 b).1 h))
   ·omega
  refine ⟨_,hbr,?_⟩;have hlp:=m0a (W:=W') (F:=F') (o := .loop { state := .busy,pending:=none,fn:=fn,tmps:=a.tmps,params:=ps,assign:=asg,body:=body,defers:=D0 }) (nf' l hlt hlO hlF);obtain ⟨O2,hO2,hs3⟩:=h2.rebase (nt':=nt') (a':=a') hlp (by simp) (fun b hb=>World.putObj_heap_other (fun e=>nl' l hlt hlO (e ▸ hb))) rfl rfl (fun i hi=>h2.keep i hi) h2.env (h2.defers.1 rfl);refine hbody _ F' O2 nt' (hcA.later (h2.later.trans hlp)) hI _ _ _ _ z _ _ F' E' _ hbb hs3 h1 (fun ex3 st3 a3 W3 F3 E3 q1 q2 => ?_) (fun y st' a' W' F' E' h1=>by cases h1);cases ex3 with
  | normal =>
   simp only[onN] at q1;have hlt':l<W'.heap.size:=q4o hlt h2.later.size;have hAW:A.heap.size<=W'.heap.size:=h2.later.size;have hsz2:∀b,b<A.heap.size->b<(W'.putObj l (.loop { state := .busy,pending:=none,fn:=fn,tmps:=a.tmps,params:=ps,assign:=asg,body:=body,defers:=D0 })).heap.size:=fun b hb=>by simp;omega
   have n2:∀b,b<A.heap.size->b ∉ O->b ∉ O2:=fun b hb hbO h=>nl' b hb hbO ((hO2 b).1 h)
   have hl3:W3.heap[l]? = some (.loop { state := .busy,pending:=none,fn:=fn,tmps:=a.tmps,params:=ps,assign:=asg,body:=body,defers:=D0 }) :=
    (q2.frame l (hsz2 l hlt) (n2 l hlt hlO)).trans (World.putObj_heap_same hlt')
   obtain ⟨F4,O4,hk4,hO4,hF4,hl4⟩:=e1k (hcA.later (h2.later.trans hlp)) q2 q1;have own4:∀b∈O4,b∈O\/A.heap.size<=b:=fun b hb=>by
    rcases q2.own b (hO4 b hb) with h | h
    ·rcases h2.own b ((hO2 b).1 h) with h | h
     ·exact .inl (hlive b ((hO1 b).1 h))
     ·exact .inr h
    ·simp at h;exact .inr (by omega)
   have fz4:∀b,F4 b->FA b\/b∈O\/A.heap.size<=b:=fun b hb=>by
    have lv:a0w st'.h E' b->FA b\/b∈O\/A.heap.size<=b:=fun h=>by
     rcases h2.own b h with h | h
     ·exact .inr (.inl (hlive b ((hO1 b).1 h)))
     ·exact .inr (.inr h)
    rcases hF4 b hb with h | h
    ·rcases q2.fz b h with h | h | h
     ·rcases h2.fz b h with h | h | h
      ·exact .inl h
      ·exact .inr (.inl (hlive b ((hO1 b).1 h)))
      ·exact .inr (.inr h)
     ·exact lv ((hO2 b).1 h)
     ·simp at h;exact .inr (.inr (by omega))
    ·rcases q2.own b h with h | h
     ·exact lv ((hO2 b).1 h)
     ·simp at h;exact .inr (.inr (by omega))
   have hlF4:¬F4 l:=fun h=>by
    rcases fz4 l h with h | h | h
    ·exact hlF h
    ·exact hlO h
    ·omega
   have hlO4:l ∉ O4:=fun h=>by
    rcases own4 l h with h | h
    ·exact hlO h
    ·omega
   have her:=run_endRound (P:=cx.P) none hl3;have hl5:=m0a (W:=W3) (o := .loop { state := .ready,pending:=none,fn:=fn,tmps:=a.tmps,params:=ps,assign:=asg,body:=body,defers:=D0 }) hlF4;have same:∀b,b<A.heap.size->b ∉ O->(W3.putObj l (.loop { state := .ready,pending:=none,fn:=fn,tmps:=a.tmps,params:=ps,assign:=asg,body:=body,defers:=D0 })).heap[b]? = A.heap[b]? := fun b hb hbO=>by
    by_cases e:b=l
    ·subst e;rw[World.putObj_heap_same (Array.getElem?_eq_some_iff.1 hl3).1,hl]
    ·rw[World.putObj_heap_other e,q2.frame b (hsz2 b hb) (n2 b hb hbO),World.putObj_heap_other e,h2.frame b hb (fun h=>hbO (hlive b ((hO1 b).1 h)))]
   have hlat:Later A FA (W3.putObj l (.loop { state := .ready,pending:=none,fn:=fn,tmps:=a.tmps,params:=ps,assign:=asg,body:=body,defers:=D0 })) F4 :=
    ((h2.later.trans hlp).trans (q2.later.trans hl4)).trans hl5
   have hslots:e0i live a3=e0i live a:=by
    unfold e0i;refine List.map_congr_left fun p hp => ?_
    exact hk4.keep p.1 (List.mem_append_right _ (List.mem_map_of_mem hp))
   refine ⟨.bool true,_,her,?_⟩;refine hR _ F4 O4 ?_ (same l hlt hlO) hlat same own4 fz4;have hsz0:W0.heap.size<=A.heap.size:=hs.later.size;refine ⟨fun b hb=>by simpa using hk4.hF b hb,hs.later.trans hlat,fun b hb hbO => ?_,fun b hb => ?_,fun b hb => ?_,hs.size,hs.keep,⟨hs.defers.1,hs.defers.2.turn fun D hD _ d1 d2 _=>⟨same D hD d2,fun h => ?_,fun h => ?_⟩⟩,?_,?_,hk4.nodup,hk4.free⟩
   ·refine (same b (by omega) (fun h => ?_)).trans (hs.frame b hb hbO);rcases hs.own b h with h | h
    ·exact hbO h
    ·omega
   ·rcases own4 b hb with h | h
    ·exact hs.own b h
    ·exact .inr (by omega)
   ·rcases fz4 b hb with h | h | h
    ·exact hs.fz b h
    ·exact .inr (hs.own b h)
    ·exact .inr (.inr (by omega))
   ·rcases fz4 D h with h | h | h
    ·exact d1 h
    ·exact d2 h
    ·omega
   ·rcases own4 D h with h | h
    ·exact d2 h
    ·omega
   ·rw[<-hslots];exact hk4.forms
   ·rw[<-hslots];exact RdB.later (b0r live) hk4.rd hl5 (fun b hb=>World.putObj_heap_other (fun e=>hlO4 (e ▸ hb)))
  | _=>simp[onN] at q1
 | _=>simp[onN] at h1
theorem KeepRel.turn {live:List (Nat×Ty)}{x:El (b0r live)}{O bs:List Nat}(hs:KeepRel cx W0 F0 O0 nt live x a W F O)(ht:Turn bs W F W' F')(hbO:∀b∈bs,b ∉ O)(hb0:∀b∈bs,b∈O0\/W0.heap.size<=b)
  (hds:DefOk W0.heap.size W F (fun b=>b∈O\/b∈bs) a.defers):KeepRel cx W0 F0 O0 nt live x a W' F' O/\DefOk W0.heap.size W' F' (fun b=>b∈O\/b∈bs) a.defers:=by
 have hsz:=hs.later.size;have hO:∀b∈O,W'.heap[b]? = W.heap[b]? := fun b hb=>ht.same b (RdB.lt (b0r live) hs.rd b hb) (fun h=>hbO b h hb)
 have hd:DefOk W0.heap.size W' F' (fun b=>b∈O\/b∈bs) a.defers:=hds.turn fun D hD _ h1 h2 _=>⟨ht.same D hD fun h=>h2 (.inr h),fun h=>by
  rcases ht.fz D h with h | h
  ·exact h1 h
  ·omega,h2⟩
 refine ⟨⟨fun b hb => ?_,hs.later.trans ht.later,fun b hb hbO => ?_,hs.own,fun b hb => ?_,hs.size,hs.keep,⟨hs.defers.1,⟨hd.nodup,fun d hdd => ?_⟩⟩,hs.forms,RdB.later (b0r live) hs.rd ht.later hO,hs.nodup,fun b hb hf => ?_⟩,hd⟩
 ·rcases ht.fz b hb with h | h
  ·exact q4o (hs.hF b h) ht.later.size
  ·exact h.2
 ·refine (ht.same b (by omega) (fun h => ?_)).trans (hs.frame b hb hbO);rcases hb0 b h with h | h
  ·exact hbO h
  ·omega
 ·rcases ht.fz b hb with h | h
  ·exact hs.fz b h
  ·exact .inr (.inr (by omega))
 ·obtain ⟨D,k1,k2,k3,k4,k5⟩:=hd.at_ d hdd;exact ⟨D,k1,k2,k3,k4,fun h=>k5 (.inl h)⟩
 ·rcases ht.fz b hf with h | h
  ·exact hs.free b hb h
  ·have:=RdB.lt (b0r live) hs.rd b hb;omega
theorem d2d {Rf:Type}{ret:St->Option Rf}{asg body:Code}{live:List (Nat×Ty)}{e:Ty}{ps:Array Nat}{g:Operand}{xs:List (El e)}{x z:El (b0r live)}{v:Value}{bs O:List Nat}{Q:Exit->Act->World->Prop}
  (hasg:∀(l:Nat) (W0:World) (F0:Fz) (O0:List Nat) (nt:Slots),CallSound cx call W0 F0->(∀E,nt.I E)->g1u cx call fx W0 F0 O0 nt (some l) Rf ret asg)
  (hbody:∀(l:Nat) (W0:World) (F0:Fz) (O0:List Nat) (nt:Slots),CallSound cx call W0 F0->(∀E,nt.I E)->g1u cx call fx W0 F0 O0 nt (some l) Rf ret body)
  (hc:CallSound cx call W0 F0) (hI:∀E,nt.I E) (hmd:nt.md=true) (hps:∀p∈ps.toList,p<nt.nt/\p ∉ nt.K/\p ∉ live.map (·.1))
  (hba:d0f nt.nt (nt.K++live.map (·.1)) asg=true) (hbb:d0f nt.nt (nt.K++live.map (·.1)) body=true)
  (hs:KeepRel cx W0 F0 O0 nt live x a W F O) (hseq:f1q cx.P e xs W F bs v) (hg:a.eval g=v) (hbO:∀b∈bs,b ∉ O) (hbF:∀b∈bs,¬F b) (hb0:∀b∈bs,b∈O0\/W0.heap.size<=b)
  (hds:DefOk W0.heap.size W F (fun b=>b∈O\/b∈bs) a.defers)
  (hk:seqF cx call fx live e ps.toList (fun st k=>evC cx call fx Rf ret asg _ (fun _=>none) st (onN fun st=>evC cx call fx Rf ret body _ (fun _=>none) st (onN k))) xs x=some z)
  (hQ:∀a' W' F' O',KeepRel cx W0 F0 O0 nt live z a' W' F' O'->Q .normal a' W'):(Code.rangeFunc g ps asg body).wpIn (Rnd none) 0 cx.P Q a W:=by
 refine wpIn_rangeFunc ?_;intro fn hfn;obtain ⟨gf,lb,rfl,⟨gfn,hgf,hname,hgb⟩,hblt,hcon⟩:=hseq;have hgb':gfn.body≠none:=fun e=>by rw[e] at hgb;cases hgb
 have hname' : ¬ gfn.name = "runtime.NumGoroutine" := by simpa using hname
 have hW0:=hs.later.size;obtain ⟨rec0,hrec⟩:∃rec0:Loop,rec0 = { state := .ready,pending:=none,fn:=fn,tmps:=a.tmps,params:=ps,assign:=asg,body:=body,defers:=W.heap.size }:=⟨_,rfl⟩;obtain ⟨W1,hW1⟩:∃W1,(W.alloc (.deferred (some []))).alloc (.loop rec0)=W1:=⟨_,rfl⟩;have hL1:W1.heap[W.heap.size+1]? = some (.loop rec0):=by
  rw[<-hW1];have:=World.alloc_heap_new (W.alloc (.deferred (some []))) (.loop rec0);rwa [World.size_alloc] at this
 have hK1:W1.heap[W.heap.size]? = some (.deferred (some [])):=by
  rw[<-hW1];exact (RowKit.Below.heap_alloc _ _ _ (by simp)).trans (World.alloc_heap_new W _)
 have hsz1:W1.heap.size=W.heap.size+2:=by rw[<-hW1];simp
 have hsame1:∀b,b<W.heap.size->W1.heap[b]? = W.heap[b]? := fun b hb=>by
  rw[<-hW1];exact (RowKit.Below.heap_alloc _ _ _ (by simp;omega)).trans (RowKit.Below.heap_alloc _ _ _ hb)
 have hlat1:Later W F W1 F:=⟨by rw[<-hW1];rfl,by rw[<-hW1];rfl,by rw[<-hW1];rfl,by omega,fun b hb=>hsame1 b (hs.hF b hb),fun _ h=>h⟩;refine ⟨W.heap.size+1,[{ target := .collected W.heap.size,args := #[] }],W1,{ target := .fn (.func gf) lb,args := #[.func (.yield (W.heap.size+1)) #[] #[]] },W1,gf,
  #[.func (.yield (W.heap.size+1)) #[] #[]]++lb,W1,?_,?_,?_,?_,(fun h=>by cases h),?_⟩
 ·rw[<-hW1,hrec];exact run_enterLoop_outer _ _ _ _ _
 ·simp only[resolve,hg];simp[go_sem]
 ·intro f' _;trivial
 ·simp[invoke,go_sem,callFunc,hgf,hname',hgb']
 ·refine d1b (Calls.mono (hcon (W.heap.size+1)
   (fun k A FA=>∃y O',seqF cx call fx live e ps.toList (fun st k=>evC cx call fx Rf ret asg _ (fun _=>none) st (onN fun st=>evC cx call fx Rf ret body _ (fun _=>none) st (onN k))) (xs.drop k) y=some z /\
    KeepRel cx W0 F0 O0 nt live y a A FA O'/\A.heap[W.heap.size+1]? = some (.loop rec0)/\A.heap[W.heap.size]? = some (.deferred (some []))/\(¬FA (W.heap.size+1)/\W.heap.size+1 ∉ O')/\(¬FA W.heap.size/\W.heap.size ∉ O') /\
    (∀b∈bs,b ∉ O')/\(∀b∈bs,¬FA b)/\DefOk W0.heap.size A FA (fun b=>b∈O'\/b∈bs) a.defers)
   W1 F hlat1 (fun b hb=>hsame1 b (hblt b hb)) (fun b hb=>by have:=hs.hF b hb;omega) hbF ?turn ?round ?start) ?fin)
  case turn =>
   rintro k A FA B FB ⟨y,O',j1,j2,j3,j4,j5,j6,j7,j8,j9⟩ ht;have hl:W.heap.size+1<A.heap.size:=(Array.getElem?_eq_some_iff.1 j3).1;obtain ⟨q1,q2⟩:=j2.turn ht j7 hb0 j9;have nb:∀b,W.heap.size<=b->b ∉ bs:=fun b hb h=>by have:=hblt b h;omega
   have nf:∀b,b<A.heap.size->¬FA b->¬FB b:=fun b hb h1 h2=>by
    rcases ht.fz b h2 with h | h
    ·exact h1 h
    ·omega
   exact ⟨y,O',j1,q1,(ht.same _ hl (nb _ (by omega))).trans j3,(ht.same _ (by omega) (nb _ (by omega))).trans j4,⟨nf _ hl j5.1,j5.2⟩,⟨nf _ (by omega) j6.1,j6.2⟩,j7,fun b hb=>nf b (by have:=hblt b hb;omega) (j8 b hb),q2⟩
  case round =>
   rintro k y A FA vs hy ⟨u,O',j1,j2,j3,j4,j5,j6,j7,j8,j9⟩ hlA hFA hv;have hl:W.heap.size+1<A.heap.size:=(Array.getElem?_eq_some_iff.1 j3).1;have hdrop:xs.drop k=y::xs.drop (k+1):=by
    obtain ⟨hlt,rfl⟩:=q3o.1 hy;exact List.drop_eq_getElem_cons hlt
   rw[hdrop] at j1;simp only[seqF] at j1;cases hone:n0f fx live u (fun st=>(parK ps.toList e y st.t).bind fun t=>evC cx call fx Rf ret asg _ (fun _=>none) { st with t:=t } (onN fun st=>evC cx call fx Rf ret body _ (fun _=>none) st (onN fun st=>r0o cx call st live))) with
   | none=>rw[hone] at j1;cases j1
   | some w =>
    rw[hone] at j1;simp only[q3l] at j1;refine c2t (D0:=W.heap.size) (fn:=fn) (hasg (W.heap.size+1)) (hbody (W.heap.size+1)) hc hI hps hba hbb j2 (by rw[j3,hrec]) (by omega) j5.1 j5.2 hv hone fun A' FA' O2 r1 r2 r3 r4 r5 r6 => ?_
    have nf:∀b,b<A.heap.size->b ∉ O'->¬FA b->¬FA' b:=fun b hb h0 h1 h2=>by
     rcases r6 b h2 with h | h | h
     ·exact h1 h
     ·exact h0 h
     ·omega
    have no:∀b,b<A.heap.size->b ∉ O'->b ∉ O2:=fun b hb h0 h2=>by
     rcases r5 b h2 with h | h
     ·exact h0 h
     ·omega
    have hbA:∀b∈bs,b<A.heap.size:=fun b hb=>by have:=hblt b hb;omega
    exact ⟨rfl,FA',⟨w,O2,j1,r1,r2.trans j3,(r4 _ (by omega) j6.2).trans j4,⟨nf _ hl j5.2 j5.1,no _ hl j5.2⟩,⟨nf _ (by omega) j6.2 j6.1,no _ (by omega) j6.2⟩,fun b hb=>no b (hbA b hb) (j7 b hb),fun b hb=>nf b (hbA b hb) (j7 b hb) (j8 b hb),
     j9.turn fun D hD _ d1 d2 _=>⟨r4 D hD fun h=>d2 (.inl h),nf D hD (fun h=>d2 (.inl h)) d1,fun h=>h.elim (no D hD fun h=>d2 (.inl h)) fun h=>d2 (.inr h)⟩⟩,
     r3,r1.hF,fun b hb=>r4 b (hbA b hb) (j7 b hb),fun b hb=>nf b (hbA b hb) (j7 b hb) (j8 b hb)⟩
  case start =>
   have hlt:∀b∈O,b<W.heap.size:=RdB.lt (b0r live) hs.rd;have ht:Turn bs W F W1 F:=⟨hlat1,fun b hb _=>hsame1 b hb,fun b hb => .inl hb⟩;obtain ⟨q1,q2⟩:=hs.turn ht hbO hb0 hds;exact ⟨x,O,hk,q1,hL1,hK1,⟨fun h=>by have:=hs.hF _ h;omega,fun h=>by have:=hlt _ h;omega⟩,⟨fun h=>by have:=hs.hF _ h;omega,fun h=>by have:=hlt _ h;omega⟩,hbO,hbF,q2⟩
  case fin =>
   rintro en W' ⟨⟨u,rfl⟩,F',y,O',j1,j2,j3,j4,j5,j6,j7,j8,j9⟩;rw[List.drop_length] at j1;simp only[seqF,Option.some.injEq] at j1;subst j1;refine ⟨none,_,by have:=run_endLoop (P:=cx.P) j3 (by rw[hrec];simp);rw[hrec] at this;exact this,?_⟩;have hq:=j2.dead (o := .loop { rec0 with state := .exhausted }) (l:=W.heap.size+1) (by omega) j5.1 j5.2 (by rw[j3];simp);refine hQ _ _ F' O' ?_;subst hrec;refine ⟨hq.hF,hq.later,hq.frame,hq.own,hq.fz,hq.size,hq.keep,⟨(fun h=>by rw[hmd] at h;cases h),?_,fun d hd => ?_⟩,hq.forms,hq.rd,hq.nodup,hq.free⟩
   ·show ({ target := .collected W.heap.size,args := #[] }::a.defers:List Deferred).Nodup;refine List.nodup_cons.2 ⟨fun h => ?_,hs.defers.2.nodup⟩;obtain ⟨D,k1,k2,_⟩:=hs.defers.2.at_ _ h;have hlt:=(Array.getElem?_eq_some_iff.1 k2).1;injection k1 with k1;injection k1 with k1;omega
   ·rcases q3k.1 hd with rfl | hd
    ·exact ⟨_,rfl,(World.putObj_heap_other (by omega)).trans j4,by omega,j6.1,j6.2⟩
    ·exact hq.defers.2.at_ d hd
end
end
section
theorem e2p {P:Program}:∀(t:Ty),y0t t=true->∀ {x:El t} {W W2:World} {F F2:Fz} {g:Get},(RdP P t).1 x W F g->(RdP P t).1 x W2 F2 g:=by
 intro t;induction t with
 | unit=>intro _ x W W2 F F2 g h;exact h
 | bool=>intro _ x W W2 F F2 g h;exact h
 | int k=>intro _ x W W2 F F2 g h;exact h
 | str=>intro _ x W W2 F F2 g h;exact h
 | err=>intro _ x W W2 F F2 g h;exact h
 | wrap e ih=>intro hf x W W2 F F2 g h;exact ih hf h
 | pair a b iha ihb =>
  intro hf x W W2 F F2 g h;simp only[y0t,q1n] at hf;exact ⟨iha hf.1 h.1,ihb hf.2 h.2⟩
 | _=>intro hf;cases hf
theorem e2q {P:Program}{W W2:World}{F F2:Fz}{E:EnvM}{c:Cell}{v:Value}(h:c0x P W F E c v)(hf:u1h c=true):c0x P W2 F2 E c v:=by
 cases c with
 | val t x=>exact ⟨h.1,h.2.1,e2p t hf h.2.2⟩
 | pin t x off=>cases hf
 | clo f t x=>cases hf
 | loc n ver off=>exact h
 | lel n ver i off=>exact h
 | lrow n ver=>exact h
 | lall n ver=>exact h
 | lsl n ver off l=>exact h
 | sl n ver=>exact h
 | np=>exact h
 | ns=>exact h
 | nf=>exact h
 | anyB=>exact h
 | dead=>trivial
 | nm=>exact h
theorem b2m {P:Program}{W W2:World}{F F2:Fz}{E:EnvM}{c:Cell}{v:Value}(h:c0x P W F E c v):c0x P W2 F2 E (p0o c) v:=by
 unfold p0o;cases hf:u1h c with
 | true=>exact e2q h hf
 | false=>trivial
theorem v0c {P:Program}{W W2:World}{F F2:Fz}{E:EnvM}{cs:List Cell}{vs:List Value}(h:a0f P W F E cs vs):a0f P W2 F2 E (cs.map p0o) vs:=by
 refine ⟨by simpa using h.1,fun j c v hc hv => ?_⟩;rw[q4c] at hc;cases hj:cs[j]? with
 | none=>rw[hj] at hc;cases hc
 | some d =>
  rw[hj] at hc;injection hc with hc;subst hc;obtain ⟨k1,k2⟩:=h.2 j d v hj hv;exact ⟨b2m k1,k2⟩
theorem w1u {P:Program}{W W2:World}{F F2:Fz}{E:EnvM}{ag:Bool}{cs:List Cell}{v:Value}(h:RdV1 P W F E ag cs v):RdV1 P W2 F2 E ag (cs.map p0o) v:=⟨v0c h.1,h.2⟩
theorem thawV_rd {P:Program}{W W2:World}{F F2:Fz}{E:EnvM}{x:V}{v:Value}(h:RdV P W F E x v):RdV P W2 F2 E (o2n x) v:=by
 cases x with
 | v ag cs=>exact w1u h
 | tup l =>
  obtain ⟨vs,h1,h2,h3⟩:=h;refine ⟨vs,h1,by simpa using h2,fun j p u hp hu => ?_⟩;rw[q4c] at hp;cases hj:l[j]? with
  | none=>rw[hj] at hp;cases hp
  | some q =>
   rw[hj] at hp;injection hp with hp;subst hp;exact w1u (h3 j q u hj hu)
 | undef=>exact h
 | lost=>trivial
theorem o2o (ds:List Nat)(old new:List (Nat×V))(s:Nat):getT (thawT ds old new) s=bif hasN ds s then o2n (getT new s) else getT old s:=by
 unfold thawT;induction ds with
 | nil=>rfl
 | cons d ds ih =>
  show getT ((d,o2n (getT new d))::(ds.map (fun s=>(s,o2n (getT new s)))++old)) s=_;simp only[getT,hasN];cases hb:Nat.beq d s with
  | true =>
   have:=q3u hb;subst this;simp
  | false =>
   simp only[cond_false,ih];cases hasN ds s<;>simp
theorem j1e (h0:Heap):∀(h:Heap) (n i:Nat),(r1m h0 n h)[i]? = (h[i]?).map fun p=>(p.1,match p.2 with | some B=>o2p (frAt h0 (n+i) p.1) B | none=>none)
 | [],n,i=>by simp[r1m]
 | (ver,ob)::r,n,0=>by cases ob<;>simp[r1m]
 | (ver,ob)::r,n,i+1=>by
  show (r1m h0 (n+1) r)[i]? = _;rw[j1e h0 r (n+1) i,show n+1+i=n+(i+1) by omega];rfl
theorem l1e {h:Heap}{n ver:Nat}{fr:Bool}(e:frAt h n ver=some fr):(∃t cs,h[n]? = some (ver,some (.box t cs fr)))\/∃e xs,h[n]? = some (ver,some (.arr e xs fr)):=by
 unfold frAt at e;split at e
 ·rename_i v t cs fr' hn;cases hb:Nat.beq v ver with
  | false=>rw[hb] at e;cases e
  | true =>
   rw[hb] at e;injection e with e;subst e;rw[q3u hb] at hn;exact .inl ⟨t,cs,hn⟩
 ·rename_i v e' xs fr' hn;cases hb:Nat.beq v ver with
  | false=>rw[hb] at e;cases e
  | true =>
   rw[hb] at e;injection e with e;subst e;rw[q3u hb] at hn;exact .inr ⟨e',xs,hn⟩
 ·cases e
theorem frAt_fz {P:Program}{W:World}{F:Fz}{E:EnvM}{h:Heap}(hr:HR P W F E (fun _=>True) h){n ver:Nat}{fr:Bool}(e:frAt h n ver=some fr){L:Loc}(hL:E.m n ver=some L) :
  (∀b,L = .box b->(fr=false->¬F b)/\(fr=true->F b))/\∀b w l c,L = .arr b w l c->(fr=false->¬F b)/\(fr=true->F b):=by
 rcases l1e e with ⟨t,cs,hn⟩ | ⟨e',xs,hn⟩
 ·obtain ⟨_,L',hL',b,arr,T,rfl,_,_,_,k1,k2⟩:=hr.blk n ver _ hn;rw[hL] at hL';injection hL' with hL';subst hL';refine ⟨fun b' hb => ?_,fun b' w l c hb=>(by cases hb)⟩;injection hb with hb;subst hb;exact ⟨k1,k2⟩
 ·obtain ⟨_,L',hL',hB⟩:=hr.blk n ver _ hn;rw[hL] at hL';injection hL' with hL';subst hL';rcases hB with ⟨rfl,_⟩ | ⟨b,cap,rfl,_,k1,k2⟩
  ·exact ⟨fun b' hb=>(by cases hb),fun b' w l c hb=>(by cases hb)⟩
  ·refine ⟨fun b' hb=>(by cases hb),fun b' w l c hb => ?_⟩;injection hb with hb;subst hb;exact ⟨k1,k2⟩
theorem thawB_rd {P:Program}{W:World}{F F2:Fz}{E:EnvM}{L:Loc}{B B2:Blk}{o:Option Bool}(h:k0f P W F2 E L B)(hF:∀b,F b->F2 b)
  (ho:∀fr,o=some fr->(∀b,L = .box b->(fr=false->¬F b)/\(fr=true->F b))/\∀b w l c,L = .arr b w l c->(fr=false->¬F b)/\(fr=true->F b)) (e:o2p o B=some B2):k0f P W F E L B2:=by
 unfold o2p at e;split at e
 ·rename_i t cs;injection e with e;subst e;obtain ⟨b,arr,T,rfl,h1,h2,h3,h4,_⟩:=h;exact ⟨b,arr,T,rfl,h1,v0c h2,by simpa using h3,fun _ hb=>h4 rfl (hF b hb),fun e=>(by cases e)⟩
 ·rename_i t cs;cases o with
  | none=>cases e
  | some fr =>
   injection e with e;subst e;obtain ⟨b,arr,T,rfl,h1,h2,h3,_,_⟩:=h;obtain ⟨k1,k2⟩:=(ho fr rfl).1 b rfl;exact ⟨b,arr,T,rfl,h1,v0c h2,by simpa using h3,k1,k2⟩
 ·rename_i t xs;cases hf:y0t t with
  | false=>rw[hf] at e;cases e
  | true =>
   rw[hf] at e;injection e with e;subst e;rcases h with ⟨h1,h2⟩ | ⟨b,cap,rfl,⟨cs,T,q1,q2,q3,q4,q5,q6⟩,h3,_⟩
   ·exact .inl ⟨h1,h2⟩
   ·exact .inr ⟨b,cap,rfl,⟨cs,T,q1,q2,q3,q4,q5,fun i hi=>e2p t hf (q6 i hi)⟩,fun _ hb=>h3 rfl (hF b hb),fun e=>(by cases e)⟩
 ·rename_i t xs;cases hf:y0t t with
  | false=>rw[hf] at e;cases e
  | true =>
   rw[hf] at e;cases o with
   | none=>cases e
   | some fr =>
    injection e with e;subst e;rcases h with ⟨h1,h2⟩ | ⟨b,cap,rfl,⟨cs,T,q1,q2,q3,q4,q5,q6⟩,_,_⟩
    ·exact .inl ⟨h1,h2⟩
    ·obtain ⟨k1,k2⟩:=(ho fr rfl).2 b _ _ _ rfl;exact .inr ⟨b,cap,rfl,⟨cs,T,q1,q2,q3,q4,q5,fun i hi=>e2p t hf (q6 i hi)⟩,k1,k2⟩
 ·rename_i n base top T e' x hole fr;injection e with e;subst e;obtain ⟨v,bs,rfl,h1,h2,h3,h4,h5⟩:=h;refine ⟨v,bs,rfl,h1,h2,h3,h4,fun hfr => ?_⟩;obtain ⟨k1,k2,k3⟩:=h5 hfr;exact ⟨k1,k2,fun b hb hFb=>k3 b hb (hF b hFb)⟩
 ·cases e
theorem n2m {n:Nat}{K K2:List Nat}:∀c:Code,t0y c=true->d0f n K c=true->(∀d∈f1d c,d ∉ K2)->d0f n K2 c=true:=by
 intro c;induction c with
 | skip=>intro _ _ _;rfl
 | ret=>intro _ _ _;rfl
 | exit id=>intro _ _ _;rfl
 | region id ops draw =>
  intro _ h hd;simp only[d0f,z1w,List.all_eq_true] at h ⊢;intro o ho;have h1:=h o ho;cases hdst:o.dst with
  | none=>rfl
  | some d =>
   rw[hdst] at h1;simp only[q1n] at h1 ⊢;refine ⟨h1.1,?_⟩;have:d∈f1d (.region id ops draw):=List.mem_filterMap.2 ⟨o,ho,hdst⟩;have hk:=hd d this;cases hh:hasN K2 d with
   | false=>rfl
   | true=>exact absurd (c0w.1 hh) hk
 | seq a b iha ihb =>
  intro hf h hd;simp only[t0y,d0f,q1n] at hf h ⊢;exact ⟨iha hf.1 h.1 fun d hm=>hd d (List.mem_append_left _ hm),ihb hf.2 h.2 fun d hm=>hd d (List.mem_append_right _ hm)⟩
 | cond z a b iha ihb =>
  intro hf h hd;simp only[t0y,d0f,q1n] at hf h ⊢;exact ⟨iha hf.1 h.1 fun d hm=>hd d (List.mem_append_left _ hm),ihb hf.2 h.2 fun d hm=>hd d (List.mem_append_right _ hm)⟩
 | block id a ih =>
  intro hf h hd;exact ih hf h hd
 | _=>intro hf;cases hf
theorem below_no {n:Nat}{K:List Nat}:∀c:Code,t0y c=true->d0f n K c=true->∀i∈K,i ∉ f1d c:=by
 intro c;induction c with
 | region id ops draw =>
  intro _ h i hi hd;simp only[d0f,z1w,List.all_eq_true] at h;obtain ⟨o,ho,hdst⟩:=List.mem_filterMap.1 hd;have h1:=h o ho;rw[hdst] at h1;simp only[q1n] at h1;rw[c0w.2 hi] at h1;exact absurd h1.2 (by simp)
 | seq a b iha ihb =>
  intro hf h i hi hd;simp only[t0y,d0f,q1n] at hf h;rcases q3m.1 hd with hd | hd
  ·exact iha hf.1 h.1 i hi hd
  ·exact ihb hf.2 h.2 i hi hd
 | cond z a b iha ihb =>
  intro hf h i hi hd;simp only[t0y,d0f,q1n] at hf h;rcases q3m.1 hd with hd | hd
  ·exact iha hf.1 h.1 i hi hd
  ·exact ihb hf.2 h.2 i hi hd
 | block id a ih=>intro hf h i hi hd;exact ih hf h i hi hd
 | skip=>intro _ _ i _ hd;cases hd
 | ret=>intro _ _ i _ hd;cases hd
 | exit id=>intro _ _ i _ hd;cases hd
 | _=>intro hf;cases hf
theorem m2o:∀c:Code,t0y c=true->noRF c=true:=by
 intro c;induction c with
 | seq a b iha ihb =>
  intro h;simp only[t0y,noRF,q1n] at h ⊢;exact ⟨iha h.1,ihb h.2⟩
 | cond z a b iha ihb =>
  intro h;simp only[t0y,noRF,q1n] at h ⊢;exact ⟨iha h.1,ihb h.2⟩
 | block id a ih=>intro h;exact ih h
 | skip=>intro _;rfl
 | ret=>intro _;rfl
 | exit id=>intro _;rfl
 | region id ops draw=>intro _;rfl
 | _=>intro h;cases h
theorem b2n {fx:Hints}{a b:Code}(h:g2a fx a b=true):fx.thaw≠[]/\t0y a=true:=by
 unfold g2a at h;split at h
 ·cases h
 ·rename_i hne;refine ⟨fun e=>hne e,?_⟩;split at h
  ·rw[q1n] at h;exact h.2
  ·cases h
theorem u2q (fx:Hints)(c:Code):(fx.calm c).thaw=[]\/noRF c=true:=by
 unfold Hints.calm;split
 ·rename_i h;exact .inl h
 ·cases hn:noRF c with
  | true=>exact .inr rfl
  | false=>exact .inl rfl
section
variable {cx:Cx}{call:Oracle cx}{fx:Hints}{W0:World}{F0:Fz}{O0:List Nat}{nt:Slots}
def j2k (nt:Slots)(a:Act)(E:EnvM)(ds:List Nat):Slots where
 nt:=nt.nt
 K:=(List.range nt.nt).filter fun i => !hasN ds i
 kv:=fun i=>a.tmps.getD i undef
 I:=fun E'=>EnvLe E E'
 up:=fun _ _ h k=>h.trans k
 md:=false
open Classical in
noncomputable def l2t (h:Heap)(E:EnvM)(n:Nat):List Nat:=(List.range n).filter fun b=>decide (a0w h E b)
theorem StRel.into {st:St}{a:Act}{W:World}{F:Fz}{E:EnvM}(hs:StRel cx W0 F0 O0 nt st a W F E)(hmd:nt.md=false)(ds:List Nat) :
  StRel cx W F (l2t st.h E W.heap.size) (j2k nt a E ds) st a W F E:=by
 refine ⟨hs.hr,hs.hF,hs.t,Later.refl W F,fun _ _ _=>rfl,fun b hb => ?_,fun b hb => .inl hb,hs.size,fun i _=>rfl,⟨fun _=>hs.defers.1 hmd,by rw[hs.defers.1 hmd];exact .nil⟩,EnvLe.refl E⟩;by_cases h:b<W.heap.size
 ·exact .inl (q4m.2 ⟨q4v.2 h,by simpa using hb⟩)
 ·exact .inr (by omega)
theorem r2i {h:Heap}{E:EnvM}{n b:Nat}(hb:b∈l2t h E n):a0w h E b:=by
 have:=(q4m.1 hb).2
 simpa using this
theorem StRel.outOf {st st':St}{a a':Act}{W W':World}{F F':Fz}{E E':EnvM}{ds:List Nat}(hs:StRel cx W0 F0 O0 nt st a W F E)(h2:StRel cx W F (l2t st.h E W.heap.size) (j2k nt a E ds) st' a' W' F' E')
  (hK:∀i∈nt.K,i<nt.nt->i ∉ ds):StRel cx W0 F0 O0 nt st' a' W' F' E':=by
 have hO:∀b∈l2t st.h E W.heap.size,b∈O0\/W0.heap.size<=b:=fun b hb=>hs.own b (r2i hb)
 have hd:=h2.defers.1 rfl;have hsz:W0.heap.size<=W.heap.size:=hs.later.size;refine ⟨h2.hr,h2.hF,h2.t,hs.later.trans h2.later,fun b hb hn => ?_,fun b hb => ?_,fun b hb => ?_,h2.size,fun i hi => ?_,⟨fun _=>hd,by rw[hd];exact .nil⟩,nt.up E E' hs.env h2.env⟩
 ·refine (h2.frame b (by omega) fun hm => ?_).trans (hs.frame b hb hn);rcases hO b hm with k | k
  ·exact hn k
  ·omega
 ·rcases h2.own b hb with k | k
  ·exact hO b k
  ·exact .inr (by omega)
 ·rcases h2.fz b hb with k | k | k
  ·exact hs.fz b k
  ·exact .inr (hO b k)
  ·exact .inr (.inr (by omega))
 ·by_cases hi2:i<nt.nt
  ·refine (h2.keep i ?_).trans (hs.keep i hi);refine q4m.2 ⟨q4v.2 hi2,?_⟩;cases hh:hasN ds i with
   | false=>rfl
   | true=>exact absurd (c0w.1 hh) (hK i hi hi2)
  ·have e1:a'.tmps.getD i undef=undef:=by
    rw[q3t,Array.getElem?_eq_none (by rw[h2.size];exact Nat.le_of_not_lt hi2)];rfl
   have e2:a.tmps.getD i undef=undef:=by
    rw[q3t,Array.getElem?_eq_none (by rw[hs.size];omega)];rfl
   rw[e1,<-hs.keep i hi,e2]
theorem StRel.thaw {st st':St}{a a':Act}{W W':World}{F F':Fz}{E E':EnvM}{ds:List Nat}(hs:StRel cx W0 F0 O0 nt st a W F E)(h2:StRel cx W F (l2t st.h E W.heap.size) (j2k nt a E ds) st' a' W' F' E')
  (hK:∀i∈nt.K,i<nt.nt->i ∉ ds):StRel cx W0 F0 O0 nt (thawSt ds st st') a' W' F E':=by
 have h3:=hs.outOf h2 hK;have hE:EnvLe E E':=h2.env;have hl:Later W F W' F:=⟨h2.later.os,h2.later.tape,h2.later.output,h2.later.size,h2.later.keep,fun _ h=>h⟩;have entry:∀n ver B,(r1m st.h 0 st'.h)[n]? = some (ver,some B)->∃B',st'.h[n]? = some (ver,some B')/\o2p (frAt st.h n ver) B'=some B:=by
  intro n ver B hn;rw[j1e,Nat.zero_add] at hn;cases hp:st'.h[n]? with
  | none=>rw[hp] at hn;cases hn
  | some p =>
   rw[hp] at hn;obtain ⟨v',ob⟩:=p;simp only[Option.map_some,Option.some.injEq,Prod.mk.injEq] at hn;obtain ⟨rfl,hn⟩:=hn;cases ob with
   | none=>cases hn
   | some B'=>exact ⟨B',rfl,hn⟩
 have live:∀b,a0w (r1m st.h 0 st'.h) E' b->a0w st'.h E' b:=by
  rintro b ⟨n,ver,B,L,q1,q2,q3⟩;obtain ⟨B',q4,_⟩:=entry n ver B q1;exact ⟨n,ver,B',L,q4,q2,q3⟩
 refine ⟨⟨fun n ver b hN hn => ?_,fun n ver B hn => ?_,fun n m vn vm bn bm L M x q1 q2 q3 q4 q5 q6 => ?_⟩,fun b hb=>q4o (hs.hF b hb) h2.later.size,fun s => ?_,hs.later.trans hl,h3.frame,fun b hb=>h3.own b (live b hb),hs.fz,h3.size,h3.keep,
  ⟨h3.defers.1,by rw[h2.defers.1 rfl];exact .nil⟩,h3.env⟩
 ·change (r1m st.h 0 st'.h)[n]? = some (ver,b) at hn
  rw[j1e] at hn;cases hp:st'.h[n]? with
  | none=>rw[hp] at hn;cases hn
  | some p =>
   rw[hp] at hn;simp only[Option.map_some,Option.some.injEq,Prod.mk.injEq] at hn;have:=h2.hr.top n p.1 p.2 hN (by rw[hp]);rw[<-hn.1];exact this
 ·obtain ⟨B',q1,q2⟩:=entry n ver B hn;obtain ⟨k0,L,k1,k2⟩:=h2.hr.blk n ver B' q1;refine ⟨k0,L,k1,thawB_rd k2 h2.later.more (fun fr hfr => ?_) q2⟩;obtain ⟨L',hL'⟩:∃L',E.m n ver=some L':=by
   rcases l1e hfr with ⟨t,cs,hn⟩ | ⟨e',xs,hn⟩
   ·obtain ⟨_,L',hL',_⟩:=hs.hr.blk n ver _ hn;exact ⟨L',hL'⟩
   ·obtain ⟨_,L',hL',_⟩:=hs.hr.blk n ver _ hn;exact ⟨L',hL'⟩
  have hver:ver<=E.top n:=by
   rcases l1e hfr with ⟨t,cs,hn⟩ | ⟨e',xs,hn⟩
   ·exact Nat.le_of_eq (hs.hr.top n ver _ trivial hn)
   ·exact Nat.le_of_eq (hs.hr.top n ver _ trivial hn)
  rw[hE.m n ver hver,hL'] at k1;injection k1 with k1;subst k1;exact frAt_fz hs.hr hfr hL'
 ·obtain ⟨Bn,r1,_⟩:=entry n vn bn q1;obtain ⟨Bm,r2,_⟩:=entry m vm bm q2;exact h2.hr.inj n m vn vm Bn Bm L M x r1 r2 q3 q4 q5 q6
 ·show RdV cx.P W' F E' (getT (thawT ds st.t st'.t) s) (a'.tmps.getD s undef);rw[o2o];cases hd:hasN ds s with
  | true=>exact thawV_rd (h2.t s)
  | false =>
   have e:a'.tmps.getD s undef=a.tmps.getD s undef:=by
    by_cases hi2:s<nt.nt
    ·exact h2.keep s (q4m.2 ⟨q4v.2 hi2,by rw[hd];rfl⟩)
    ·rw[q3t,q3t,Array.getElem?_eq_none (by rw[h2.size];exact Nat.le_of_not_lt hi2),Array.getElem?_eq_none (by rw[hs.size];omega)]
   rw[e];exact (hs.t s).later hl hE
end
end
section
section
variable {cx:Cx}{call:Oracle cx}{fx:Hints}{W0:World}{F0:Fz}{O0:List Nat}{nt:Slots}
theorem o1o {rd:Option Nat}{Rf:Type}{ret:St->Option Rf}{c:Code}(hcode:g1u cx call fx W0 F0 O0 nt rd Rf ret c)(hb:d0f nt.nt nt.K c=true){R:Type}{kr:Rf->Option R}{k:Exit->St->Option R}{r:R}{Q:Exit->Act->World->Prop}
  (hk:∀e st' a' W' F' E',k e st'=some r->StRel cx W0 F0 O0 nt st' a' W' F' E'->Q e a' W')
  (hkr:∀y st' a' W' F' E',kr y=some r->ret st'=some y->StRel cx W0 F0 O0 nt st' a' W' F' E'->Q .ret a' W') :
  ∀(n:Nat) (st:St) (a:Act) (W:World) (F:Fz) (E:EnvM),StRel cx W0 F0 O0 nt st a W F E->spin (fun st k=>evC cx call fx Rf ret c R kr st k) n st k=some r->Code.roundsIn (Rnd rd) 0 cx.P c Q n a W:=by
 intro n;induction n with
 | zero=>intro st a W F E _ h;cases h
 | succ n ih =>
  intro st a W F E hs h;simp only[spin] at h;refine hcode R kr st _ r a W F E _ hb hs h (fun e st' a' W' F' E' h1 h2 => ?_) (fun y st' a' W' F' E' h1 h2 h3=>hkr y st' a' W' F' E' h1 h2 h3);cases e with
  | normal=>exact ih st' a' W' F' E' h2 h1
  | _=>exact hk _ st' a' W' F' E' h1 h2
def q1i (v w:Value):Prop:=v=w\/((∃a,v = .slice a 0 0)/\∃b,w = .slice b 0 0)
theorem p1b {P:Program}{x y:V}(h:sameRow x y=true){v w:Value}{W:World}{F:Fz}{E:EnvM}(hx:RdV P W F E x v)(hy:RdV P W F E y w):q1i v w:=by
 unfold sameRow at h;split at h
 case h_2=>cases h
 rename_i n k m j;simp only[q1n] at h;obtain rfl:=q3u h.1;obtain rfl:=q3u h.2;obtain ⟨g1,⟨L,g2⟩,g3⟩:=hx.single.1;obtain ⟨_,_,f3⟩:=hy.single.1;have a1:=g3 L g2;have a2:=f3 L g2;cases L with
 | box b=>exact a1.elim
 | tree w bs=>exact a1.elim
 | nil=>exact .inr ⟨a1,a2⟩
 | arr b w' len cap=>exact .inl (a1.trans a2.symm)
theorem v2m {al:List (Nat×Nat)}{st:St}(h:i2o al st=true){a:Act}{W:World}{F:Fz}{E:EnvM}(hs:StRel cx W0 F0 O0 nt st a W F E):∀p∈al,q1i (a.tmps.getD p.1 undef) (a.tmps.getD p.2 undef):=by
 intro p hp;exact p1b (List.all_eq_true.1 h p hp) (hs.t p.1) (hs.t p.2)
theorem q1h {v w:Value}(hal:q1i v w){n ver:Nat}{st:St}{W:World}{F:Fz}{E:EnvM}{N:Nat->Prop}(hr:HR cx.P W F E N st.h){e:Ty}{xs:List (El e)}{fr:Bool}(hn:st.h[n]? = some (ver,some (.arr e xs fr)))
  (hmv:RdV cx.P W F E (.v false [.lall n ver]) w):RdV cx.P W F E (.v false [.lall n ver]) v:=by
 rcases hal with q | ⟨⟨x,q1⟩,⟨y,q2⟩⟩
 ·rw[q];exact hmv
 ·rw[q2] at hmv;rw[q1];obtain ⟨g1,g2,g3⟩:=hmv.single.1;refine RdV.mk1 ⟨g1,g2,fun L hL => ?_⟩ rfl;have:=g3 L hL;cases L with
  | box b=>exact this.elim
  | tree w bs=>exact this.elim
  | nil=>exact ⟨x,rfl⟩
  | arr b w' len cap =>
   exfalso;rcases e0c hr hn with ⟨z1,_⟩ | ⟨b',cap',z1,⟨cs,T,_,_,_,hcap,_⟩,_⟩
   ·rw[hL] at z1;injection z1 with z1;cases z1
   ·rw[hL] at z1;injection z1 with z1;injection z1 with _ _ _ z1;have h0:Value.slice y 0 0 = .slice (some ⟨b,0,none⟩) len cap:=this;injection h0 with _ _ h0;omega
theorem v2l {R:Type}{r:R}{k:St->Option R}{a:Act}{W:World}{F:Fz}{E:EnvM}:∀(al:List (Nat×Nat)) (st:St),i2n al st k=some r->(∀p∈al,q1i (a.tmps.getD p.1 undef) (a.tmps.getD p.2 undef))->StRel cx W0 F0 O0 nt st a W F E ->
  ∃st',k st'=some r/\StRel cx W0 F0 O0 nt st' a W F E:=by
 intro al;induction al with
 | nil=>intro st h _ hs;exact ⟨st,h,hs⟩
 | cons p al ih =>
  obtain ⟨s,m⟩:=p;intro st h hal hs;unfold i2n at h;split at h
  case h_2=>cases h
  rename_i n ver hm;split at h
  case h_2=>cases h
  rename_i ver' e xs fr hn;split at h
  case isFalse=>cases h
  rename_i hver;subst hver;refine ih _ h (fun p hp=>hal p (by simp[hp])) ⟨hs.hr,hs.hF,fun s' => ?_,hs.later,hs.frame,hs.own,hs.fz,hs.size,hs.keep,hs.defers,hs.env⟩;simp only[getT];cases hbe:Nat.beq s s' with
  | false=>exact hs.t s'
  | true =>
   have:=q3u hbe;subst this;have hmv:=hs.t m;rw[hm] at hmv;simp only[cond_true];exact q1h (hal (s,m) (by simp)) hs.hr hn hmv
def v2w (W:World)(v w:Value)(off:Nat):Prop:=∃b u,w = .pointer (some ⟨b,0,none⟩)/\W.cell? ⟨b,off,none⟩=some u/\q1i v u
theorem q1f {P:Program}{W:World}{F:Fz}{E:EnvM}{N:Nat->Prop}{h:Heap}(hr:HR P W F E N h){off:Nat}{x:V}{c:Cell}(hx:l1y h off x=some c){w:Value}(hw:RdV P W F E x w) :
  ∃b u,w = .pointer (some ⟨b,0,none⟩)/\W.cell? ⟨b,off,none⟩=some u/\RdV P W F E (.v false [c]) u:=by
 unfold l1y at hx;split at hx
 case h_2=>cases hx
 rename_i n ver;split at hx
 case h_2=>cases hx
 rename_i ver' t cs fr hn;split at hx
 case isFalse=>cases hx
 rename_i hver;subst hver;obtain ⟨b,arr,T,k1,k2,k3,k4,_⟩:=f1k hr hn;have hp:w = .pointer (some ⟨b,0,none⟩):=hw.single.1.2.2 _ k1;obtain ⟨hlt,_⟩:=q3o.1 hx;have hlt':off<arr.toList.length:=by rw[<-k3.1];exact hlt
 have hu:arr.toList[off]? = some arr.toList[off]:=q2z hlt';obtain ⟨r1,r2⟩:=k3.2 off c _ hx hu;refine ⟨b,arr.toList[off],hp,?_,RdV.mk1 r1 r2⟩;have:=cell_of_row W b off arr T (0,0) k2;rw[this]
 first
 | exact hu
 | (rw[<-hu];simp)
theorem falB_rd {al:List (Nat×Nat×Nat)}{st:St}(h:falB al st=true){a:Act}{W:World}{F:Fz}{E:EnvM}(hs:StRel cx W0 F0 O0 nt st a W F E):∀p∈al,v2w W (a.tmps.getD p.1 undef) (a.tmps.getD p.2.1 undef) p.2.2:=by
 intro p hp;have h:=List.all_eq_true.1 h p hp;split at h
 case h_2=>cases h
 rename_i c hc;obtain ⟨b,u,h1,h2,h3⟩:=q1f hs.hr hc (hs.t p.2.1);exact ⟨b,u,h1,h2,p1b h (hs.t p.1) h3⟩
theorem falK_rd {R:Type}{r:R}{k:St->Option R}{a:Act}{W:World}{F:Fz}{E:EnvM}:∀(al:List (Nat×Nat×Nat)) (st:St),falK al st k=some r->(∀p∈al,v2w W (a.tmps.getD p.1 undef) (a.tmps.getD p.2.1 undef) p.2.2)->StRel cx W0 F0 O0 nt st a W F E ->
  ∃st',k st'=some r/\StRel cx W0 F0 O0 nt st' a W F E:=by
 intro al;induction al with
 | nil=>intro st h _ hs;exact ⟨st,h,hs⟩
 | cons p al ih =>
  obtain ⟨s,m,off⟩:=p;intro st h hal hs;unfold falK at h;split at h
  case h_2=>cases h
  rename_i n ver hm;split at h
  case h_2=>cases h
  rename_i ver' e xs fr hn;split at h
  case isFalse=>cases h
  rename_i hver;subst hver;refine ih _ h (fun p hp=>hal p (by simp[hp])) ⟨hs.hr,hs.hF,fun s' => ?_,hs.later,hs.frame,hs.own,hs.fz,hs.size,hs.keep,hs.defers,hs.env⟩;simp only[getT];cases hbe:Nat.beq s s' with
  | false=>exact hs.t s'
  | true =>
   have:=q3u hbe;subst this;simp only[cond_true];obtain ⟨b,u,q1,q2,q3⟩:=q1f hs.hr hm (hs.t m);obtain ⟨b',u',p1,p2,p3⟩:=hal (s,m,off) (by simp);simp only at p1 p2 p3;rw[q1] at p1;injection p1 with p1;injection p1 with p1;injection p1 with p1 _ _;subst p1;rw[q2] at p2;injection p2 with p2;subst p2;exact q1h p3 hs.hr hn q3
def AliasP (hh:LoopH)(a:Act)(W:World):Prop:=(∀p∈hh.alias,q1i (a.tmps.getD p.1 undef) (a.tmps.getD p.2 undef))/\∀p∈hh.fal,v2w W (a.tmps.getD p.1 undef) (a.tmps.getD p.2.1 undef) p.2.2
theorem a2t {hh:LoopH}{st:St}(h:(i2o hh.alias st&&falB hh.fal st)=true){a:Act}{W:World}{F:Fz}{E:EnvM}(hs:StRel cx W0 F0 O0 nt st a W F E):AliasP hh a W:=by
 rw[q1n] at h;exact ⟨v2m h.1 hs,falB_rd h.2 hs⟩
theorem l2r (hc:CallSound cx call W0 F0)(hI:∀E,nt.I E){hh:LoopH}{rd:Option Nat}{Rf:Type}{ret:St->Option Rf}{c:Code}(hcode:g1u cx call fx W0 F0 O0 nt rd Rf ret c)(hb:d0f nt.nt nt.K c=true){s:El (b0r hh.outs) ⊕ Rf}{Q:Exit->Act->World->Prop}
  (hl:∀y a' W' F' O,s = .inl y->KeepRel cx W0 F0 O0 nt hh.outs y a' W' F' O->Q (.exit hh.exit) a' W')
  (hr:∀y st' a' W' F' E',s = .inr y->ret st'=some y->StRel cx W0 F0 O0 nt st' a' W' F' E'->Q .ret a' W') :
  ∀(n:Nat) (x:El (b0r hh.live)) (a:Act) (W:World) (F:Fz) (O:List Nat),KeepRel cx W0 F0 O0 nt hh.live x a W F O->AliasP hh a W ->
   l2s cx call fx hh ret (fun st k=>evC cx call fx Rf ret c _ (fun r=>some (.inr r)) st k) n x=some s->Code.roundsIn (Rnd rd) 0 cx.P c Q n a W:=by
 intro n;induction n with
 | zero=>intro x a W F O _ _ h;cases h
 | succ n ih =>
  intro x a W F O hs hal h;simp only[l2s] at h;obtain ⟨st,E,h,hs⟩:=z0a h hI hs;obtain ⟨st,h,hs⟩:=v2l _ _ h hal.1 hs;obtain ⟨st,h,hs⟩:=falK_rd _ _ h hal.2 hs;refine hcode _ _ st _ s a W F E _ hb hs h (fun e st' a' W' F' E' h1 h2 => ?_) (fun y st' a' W' F' E' h1 h2 h3 => ?_)
  ·cases e with
   | normal =>
    obtain ⟨hal',h1⟩:=b0s h1;have hal':=a2t hal' h2;cases hp:r0o cx call st' hh.live with
    | none=>rw[hp] at h1;cases h1
    | some y =>
     rw[hp] at h1;simp only[q3l] at h1;obtain ⟨F2,O2,hk⟩:=k1m hc h2 hp;exact ih y a' W' F2 O2 hk hal' h1
   | exit id =>
    dsimp only at h1;split at h1
    case isFalse=>cases h1
    rename_i hid;subst hid;simp only[q3q] at h1;obtain ⟨y,hp,hy⟩:=h1;obtain ⟨F2,O2,hk⟩:=k1m hc h2 hp;exact hl y a' W' F2 O2 hy.symm hk
   | ret =>
    simp only[q3q] at h1;obtain ⟨y,hp,hy⟩:=h1;exact hr y st' a' W' F' E' hy.symm hp h2
   | goto l=>cases h1
   | panic ch=>cases h1
   | outgrown=>cases h1
  ·injection h1 with h1;exact hr y st' a' W' F' E' h1.symm h2 h3
theorem StRel.drop {st:St}{a:Act}{W:World}{F:Fz}{E:EnvM}{n ver:Nat}{B:Blk}(hs:StRel cx W0 F0 O0 nt st a W F E)(hn:st.h[n]? = some (ver,some B)) :
  StRel cx W0 F0 O0 nt { st with h:=st.h.set n (ver,none) } a W F E/\∀b,a0w (st.h.set n (ver,none)) E b->∃m,m≠n/\atName st.h E m b:=by
 have hlv:∀b,a0w (st.h.set n (ver,none)) E b->∃m,m≠n/\atName st.h E m b:=by
  rintro b ⟨m,v,B',L,h1,h2,h3⟩;by_cases e:m=n
  ·subst e;rw[List.getElem?_set] at h1;simp only[if_true] at h1;split at h1
   ·injection h1 with h1;injection h1 with _ h1;cases h1
   ·cases h1
  ·rw[q4e (fun h=>e h.symm)] at h1;exact ⟨m,e,v,B',L,h1,h2,h3⟩
 have live:∀b,a0w (st.h.set n (ver,none)) E b->a0w st.h E b:=fun b hb=>by
  obtain ⟨m,_,h⟩:=hlv b hb;exact ⟨m,h⟩
 exact ⟨⟨hs.hr.put trivial (EnvLe.refl E) (hs.hr.top n ver _ trivial hn).symm (fun _ _=>rfl) (Later.refl W F) (fun b _=>⟨rfl,fun h=>h⟩) (fun B hB=>by cases hB),hs.hF,hs.t,hs.later,hs.frame,fun b hb=>hs.own b (live b hb),hs.fz,hs.size,hs.keep,
  ⟨hs.defers.1,hs.defers.2.turn fun D _ _ h1 h2 _=>⟨rfl,h1,fun h=>h2 (live D h)⟩⟩,hs.env⟩,hlv⟩
theorem evC_all (tab:i0f cx)(hfn:FnOk cx call)(hin:InOk cx call)(hm:cx.P.follows .mixedOrders=true){Rf:Type}{ret:St->Option Rf}:∀(c:Code) (W0:World) (F0:Fz) (O0:List Nat) (nt:Slots) (rd:Option Nat),
  CallSound cx call W0 F0->(fx.loops=[]\/(∀E,nt.I E)\/t0y c=true)->((fx.loops=[]/\rd=none)\/(nt.md=true/\rd=none)\/noRF c=true)->(fx.thaw=[]\/nt.md=false)->g1u cx call fx W0 F0 O0 nt rd Rf ret c:=by
 intro c;induction c with
 | skip=>intro W0 F0 O0 nt rd hc hI hR hT R kr st k r a W F E Q _ hs h hk _;exact wpIn_skip (hk _ st a W F E h hs)
 | ret=>intro W0 F0 O0 nt rd hc hI hR hT R kr st k r a W F E Q _ hs h hk _;exact wpIn_ret (hk _ st a W F E h hs)
 | exit id=>intro W0 F0 O0 nt rd hc hI hR hT R kr st k r a W F E Q _ hs h hk _;exact wpIn_exit (hk _ st a W F E h hs)
 | region id ops draw =>
  intro W0 F0 O0 nt rd hc hI hR hT R kr st k r a W F E Q hb hs h hk _;exact n1z hc tab hfn hin hm hb hs h fun st' a' W' F' E' h1 h2=>hk _ st' a' W' F' E' h1 h2
 | seq x y ihx ihy =>
  intro W0 F0 O0 nt rd hc hI hR hT R kr st k r a W F E Q hb hs h hk hkr;simp only[noRF,q1n] at hR;simp only[t0y,q1n] at hI;simp only[d0f,q1n] at hb;have ihx0:=fun W0 F0 O0 nt=>ihx W0 F0 O0 nt rd
  have ihx:=ihx W0 F0 O0 nt rd hc (hI.imp id fun q=>q.imp id (·.1)) (hR.imp id fun q=>q.imp id (·.1)) hT;have ihy:=ihy W0 F0 O0 nt rd hc (hI.imp id fun q=>q.imp id (·.2)) (hR.imp id fun q=>q.imp id (·.2)) hT;simp only[evC] at h;cases hth:g2a fx x y with
  | false =>
   refine wpIn_seq (ihx R kr st _ r a W F E _ hb.1 hs h (fun e st' a' W' F' E' h1 h2 => ?_) (fun z st' a' W' F' E' h1 h2 h3=>hkr z st' a' W' F' E' h1 h2 h3));cases e with
   | normal =>
    simp only[hth,cond_false] at h1;exact ihy R kr st' k r a' W' F' E' Q hb.2 h2 h1 hk hkr
   | _=>exact hk _ st' a' W' F' E' h1 h2
  | true =>
   obtain ⟨hne,hfl⟩:=b2n hth;have hmd:=hT.resolve_left hne;have hK:∀i∈nt.K,i<nt.nt->i ∉ f1d x:=fun i hi _=>below_no x hfl hb.1 i hi
   have hb1:d0f (j2k nt a E (f1d x)).nt (j2k nt a E (f1d x)).K x=true:=n2m x hfl hb.1 fun d hd hm=>by
    have:=(q4m.1 hm).2;rw[c0w.2 hd] at this;cases this
   refine wpIn_seq (ihx0 W F (l2t st.h E W.heap.size) (j2k nt a E (f1d x)) (hc.later hs.later) (.inr (.inr hfl)) (.inr (.inr (m2o x hfl))) (.inr rfl) R kr st _ r a W F E _ hb1 (hs.into hmd _) h
    (fun e st' a' W' F' E' h1 h2 => ?_) (fun z st' a' W' F' E' h1 h2 h3=>hkr z st' a' W' F' E' h1 h2 (hs.outOf h3 hK)))
   cases e with
   | normal =>
    simp only[hth,cond_true] at h1;exact ihy R kr _ k r a' W' F E' Q hb.2 (hs.thaw h2 hK) h1 hk hkr
   | _=>exact hk _ st' a' W' F' E' h1 (hs.outOf h2 hK)
 | cond z x y ihx ihy =>
  intro W0 F0 O0 nt rd hc hI hR hT R kr st k r a W F E Q hb hs h hk hkr;simp only[noRF,q1n] at hR;simp only[t0y,q1n] at hI;have ihx:=ihx W0 F0 O0 nt rd hc (hI.imp id fun q=>q.imp id (·.1)) (hR.imp id fun q=>q.imp id (·.1)) hT;have ihy:=ihy W0 F0 O0 nt rd hc (hI.imp id fun q=>q.imp id (·.2)) (hR.imp id fun q=>q.imp id (·.2)) hT;simp only[d0f,q1n] at hb;simp only[evC] at h;split at h
  case h_3=>cases h
  case h_2 =>
   rename_i hz;have hv:=e1o (hc.glob.later hs.later) hs.t z;rw[hz] at hv;obtain ⟨b,hv⟩:∃b,_=Value.bool b:=hv.single.1;obtain ⟨h1,h2⟩:=u2v h;cases b with
   | true=>exact wpIn_cond_true hv (ihx R kr st k r a W F E Q hb.1 hs h1 hk hkr)
   | false=>exact wpIn_cond_false hv (ihy R kr st k r a W F E Q hb.2 hs h2 hk hkr)
  rename_i b hz;have hv:=e1o (hc.glob.later hs.later) hs.t z;rw[hz] at hv;have hv:=z0m hv;cases b with
  | true=>exact wpIn_cond_true hv (ihx R kr st k r a W F E Q hb.1 hs h hk hkr)
  | false=>exact wpIn_cond_false hv (ihy R kr st k r a W F E Q hb.2 hs h hk hkr)
 | label l=>intro W0 F0 O0 nt rd hc hI hR hT R kr st k r a W F E Q _ hs h hk _;exact wpIn_label (hk _ st a W F E h hs)
 | scope x ih =>
  intro W0 F0 O0 nt rd hc hI hR hT R kr st k r a W F E Q hb hs h hk hkr;have hI:fx.loops=[]\/∀E,nt.I E:=hI.imp id fun q=>q.elim id fun q=>(by cases q)
  have hrd:rd=none:=by
   rcases hR with q | q | q
   ·exact q.2
   ·exact q.2
   ·cases q
  subst hrd;have hR:(fx.loops=[]/\(none:Option Nat)=none)\/(nt.md=true/\(none:Option Nat)=none)\/noRF x=true:=by
   rcases hR with q | q | q
   ·exact .inl q
   ·exact .inr (.inl q)
   ·cases q
  have ih:=ih W0 F0 O0 nt none hc (hI.imp id .inl) hR hT;simp only[evC] at h;refine wpIn_wide.2 (wp_scope_straight (wpIn_wide.1 (ih R kr st _ r a W F E _ hb hs h (fun e st' a' W' F' E' h1 h2 => ?_) (fun z st' a' W' F' E' h1 h2 h3=>hkr z st' a' W' F' E' h1 h2 h3))));cases e with
  | goto l=>cases h1
  | _=>exact hk _ st' a' W' F' E' h1 h2
 | block id x ih =>
  intro W0 F0 O0 nt rd hc hI hR hT R kr st k r a W F E Q hb hs h hk hkr;have ih:=ih W0 F0 O0 nt rd hc hI hR hT;refine wpIn_block (ih R kr st _ r a W F E _ hb hs h (fun e st' a' W' F' E' h1 h2 => ?_) (fun z st' a' W' F' E' h1 h2 h3=>hkr z st' a' W' F' E' h1 h2 h3));cases e with
  | exit id' =>
   dsimp only at h1;simp only[Exit.inBlock];split at h1
   ·rename_i he;rw[q0z he];exact hk _ st' a' W' F' E' h1 h2
   ·rename_i he;rw[q0n he];exact hk _ st' a' W' F' E' h1 h2
  | _=>exact hk _ st' a' W' F' E' h1 h2
 | loop x ih =>
  intro W0 F0 O0 nt rd hc hI hR hT R kr st k r a W F E Q hb hs h hk hkr;have hI:fx.loops=[]\/∀E,nt.I E:=hI.imp id fun q=>q.elim id fun q=>(by cases q)
  have ih:=ih W0 F0 O0 nt rd hc (hI.imp id .inl) hR hT;simp only[evC] at h;split at h
  ·exact wpIn_loop_rounds a0b (o1o ih hb hk hkr a0b st a W F E hs h)
  ·rename_i hh hhint;have hI:∀E,nt.I E:=by
    rcases hI with q | q
    ·exfalso;unfold hintOf at hhint;rw[q] at hhint;split at hhint<;>simp at hhint
    ·exact q
   cases hof:ownfB hh.ownf st with
   | false =>
    rw[hof] at h;exact wpIn_loop_rounds 1 (o1o ih hb hk hkr 1 st a W F E hs h)
   | true =>
   rw[hof] at h;obtain ⟨hal,h⟩:=b0s h;have hal:=a2t hal hs;cases hp:r0o cx call st hh.live with
   | none=>rw[hp] at h;cases h
   | some y =>
    rw[hp] at h;simp only[q3l] at h;cases hl:l2s cx call fx hh ret (fun st k=>evC cx call fx Rf ret x _ (fun r=>some (.inr r)) st k) a0b y with
    | none=>rw[hl] at h;cases h
    | some s =>
     rw[hl] at h;simp only[q3l] at h;obtain ⟨F2,O2,hkp⟩:=k1m hc hs hp;refine wpIn_loop_rounds a0b (l2r hc hI ih hb (s:=s) (fun z a' W' F' O he hz => ?_) (fun z st' a' W' F' E' he h1 h2 => ?_) a0b y a W F2 O2 hkp hal hl)
     ·subst he;obtain ⟨st',E',h1,h2⟩:=z0a h hI hz;have h1:=f1z h1;exact hk _ st' a' W' F' E' h1 h2
     ·subst he;exact hkr z st' a' W' F' E' h h1 h2
 | rangeFunc g ps x y ihx ihy =>
  intro W0 F0 O0 nt rd hc hI hR hT R kr st k r a W F E Q hb hs h hk hkr;simp only[evC] at h;split at h
  case h_2=>cases h
  rename_i hh n v0 hhint hop;have hne:fx.loops≠[]:=by
   intro q;unfold hintOf at hhint;rw[q] at hhint;split at hhint<;>simp at hhint
  have hI':∀E,nt.I E:=(hI.resolve_left hne).elim id fun q=>(by cases q)
  obtain ⟨hmd,rfl⟩:nt.md=true/\rd=none:=by
   rcases hR with q | q | q
   ·exact absurd q.1 hne
   ·exact q
   ·cases q
  have hT0:fx.thaw=[]:=hT.elim id fun q=>by rw[hmd] at q;cases q
  split at h
  case h_2=>cases h
  rename_i ver n' base top e xs hn;split at h
  case isFalse=>cases h
  rename_i hcond;obtain ⟨rfl,hb1,hb2,rfl⟩:=hcond;obtain ⟨hrb,h⟩:=b0s h;simp only[rangeB,q1n] at hrb;obtain ⟨p1,p2,p3,p4,p5⟩:=hrb;simp only[d0f,q1n] at hb;obtain ⟨c1,c2,c3⟩:=hb;obtain ⟨_,L,hL,w,bs,rfl,g1,g2,g3,g4,g5⟩:=hs.hr.blk n _ _ hn;obtain ⟨⟨_,hseq⟩,s2,s3⟩:=g5 rfl;have hv:=e1o (hc.glob.later hs.later) hs.t g;rw[hop] at hv;obtain ⟨bs',hbs'⟩:=g3 v0 hb1 hb2;have hvw:a.eval g=w:=hv.single.1.2.2 _ hbs';have hat:∀b∈bs,atName st.h E n b:=fun b hb=>⟨_,_,_,hn,hL,hb⟩
  obtain ⟨hs0,hlv⟩:=hs.drop hn;cases hp:r0o cx call { st with h:=st.h.set n (top,none) } hh.live with
  | none=>rw[hp] at h;cases h
  | some u =>
   rw[hp] at h;simp only[q3l] at h;obtain ⟨F2,O2,hkp,hO2,hF2,hl2⟩:=e1k hc hs0 hp;have apart:∀b∈bs,¬a0w (st.h.set n (top,none)) E b:=fun b hb hl=>by
    obtain ⟨m,hm,hat'⟩:=hlv b hl;exact hm (c0i hs.hr hat' (hat b hb))
   have live:∀b,a0w (st.h.set n (top,none)) E b->a0w st.h E b:=fun b hl=>by
    obtain ⟨m,_,hat'⟩:=hlv b hl;exact ⟨m,hat'⟩
   cases hf:seqF cx call fx hh.live e ps.toList (fun st k=>evC cx call fx Rf ret x _ (fun _=>none) st (onN fun st=>evC cx call fx Rf ret y _ (fun _=>none) st (onN k))) xs u with
   | none=>rw[hf] at h;cases h
   | some z =>
    rw[hf] at h;simp only[q3l] at h;refine d2d (fun l W0 F0 O0 nt hc hI=>ihx W0 F0 O0 nt (some l) hc (.inr (.inl hI)) (.inr (.inr p4)) (.inl hT0)) (fun l W0 F0 O0 nt hc hI=>ihy W0 F0 O0 nt (some l) hc (.inr (.inl hI)) (.inr (.inr p5)) (.inl hT0)) hc hI' hmd ?_ (q1g _ p4 c2 p2) (q1g _ p5 c3 p3) hkp
     (hseq.later hl2 fun _ _=>rfl) hvw (fun b hb h=>apart b hb (hO2 b h)) (fun b hb h=>(hF2 b h).elim (s3 b hb) (apart b hb)) (fun b hb=>hs.own b ⟨n,hat b hb⟩) ?_ hf ?_
    ·intro p hpm;have k1:=List.all_eq_true.1 c1 p hpm;have k2:=List.all_eq_true.1 p1 p hpm;simp only[q1n,Bool.not_eq_true'] at k1 k2;refine ⟨by simpa [Nat.blt_eq] using k1.1,fun h => ?_,fun h => ?_⟩
     ·rw[c0w.2 h] at k1;exact absurd k1.2 (by simp)
     ·rw[c0w.2 h] at k2;cases k2
    ·exact hs.defers.2.turn fun D _ _ d1 d2 _=>⟨rfl,fun h=>(hF2 D h).elim d1 fun h=>d2 (live D h),fun h=>h.elim (fun h=>d2 (live D (hO2 D h))) fun h=>d2 ⟨n,hat D h⟩⟩
    ·intro a' W' F' O' hz;obtain ⟨st',E',h1,h2⟩:=z0a h hI' hz;exact hk _ st' a' W' F' E' (f1z h1) h2
 | _=>intro W0 F0 O0 nt rd hc hI hR hT R kr st k r a W F E Q _ _ h;cases h
theorem z1v (hc:CallSound cx call W0 F0)(tab:i0f cx)(hfn:FnOk cx call)(hin:InOk cx call)(hI:fx.loops=[]\/∀E,nt.I E)(hm:cx.P.follows .mixedOrders=true){rd:Option Nat}{Rf:Type}{ret:St->Option Rf}(c:Code)(hR:(fx.loops=[]/\rd=none)\/(nt.md=true/\rd=none)\/noRF c=true)(hT:fx.thaw=[]\/nt.md=false):g1u cx call fx W0 F0 O0 nt rd Rf ret c :=
 evC_all tab hfn hin hm c W0 F0 O0 nt rd hc (hI.imp id .inl) hR hT
end
end
section
theorem c0r.get:∀ {ts:List Ty} {vs:List Value},c0r ts vs->∀ {i:Nat} {t:Ty},ts[i]? = some t->∃v,vs[i]? = some v/\formed t v:=by
 intro ts;induction ts with
 | nil=>intro vs _ i t h;simp at h
 | cons t ts ih =>
  intro vs h i u hu;cases vs with
  | nil=>exact h.elim
  | cons v vs =>
   cases i with
   | zero=>simp at hu;subst hu;exact ⟨v,rfl,h.1⟩
   | succ i=>simpa using ih h.2 (by simpa using hu)
section
variable {cx:Cx}{call:Oracle cx}{fx:Hints}{W0 W W':World}{F0 F F':Fz}{O0:List Nat}{E E':EnvM}{h:Heap}{a:Act}{R:Type}{nt:Slots}{st:St}
def resF (tmps : Array Value) : ResultVar -> Sem Value := fun r => match r with
    | .tmp t=>pure (tmps.getD t undef)
    | .cell a t=>do loadVar t (<-asAddr (tmps.getD a undef))
theorem k2q (tab:i0f cx)(hr:HR cx.P W F E (fun _=>True) h){t:List (Nat×V)}(ht:∀s,RdV cx.P W F E (getT t s) (a.tmps.getD s undef)):∀(rvs:List ResultVar) (ts:List Ty) (cs:List Cell),f0w cx h t rvs ts=some cs ->
  ∃ws,c0r ts ws/\a0f cx.P W F E cs (ws.flatMap fun v=>v.cells.toList)/\(rvs.mapM (resF a.tmps)).run cx.P W = .ok ws W:=by
 intro rvs;induction rvs with
 | nil =>
  intro ts cs hk;cases ts with
  | nil =>
   simp only[f0w,Option.some.injEq] at hk;subst hk;exact ⟨[],trivial,a0f.nil,rfl⟩
  | cons t ts=>simp[f0w] at hk
 | cons rv rvs ih =>
  intro ts cs hk;cases ts with
  | nil=>cases rv<;>simp[f0w] at hk
  | cons ty ts =>
   cases rv with
   | tmp s =>
    simp only[f0w] at hk;split at hk
    case h_2=>cases hk
    rename_i ag cs1 hg;split at hk
    case isFalse=>cases hk
    rename_i hag;simp only[q3q] at hk;obtain ⟨cs2,h2,rfl⟩:=hk;have hv:=ht s;rw[hg] at hv;obtain ⟨ws,k1,k2,k3⟩:=ih ts cs2 h2;have hw:(a.tmps.getD s undef).cells.size=width ty:=by
     have h1:cs1.length=(a.tmps.getD s undef).cells.toList.length:=hv.1.1;rw[Array.length_toList] at h1;exact h1.symm.trans hag.2
    refine ⟨a.tmps.getD s undef::ws,⟨RdV1.formed hv hag.1 hw,k1⟩,?_,?_⟩
    ·rw[q4h];exact hv.1.append k2
    ·rw[List.mapM_cons];simp[resF,k3]
   | cell s ct =>
    simp only[f0w] at hk;split at hk
    case h_2=>cases hk
    rename_i ac c hg hc;split at hk
    case isFalse=>cases hk
    rename_i hag;have hv:=ht s;rw[hg] at hv;obtain ⟨cs1,h1,h2,b,o,vs,h3,h4,h5⟩:=t1k hr hk hv.single.1;simp only[q3q] at h1;obtain ⟨cs2,q2,rfl⟩:=h1;obtain ⟨ws,k1,k2,k3⟩:=ih ts cs2 q2;obtain ⟨⟨ti,t1,t2,_⟩,t3,t4,t5,t6⟩:=x0o tab hc;have hl:vs.length=ti.size:=by rw[<-h4.1,h2,t2]
    have hrun:=k0v (P:=cx.P) (W:=W) (b:=b) (o:=o) t1 t6 hl h5 (fun e=>by rw[hl,t2];exact t5 (t3.trans e));have hV:=h4.mkV (ag:=agg c) (fun e=>by rw[h2];exact t5 e);rw[<-t3] at hrun;generalize (if agg c=true then Value.agg vs.toArray else vs.headD .nilFunc)=w at hrun hV;have hw:w.cells.size=width ty:=by
     have h1':cs1.length=w.cells.toList.length:=hV.1.1;rw[Array.length_toList] at h1';exact h1'.symm.trans (h2.trans hag.2)
    refine ⟨w::ws,⟨RdV1.formed hV hag.1 hw,k1⟩,?_,?_⟩
    ·rw[q4h];exact hV.1.append k2
    ·rw[List.mapM_cons];simp[resF,h3,asAddr,hrun,k3]
theorem k1d {fn:Func}{ws:List Value}{P:Program}(h:(fn.results.toList.mapM (resF a.tmps)).run P W = .ok ws W):(results fn a.tmps).run P W = .ok (f1x ws) W:=by
 have e:results fn a.tmps=(do let vs <-fn.results.mapM (resF a.tmps);pure (if h:vs.size=1 then vs[0] else .tuple vs)):=rfl;rw[e,Array.mapM_eq_mapM_toList];simp only[Sem.run_bind,map_eq_pure_bind,h,Result.andThen_ok,Sem.run_pure];congr 1;unfold f1x
 match ws with
 | []=>rfl
 | [w]=>rfl
 | w::w2::r=>simp
theorem f2r {P:Program}{ps:List Ty}{args:List Value}(hf:c0r ps args){t:List (Nat×V)}:∀(back:List Nat),(back.all fun i=>isRef ps[i]?)=true->(∀i∈back,∀v,args[i]? = some v->RdV P W F E (getT t i) v) ->
  a0f P W F E (back.map fun i=>i1o (getT t i)) ((back.filterMap (args[·]?)).flatMap fun v=>v.cells.toList):=by
 intro back;induction back with
 | nil=>intro _ _;exact a0f.nil
 | cons i r ih =>
  intro hall hv;simp only[List.all_cons,q1n] at hall;have ih:=ih hall.2 fun j hj=>hv j (by simp[hj])
  have hp:∃p,ps[i]? = some p/\agg p=false:=by
   have:=hall.1;unfold isRef at this;split at this
   ·rename_i e he;exact ⟨_,he,rfl⟩
   ·rename_i e he;exact ⟨_,he,rfl⟩
   ·rename_i e he;exact ⟨_,he,rfl⟩
   ·rename_i T e he;exact ⟨_,he,rfl⟩
   ·rename_i kt e he;exact ⟨_,he,rfl⟩
   ·cases this
  obtain ⟨p,hp,hagg⟩:=hp;obtain ⟨v,h1,h2⟩:=hf.get hp;have hone:=h2.2.1 hagg;have hcells:=oneCell_cells hone;have hrd:=hv i (by simp) v h1;simp only[q4i,List.filterMap_cons,h1,q4h];rw[hcells];show a0f P W F E (i1o (getT t i)::_) (v::_);refine a0f.cons.2 ⟨⟨?_,hone⟩,ih⟩;unfold i1o;split
  ·rename_i ag c cs hg;rw[hg] at hrd;have:=hrd.1;rw[hcells] at this;obtain ⟨u,us,hu,q1,_⟩:=this.uncons;simp only[List.cons.injEq] at hu;rw[hu.1];exact q1
  ·trivial
theorem retK_rd (hc:CallSound cx call W0 F0)(tab:i0f cx){fn:Func}{s:Sig}{args:List Value}(hf:c0r s.ps args)(hback:(s.back.all fun i=>isRef s.ps[i]?)=true)(hs:StRel cx W0 F0 O0 nt st a W F E)(hK:nt.K=s.back)
  (hkv:∀i v,args[i]? = some v->nt.kv i=v) {y:El (tup (s.rs++s.back.filterMap (s.ps[·]?)))} (hk:retK cx call fn s st=some y) :
  ∃v F',(results fn a.tmps).run cx.P W = .ok v W/\Move W0 F0 O0 W F'/\Ret cx.P W0 O0 s args (tup (s.rs++s.back.filterMap (s.ps[·]?))) y W F' v:=by
 unfold retK at hk;split at hk
 case h_2=>cases hk
 rename_i cs hcs;split at hk
 case h_2=>cases hk
 rename_i z taken lent hp;split at hk
 case isFalse=>cases hk
 rename_i hnd;injection hk with hk;subst hk;obtain ⟨ws,k1,k2,k3⟩:=k2q tab hs.hr hs.t fn.results.toList s.rs cs hcs;have hb:=f2r (P:=cx.P) (W:=W) (F:=F) (E:=E) (t:=st.t) hf s.back hback (fun i hi v hv=>by
  have:=hs.t i;rw[hs.keep i (by rw[hK];exact hi),hkv i v hv] at this
  exact this)
 obtain ⟨O,m1,m2,m3⟩:=e1l (hc.later hs.later) hs.hr hp (k2.append hb);rw[<-List.flatMap_append] at m1;have hnd':=a1h hnd;have own:∀n b,atName st.h E n b->b∈O0\/W0.heap.size<=b:=fun n b hat=>hs.own b ⟨n,hat⟩
 refine ⟨f1x ws,a0m F st.h E lent,k1d k3,⟨hs.later.trans (b0w lent),hs.frame,fun b hb => ?_⟩,ws,O,k1,rfl,m1,m2.nodup hnd'.1,?_,fun b hb => ?_⟩
 ·have hlt:=a0m.lt hs.hr hs.hF hb;rcases hb with hb | ⟨n,_,hat⟩
  ·rcases hs.fz b hb with q | q | q
   ·exact .inl q
   ·exact .inr (.inl q)
   ·exact .inr (.inr ⟨q,hlt⟩)
  ·rcases own n b hat with q | q
   ·exact .inr (.inl q)
   ·exact .inr (.inr ⟨q,hlt⟩)
 ·rintro b hb (hf | ⟨n,hn,hat⟩)
  ·exact m2.free b hb hf
  ·obtain ⟨m,hm,hat'⟩:=m2.at_ b hb;exact hnd'.2.2 m hm n hn (c0i hs.hr hat' hat)
 ·obtain ⟨n,_,hat⟩:=m2.at_ b hb;exact own n b hat
theorem t2n {P:Program}:∀(ps:List Ty) (x:El (tupU ps)) (vs:List Value) (h:Heap) (nm:Nat) (k:List V->Heap->Nat->Option R) (r:R),i2b ps x h nm k=some r ->
  ∀ {E:EnvM} {O:List Nat},HR P W F E (fun _=>True) h->c0r ps vs->RdB P (tupU ps) x W F O (cat vs)->O.Nodup->(∀b∈O,¬F b)->(∀b∈O,¬a0w h E b) ->
   ∃us h' nm' E',k us h' nm'=some r/\EnvLe E E'/\HR P W F E' (fun _=>True) h'/\us.length=vs.length/\(∀(i:Nat) p u,us[i]? = some p->vs[i]? = some u->RdV P W F E' p u)/\(∀b,a0w h' E' b->a0w h E b\/b∈O):=by
 intro ps;induction ps with
 | nil =>
  intro x vs h nm k r hk E O hr hf _ _ _ _;have:vs=[]:=q3n hf.length;subst this;exact ⟨[],h,nm,E,hk,EnvLe.refl E,hr,rfl,fun i p u hp=>by simp at hp,fun b hb => .inl hb⟩
 | cons p ps ih =>
  intro x vs h nm k r hk E O hr hf hx hO hF hL;cases vs with
  | nil=>exact hf.elim
  | cons v vs =>
   simp only[i2b,f0d] at hk;obtain ⟨hfr,hk⟩:=b0s hk;obtain ⟨f1,f2⟩:=p1t hfr;obtain ⟨O1,O2,rfl,x1,x2⟩:=hx;rw[List.nodup_append] at hO;obtain ⟨E1,c1,cc1⟩:=r0a h p x.1 [] nm hr x1 hO.1 (fun b hb=>hF b (by simp[hb])) (fun b hb=>hL b (by simp[hb])) (fun n hn=>⟨trivial,f1 n hn,b0m hr trivial (f1 n hn)⟩) f2;have hlive:∀b∈O2,¬a0w (e0f h (b0k h p x.1 [] nm).2.1) E1 b:=by
    rintro b hb ⟨m,hat⟩;rcases c1.at_ m b hat with ⟨_,k⟩ | ⟨_,k⟩
    ·exact hO.2.2 b k b hb rfl
    ·exact hL b (by simp[hb]) ⟨m,k⟩
   rw[k0e hf.1.2.2] at x2;obtain ⟨us,h',nm',E2,m0,m1,m2,m3,m4,m5⟩:=ih x.2 vs _ _ _ r hk c1.hr hf.2 x2 hO.2.1 (fun b hb=>hF b (by simp[hb])) hlive;refine ⟨_,h',nm',E2,m0,c1.env.trans m1,m2,by simp[m3],fun i q u hq hu => ?_,fun b hb => ?_⟩
   ·cases i with
    | zero =>
     simp at hq hu;subst hq;subst hu;exact (u2p hf.1 cc1 (i0d hf.1.2.2)).later (Later.refl W F) m1
    | succ i=>exact m4 i q u (by simpa using hq) (by simpa using hu)
   ·rcases m5 b hb with ⟨m,hat⟩ | q
    ·rcases c1.at_ m b hat with ⟨_,k⟩ | ⟨_,k⟩
     ·exact .inr (by simp[k])
     ·exact .inl ⟨m,k⟩
    ·exact .inr (by simp[q])
theorem g1e:∀(us:List V) (b s:Nat),getT (numbered b us) s=if b<=s then (us[s-b]?).getD .lost else .lost:=by
 intro us;induction us with
 | nil=>intro b s;simp[numbered,getT]
 | cons u us ih =>
  intro b s;simp only[numbered,getT];cases hb:Nat.beq b s with
  | true =>
   have:=q3u hb;subst this;simp
  | false =>
   simp only[cond_false];rw[ih];have hne:b≠s:=fun e=>by subst e;simp at hb
   by_cases hle:b<=s
   ·rw[q0z hle,q0z (by omega),show s-b=(s-(b+1))+1 by omega];simp
   ·rw[q0n hle,q0n (by omega)]
theorem y1x {fn:Func}{Rp:Ending->World->Prop}:∀(ds:List Deferred) (a:Act) (W:World),a.defers=ds->StRel cx W0 F0 O0 nt st a W F E ->
  (∀a' W',a'.tmps=a.tmps->StRel cx W0 F0 O0 nt st a' W' F E->∃v,(results fn a.tmps).run cx.P W' = .ok v W'/\Rp (.returned v) W')->LeavesInM (Rnd none) 0 cx.P fn a.tmps Rp ds .returning W:=by
 intro ds;induction ds with
 | nil =>
  intro a W _ hs h;exact h a W rfl hs
 | cons d ds ih =>
  intro a W hd hs h;have hok:=hs.defers.2;rw[hd] at hok;obtain ⟨D,rfl,k2,k3,k4,k5⟩:=hok.at_ d List.mem_cons_self;have hnd:=List.nodup_cons.1 hok.nodup;refine ⟨(by simp),.inl ⟨D,_,rfl,run_takeDeferred k2,ih { a with defers:=ds } _ rfl ?_ h⟩⟩;have hl:=m0a (W:=W) (o := .deferred none) k4;refine ⟨hs.hr.world hl (fun b hb=>⟨World.putObj_heap_other (fun e=>k5 (e ▸ hb)),fun h=>h⟩),fun b hb=>by simpa using hs.hF b hb,fun s=>(hs.t s).later hl (EnvLe.refl E),hs.later.trans hl,fun b hb hO => ?_,hs.own,hs.fz,hs.size,hs.keep,
   ⟨(fun q=>by have:=hs.defers.1 q;rw[hd] at this;cases this),hnd.2,fun d' hd' => ?_⟩,hs.env⟩
  ·rw[World.putObj_heap_other (by omega)];exact hs.frame b hb hO
  ·obtain ⟨D',q1,q2,q3⟩:=hok.at_ d' (q3h _ hd');refine ⟨D',q1,(World.putObj_heap_other (fun e => ?_)).trans q2,q3⟩;subst e;exact hnd.1 (q1 ▸ hd')
theorem FnOk.body (hp:Fns cx)(tab:i0f cx)(hfn:FnOk cx call)(hin:InOk cx call)(hm:cx.P.follows .mixedOrders=true){iq:(R:Type)->FuncId->List V->Heap->Nat->(V->Heap->Option R)->Option R}:FnOk cx ⟨Flat.body cx call,iq⟩:=by
 intro f s hs x y hy W F O vs hg hF hforms hrd hnd hfree;have hc:CallSound cx call W F:=FnOk.closed hp hfn hg;dsimp only at hy;unfold Flat.body at hy;rw[hs] at hy;dsimp only at hy;cases hfun:cx.P.funcs[f]? with
 | none=>rw[hfun] at hy;cases hy
 | some fn =>
  rw[hfun] at hy;dsimp only at hy;split at hy
  case h_2=>cases hy
  rename_i c x' hb hx';obtain ⟨hok,hy⟩:=b0s hy;obtain ⟨ex,rfl⟩:=b0g hx';simp only[okBody,q1n] at hok;obtain ⟨hbelow,hps,hback⟩:=hok;have hps:s.ps.length<=fn.ntmps:=by simpa [Nat.ble_eq] using hps
  have hlen:=hforms.length;obtain ⟨us,h',nm',E,hk,_,hr,hul,hus,hlive⟩:=t2n (P:=cx.P) (W:=W) (F:=F) s.ps (ex ▸ x) vs (t0p (cx.hints f)) 0 _ y hy (p1l _) hforms (RdB.cast ex hrd) hnd hfree (fun b _=>p0x _);clear hy;obtain ⟨fx',hk⟩:=c2f hk;have hget:∀s,({ tmps:=vs.toArray++Array.replicate (fn.ntmps-vs.toArray.size) undef,defers:=[] }:Act).tmps.getD s undef=(vs[s]?).getD undef:=by
   intro s;simp only[q3t,Array.getElem?_append,List.size_toArray,List.getElem?_toArray];by_cases hlt:s<vs.length
   ·rw[q0z hlt]
   ·rw[q0n hlt,q3d (by omega),Array.getElem?_replicate];split<;>rfl
  let nt:Slots:=⟨fn.ntmps,s.back,fun i=>(vs[i]?).getD undef,fun _=>True,fun _ _ _ _=>trivial,!noRF c⟩
  have hR:((fx'.calm c).loops=[]/\(none:Option Nat)=none)\/(nt.md=true/\(none:Option Nat)=none)\/noRF c=true:=by
   cases hn:noRF c with
   | true=>exact .inr (.inr rfl)
   | false=>exact .inr (.inl ⟨by show (!noRF c)=true;rw[hn];rfl,rfl⟩)
  have hT:(fx'.calm c).thaw=[]\/nt.md=false:=(u2q fx' c).imp id fun q=>by show (!noRF c)=false;rw[q];rfl
  have hstart:StRel cx W F O nt ⟨numbered 0 us,h'⟩ { tmps:=vs.toArray++Array.replicate (fn.ntmps-vs.toArray.size) undef,defers:=[] } W F E:=by
   refine ⟨hr,hF,fun s => ?_,Later.refl W F,fun _ _ _=>rfl,fun b hb => ?_,fun _ hb => .inl hb,?_,fun i _=>hget i,⟨fun _=>rfl,.nil⟩,trivial⟩
   ·rw[hget,g1e,q0z (Nat.zero_le _),Nat.sub_zero];by_cases hlt:s<vs.length
    ·have hlt':s<us.length:=by omega
     rw[q2z hlt',q2z hlt];exact hus s _ _ (q2z hlt') (q2z hlt)
    ·rw[q3d (l:=us) (by omega)];exact trivial
   ·rcases hlive b hb with q | q
    ·exact (p0x _ q).elim
    ·exact .inl q
   ·simp;show vs.length+(fn.ntmps-vs.length)=fn.ntmps;omega
  refine (callsIn_wide (n:=0)).1 (callsIn_of_wp_marks (F:=Rnd none) hfun hb trivial ?_ rfl);have fin:∀(z:El (tup (s.rs++s.back.filterMap (s.ps[·]?)))) st' a' W' F' E',d0b (a:=tup (s.rs++s.back.filterMap (s.ps[·]?))) (b:=cx.out f) z=some y->retK cx call fn s st'=some z->StRel cx W F O nt st' a' W' F' E' ->
    LeavesInM (Rnd none) 0 cx.P fn a'.tmps (fun e W'=>∃v' F',e = .returned v'/\Move W F O W' F'/\Ret cx.P W O s vs (cx.out f) y W' F' v') a'.defers .returning W':=by
   intro z st' a' W' F' E' h1 h2 h3;obtain ⟨ez,rfl⟩:=b0g h1;refine y1x a'.defers a' W' rfl h3 fun a2 W2 ht h4 => ?_
   obtain ⟨v,F2,k1,k2,ws,O',k3,k4,k5,k6⟩:=retK_rd hc tab hforms hback h4 rfl (fun i v hv=>by show (vs[i]?).getD undef=v;rw[hv];rfl) h2;rw[<-ht];exact ⟨v,k1,v,F2,rfl,k2,ws,O',k3,k4,RdB.cast ez k5,k6⟩
  refine z1v (rd:=none) (W0:=W) (F0:=F) (O0:=O) (nt:=nt) hc tab hfn hin (.inr fun _=>trivial) hm c hR hT _ _ _ _ y _ W F E _ hbelow hstart hk (fun e st' a' W' F' E' h1 h2 => ?_) (fun z st' a' W' F' E' h1 h2 h3=>fin z st' a' W' F' E' h1 h2 h3);cases e with
  | normal =>
   dsimp only at h1;cases hz:retK cx call fn s st' with
   | none=>rw[hz] at h1;cases h1
   | some z=>rw[hz] at h1;exact fin z st' a' W' F' E' h1 hz h2
  | ret =>
   dsimp only at h1;cases hz:retK cx call fn s st' with
   | none=>rw[hz] at h1;cases h1
   | some z=>rw[hz] at h1;exact fin z st' a' W' F' E' h1 hz h2
  | exit id=>cases h1
  | goto l=>cases h1
  | panic ch=>cases h1
  | outgrown=>cases h1
theorem inRes_rd (tab:i0f cx)(hr:HR cx.P W F E (fun _=>True) h){t:List (Nat×V)}(ht:∀s,RdV cx.P W F E (getT t s) (a.tmps.getD s undef)):∀(rvs:List ResultVar) (l:List (Bool×List Cell)),t1x cx h t rvs=some l ->
  ∃ws:List Value,l.length=ws.length/\(∀(j:Nat) p u,l[j]? = some p->ws[j]? = some u->RdV1 cx.P W F E p.1 p.2 u)/\(rvs.mapM (resF a.tmps)).run cx.P W = .ok ws W:=by
 intro rvs;induction rvs with
 | nil =>
  intro l hk;simp only[t1x,Option.some.injEq] at hk;subst hk;exact ⟨[],rfl,fun j p u h=>by simp at h,rfl⟩
 | cons rv rvs ih =>
  intro l hk;have two:∀ {p:Bool×List Cell} {l2:List (Bool×List Cell)} {w:Value} {ws:List Value},RdV1 cx.P W F E p.1 p.2 w->(∀(j:Nat) p u,l2[j]? = some p->ws[j]? = some u->RdV1 cx.P W F E p.1 p.2 u) ->
    ∀(j:Nat) q u,(p::l2)[j]? = some q->(w::ws)[j]? = some u->RdV1 cx.P W F E q.1 q.2 u:=by
   intro p l2 w ws h1 h2 j q u hq hu;cases j with
   | zero=>simp at hq hu;subst hq;subst hu;exact h1
   | succ j=>exact h2 j q u (by simpa using hq) (by simpa using hu)
  cases rv with
  | tmp s =>
   simp only[t1x] at hk;split at hk
   case h_2=>cases hk
   rename_i ag cs1 hg;simp only[q3q] at hk;obtain ⟨l2,h2,rfl⟩:=hk;have hv:=ht s;rw[hg] at hv;obtain ⟨ws,k1,k2,k3⟩:=ih l2 h2;refine ⟨a.tmps.getD s undef::ws,by simp[k1],two hv k2,?_⟩;rw[List.mapM_cons];simp[resF,k3]
  | cell s ct =>
   simp only[t1x] at hk;split at hk
   case h_2=>cases hk
   rename_i ac c hg hc;have hv:=ht s;rw[hg] at hv;obtain ⟨cs1,h1,h2,b,o,vs,h3,h4,h5⟩:=t1k hr hk hv.single.1;simp only[q3q] at h1;obtain ⟨l2,q2,rfl⟩:=h1;obtain ⟨ws,k1,k2,k3⟩:=ih l2 q2;obtain ⟨⟨ti,t1,t2,_⟩,t3,t4,t5,t6⟩:=x0o tab hc;have hl:vs.length=ti.size:=by rw[<-h4.1,h2,t2]
   have hrun:=k0v (P:=cx.P) (W:=W) (b:=b) (o:=o) t1 t6 hl h5 (fun e=>by rw[hl,t2];exact t5 (t3.trans e));have hV:=h4.mkV (ag:=agg c) (fun e=>by rw[h2];exact t5 e);rw[<-t3] at hrun;generalize (if agg c=true then Value.agg vs.toArray else vs.headD .nilFunc)=w at hrun hV;refine ⟨w::ws,by simp[k1],two hV k2,?_⟩;rw[List.mapM_cons];simp[resF,h3,asAddr,hrun,k3]
open Classical in
theorem s2g (hp:Fns cx)(tab:i0f cx)(hfn:FnOk cx call)(hin:InOk cx call)(hm:cx.P.follows .mixedOrders=true){f:FuncId}{us:List V}{nm:Nat}{k:V->Heap->Option R}{r:R}(hy:inBody cx call R f us h nm k=some r):(∃s,cx.sig f=some s) /\
  ∀(W:World) (F:Fz) (E:EnvM) (vs:List Value),GlobOk cx W F->(∀b,F b->b<W.heap.size)->HR cx.P W F E (fun _=>True) h->us.length=vs.length->(∀(i:Nat) p u,us[i]? = some p->vs[i]? = some u->RdV cx.P W F E p u) ->
   Calls cx.P f vs.toArray W fun e W'=>∃v F' E' x h',e = .returned v/\k x h'=some r/\HR cx.P W' F' E' (fun _=>True) h'/\RdV cx.P W' F' E' x v/\Later W F W' F'/\EnvLe E E'/\(∀b,F' b->b<W'.heap.size) /\
    (∀b,b<W.heap.size->¬a0w h E b->W'.heap[b]? = W.heap[b]?)/\(∀b,a0w h' E' b->a0w h E b\/W.heap.size<=b)/\(∀b,F' b->F b\/a0w h E b\/W.heap.size<=b):=by
 unfold inBody at hy;cases hfun:cx.P.funcs[f]? with
 | none=>rw[hfun] at hy;cases hy
 | some fn =>
  rw[hfun] at hy;dsimp only at hy;split at hy
  case h_2=>cases hy
  rename_i c hb;obtain ⟨hok,hy⟩:=b0s hy;simp only[q1n] at hok;obtain ⟨_,hsig,hbelow,hps⟩:=hok;refine ⟨Option.isSome_iff_exists.1 hsig,?_⟩;intro W F E vs hg hF hr hlen hus;have hc:CallSound cx call W F:=FnOk.closed hp hfn hg;have hps:us.length<=fn.ntmps:=by simpa [Nat.ble_eq] using hps
  have hget:∀s,({ tmps:=vs.toArray++Array.replicate (fn.ntmps-vs.toArray.size) undef,defers:=[] }:Act).tmps.getD s undef=(vs[s]?).getD undef:=by
   intro s;simp only[q3t,Array.getElem?_append,List.size_toArray,List.getElem?_toArray];by_cases hlt:s<vs.length
   ·rw[q0z hlt]
   ·rw[q0n hlt,q3d (by omega),Array.getElem?_replicate];split<;>rfl
  let nt:Slots:=⟨fn.ntmps,[],fun _=>undef,EnvLe E,fun _ _ h1 h2=>h1.trans h2,false⟩
  let O:List Nat:=(List.range W.heap.size).filter fun b=>decide (a0w h E b)
  have hO:∀b,b∈O↔a0w h E b:=fun b=>by
   simp only[O,q4m,q4v,q3a];exact ⟨fun h=>h.2,fun h=>⟨hr.lt b h,h⟩⟩
  have hstart:StRel cx W F O nt ⟨numbered 0 us,h⟩ { tmps:=vs.toArray++Array.replicate (fn.ntmps-vs.toArray.size) undef,defers:=[] } W F E:=by
   refine ⟨hr,hF,fun s => ?_,Later.refl W F,fun _ _ _=>rfl,fun b hb => .inl ((hO b).2 hb),fun _ hb => .inl hb,?_,(fun i hi=>by cases hi),⟨fun _=>rfl,.nil⟩,EnvLe.refl E⟩
   ·rw[hget,g1e,q0z (Nat.zero_le _),Nat.sub_zero];by_cases hlt:s<vs.length
    ·have hlt':s<us.length:=by omega
     rw[q2z hlt',q2z hlt];exact hus s _ _ (q2z hlt') (q2z hlt)
    ·rw[q3d (l:=us) (by omega)];exact trivial
   ·simp;show vs.length+(fn.ntmps-vs.length)=fn.ntmps;omega
  refine calls_of_wp hfun hb ((wpIn_wide (n:=0)).1 ?_);have fin:∀st' a' W' F' E',((t1x cx st'.h st'.t fn.results.toList).bind fun l=>k (resV l) st'.h)=some r->StRel cx W F O nt st' a' W' F' E' ->
    a'.defers=[]/\∃v,(results fn a'.tmps).run cx.P W' = .ok v W'/\∃v' F' E' x h',Ending.returned v = .returned v'/\k x h'=some r/\HR cx.P W' F' E' (fun _=>True) h'/\RdV cx.P W' F' E' x v'/\Later W F W' F'/\EnvLe E E'/\(∀b,F' b->b<W'.heap.size) /\
     (∀b,b<W.heap.size->¬a0w h E b->W'.heap[b]? = W.heap[b]?)/\(∀b,a0w h' E' b->a0w h E b\/W.heap.size<=b)/\(∀b,F' b->F b\/a0w h E b\/W.heap.size<=b):=by
   intro st' a' W' F' E' h1 h2;cases hres:t1x cx st'.h st'.t fn.results.toList with
   | none=>rw[hres] at h1;cases h1
   | some l =>
    rw[hres] at h1;simp only[q3l] at h1;obtain ⟨ws,k1,k2,k3⟩:=inRes_rd tab h2.hr h2.t _ _ hres;exact ⟨h2.defers.1 rfl,f1x ws,k1d k3,_,F',E',_,_,rfl,h1,h2.hr,p2v k1 k2,h2.later,h2.env,h2.hF,fun b hb hn=>h2.frame b hb (fun hm=>hn ((hO b).1 hm)),
     fun b hb=>(h2.own b hb).imp (hO b).1 (fun h=>h),fun b hb=>(h2.fz b hb).imp (fun h=>h) (fun h=>h.imp (hO b).1 fun h=>h)⟩
  refine z1v (rd:=none) (W0:=W) (F0:=F) (O0:=O) (nt:=nt) hc tab hfn hin (.inl rfl) hm c (.inl ⟨rfl,rfl⟩) (.inl rfl) _ _ _ _ r _ W F E _ hbelow hstart hy (fun e st' a' W' F' E' h1 h2 => ?_) (fun z=>nomatch z);cases e with
  | normal=>exact fin st' a' W' F' E' h1 h2
  | ret=>exact fin st' a' W' F' E' h1 h2
  | exit id=>cases h1
  | goto l=>cases h1
  | panic ch=>cases h1
  | outgrown=>cases h1
def i2r (cx:Cx):Prop :=
 ∀f H,cx.hand f=some H->∀s,cx.sig f=some s->∀(x:El (cx.arg f)) (y:El (cx.out f)),handF cx H f x=some y->∀W F O vs,GlobOk cx W F->(∀b,F b->b<W.heap.size)->c0r s.ps vs->RdB cx.P (cx.arg f) x W F O (cat vs) ->
  O.Nodup->(∀b∈O,¬F b)->Calls cx.P f vs.toArray W fun e W'=>∃v F',e = .returned v/\Move W F O W' F'/\Ret cx.P W O s vs (cx.out f) y W' F' v
theorem evF_both (tab:i0f cx)(hp:Fns cx)(hm:cx.P.follows .mixedOrders=true)(hh:i2r cx):∀n,FnOk cx (evF cx n)/\InOk cx (evF cx n):=by
 intro n;induction n with
 | zero=>exact ⟨fun f s _ x y hy=>(by cases hy),fun R f us h nm k r hy=>(by cases hy)⟩
 | succ n ih =>
  refine ⟨?_,fun R f us h nm k r hy=>s2g hp tab ih.1 ih.2 hm hy⟩;intro f s hs x y hy;simp only[evF] at hy;cases hf:cx.hand f with
  | none=>rw[hf] at hy;exact FnOk.body (iq:=fun _ _ _ _ _ _=>none) hp tab ih.1 ih.2 hm f s hs x y hy
  | some H=>rw[hf] at hy;exact hh f H hf s hs x y hy
theorem evF_ok (tab:i0f cx)(hp:Fns cx)(hm:cx.P.follows .mixedOrders=true)(hh:i2r cx)(n:Nat):FnOk cx (evF cx n):=(evF_both tab hp hm hh n).1
end
end
section
open Go.ChangeShapes Go.WideShapes
def Wf:(t:Ty)->El t->Prop
 | .pair a b,x=>Wf a x.1/\Wf b x.2
 | .wrap e,x=>Wf e x
 | .int k,x=>k.min<=x/\x<=k.max
 | .str,x=>x.length<=maxLen
 | .slice e,x=>x.length<=maxLen/\∀y∈x,Wf e y
 | _,_=>True
def e0t (P:Program)(self:TypeId->Ty->Bool):List Field->Ty->Nat->Bool
 | [],.unit,_=>true
 | [f],e,off=>Nat.beq f.offset off&&(r0m P f.type e&&self f.type e)
 | f::g::r,.pair a b,off=>Nat.beq f.offset off&&(r0m P f.type a&&(self f.type a&&e0t P self (g::r) b (off+width a)))
 | _,_,_=>false
def readB (P:Program):Nat->TypeId->Ty->Bool
 | 0,_,_=>false
 | d+1,t,c =>
  match P.underlying t,c with
  | some .bool,.bool=>true
  | some (.int k),.int k'=>decide (k=k')
  | some .string,.str=>true
  | some (.slice el),.slice e=>r0m P el e&&(readB P d el e && !Nat.beq (width e) 0)
  | some (.struct fs),.wrap e=>r0m P t (.wrap e)&&e0t P (readB P d) fs.toList e 0
  | some (.array n el),.wrap e=>r0m P t (.wrap e)&&f0y P (readB P d) el n e
  | _,_=>false
section
variable {H:Type}{enc:TypeId×Value->H}{P:Program}{w:World}{held:Bool}{F:Fz}
theorem f0i {t:TypeId}{e:Ty}(h:r0m P t e=true):P.cellsOf t=width e:=by
 unfold r0m at h;split at h
 case h_2=>cases h
 rename_i ti hti;simp only[q1n] at h;rw[show P.cellsOf t=ti.size by simp[Program.cellsOf,hti]];exact q3u h.1
def v2q (enc:TypeId×Value->H)(P:Program)(w:World)(held:Bool)(F:Fz)(self:TypeId->Ty->Bool):Prop :=
 ∀t c,self t c=true->∀n (cs:List Value) (y:DataW H×List MemPlace),DataW.trod enc P w 0 (fun _=>true) held n t cs=some y->∃x:El c,cs.length=width c/\Rd P c x w F (fun j=>cs[j]?)/\Wf c x
theorem mapM_get {α β:Type}{f:α->Option β}:∀ {l:List α} {r:List β},l.mapM f=some r->∀(i:Nat) (x:α),l[i]? = some x->f x=r[i]? := by
 intro l;induction l with
 | nil=>intro r _ i x h;simp at h
 | cons a l ih =>
  intro r h i x hx;rw[List.mapM_cons] at h;simp only[bind,Option.bind_eq_some_iff,pure,Option.some.injEq] at h;obtain ⟨b,h1,r',h2,rfl⟩:=h;cases i with
  | zero=>simp at hx;subst hx;simpa using h1
  | succ i=>simpa using ih h2 i x (by simpa using hx)
theorem r2d {α β:Type}{f:α->Option β}:∀ {l:List α} {r:List β},l.mapM f=some r->r.length=l.length:=by
 intro l;induction l with
 | nil=>intro r h;simp at h;subst h;rfl
 | cons a l ih =>
  intro r h;rw[List.mapM_cons] at h;simp only[bind,Option.bind_eq_some_iff,pure,Option.some.injEq] at h;obtain ⟨b,h1,r',h2,rfl⟩:=h;simp[ih h2]
theorem a2h {a:Addr}{n:Nat}{cs:List Value}(h:w.cells? 0 a n=some cs):cs.length=n/\∀j,j<n->cs[j]? = w.cell? (a.add j):=by
 unfold World.cells? at h;rw[q0z (Nat.zero_le _)] at h;have hl:cs.length=n:=by have:=r2d h;simpa using this
 refine ⟨hl,fun j hj => ?_⟩;have hj':(List.range n)[j]? = some j:=List.getElem?_range hj;exact (mapM_get h j j hj').symm
theorem fields_read {self:TypeId->Ty->Bool}(ih:v2q enc P w held F self){n:Nat}:∀(fs:List Field) (e:Ty) (off:Nat) (cs:List Value),
  e0t P self fs e off=true->off+width e<=cs.length->(∀f∈fs,∃y,DataW.trod enc P w 0 (fun _=>true) held n f.type ((cs.drop f.offset).take (P.cellsOf f.type))=some y) ->
   ∃x:El e,Rd P e x w F (fun j=>cs[off+j]?)/\Wf e x:=by
 intro fs;induction fs with
 | nil =>
  intro e off cs h _ _;cases e<;>(try (cases h));exact ⟨(),trivial,trivial⟩
 | cons f r ihf =>
  intro e off cs h hlen hf;have step:∀(c:Ty),Nat.beq f.offset off=true->r0m P f.type c=true->self f.type c=true->off+width c<=cs.length->∃x:El c,Rd P c x w F (fun j=>cs[off+j]?)/\Wf c x:=by
   intro c k1 k2 k3 k4;have k1:=q3u k1;obtain ⟨y,hy⟩:=hf f (by simp);rw[k1,f0i k2] at hy;obtain ⟨x,_,h2,h3⟩:=ih _ _ k3 _ _ _ hy;refine ⟨x,Rd.congr c (fun j hj => ?_) h2,h3⟩;rw[List.getElem?_take,q0z hj,q4j]
  cases r with
  | nil =>
   simp only[e0t,q1n] at h;exact step e h.1 h.2.1 h.2.2 hlen
  | cons g r =>
   cases e with
   | pair a b =>
    simp only[e0t,q1n] at h;simp only[width] at hlen;obtain ⟨x,x1,x2⟩:=step a h.1 h.2.1 h.2.2.1 (by omega);obtain ⟨y,y1,y2⟩:=ihf b (off+width a) cs h.2.2.2 (by omega) (fun f' hf'=>hf f' (by simp[hf']));exact ⟨(x,y),⟨x1,Rd.congr b (fun j _=>by rw[q4l]) y1⟩,x2,y2⟩
   | _=>simp[e0t] at h
theorem m2c {self:TypeId->Ty->Bool}(ih:v2q enc P w held F self){el:TypeId}{m:Nat}:∀(n:Nat) (e:Ty) (i:Nat) (cs:List Value),
  f0y P self el n e=true->i*P.cellsOf el+width e<=cs.length->(∀j,i<=j->j<i+n->∃y,DataW.trod enc P w 0 (fun _=>true) held m el ((cs.drop (j*P.cellsOf el)).take (P.cellsOf el))=some y) ->
   ∃x:El e,Rd P e x w F (fun j=>cs[i*P.cellsOf el+j]?)/\Wf e x:=by
 intro n;induction n with
 | zero =>
  intro e i cs h _ _;cases e<;>(try (cases h));exact ⟨(),trivial,trivial⟩
 | succ n ihn =>
  intro e i cs h hlen hf;have step:∀(c:Ty),r0m P el c=true->self el c=true->∃x:El c,Rd P c x w F (fun j=>cs[i*P.cellsOf el+j]?)/\Wf c x:=by
   intro c k2 k3;obtain ⟨y,hy⟩:=hf i (q3c _) (by omega);obtain ⟨x,_,h2,h3⟩:=ih _ _ k3 _ _ _ hy;refine ⟨x,Rd.congr c (fun j hj => ?_) h2,h3⟩;rw[List.getElem?_take,q0z (by rw[f0i k2];exact hj),q4j]
  cases n with
  | zero =>
   simp only[f0y,q1n] at h;exact step e h.1 h.2
  | succ n =>
   cases e with
   | pair a b =>
    simp only[f0y,q1n] at h;have hc:=f0i h.1;simp only[width] at hlen;obtain ⟨x,x1,x2⟩:=step a h.1 h.2.1;have e1:(i+1)*P.cellsOf el=i*P.cellsOf el+width a:=by rw[Nat.succ_mul,hc]
    obtain ⟨y,y1,y2⟩:=ihn b (i+1) cs h.2.2 (by omega) (fun j h1 h2=>hf j (by omega) (by omega));refine ⟨(x,y),⟨x1,Rd.congr b (fun j _ => ?_) y1⟩,x2,y2⟩;rw[e1,q4l]
   | _=>simp[f0y] at h
theorem read_ok:∀(d:Nat),v2q enc P w held (fun b=>b<w.heap.size) (readB P d):=by
 intro d;induction d with
 | zero=>intro t c h;cases h
 | succ d ih =>
  intro t c h n cs y hy;unfold readB at h;split at h
  ·rename_i hu;obtain ⟨b,rfl,_⟩:=DataW.trod_bool hu hy;exact ⟨b,rfl,rfl,trivial⟩
  ·rename_i k k' hu;obtain ⟨m,rfl,_,hw⟩:=DataW.trod_int hu hy;have:k=k':=by simpa using h
   subst this;simp only[Lit.wf,q1n,q3a] at hw;exact ⟨m,rfl,rfl,hw⟩
  ·rename_i hu;obtain ⟨s,rfl,_,hs⟩:=DataW.trod_string hu hy;refine ⟨s.data.toList,rfl,?_,?_⟩
   ·show some (Value.string s)=some (.string ⟨s.data.toList.toArray⟩);rw[Array.toArray_toList]
   show s.data.toList.length<=maxLen;have:s.data.toList.length=s.size:=rfl;rw[this];exact hs
  ·rename_i el e hu;simp only[q1n,Bool.not_eq_true'] at h;obtain ⟨h1,h2,h3⟩:=h;have hce:=f0i h1;have hpos:0<width e:=by
    rcases Nat.eq_zero_or_pos (width e) with q | q
    ·rw[q] at h3;cases h3
    ·exact q
   rcases DataW.trod_slice hu hy with ⟨rfl,_⟩ | ⟨a,len,cap,elems,rest,m,rfl,rfl,_,_,hlc,hcm,hel,hget,hsp,_⟩
   ·exact ⟨[],rfl,.inl ⟨rfl,_,rfl⟩,Nat.zero_le _,by simp⟩
   ·obtain ⟨hr1,hr2⟩:=hsp rfl;have each:∀i,i<cap->∃cs:List Value,w.cells? 0 (a.add (i*P.cellsOf el)) (P.cellsOf el)=some cs/\∃y,DataW.trod enc P w 0 (fun _=>true) held m el cs=some y:=by
     intro i hi;have hs:∃y,(w.cells? 0 (a.add (i*P.cellsOf el)) (P.cellsOf el)).bind (DataW.trod enc P w 0 (fun _=>true) held m el)=some y:=by
      by_cases hlt:i<len
      ·rw[hget i hlt,q2z (by omega)];exact ⟨_,rfl⟩
      ·have:=hr2 (i-len) (by omega);rw[show len+(i-len)=i by omega] at this;rw[this,q2z (by omega)];exact ⟨_,rfl⟩
     obtain ⟨y,hy⟩:=hs;rw[Option.bind_eq_some_iff] at hy;obtain ⟨cs,k1,k2⟩:=hy;exact ⟨cs,k1,y,k2⟩
    have spot:0<cap->a.spot=none/\a.block<w.heap.size:=by
     intro hc;obtain ⟨cs,k1,_⟩:=each 0 hc;obtain ⟨l1,l2⟩:=a2h k1;have:=l2 0 (by omega);rw[q2z (by omega)] at this;simp only[Nat.zero_mul,Addr.add,if_true] at this;have hs:=this.symm;unfold World.cell? at hs;split at hs
     ·rename_i c t fr hb;split at hs
      ·cases hs
      ·rename_i hspot;refine ⟨by cases hsp:a.spot with | none=>rfl | some z=>rw[hsp] at hspot;exact absurd rfl hspot,b0z? hb⟩
     ·cases hs
    have elem:∀i,i<len->∃x:El e,Rd P e x w (fun b=>b<w.heap.size) (mem w a.block (a.off+i*width e))/\Wf e x:=by
     intro i hi;obtain ⟨cs,k1,y,k2⟩:=each i (by omega);obtain ⟨l1,l2⟩:=a2h k1;obtain ⟨x,x1,x2,x3⟩:=ih _ _ h2 _ _ _ k2;refine ⟨x,Rd.congr e (fun j hj => ?_) x2,x3⟩;rw[l2 j (by omega)];obtain ⟨hs,_⟩:=spot (by omega);have ha:a=⟨a.block,a.off,none⟩:=by cases a;simp at hs;subst hs;rfl
     rw[ha,addr_add,addr_add,hce];rfl
    rcases Nat.eq_zero_or_pos cap with hc0 | hc0
    ·subst hc0;have:len=0:=by omega
     subst this;exact ⟨[],rfl,.inl ⟨rfl,_,rfl⟩,Nat.zero_le _,by simp⟩
    ·obtain ⟨hs,hb⟩:=spot hc0;have ha:a=⟨a.block,a.off,none⟩:=by cases a;simp at hs;subst hs;rfl
     have all:∀k,k<=len->∃xs:List (El e),xs.length=k/\(∀i (h:i<xs.length),Rd P e xs[i] w (fun b=>b<w.heap.size) (mem w a.block (a.off+i*width e)))/\∀y∈xs,Wf e y:=by
      intro k;induction k with
      | zero=>intro _;exact ⟨[],rfl,fun i hi=>by simp at hi,by simp⟩
      | succ k ihk =>
       intro hk;obtain ⟨xs,l1,l2,l3⟩:=ihk (by omega);obtain ⟨x,x1,x2⟩:=elem k (by omega);refine ⟨xs++[x],by simp[l1],fun i hi => ?_,fun y hy => ?_⟩
       ·simp at hi;by_cases hlt:i<xs.length
        ·rw[List.getElem_append_left hlt];exact l2 i hlt
        ·have:i=k:=by omega
         subst this;rw[List.getElem_append_right (by omega)];simp[l1,x1]
       ·rcases q3m.1 hy with hy | hy
        ·exact l3 y hy
        ·simp at hy;subst hy;exact x2
     obtain ⟨xs,l1,l2,l3⟩:=all len (q3c _);refine ⟨xs,rfl,.inr ⟨a.block,a.off,cap,?_,hb,by omega,l2⟩,by omega,l3⟩;show some (Value.slice (some a) len cap)=some (Value.slice (some ⟨a.block,a.off,none⟩) xs.length cap);rw[l1,<-ha]
  ·rename_i fs e hu;simp only[q1n] at h;obtain ⟨xs,m,rfl,_,hl,hxs,hget⟩:=DataW.trod_struct hu hy;have hcl:cs.length=width e:=by rw[hl,f0i h.1];rfl
   obtain ⟨x,x1,x2⟩:=fields_read (F:=fun b=>b<w.heap.size) ih (n:=m) fs.toList e 0 cs h.2 (by omega) (fun f hf=>by
    obtain ⟨i,hi⟩:=List.getElem?_of_mem hf;have hi':fs[i]? = some f:=by simpa using hi
    have:=hget i f hi';have hlt:i<xs.length:=by
     rw[hxs];rcases Nat.lt_or_ge i fs.size with q | q
     ·exact q
     ·rw[Array.getElem?_eq_none q] at hi';cases hi'
    rw[q2z hlt] at this
    exact ⟨_,this⟩)
   exact ⟨x,hcl,Rd.congr e (fun j _=>by rw[Nat.zero_add]) x1,x2⟩
  ·rename_i m el e hu;simp only[q1n] at h;obtain ⟨xs,q,rfl,_,hl,hxs,hget⟩:=DataW.trod_array hu hy;have hcl:cs.length=width e:=by rw[hl,f0i h.1];rfl
   obtain ⟨x,x1,x2⟩:=m2c (F:=fun b=>b<w.heap.size) ih (m:=q) m e 0 cs h.2 (by omega) (fun j _ hj=>by
    have:=hget j (by omega);rw[q2z (by omega)] at this
    exact ⟨_,this⟩)
   exact ⟨x,hcl,Rd.congr e (fun j _=>by rw[Nat.zero_mul,Nat.zero_add]) x1,x2⟩
  ·cases h
theorem open_arg {t:TypeId}{c:Ty}{d:Nat}{base:Nat}{v:Value}{dd:DataW H}{p:List MemPlace}(hB:readB P d t c=true)(ha:aggB P t=agg c)(hok:Value.okWide P w .any base t v)
  (h:DataW.Trod enc P w 0 (fun _=>true) held t v dd p):∃x:El c,formed c v/\Rd P c x w (fun b=>b<w.heap.size) (one v)/\Wf c x:=by
 obtain ⟨n,hn⟩:=h;obtain ⟨x,x1,x2,x3⟩:=read_ok d t c hB n _ _ hn;refine ⟨x,⟨fun e => ?_,fun e => ?_,by rw[<-x1];simp⟩,Rd.congr c (fun j _=>by simp[one]) x2,x3⟩
 ·rw[e] at ha;unfold aggB at ha;unfold Value.okWide at hok;split at ha
  ·rename_i hu;rw[hu] at hok;obtain ⟨cs,h1,_⟩:=hok;exact ⟨cs,h1⟩
  ·rename_i hu;rw[hu] at hok;obtain ⟨cs,h1,_⟩:=hok;exact ⟨cs,h1⟩
  ·cases ha
 ·rw[e] at ha;cases v with
  | agg cs =>
   exfalso;unfold Value.okWide at hok;unfold aggB at ha;cases hu:P.underlying t with
   | none=>rw[hu] at hok;simp[Cell.okWide,hu,Cell.ok] at hok
   | some u =>
    rw[hu] at hok ha;cases u<;>simp_all [Cell.okWide,Cell.ok]
  | tuple cs =>
   exfalso;unfold Value.okWide at hok;unfold aggB at ha;cases hu:P.underlying t with
   | none=>rw[hu] at hok;simp[Cell.okWide,hu,Cell.ok] at hok
   | some u =>
    rw[hu] at hok ha;cases u<;>simp_all [Cell.okWide,Cell.ok]
  | _=>rfl
end
theorem GlobOk.none {cx:Cx}{W:World}{F:Fz}(h:∀g,cx.glob g=none)(h2:∀g,cx.gsh g=none:=by intro g;rfl):GlobOk cx W F:=⟨fun g t x e=>(by rw[h g] at e;cases e),fun g k e=>(by rw[h2 g] at e;cases e)⟩
theorem r2l {cx:Cx}(tab:i0f cx)(hp:Fns cx)(hm:cx.P.follows .mixedOrders=true)(hh:i2r cx){n K:Nat}{s:Sig}(hs:cx.sig K=some s)(hrs:s.rs=[.bool])(hback:s.back=[])
  {x:El (cx.arg K)} {y:El (cx.out K)} (hx:evF cx n K x=some y) (ho:cx.out K = .bool) (hy:(ho ▸ y:El .bool)=true) {W:World} {vs:List Value} (hg:GlobOk cx W (fun b=>b<W.heap.size)) (hf:c0r s.ps vs) (hrd:RdB cx.P (cx.arg K) x W (fun b=>b<W.heap.size) [] (cat vs)) :
  Calls cx.P K vs.toArray W fun e W'=>e = .returned (.bool true)/\Below W.heap.size W W':=by
 refine (evF_ok tab hp hm hh n K s hs x y hx W (fun b=>b<W.heap.size) [] vs hg (fun _ h=>h) hf hrd List.nodup_nil (by simp)).mono fun e W' h => ?_
 obtain ⟨v,F',rfl,hmove,ws,O',h1,rfl,h2,_,_,_⟩:=h;refine ⟨?_,hmove.later.os,hmove.later.tape,hmove.later.output,hmove.later.size,fun b hb=>hmove.frame b hb (by simp)⟩;rw[hrs] at h1
 match ws,h1 with
 | [w],h1 =>
  have h3:=RdB.cast ho h2;rw[hy] at h3;obtain ⟨_,h4⟩:=h3;rw[hback] at h4;have h5:cat ([w]++([]:List Nat).filterMap (vs[·]?)) 0=some (.bool true):=h4;have hc:=oneCell_cells (h1.1.2.1 rfl);rw[show ([w]++([]:List Nat).filterMap (vs[·]?))=[w] from rfl,i0d (t := .bool) (by rw[hc];rfl) 0 (by simp[width]),one,hc] at h5;simp at h5;subst h5;rfl
def y1a (P : Program)(f : FuncId) : Bool := match P.funcs[f]? with | some fn => !(fn.name == "runtime.NumGoroutine") && !fn.body.isNone | none => false
theorem q2b {P:Program}{f:FuncId}(h:y1a P f=true):Plain P f:=by
 unfold y1a at h;split at h
 ·rename_i fn hf;simp only[q1n,Bool.not_eq_true'] at h;exact ⟨fn,hf,h.1,h.2⟩
 ·cases h
theorem tab_ok {cx:Cx}{T:BT TI}(hT:∀t,cx.info t=T.get t)(h:T.allB (fun n i=>infoB cx.P n i) id=true):i0f cx:=fun t i hi=>infoB_ok (BT.get_all T id h t i (by rw[<-hT];exact hi))
theorem plain_ok {cx:Cx}{T:BT Sig}(hT:∀f,cx.sig f=T.get f)(h:T.allB (fun n _=>y1a cx.P n) id=true):∀f s,cx.sig f=some s->Plain cx.P f :=
 fun f s hs=>q2b (BT.get_all (p:=fun n _=>y1a cx.P n) T id h f s (by rw[<-hT];exact hs))
theorem ext_ok {cx:Cx}{l:List (Nat×Nat)}(hl:∀f,cx.ext f=z1s l f)(h:∀x∈l,v2t cx.P x.1 x.2):∀f k,cx.ext f=some k->v2t cx.P f k:=by
 intro f k hk;rw[hl] at hk;clear hl;induction l with
 | nil=>cases hk
 | cons x r ih =>
  obtain ⟨m,q⟩:=x;simp only[z1s] at hk;cases hb:Nat.beq m f with
  | true =>
   rw[hb] at hk;simp only[cond_true,Option.some.injEq] at hk;have:=q3u hb;subst this;subst hk;exact h (m,q) (by simp)
  | false =>
   rw[hb] at hk;exact ih (fun x hx=>h x (by simp[hx])) hk
end
section
theorem tif_dec {α:Type}(p:Prop)[Decidable p](x y:α):tif (decide p) x y=if p then x else y:=by
 by_cases h:p<;>simp[h]
theorem tif_not {α:Type}(b:Bool)(x y:α):tif (!b) x y=tif b y x:=by cases b<;>rfl
theorem u0z {α:Type}(a b:Bool)(x y:α):tif (a&&b) x y=tif a (tif b x y) y:=by cases a<;>rfl
theorem w64 {x:Int}(h : -9223372036854775808<=x)(h':x<=9223372036854775807):wrap .i64 x=x:=IntWalk.i64_in x ⟨h,h'⟩
theorem wu64 {x:Int}(h:0<=x)(h':x<=18446744073709551615):wrap .u64 x=x:=IntWalk.u64_in x ⟨h,h'⟩
theorem wu8 {x:Int}(h:0<=x)(h':x<=255):wrap .u8 x=x:=IntWalk.u8_in x ⟨h,h'⟩
theorem y0y (x:Int):wrap .u8 x=x % 256:=IntKind.wrap_u8 x
theorem s0o {a b:Int}(h:0<=a):Int.tdiv a b=a / b:=Int.tdiv_eq_ediv_of_nonneg h
theorem q0j {a b:Int}(h:0<=a):Int.tmod a b=a % b:=Int.tmod_eq_emod_of_nonneg h
def beI:Nat->Int->List Int
 | 0,_=>[]
 | k+1,n=>(n / 256^k) % 256::beI k n
theorem c0o (n:Int):∀k,(beI k n).length=k:=by
 intro k;induction k with
 | zero=>rfl
 | succ k ih=>simp[beI,ih]
theorem v2d (n:Int):∀k,∀x∈beI k n,0<=x/\x<=255:=by
 intro k;induction k with
 | zero=>intro x hx;cases hx
 | succ k ih =>
  intro x hx;rcases q3k.1 hx with rfl | hx
  ·omega
  ·exact ih x hx
def valI (l:List Int):Int:=l.foldl (fun v b=>v*256+b) 0
def c0z (l:List UInt8):List Int:=l.map fun c=>(c.toNat:Int)
theorem w0i (l:List UInt8):∀x∈c0z l,0<=x/\x<=255:=by
 intro x hx;simp only[c0z,q4g] at hx;obtain ⟨c,_,rfl⟩:=hx;have:=c.toNat_lt;omega
def toB (l:List Int):List UInt8:=l.map fun y=>UInt8.ofNat (Int.toNat y)
theorem w0p (l:List UInt8):toB (c0z l)=l:=by
 simp only[toB,c0z,List.map_map]
 conv=>rhs;rw[<-List.map_id l]
 apply List.map_congr_left;intro c _;simp
theorem q1e {l:List Int}(h:∀x∈l,0<=x/\x<=255):c0z (toB l)=l:=by
 simp only[toB,c0z,List.map_map]
 conv=>rhs;rw[<-List.map_id l]
 apply List.map_congr_left;intro x hx;obtain ⟨h1,h2⟩:=h x hx;have e:(UInt8.ofNat x.toNat).toNat=x.toNat:=by
  rw[UInt8.toNat_ofNat'];omega
 simp only[Function.comp_apply,e,id];omega
theorem j2h (a b:List Int):toB (a++b)=toB a++toB b:=by simp[toB]
theorem h0e (a:List Int):(toB a).length=a.length:=by simp[toB]
theorem u0g (a:List UInt8):(c0z a).length=a.length:=by simp[c0z]
theorem val_fold (l:List Int):∀v,l.foldl (fun v b=>v*256+b) v=v*256^l.length+valI l:=by
 induction l with
 | nil=>intro v;simp[valI]
 | cons x l ih =>
  intro v;have h0:valI (x::l)=x*256^l.length+valI l:=by
   show l.foldl _ (0*256+x)=_;rw[ih];simp
  rw[List.foldl_cons,ih,h0,q3i,Int.pow_succ];rw[Int.add_mul,Int.mul_assoc,Int.mul_comm 256 (256^l.length),Int.add_assoc]
theorem q1s (x:Int)(l:List Int):valI (x::l)=x*256^l.length+valI l:=by
 show l.foldl _ (0*256+x)=_;rw[val_fold];simp
theorem j1a {l:List Int}(h:∀x∈l,0<=x/\x<=255):0<=valI l/\valI l<256^l.length:=by
 induction l with
 | nil=>simp[valI]
 | cons x l ih =>
  have h1:=h x (by simp);have h2:=ih fun y hy=>h y (by simp[hy])
  rw[q1s,q3i,Int.pow_succ];have hp:(0:Int)<256^l.length:=Int.pow_pos (by decide);constructor
  ·have:=Int.mul_nonneg h1.1 (Int.le_of_lt hp);omega
  ·have:x*256^l.length<=255*256^l.length:=Int.mul_le_mul_of_nonneg_right h1.2 (Int.le_of_lt hp);omega
theorem be_val {l:List Int}(h:∀x∈l,0<=x/\x<=255):∀(hi:Int),beI l.length (hi*256^l.length+valI l)=l:=by
 induction l with
 | nil=>intro hi;rfl
 | cons x l ih =>
  intro hi;have h1:=h x (by simp);have h2:=j1a (l:=l) fun y hy=>h y (q3h _ hy)
  have hp:(0:Int)<256^l.length:=Int.pow_pos (by decide);have e:hi*256^(x::l).length+valI (x::l)=(hi*256+x)*256^l.length+valI l:=by
   rw[q1s,q3i,Int.pow_succ,Int.add_mul,Int.mul_assoc,Int.mul_comm 256 (256^l.length),Int.add_assoc]
  rw[e];simp only[q3i,beI];congr 1
  ·have:((hi*256+x)*256^l.length+valI l) / 256^l.length=hi*256+x:=by
    rw[Int.add_comm,Int.add_mul_ediv_right _ _ (by omega),Int.ediv_eq_zero_of_lt h2.1 h2.2];omega
   rw[this];omega
  ·exact ih (fun y hy=>h y (by simp[hy])) _
theorem v2c {l:List Int}(h:∀x∈l,0<=x/\x<=255){k:Nat}(hk:l.length=k):beI k (valI l)=l:=by
 subst hk;have:=be_val h 0
 simpa using this
theorem val_be (n:Int):∀k,valI (beI k n)=n % 256^k:=by
 intro k;induction k with
 | zero=>simp[beI,valI]
 | succ k ih =>
  simp only[beI];rw[q1s,c0o,ih,Int.pow_succ];have hp:(0:Int)<256^k:=Int.pow_pos (by decide);generalize (256:Int)^k=p at *
  have h1:=Int.mul_ediv_add_emod n p;have h2:=Int.mul_ediv_add_emod (n / p) 256;have h3:=Int.emod_nonneg n (show p≠0 by omega);have h4:=Int.emod_lt_of_pos n hp;have h5:=Int.emod_nonneg (n / p) (show (256:Int)≠0 by decide);have h6:=Int.emod_lt_of_pos (n / p) (show (0:Int)<256 by decide);have e:n=(p*256)*((n / p) / 256)+(n / p % 256*p+n % p):=by
   have:p*(n / p)=p*(256*(n / p / 256)+n / p % 256):=by rw[h2]
   rw[Int.mul_add] at this;rw[Int.mul_assoc,Int.mul_comm (n / p % 256) p];omega
  have hr:0<=n / p % 256*p+n % p/\n / p % 256*p+n % p<p*256:=by
   have a1:0<=n / p % 256*p:=Int.mul_nonneg h5 (Int.le_of_lt hp);have a2:n / p % 256*p<=255*p:=Int.mul_le_mul_of_nonneg_right (by omega) (Int.le_of_lt hp);omega
  generalize hq:n / p % 256*p+n % p=q at *
  rw[e,Int.add_comm,Int.add_mul_emod_self_left,Int.emod_eq_of_lt hr.1 hr.2]
end
section
open Go.ChangeShapes Go.WideShapes
section
variable {H:Type}{enc:TypeId×Value->H}{P:Program}{W W':World}
def b1o (P:Program)(ts:List TypeId):Bool:=ts.all fun t=>P.readableRec t&&decide (t<P.types.size)
theorem o2w (hl:laidOutB P=true)(hb:Below W.heap.size W W'){sp:Nat->Bool}:∀ {ts:List TypeId} {vs:List Value} {ds:List (DataW H)} {ps:List MemPlace},b1o P ts=true->DataW.TrodAll enc P W 0 (fun _=>true) true ts vs ds ps ->
  (∀p∈ps,sp p.block=true)->DataW.TrodAll enc P W' 0 sp true ts vs ds ps:=by
 intro ts;induction ts with
 | nil=>intro vs ds ps _ h _;obtain ⟨rfl,rfl,rfl⟩:=trodAll_nil h;exact rfl
 | cons t ts ih =>
  intro vs ds ps hr h hsp;have hlt:=h.lt;obtain ⟨v,vs,d,ds,p,q,rfl,rfl,rfl,h1,h2⟩:=trodAll_cons h;simp only[b1o,List.all_cons,q1n,q3a] at hr;refine ⟨p,q,?_,ih hr.2 h2 (fun x hx=>hsp x (by simp[hx])),rfl⟩;exact WideElems.Trod_stays hl hr.1.1 hr.1.2 h1 (fun x hx=>hb.same (hlt x (by simp[hx]))) (fun x hx=>hsp x (by simp[hx]))
theorem post_law {f:Func}{s:ChangeSpec}{args:Array Value}{ds:List (DataW H)}{ps:List MemPlace}{tb:TypeId}(hl:laidOutB P=true)(hr:b1o P f.params.toList=true)(hv:s.vars=[])
  (hs:s.fn H ds = { results:=[.lit (.bool true)],args:=ds }) (ht:f.resultTypes = #[tb]) (hu:P.underlying tb=some .bool)
  (h:DataW.TrodAll enc P W 0 (fun _=>true) true f.params.toList args.toList ds ps) (hz:W.noneFrozen ps) (hb:Below W.heap.size W W') :
  s.post enc P f false true false false W args (.bool true) W':=by
 have hlt:=h.lt;have hW:DataW.Whole enc P f.params.toList s.vars false W args.toList ds [] (ps++[]):=⟨ps,[],h,by rw[hv];rfl,rfl,by rw[q3v];exact hz,fun e=>by cases e⟩;have hall:∀sp:Nat->Bool,(∀p∈ps++[],sp p.block=true)->DataW.TrodAll enc P W' 0 sp true f.params.toList args.toList (s.fn H (ds++[])).args ps:=by
  intro sp hsp;rw[q3v,hs];exact o2w hl hb hr h fun p hp=>hsp p (by simp[hp])
 have hres:∀(b:Nat) (sp:Nat->Bool) (hd:Bool),DataW.TrodAll enc P W' b sp hd f.resultTypes.toList ((Value.bool true).resultList f.resultTypes.size) (s.fn H (ds++[])).results []:=by
  intro b sp hd;rw[q3v,hs,ht];exact ⟨[],[],⟨1,by simp[DataW.trod,hu,Value.cells]⟩,rfl,rfl⟩
 have hvars:∀sp:Nat->Bool,DataW.TrodVars enc P W' sp s.vars (s.fn H (ds++[])).vars []:=by
  intro sp;rw[q3v,hs,hv];rfl
 have hin:∀p∈ps++[],p.block<W.heap.size:=fun p hp=>hlt p (by simpa using hp)
 refine ⟨ds,[],ps++[],[],ps,[],hW,hres _ _ _,hall _ fun p hp=>by simpa using hin p hp,hvars _,World.keptBut_mono (fun p hp=>⟨hp,?_⟩) (hb.frame (· ∈ ps++[])),fun _=>⟨?_,_,_,([]++ps)++[],⟨[]++ps,[],trodAll_append (hall _ fun _ _=>rfl) (hres _ _ _),hvars _,rfl,?_,fun e=>by cases e⟩,?_⟩⟩
 ·exact .inr (by simpa using hp)
 ·intro j t r h1 h2;rw[ht] at h1 h2;have hj:j=0:=by
   rcases Nat.eq_zero_or_pos j with q | q
   ·exact q
   ·rw[Array.getElem?_eq_none (by simp;omega)] at h1;cases h1
  subst hj;simp at h1;subst h1;have h3:r = .bool true:=by
   simp[Value.resultList] at h2;exact h2.symm
  subst h3;simp[Value.okWide,hu,Cell.okWide,Cell.ok]
 ·intro b off hp;have hp':MemPlace.cell b off∈ps:=by simpa using hp
  rw[hb.frozen (hlt _ hp')];exact hz b off hp'
 ·intro p hp _
  simpa using hp
end
theorem args_nil {P:Program}{W:World}{F:Fz}:RdB P (tupU []) () W F [] (cat []):=rfl
theorem m1c {P:Program}{W:World}{F:Fz}{t:Ty}{ts:List Ty}{x:El t}{xs:El (tupU ts)}{v:Value}{vs:List Value}(hf:formed t v)(hx:Rd P t x W F (one v))(h:RdB P (tupU ts) xs W F [] (cat vs)) :
  RdB P (tupU (t::ts)) ((x,xs):El (tupU (t::ts))) W F [] (cat (v::vs)):=by
 refine ⟨[],[],rfl,RdB.congr t (i0d hf.2.2) (Rd.toB t hx),?_⟩;rw[k0e hf.2.2];exact h
end
end Go.Flat
