/-
 The flat reading and its soundness, merged part 3 of 4 (TL, TL2, TL3, TL4, TM, TN, TO, TP, TQ, TR, TS, TT, TT2, TX).
-/
import Derived.Test.YtkajechaanmplaaGreatDoorFlatM2
import Derived.MapKept
import Derived.LoopN
import Derived.RangeFuncIn
import Derived.RangeFuncRecord
import Derived.Scope
set_option linter.unusedVariables false
set_option linter.unusedSimpArgs false
section
namespace Go.Flat
open Go.RowKit (Below)
section
variable {cx:Cx} {call:Oracle cx} {fx:Hints} {W W':World} {F F':Fz} {E E':EnvM} {h:Heap} {N:Nat→Prop} {ρ:Operand→V} {a:Act} {R:Type}
theorem argsC_rd (hc:CallSound cx call W F) (hr:HR cx.P W F E N h) (hρ:∀x,RdV cx.P W F E (ρ x) (a.eval x)):∀(t:Ty) (xs:List Operand) (x:El t) (lent:List Nat),
  v0x cx call h t (xs.map ρ)=some (x,lent)→d0y cx.P t x W (a0g F h E lent) (xs.map a.eval):=by
 intro t;induction t with
 | unit =>
  intro xs x lent hk;cases xs with
  | nil=>exact rfl
  | cons y ys=>simp[v0x] at hk
 | pair p q _ ihq =>
  intro xs x lent hk;cases xs with
  | nil=>simp[v0x] at hk
  | cons y ys =>
   have hv:=hρ y;simp only[List.map_cons] at hk ⊢;cases hy:ρ y with
   | tup l=>rw[hy] at hk;simp[v0x] at hk
   | undef=>rw[hy] at hk;simp[v0x] at hk
   | lost=>rw[hy] at hk;simp[v0x] at hk
   | v ag cs =>
    rw[hy] at hk hv;simp only[v0x] at hk;split at hk
    case isFalse=>cases hk
    rename_i hag;cases h1:m0x cx call h p cs with
    | none=>rw[h1] at hk;cases hk
    | some z =>
     rw[h1] at hk;simp only[Option.bind_some] at hk;cases h2:v0x cx call h q (ys.map ρ) with
     | none=>rw[h2] at hk;cases hk
     | some w =>
      rw[h2] at hk;simp only[Option.map_some,Option.some.injEq,Prod.mk.injEq] at hk;obtain ⟨rfl,rfl⟩:=hk;obtain ⟨k1,k2⟩:=m0w hc hr (x:=z.1) (ns:=z.2) h1 hv.1;have hw:(a.eval y).cells.size=width p:=by simpa using k2
      refine ⟨_,_,rfl,RdV1.formed hv hag hw,Rd.congr p (fun j hj => ?_) (k1.later (Later.same a0g.left)),(ihq ys w.1 w.2 h2).later (Later.same a0g.right)⟩;simp[one]
 | _=>intro xs x lent hk;cases xs<;>simp[v0x] at hk
theorem toV_rd {P:Program} {t:Ty} {x:El t} {v:Value} (hf:formed t v) (hx:Rd P t x W F (one v)):RdV P W F E (toV t x) v:=by
 obtain ⟨vs,h1,h2,h3⟩:=i0z (E:=E) t x _ hx;have hvs:vs=v.cells.toList:=by
  apply List.ext_getElem?;intro j;by_cases hj:j<width t
  ·rw[←h2 j hj,one,Array.getElem?_toList]
  ·have:=hf.2.2;rw[List.getElem?_eq_none (by omega),List.getElem?_eq_none (by simp;omega)]
 subst hvs;exact ⟨h3,hf.1,hf.2.1⟩
theorem t0k {o:Oper} {cl:Go.Call} {k:V→Ups→Option R} {res:R} {z:Operand} {t r:Ty} {p:El t→Option (El r)} {x:El t} {y:El r} {lent:List Nat} (cc:Ctx cx call W F E N h ρ a) (ho:o.op = .call cl)
  (hcal:cl.callee = .value z) (hp:Rd cx.P (.fn t r) p W F (fun j=>if j=0 then some (a.eval z) else none)) (hargs:v0x cx call h t (cl.args.toList.map ρ)=some (x,lent)) (hy:p x=some y)
  (hk:k (toV r y) (a0h h (if shares r=true then lent else []))=some res):a0q cx W F E N h a o k res:=by
 obtain ⟨f,caps,hv,hpl,hcalls⟩:=hp;simp at hv;have hx:=argsC_rd cc.hc cc.hr cc.ρ t cl.args.toList x lent hargs;have hFp:∀b,a0g F h E lent b→b<W.heap.size:=fun b hb=>a0g.lt cc.hr cc.hF hb
 have hcall:=hcalls W (a0g F h E lent) _ x y (a0z lent) hFp hx hy;obtain ⟨fn,hf1,hf2,hf3⟩:=hpl;refine ⟨_,_,hk,?_⟩;intro rd next Q hsem hnext;have hrun:(execOp a.eval o).run cx.P W = .ok (.enter f ((cl.args.toList.map a.eval).toArray++caps)) W:=by
  have e1:(cl.args.toList.map a.eval).toArray=cl.args.map a.eval:=by
   apply Array.ext';simp
  rw[e1];have hf3':fn.body≠none:=fun e=>by rw[e] at hf3;cases hf3
  have hf2' : ¬ fn.name = "runtime.NumGoroutine" := by simpa using hf2
  simp[execOp,ho,resolve,hcal,hv,Deferred.ofValue,invoke,callFunc,hf1,hf2',hf3']
 refine ⟨fun _ _=>trivial,?_⟩;rw[show (Rnd rd).round=rd from rfl,hsem,hrun,Oper.uponIn_enter];refine ⟨(fun k=>by cases k),u0f (Calls.mono hcall fun e W' hpost => ?_)⟩;obtain ⟨v,F',rfl,hg,hfm,hrd⟩:=hpost;cases hsh:shares r with
 | true =>
  rw[hsh] at hnext;simp only[if_true] at hnext;exact hnext v W' F' E (OpPost.grow cc.hr cc.hF hg) (toV_rd hfm hrd)
 | false =>
  rw[hsh] at hnext;simp only[Bool.false_eq_true,if_false] at hnext;have hg2:Grow W (a0g F h E []) W' F:=by
   rw[a0k];exact ⟨hg.below,fun _ hb=>hb,fun _ hb => .inl hb⟩
  exact hnext v W' F E (OpPost.grow cc.hr cc.hF hg2) (toV_rd hfm (Rd.noshare r hsh hrd))
theorem op_callV {o:Oper} {cl:Go.Call} {k:V→Ups→Option R} {res:R} {z:Operand} {c:Cell} (cc:Ctx cx call W F E N h ρ a) (ho:o.op = .call cl) (hcal:cl.callee = .value z) (hz:ρ z = .v false [c])
  (hk:v1w cx call h c (cl.args.toList.map ρ) k=some res):a0q cx W F E N h a o k res:=by
 have hv:=cc.ρ z;rw[hz] at hv
 replace hv:=hv.single.1
 unfold v1w at hk;split at hk
 ·rename_i t r p;split at hk
  case isFalse=>cases hk
  split at hk
  case h_2=>cases hk
  rename_i x lent hargs;cases hy:p x with
  | none=>rw[hy] at hk;cases hk
  | some y =>
   rw[hy] at hk;exact t0k cc ho hcal hv.2.2 hargs hy hk
 ·rename_i f ct cv;split at hk
  case h_2=>cases hk
  rename_i s hs;split at hk
  case h_2=>cases hk
  rename_i r hr;simp only at hk;split at hk
  case h_2=>cases hk
  rename_i p hp;split at hk
  case h_2=>cases hk
  rename_i x lent hargs;cases hy:p x with
  | none=>rw[hy] at hk;cases hk
  | some y =>
   rw[hy] at hk;obtain ⟨caps,hv,hcap⟩:=hv;refine t0k cc ho hcal ?_ hargs hy hk;rw[hv];exact r1z cc.hc hp hcap
 ·cases hk
def keyD:Ty→Option TypeDesc
 | .str=>some .string
 | .int kd=>some (.int kd)
 | _=>none
theorem f0w {k:Ty} {x:El k} {v:Value} {d:TypeDesc} (h:keyV k x=some v) (hd:keyD k=some d):MapKept.IsKey d v:=by
 cases k<;>first | (cases hd;done) | skip
 case int kd =>
  cases hd;simp only[keyV,Option.some.injEq] at h;subst h;rfl
 case str =>
  cases hd;simp only[keyV,Option.some.injEq] at h;subst h;trivial
theorem o1t {kt:TypeId} {k:Ty} (ht:e0u cx) (h:k1v cx kt k=true):∃d,keyD k=some d∧cx.P.underlying kt=some d:=by
 unfold k1v at h;have hs:∀s,cx.shp kt=s→s = .other∨shpB cx.P kt s=true:=by
  intro s hs;unfold Cx.shp at hs;cases hi:cx.info kt with
  | none=>rw[hi] at hs;exact .inl hs.symm
  | some i=>rw[hi] at hs;right;rw[←hs];exact (ht kt i hi).shp
 split at h
 case h_3=>cases h
 ·rename_i hsh;rcases hs _ hsh with k | k
  ·cases k
  ·unfold shpB at k;split at k<;>first | (cases k;done) | skip
   all_goals first | (rename_i e1 _;cases e1;done) | skip
   all_goals first | (rename_i e1 e2;exact ⟨_,rfl,e2⟩) | skip
   all_goals (rename_i e1;cases e1)
 ·rename_i kd kd' hsh;have hkd:kd=kd':=by simpa using h
  subst hkd;rcases hs _ hsh with k | k
  ·cases k
  ·unfold shpB at k;cases hu:cx.P.underlying kt with
   | none=>rw[hu] at k;cases k
   | some d =>
    rw[hu] at k;cases d<;>first | (cases k;done) | skip
    have:=of_decide_eq_true k;subst this;exact ⟨_,rfl,rfl⟩
theorem o1s {P:Program} {k:Ty} {x:El k} {v:Value} {d:TypeDesc} (hd:keyD k=some d) (h:b0v P W F E (.val k x) v):keyV k x=some v:=by
 have h:=h.2.2;cases k<;>first | (cases hd;done) | skip
 case int kd =>
  have:=h;simp only[Rd,RdP] at this;simp[keyV] at this ⊢
  first | exact this.symm | exact this.1.symm | (obtain ⟨q,_⟩:=this;exact q.symm)
 case str =>
  have:=h;simp only[Rd,RdP] at this;simp[keyV] at this ⊢
  first | exact this.symm | exact this.1.symm | (obtain ⟨q,_⟩:=this;exact q.symm)
theorem n1r {k:Ty} {x y:El k} {u v:Value} {d:TypeDesc} (hd:keyD k=some d) (hu:keyV k x=some u) (hv:keyV k y=some v):Instr.sameNow d u v=some (k1w k x y):=by
 cases k<;>first | (cases hd;done) | skip
 case int kd =>
  cases hd;simp only[keyV,Option.some.injEq] at hu hv;subst hu;subst hv;simp only[Instr.sameNow,k1w,if_true];congr 1
 case str =>
  cases hd;simp only[keyV,Option.some.injEq] at hu hv;subst hu;subst hv;simp only[Instr.sameNow,k1w,Option.some.injEq];rw[Bool.eq_iff_iff,MapKept.bytes_beq];constructor
  ·intro e;injection e with e;have:=congrArg Array.toList e;have e2:x=y:=by simpa using this
   rw[e2];exact beq_self_eq_true y
  ·intro e;have e2:x=y:=eq_of_beq e;rw[e2]
theorem o0x {k e:Ty} {x:El k} {u:Value} {d:TypeDesc} (hd:keyD k=some d) (hu:keyV k x=some u):∀(xs:List (El k×El e)) (es:List MapEntry) (i0:Nat),es.length=xs.length →
  (∀i (h:i<xs.length),∃en,es[i]? = some en∧keyV k xs[i].1=some en.key) →
  (mget k e xs x i0=none∧Instr.findNow d u es i0=some none)∨∃j p en,xs[j]? = some p∧es[j]? = some en∧mget k e xs x i0=some (i0+j,p.2)∧Instr.findNow d u es i0=some (some (i0+j,en.val))∧en.key=u:=by
 intro xs;induction xs with
 | nil=>intro es i0 hl _;cases es with
  | nil=>exact .inl ⟨rfl,rfl⟩
  | cons=>cases hl
 | cons p r ih =>
  intro es i0 hl hk;cases es with
  | nil=>cases hl
  | cons en es =>
   obtain ⟨en',h1,h2⟩:=hk 0 (by simp);simp only[List.getElem?_cons_zero,Option.some.injEq] at h1;subst h1;have hsn:=n1r hd hu h2;simp only[List.getElem_cons_zero] at hsn;obtain ⟨y,z⟩:=p;cases hq:k1w k x y with
   | true =>
    rw[hq] at hsn;refine .inr ⟨0,(y,z),en,rfl,rfl,by simp[mget,hq],by simp[Instr.findNow,hsn],?_⟩;obtain ⟨rr,hr1,hr2⟩:=MapKept.sameNow_of_keys (f0w hu hd) (f0w h2 hd);rw[hsn] at hr1;injection hr1 with hr1;exact (hr2.1 hr1.symm).symm
   | false =>
    rw[hq] at hsn;rcases ih es (i0+1) (by simpa using hl) (fun i hi=>by have:=hk (i+1) (by simp;omega);simp only[List.getElem?_cons_succ] at this;exact this) with ⟨k1,k2⟩ | ⟨j,p,en2,k1,k2,k3,k4,k5⟩
    ·exact .inl ⟨by simp[mget,hq,k1],by simp[Instr.findNow,hsn,k2]⟩
    ·exact .inr ⟨j+1,p,en2,by simpa using k1,by simpa using k2,by simp[mget,hq,k3];omega,by simp[Instr.findNow,hsn,k4];omega,k5⟩
theorem c1t {P:Program} {t kt et:TypeId} {d:TypeDesc} {b:Nat} {es:Array MapEntry} {clock:Nat} {key z:Value} {q:Option (Nat×Value)} (ht:P.underlying t=some (.map kt et)) (hd:P.underlying kt=some d) (hk:MapKept.IsKey d key)
  (hb:W.heap[b]? = some (.map es clock)) (hf:Instr.findNow d key es.toList 0=some q) (hz:(zeroValue et).run P W = .ok z W) :
  (Instr.lookup t (.map (some b)) key false).run P W = .ok (match q with | some y=>y.2 | none=>z) W:=by
 cases q with
 | none=>simp[Instr.lookup,run_underlying ht,MapKept.run_getObj_map hb,MapKept.run_checkKey hd hk,MapKept.run_findKey hd hf,hz,Result.andThen]
 | some y=>simp[Instr.lookup,run_underlying ht,MapKept.run_getObj_map hb,MapKept.run_checkKey hd hk,MapKept.run_findKey hd hf,Result.andThen]
theorem j1r {P:Program} {t kt et:TypeId} {d:TypeDesc} {b:Nat} {es:Array MapEntry} {clock:Nat} {key z:Value} {q:Option (Nat×Value)} (ht:P.underlying t=some (.map kt et)) (hd:P.underlying kt=some d) (hk:MapKept.IsKey d key)
  (hb:W.heap[b]? = some (.map es clock)) (hf:Instr.findNow d key es.toList 0=some q) (hz:(zeroValue et).run P W = .ok z W) :
  (Instr.lookup t (.map (some b)) key true).run P W = .ok (.tuple #[(match q with | some y=>y.2 | none=>z),.bool q.isSome]) W:=by
 cases q with
 | none=>simp[Instr.lookup,run_underlying ht,MapKept.run_getObj_map hb,MapKept.run_checkKey hd hk,MapKept.run_findKey hd hf,hz,Result.andThen]
 | some y=>simp[Instr.lookup,run_underlying ht,MapKept.run_getObj_map hb,MapKept.run_checkKey hd hk,MapKept.run_findKey hd hf,Result.andThen]
theorem u1c {o:Oper} {k:V→Ups→Option R} {r:R} {t:TypeId} {kt e:Ty} (cc:Ctx cx call W F E N h ρ a) (hK:KOk N h k) (ho:o.op = .makeMap t none)
  (hk:k (.v false [.sl (nmOf fx o) (a0i h (nmOf fx o)+1)]) [(nmOf fx o,a0i h (nmOf fx o)+1,some (.sealed (nmOf fx o) (a0i h (nmOf fx o)+1) (a0i h (nmOf fx o)+1) (.mp kt e) [] none false))]=some r):a0q cx W F E N h a o k r:=by
 obtain ⟨hN,hlt⟩:=hK _ _ _ hk (nmOf fx o) (by simp[a0d]);have hvt:=a0x cc.hr hN hlt;have hmp:r0z kt ([]:List (El kt×El e)) (W.alloc (.map #[] 0)) [W.heap.size] (.map (some W.heap.size)) (fun _ y O u=>formed e u∧RdB cx.P e y (W.alloc (.map #[] 0)) F O (one u)) :=
  ⟨W.heap.size,#[],0,[],rfl,m0a W _,rfl,rfl,rfl,fun i hi=>by simp at hi⟩
 have hsize:(W.alloc (.map #[] 0)).heap.size=W.heap.size+1:=by
  show (W.heap.push _).size=_;simp
 have hpost:=OpPost.turn (P:=cx.P) (W':=W.alloc (.map #[] 0)) (F':=F) (E':=E.next (nmOf fx o) (some (.tree (.map (some W.heap.size)) [W.heap.size]))) (ver':=a0i h (nmOf fx o)+1)
  (B := .sealed (nmOf fx o) (a0i h (nmOf fx o)+1) (a0i h (nmOf fx o)+1) (.mp kt e) [] none false) (ns:=[]) (row:=none) cc.hr cc.hF hN hlt (EnvM.next_le _ _ _) (by rw[hvt];exact EnvM.next_top _ _ _) (fun m hm=>EnvM.next_other _ _ _ m hm)
  ⟨rfl,rfl,rfl,by rw[hsize];omega,fun k hk _=>i0o _ _ k hk⟩ (fun b hb=>by cases hb) (fun b hb=>by rw[a0k] at hb;exact hb) (fun b hb => .inl (by rw[a0k];exact hb))
  ⟨_,by rw[hvt];exact EnvM.next_m _ _ _,⟨_,_,rfl,by rw[hvt];exact EnvM.next_m _ _ _,by rw[hvt,EnvM.next_top];exact Nat.le_refl _,fun j hj hj'=>by
   have:j=E.top (nmOf fx o)+1:=by omega
   subst this;exact ⟨_,EnvM.next_m _ _ _⟩,fun b hb=>by simp at hb;omega,fun _=>⟨by simp only[g0l];exact hmp,by simp,fun b hb hf=>by
   simp at hb;subst hb
   have:=cc.hF _ hf;omega⟩⟩,fun x hx => .inr (by
   have:x=W.heap.size:=by simpa [Loc.has] using hx
   omega)⟩
 refine ⟨_,_,hk,OpOk.of (v := .map (some W.heap.size)) ?_ hpost (RdV.mk1 ⟨?_,⟨.tree (.map (some W.heap.size)) [W.heap.size],?_⟩,fun L hL => ?_⟩ rfl)⟩
 ·simp[execOp,ho,Instr.makeMap]
 ·rw[hvt,EnvM.next_top];exact Nat.le_refl _
 ·rw[hvt,EnvM.next_m]
 ·rw[hvt,EnvM.next_m] at hL;injection hL with hL;subst hL;rfl
theorem o0w:∀(Os:List (List Nat)) (j:Nat) (O:List Nat),Os[j]? = some O→Os.flatten.Perm (O++(Os.set j []).flatten):=by
 intro Os;induction Os with
 | nil=>intro j O h;simp at h
 | cons Q Os ih =>
  intro j O h;cases j with
  | zero=>simp at h;subst h;simp
  | succ j =>
   simp only[List.set_cons_succ,List.flatten_cons];exact (List.Perm.append_left Q (ih j O (by simpa using h))).trans (List.perm_append_comm_assoc _ _ _)
theorem y1x {o:Oper} {k:V→Ups→Option R} {r:R} {t kt et:TypeId} {x i:Operand} {n v0 ver base:Nat} {ck e:Ty} {xs:List (El ck×El (.ref e))} {key:El ck} (cc:Ctx cx call W F E N h ρ a) (hK:KOk N h k) (ho:o.op = .lookup t x i false)
  (hs:cx.shp t = .map kt et) (hx:ρ x = .v false [.sl n v0]) (hi:ρ i = .v false [.val ck key]) (hn:h[n]? = some (ver,some (.sealed n base ver (.mp ck (.ref e)) xs none false))) (hb1:base≤v0) (hb2:v0≤ver)
  (hok:k1v cx kt ck=true) (hp:isPtr (cx.ty et)=true) (hk:o1r fx h o n ver base ck e xs key k=some r):a0q cx W F E N h a o k r:=by
 obtain ⟨d,hd1,hd2⟩:=o1t cc.tab hok;have ht:cx.P.underlying t=some (.map kt et):=by
  unfold Cx.shp at hs;cases hi:cx.info t with
  | none=>rw[hi] at hs;cases hs
  | some q =>
   rw[hi] at hs;have h1:=(cc.tab t q hi).shp;dsimp only at hs;rw[hs] at h1;unfold shpB at h1;cases hu:cx.P.underlying t with
   | none=>rw[hu] at h1;cases h1
   | some d' =>
    rw[hu] at h1;cases d'<;>first | (cases h1;done) | skip
    simp only[Bool.and_eq_true] at h1;rw[Nat.eq_of_beq_eq_true h1.1,Nat.eq_of_beq_eq_true h1.2]
 have hz:(zeroValue et).run cx.P W = .ok (.pointer none) W:=by
  cases hte:cx.ty et with
  | none=>rw[hte] at hp;cases hp
  | some c =>
   rw[hte] at hp;cases c<;>first | (cases hp;done) | skip
   obtain ⟨ti,h1,h2,z,h3,h4,h5⟩:=(m0i cc.tab hte).ti;have hz1:z = .pointer none:=by
    have hrd:=(f0k (P:=cx.P) (W:=W) (F:=F) (E:=E) h4);simp only[zeroCells] at hrd;have hc:z.cells = #[z]:=by
     cases z<;>first | rfl | skip
     have:=h5.2 ⟨_,rfl⟩;simp[agg] at this
    rw[hc] at hrd;exact (hrd.2 0 _ _ rfl rfl).1
   subst hz1;simp[zeroValue,typeInfo,h1,h3]
 have hvx:=cc.ρ x;rw[hx] at hvx;have hvi:=cc.ρ i;rw[hi] at hvi;obtain ⟨bs,hm,hnd,hfree,hat,htop,hheads⟩:=k1p cc.hr hn hb1 hb2 hvx;have hkv:keyV ck key=some (a.eval i):=by
  have hone:=hvi.2.2 rfl;have hrd:=hvi.1;rw[oneCell_cells hone] at hrd;exact o1s hd1 (hrd.2 0 _ _ rfl rfl).1
 obtain ⟨b,es,clock,Os,e1,e2,e3,e4,rfl,e5⟩:=hm;have hrun:∀q,Instr.findNow d (a.eval i) es.toList 0=some q→(execOp a.eval o).run cx.P W = .ok (.value (match q with | some y=>y.2 | none => .pointer none)) W:=by
  intro q hq;simp[execOp,ho,e1,c1t ht hd2 (f0w hkv hd1) e2 hq hz,Result.andThen];cases q<;>rfl
 rcases o0x (e := .ref e) hd1 hkv xs es.toList 0 (by simpa using e3) (fun i hi=>by
   obtain ⟨en,O,k1,_,k3,_⟩:=e5 i hi
   exact ⟨en,by simpa using k1,k3⟩) with ⟨m1,m2⟩ | ⟨j,p,en,m1,m2,m3,m4,m5⟩
 ·unfold o1r at hk;rw[m1] at hk;exact a0q.value cc hk (hrun _ m2) (RdV.mk1 rfl rfl)
 ·unfold o1r at hk;rw[m3] at hk;simp only[Nat.zero_add,c0h] at hk;split at hk
  case h_2=>cases hk
  rename_i c hc;obtain ⟨hnb,hk⟩:=a0u hk;have hnb:=g0x.1 hnb;rw[List.nodup_cons] at hnb;have hKn:=hK _ _ _ hk;obtain ⟨hjl,hjx⟩:=List.getElem?_eq_some_iff.1 m1;obtain ⟨en',O,q1,q2,q3,q4,q5⟩:=e5 j hjl;have hen:en'=en:=by
   have:=(Array.getElem?_toList (xs:=es) (i:=j)).symm.trans m2;rw[q1] at this;injection this
  subst hen;rw[hjx] at q5;have hperm:=o0w Os j O q2;rw[List.nodup_cons] at hnd;have hnd2:(O++(Os.set j []).flatten).Nodup:=hperm.nodup_iff.1 hnd.2;rw[List.nodup_append] at hnd2;have hN:=hKn n (by simp[a0d]);have hT:Takes F h E [n] (b::Os.flatten):=⟨fun c hc=>⟨n,by simp,hat c hc⟩,hfree,fun _=>List.nodup_cons.2 hnd⟩;obtain ⟨z1,z2,z3⟩:=n0m (P:=cx.P) (W':=W) (F2:=a0g F h E []) (O':=b::Os.flatten) (ls:=[]) cc.hr hT (fun m hm=>by simp at hm;subst hm;exact hN) (Later.refl W _) (fun _ _ _=>rfl) (fun b hb => .inl hb) (fun b hb => .inl hb)
  have hmem:∀c∈O,c∈b::Os.flatten:=fun c hc=>List.mem_cons_of_mem _ (hperm.mem_iff.2 (List.mem_append.2 (.inl hc)))
  obtain ⟨E1,c1,us,u1,u2,u3⟩:=j0a (P:=cx.P) h (.ref e) p.2 [] (nmOf fx o) (O:=O) (g:=one en'.val) z1 (by rw[a0k];exact q5) hnd2.1 (fun c hc=>by rw[a0k];exact hfree c (hmem c hc)) (fun c hc=>z2 c (hmem c hc))
   (fun m hm=>by
    obtain ⟨g1,g2⟩:=hKn m (by
     simp only[a0d,List.map_cons,List.mem_cons,List.map_map];right;obtain ⟨y,hy,rfl⟩:=List.mem_map.1 hm
     exact List.mem_map.2 ⟨y,hy,rfl⟩)
    exact ⟨g1,by rw[a0l,a0l];exact g2,a0x cc.hr g1 g2⟩) hnb.2
  have htop1:E1.top n=E.top n:=c1.tops n hnb.1;have hus:us=[en'.val]:=by
   have h0:=u2 0 (by simp[width]);have hl:us.length=1:=by simpa [width] using u1
   match us,hl with
   | [w],_ =>
    have hcell:=oneCell_cells (q4.2.1 rfl);rw[one,hcell] at h0
    simpa using h0.symm
  rw[hus,hc] at u3;have hE1:=c1.env;have c2:=c1.put (n:=n) (ver:=ver+1) (O:=b::Os.flatten) (L := .tree (a.eval x) (b::(Os.set j []).flatten)) (B := .sealed n base (ver+1) (.mp ck (.ref e)) xs (some (j,c)) false) hN.1 (by rw[a0l,a0l];exact hN.2) hnb.1 (by rw[htop])
   ⟨_,_,rfl,by rw[htop,←htop1];exact EnvM.next_m _ _ _,by rw[EnvM.next_top,htop1,htop];exact Nat.le_refl _,fun q hq hq'=>by
    rcases Nat.lt_or_ge ver q with k | k
    ·have:q=E1.top n+1:=by omega
     subst this;exact ⟨_,EnvM.next_m _ _ _⟩
    ·rw[(EnvM.next_le E1 n _).m n q (by omega),hE1.m n q (by omega)];exact hheads q hq k,fun y hy=>by
    have hb:=(Array.getElem?_eq_some_iff.1 e2).1;rcases List.mem_cons.1 hy with rfl | hy
    ·exact hb
    ·exact cc.hr.lt y ⟨n,hat y (List.mem_cons_of_mem _ (hperm.mem_iff.2 (List.mem_append.2 (.inr hy))))⟩,fun _=>⟨by
    simp only[g0l];refine ⟨b,es,clock,Os.set j [],e1,e2,e3,by simpa using e4,rfl,fun q hq => ?_⟩;obtain ⟨en2,O2,w1,w2,w3,w4⟩:=e5 q hq;by_cases hqj:q=j
    ·subst hqj;rw[q1] at w1;injection w1 with w1;subst w1;refine ⟨en',[],q1,by rw[List.getElem?_set];simp[e4,hq],w3,?_⟩;dsimp only;rw[if_pos rfl,oneCell_cells (q4.2.1 rfl)];exact ⟨rfl,q4,u3.later (Later.refl W _) (EnvM.next_le _ _ _)⟩
    ·refine ⟨en2,O2,w1,by rw[List.getElem?_set_ne (fun e=>hqj e.symm)];exact w2,w3,?_⟩;dsimp only;rw[if_neg hqj,a0k];exact w4,List.nodup_cons.2 ⟨fun hb=>hnd.1 (hperm.mem_iff.2 (List.mem_append.2 (.inr hb))),hnd2.2.1⟩,fun y hy=>by
    rw[a0k];rcases List.mem_cons.1 hy with rfl | hy
    ·exact hfree y (by simp)
    ·exact hfree y (List.mem_cons_of_mem _ (hperm.mem_iff.2 (List.mem_append.2 (.inr hy))))⟩⟩ hmem (fun y hy=>by
   have hy:y∈b::(Os.set j []).flatten:=hy;rcases List.mem_cons.1 hy with rfl | hy
   ·exact ⟨by simp,fun hO=>hnd.1 (hperm.mem_iff.2 (List.mem_append.2 (.inl hO))),z2 y (by simp)⟩
   ·have hy':=hperm.mem_iff.2 (List.mem_append.2 (.inr hy))
    exact ⟨List.mem_cons_of_mem _ hy',fun hO=>hnd2.2.2 y hO y hy rfl,z2 y (List.mem_cons_of_mem _ hy')⟩)
  have c3:=c2.toU;obtain ⟨E2,e21,hop⟩:=l0y (P:=cx.P) (W':=W) (F2:=a0g F h E []) (takes:=[]) (ls:=[]) (O':=b::Os.flatten) cc.hr hT (fun m hm=>by cases hm) List.nodup_nil (fun m hm => .inr (by simp at hm;subst hm;simp[a0d])) (fun m hm=>by cases hm) (Later.refl W _) (fun _ _ _=>rfl) (fun b hb => .inl hb) (fun b hb => .inl hb)
   (fun y hy=>cc.hr.lt y ⟨n,hat y hy⟩) (by simpa [c0x,a0h] using hKn) c3
  rw[a0k] at hop;have hval:RdV cx.P W F E2 (.v false [c]) en'.val:=by
   rw[a0k] at u3;refine ⟨?_,(fun e=>by cases e),fun _=>q4.2.1 rfl⟩;rw[oneCell_cells (q4.2.1 rfl)];exact u3.later (Later.refl W _) ((EnvM.next_le _ _ _).trans e21)
  exact ⟨_,_,hk,OpOk.of (hrun _ m4) hop hval⟩
def setB (W:World) (b:Nat) (ob:Obj):World := { W with heap:=W.heap.setIfInBounds b ob }
theorem u1e {o:Oper} {k:V→Ups→Option R} {r:R} {t kt et:TypeId} {x i:Operand} {ok:Bool} {n v0 ver base:Nat} {ck:Ty} {kd:IntKind} {xs:List (El ck×El (.int kd))} {key:El ck} (cc:Ctx cx call W F E N h ρ a) (ho:o.op = .lookup t x i ok)
  (hs:cx.shp t = .map kt et) (hx:ρ x = .v false [.sl n v0]) (hi:ρ i = .v false [.val ck key]) (hn:h[n]? = some (ver,some (.sealed n base ver (.mp ck (.int kd)) xs none false))) (hb1:base≤v0) (hb2:v0≤ver)
  (hok:k1v cx kt ck=true) (hp:intTy (cx.ty et) kd=true) (hk:k (lookI ok ck kd xs key) []=some r):a0q cx W F E N h a o k r:=by
 obtain ⟨d,hd1,hd2⟩:=o1t cc.tab hok;have ht:cx.P.underlying t=some (.map kt et):=by
  unfold Cx.shp at hs;cases hi:cx.info t with
  | none=>rw[hi] at hs;cases hs
  | some q =>
   rw[hi] at hs;have h1:=(cc.tab t q hi).shp;dsimp only at hs;rw[hs] at h1;unfold shpB at h1;cases hu:cx.P.underlying t with
   | none=>rw[hu] at h1;cases h1
   | some d' =>
    rw[hu] at h1;cases d'<;>first | (cases h1;done) | skip
    simp only[Bool.and_eq_true] at h1;rw[Nat.eq_of_beq_eq_true h1.1,Nat.eq_of_beq_eq_true h1.2]
 have hz:(zeroValue et).run cx.P W = .ok (.int kd 0) W:=by
  cases hte:cx.ty et with
  | none=>rw[hte] at hp;cases hp
  | some c =>
   rw[hte] at hp;cases c<;>first | (cases hp;done) | skip
   rename_i kd';have hkd:kd'=kd:=of_decide_eq_true hp;subst hkd;obtain ⟨ti,h1,h2,z,h3,h4,h5⟩:=(m0i cc.tab hte).ti;have hz1:z = .int kd' 0:=by
    have hrd:=(f0k (P:=cx.P) (W:=W) (F:=F) (E:=E) h4);simp only[zeroCells] at hrd;have hc:z.cells = #[z]:=by
     cases z<;>first | rfl | skip
     have:=h5.2 ⟨_,rfl⟩;simp[agg] at this
    rw[hc] at hrd;have:=(hrd.2 0 _ _ rfl rfl).1.2.2;exact Option.some.inj this
   subst hz1;simp[zeroValue,typeInfo,h1,h3]
 have hvx:=cc.ρ x;rw[hx] at hvx;have hvi:=cc.ρ i;rw[hi] at hvi;obtain ⟨bs,hm,hnd,hfree,hat,htop,hheads⟩:=k1p cc.hr hn hb1 hb2 hvx;have hkv:keyV ck key=some (a.eval i):=by
  have hone:=hvi.2.2 rfl;have hrd:=hvi.1;rw[oneCell_cells hone] at hrd;exact o1s hd1 (hrd.2 0 _ _ rfl rfl).1
 obtain ⟨b,es,clock,Os,e1,e2,e3,e4,rfl,e5⟩:=hm;have num:∀ {F2:Fz} {E2:EnvM} (p:Int),RdV cx.P W F2 E2 (.v false [.val (.int kd) p]) (.int kd p):=fun p=>RdV.mk1 ⟨rfl,rfl,rfl⟩ rfl
 have two:∀ {F2:Fz} {E2:EnvM} (p:Int) (q:Bool),RdV cx.P W F2 E2 (.tup [(false,[.val (.int kd) p]),(false,[.val .bool q])]) (.tuple #[.int kd p,.bool q]):=by
  intro F2 E2 p q;refine ⟨[.int kd p,.bool q],rfl,rfl,fun j y u hy hu => ?_⟩
  match j with
  | 0=>cases hy;cases hu;exact num p
  | 1=>cases hy;cases hu;exact RdV.mk1 ⟨rfl,rfl,rfl⟩ rfl
  | j+2=>simp at hy
 have hrun:∀q,Instr.findNow d (a.eval i) es.toList 0=some q→(execOp a.eval o).run cx.P W = .ok (.value (bif ok then .tuple #[(match q with | some y=>y.2 | none => .int kd 0),.bool q.isSome] else (match q with | some y=>y.2 | none => .int kd 0))) W:=by
  intro q hq;cases ok with
  | false =>
   simp[execOp,ho,e1,c1t ht hd2 (f0w hkv hd1) e2 hq hz,Result.andThen];cases q<;>rfl
  | true =>
   simp[execOp,ho,e1,j1r ht hd2 (f0w hkv hd1) e2 hq hz,Result.andThen];cases q<;>rfl
 rcases o0x (e := .int kd) hd1 hkv xs es.toList 0 (by simpa using e3) (fun i hi=>by
   obtain ⟨en,O,k1,_,k3,_⟩:=e5 i hi
   exact ⟨en,by simpa using k1,k3⟩) with ⟨m1,m2⟩ | ⟨j,p,en,m1,m2,m3,m4,m5⟩
 ·have hg:mgetI ck kd xs key=(0,false):=by unfold mgetI;rw[m1]
  refine a0q.value cc hk (hrun _ m2) ?_;unfold lookI;rw[hg];cases ok with
  | true=>exact two 0 false
  | false=>exact num 0
 ·obtain ⟨hjl,hjx⟩:=List.getElem?_eq_some_iff.1 m1;obtain ⟨en',O,q1,q2,q3,q4,q5⟩:=e5 j hjl;have hen:en'=en:=by
   have:=(Array.getElem?_toList (xs:=es) (i:=j)).symm.trans m2;rw[q1] at this;injection this
  subst hen;rw[hjx] at q5;have hval:en'.val = .int kd p.2:=by
   have h5:one en'.val 0=some (.int kd p.2):=q5.2;rw[one,oneCell_cells (q4.2.1 rfl)] at h5;exact Option.some.inj h5
  have hg:mgetI ck kd xs key=(p.2,true):=by unfold mgetI;rw[m3]
  have hr2:=hrun _ m4;simp only[hval,Option.isSome_some] at hr2;refine a0q.value cc hk hr2 ?_;unfold lookI;rw[hg];cases ok with
  | true=>exact two p.2 true
  | false=>exact num p.2
theorem map_put {P:Program} {t kt et:TypeId} {k e:Ty} {d:TypeDesc} {b:Nat} {es:Array MapEntry} {clock:Nat} {xs:List (El k×El e)} {Os:List (List Nat)} {x:El k} {u w:Value} {y:El e} {O:List Nat} {Rr:El e→List Nat→Value→Prop}
  (ht:P.underlying t=some (.map kt et)) (hd:P.underlying kt=some d) (hk:keyD k=some d) (hu:keyV k x=some u) (hb:W.heap[b]? = some (.map es clock)) (hl:es.size=xs.length) (hl2:Os.length=xs.length)
  (hold:∀i (h:i<xs.length),∃en O,es[i]? = some en∧Os[i]? = some O∧keyV k xs[i].1=some en.key∧Rr xs[i].2 O en.val) (hnew:Rr y O w) :
  ∃(es':Array MapEntry) (clock':Nat) (Os':List (List Nat)),(Instr.mapUpdate t (.map (some b)) u w).run P W = .ok () (setB W b (.map es' clock'))∧es'.size=(mput k e xs x y).length∧Os'.length=(mput k e xs x y).length ∧
   (∀i (h:i<(mput k e xs x y).length),∃en O,es'[i]? = some en∧Os'[i]? = some O∧keyV k (mput k e xs x y)[i].1=some en.key∧Rr (mput k e xs x y)[i].2 O en.val) ∧
   (∀c∈Os'.flatten,c∈Os.flatten∨c∈O)∧((Os.flatten++O).Nodup→Os'.flatten.Nodup):=by
 have hput:∀(xs:List (El k×El e)) (i0:Nat),(mget k e xs x i0=none→mput k e xs x y=xs++[(x,y)])∧∀j v p,mget k e xs x i0=some (i0+j,v)→xs[j]? = some p→mput k e xs x y=xs.set j (p.1,y):=by
  intro xs;induction xs with
  | nil=>intro i0;exact ⟨fun _=>rfl,fun j v p h=>by cases h⟩
  | cons p r ih =>
   intro i0;obtain ⟨z,z2⟩:=p;obtain ⟨k1,k2⟩:=ih (i0+1);cases hq:k1w k x z with
   | true =>
    refine ⟨fun h=>by simp[mget,hq] at h,fun j v p h hp => ?_⟩;simp[mget,hq] at h;obtain ⟨rfl,rfl⟩:=h;simp at hp;subst hp;simp[mput,hq]
   | false =>
    refine ⟨fun h => ?_,fun j v p h hp => ?_⟩
    ·simp[mget,hq] at h;simp[mput,hq,k1 h]
    ·simp[mget,hq] at h;cases j with
     | zero =>
      exfalso;have hge:∀(r:List (El k×El e)) (i0 i:Nat) (v:El e),mget k e r x i0=some (i,v)→i0≤i:=by
       intro r;induction r with
       | nil=>intro i0 i v h;cases h
       | cons p r ih =>
        intro i0 i v h;obtain ⟨z,z2⟩:=p;cases hq:k1w k x z with
        | true=>simp[mget,hq] at h;omega
        | false=>simp[mget,hq] at h;have:=ih _ _ _ h;omega
      have:=hge _ _ _ _ h;omega
     | succ j =>
      simp[mput,hq,k2 j v p (by rw[h];congr 2;omega) (by simpa using hp)]
 rcases o0x (e:=e) hk hu xs es.toList 0 (by simpa using hl) (fun i hi=>by
   obtain ⟨en,O,k1,_,k3,_⟩:=hold i hi
   exact ⟨en,by simpa using k1,k3⟩) with ⟨m1,m2⟩ | ⟨j,p,en,m1,m2,m3,m4,m5⟩
 ·rw[(hput xs 0).1 m1];refine ⟨es.push { key:=u,val:=w,born:=clock },clock+1,Os++[O],?_,by simp[hl],by simp[hl2],fun i hi => ?_,fun c hc=>by simpa using hc,fun hnd=>by simpa using hnd⟩
  ·simp[Instr.mapUpdate,run_underlying ht,MapKept.run_getObj_map hb,MapKept.run_checkKey hd (f0w hu hk),MapKept.run_findKey hd m2,MapKept.run_setObj_map _ hb,Result.andThen,setB]
  ·by_cases hi2:i<xs.length
   ·obtain ⟨en,O2,k1,k2,k3,k4⟩:=hold i hi2;refine ⟨en,O2,?_,?_,?_,?_⟩
    ·rw[Array.getElem?_push,if_neg (by omega)];exact k1
    ·rw[List.getElem?_append_left (by omega)];exact k2
    ·rw[List.getElem_append_left hi2];exact k3
    ·rw[List.getElem_append_left hi2];exact k4
   ·have hie:i=xs.length:=by simp at hi;omega
    subst hie;refine ⟨{ key:=u,val:=w,born:=clock },O,?_,?_,?_,?_⟩
    ·rw[←hl];simp
    ·rw[←hl2];simp
    ·simpa using hu
    ·simpa using hnew
 ·rw[(hput xs 0).2 j p.2 p m3 m1];obtain ⟨hjl,hjx⟩:=List.getElem?_eq_some_iff.1 m1;have m2':es[j]? = some en:=by simpa using m2
  refine ⟨es.modify j fun e => { e with key:=u,val:=w },clock,Os.set j O,?_,by simp[hl],by simp[hl2],fun i hi => ?_,fun c hc => ?_,fun hnd => ?_⟩
  ·simp only[Nat.zero_add] at m4;simp[Instr.mapUpdate,run_underlying ht,MapKept.run_getObj_map hb,MapKept.run_checkKey hd (f0w hu hk),MapKept.run_findKey hd m4,m2',m5,MapKept.run_keyThatStays (f0w hu hk),MapKept.run_setObj_map _ hb,Result.andThen,setB]
  ·have hi2:i<xs.length:=by simpa using hi
   obtain ⟨en2,O2,k1,k2,k3,k4⟩:=hold i hi2;by_cases hij:i=j
   ·subst hij;refine ⟨{ en with key:=u,val:=w },O,?_,?_,?_,?_⟩
    ·rw[Array.getElem?_modify,if_pos rfl,m2'];rfl
    ·rw[List.getElem?_set];simp[hl2,hi2]
    ·rw[List.getElem_set_self,←hjx,k3];have:en2=en:=by rw[k1] at m2';injection m2'
     rw[this,m5]
    ·rw[List.getElem_set_self];exact hnew
   ·refine ⟨en2,O2,?_,?_,?_,?_⟩
    ·rw[Array.getElem?_modify,if_neg (fun e=>hij e.symm)];exact k1
    ·rw[List.getElem?_set_ne (fun e=>hij e.symm)];exact k2
    ·rw[List.getElem_set_ne (fun e=>hij e.symm)];exact k3
    ·rw[List.getElem_set_ne (fun e=>hij e.symm)];exact k4
  ·obtain ⟨l,hl3,hcl⟩:=List.mem_flatten.1 hc;rcases List.mem_or_eq_of_mem_set hl3 with q | rfl
   ·exact .inl (List.mem_flatten.2 ⟨l,q,hcl⟩)
   ·exact .inr hcl
  ·obtain ⟨_,O2,_,k2,_,_⟩:=hold j hjl;have h1:=o0w Os j O2 k2;have h2:=r0o (Os.set j []) j O (by rw[List.getElem?_set];simp[hl2,hjl]);rw[List.set_set] at h2;rw[List.nodup_append] at hnd;obtain ⟨n1,n2,n3⟩:=hnd;have n4:=h1.nodup_iff.1 n1;rw[List.nodup_append] at n4;rw[h2.nodup_iff,List.nodup_append];exact ⟨n2,n4.2.1,fun c hc c' hc' e=>n3 c' (h1.mem_iff.2 (List.mem_append.2 (.inr hc'))) c hc e.symm⟩
theorem k1k {o:Oper} {k:V→Ups→Option R} {r:R} {t kt et:TypeId} {m i v:Operand} {n v0 ver base:Nat} {ck e:Ty} {xs:List (El ck×El e)} {key:El ck} {c:Cell} {y:El e} {taken lent:List Nat} (cc:Ctx cx call W F E N h ρ a) (hK:KOk N h k) (ho:o.op = .mapUpdate t m i v)
  (hs:cx.shp t = .map kt et) (hx:ρ m = .v false [.sl n v0]) (hi:ρ i = .v false [.val ck key]) (hv:ρ v = .v false [c]) (hn:h[n]? = some (ver,some (.sealed n base ver (.mp ck e) xs none false))) (hb1:base≤v0) (hb2:v0≤ver)
  (hok:k1v cx kt ck=true) (hw:width e=1) (hag:agg e=false) (hpk:c0u cx call h e [c]=some (y,[],taken,lent)) (hap:apartB (n::taken) lent=true)
  (hk:k .undef (c0x h taken++a0h h lent++[(n,ver+1,some (.sealed n base (ver+1) (.mp ck e) (mput ck e xs key y) none false))])=some r):a0q cx W F E N h a o k r:=by
 obtain ⟨d,hd1,hd2⟩:=o1t cc.tab hok;have ht:cx.P.underlying t=some (.map kt et):=by
  unfold Cx.shp at hs;cases hi:cx.info t with
  | none=>rw[hi] at hs;cases hs
  | some q =>
   rw[hi] at hs;have h1:=(cc.tab t q hi).shp;dsimp only at hs;rw[hs] at h1;unfold shpB at h1;cases hu:cx.P.underlying t with
   | none=>rw[hu] at h1;cases h1
   | some d' =>
    rw[hu] at h1;cases d'<;>first | (cases h1;done) | skip
    simp only[Bool.and_eq_true] at h1;rw[Nat.eq_of_beq_eq_true h1.1,Nat.eq_of_beq_eq_true h1.2]
 have hvx:=cc.ρ m;rw[hx] at hvx;have hvi:=cc.ρ i;rw[hi] at hvi;have hvv:=cc.ρ v;rw[hv] at hvv;obtain ⟨bs,hm,hnd,hfree,hat,htop,hheads⟩:=k1p cc.hr hn hb1 hb2 hvx;have hkv:keyV ck key=some (a.eval i):=by
  have hone:=hvi.2.2 rfl;have hrd:=hvi.1;rw[oneCell_cells hone] at hrd;exact o1s hd1 (hrd.2 0 _ _ rfl rfl).1
 have hcells:=oneCell_cells (hvv.2.2 rfl);have hform:formed e (a.eval v):=hvv.formed (by rw[hag]) (by rw[hcells,hw];rfl);obtain ⟨O,p1,p2,_,_⟩:=f1r cc.hc cc.hr e [c] y [] taken lent hpk _ hvv.1;have p1':RdB cx.P e y W (a0g F h E lent) O (one (a.eval v)):=RdB.congr e (fun q _=>by rw[one,Array.getElem?_toList]) p1;obtain ⟨b,es,clock,Os,e1,e2,e3,e4,rfl,e5⟩:=hm;obtain ⟨a1,_,a3⟩:=n0n hap;rw[List.nodup_cons] at a1 hnd;have hT:Takes F h E (n::taken) ((b::Os.flatten)++O):=Takes.append (t1:=[n]) cc.hr ⟨fun c hc=>⟨n,by simp,hat c hc⟩,hfree,fun _=>List.nodup_cons.2 hnd⟩ p2
 have hTn:=hT.nodup (List.nodup_cons.2 a1);have hbl:b<W.heap.size:=(Array.getElem?_eq_some_iff.1 e2).1;have hbF:¬a0g F h E lent b:=by
  rintro (k | ⟨q,hq,k⟩)
  ·exact hfree b (by simp) k
  ·exact a3 n (by simp) q hq (b0l cc.hr (hat b (by simp)) k)
 have hbO:b ∉ Os.flatten++O:=by
  have:=hTn;rw[List.cons_append,List.nodup_cons] at this;exact this.1
 have hset:∀(ob:Obj) (q:Nat),q≠b→(setB W b ob).heap[q]? = W.heap[q]? := fun ob q hq=>by
  show (W.heap.setIfInBounds b ob)[q]? = _;simp[Ne.symm hq]
 have hself:∀ob:Obj,(setB W b ob).heap[b]? = some ob:=fun ob=>by
  show (W.heap.setIfInBounds b ob)[b]? = _;simp[hbl]
 have hsz:∀ob:Obj,(setB W b ob).heap.size=W.heap.size:=fun ob=>by
  show (W.heap.setIfInBounds b ob).size=_;simp
 have hlat:∀ob:Obj,Later W (a0g F h E lent) (setB W b ob) (a0g F h E lent):=fun ob =>
  ⟨rfl,rfl,rfl,by rw[hsz];exact Nat.le_refl _,fun q hq=>hset ob q (fun e=>hbF (e ▸ hq)),fun _ h=>h⟩
 have hold:∀i (hi:i<xs.length),∃en O,es[i]? = some en∧Os[i]? = some O∧keyV ck xs[i].1=some en.key∧∀ob:Obj,formed e en.val∧RdB cx.P e xs[i].2 (setB W b ob) (a0g F h E lent) O (one en.val):=by
  intro q hq;obtain ⟨en,O2,k1,k2,k3,k4,k5⟩:=e5 q hq;refine ⟨en,O2,k1,k2,k3,fun ob=>⟨k4,RdB.later e k5 ((a0z lent).trans (hlat ob)) fun z hz=>hset ob z fun e=>hbO ?_⟩⟩;subst e;exact List.mem_append.2 (.inl (List.mem_flatten.2 ⟨O2,List.mem_of_getElem? k2,hz⟩))
 obtain ⟨es',clock',Os',hrun,s1,s2,s3,s4,s5⟩:=map_put (Rr:=fun y O w=>∀ob:Obj,formed e w∧RdB cx.P e y (setB W b ob) (a0g F h E lent) O (one w)) ht hd2 hd1 hkv e2 e3 e4 hold
  (fun ob=>⟨hform,p1'.later e (hlat ob) fun z hz=>hset ob z fun e=>hbO (by subst e;exact List.mem_append.2 (.inr hz))⟩)
 have hsub:∀c∈b::Os'.flatten,c∈(b::Os.flatten)++O:=by
  intro c hc;rcases List.mem_cons.1 hc with rfl | hc
  ·simp
  ·rcases s4 c hc with k | k
   ·exact List.mem_append.2 (.inl (List.mem_cons_of_mem _ k))
   ·exact List.mem_append.2 (.inr k)
 have hOF:∀c∈(b::Os.flatten)++O,¬a0g F h E lent c:=by
  rintro c hc (k | ⟨q,hq,k⟩)
  ·exact hT.free c hc k
  ·obtain ⟨q',hq',k'⟩:=hT.at_ c hc;exact a3 q' hq' q hq (b0l cc.hr k' k)
 have hKn:=hK _ _ _ hk;have hNn:=hKn n (by simp[a0d]);have hlt':∀c∈b::Os'.flatten,c<(setB W b (.map es' clock')).heap.size:=fun c hc=>by
  rw[hsz];obtain ⟨q,_,k⟩:=hT.at_ c (hsub c hc);exact cc.hr.lt c ⟨q,k⟩
 have hframe:∀q,q<W.heap.size→q ∉ (b::Os.flatten)++O→(setB W b (.map es' clock')).heap[q]? = W.heap[q]? := fun q _ hq=>hset _ q fun e=>hq (by subst e;simp)
 obtain ⟨z1,z2,z3⟩:=n0m (P:=cx.P) (W':=setB W b (.map es' clock')) (F2:=a0g F h E lent) (O':=b::Os'.flatten) (ls:=lent) cc.hr hT (fun q hq=>by
   rcases List.mem_cons.1 hq with rfl | hq
   ·exact hNn
   ·exact hKn q (by simp[a0d,c0x];exact .inl hq)) (hlat _) hframe (fun b hb => .inl hb) (fun c hc => .inl (hsub c hc))
 have c2:=(Came.nil (O:=[]) z1).put (n:=n) (ver:=ver+1) (O:=b::Os'.flatten) (L := .tree (a.eval m) (b::Os'.flatten)) (B := .sealed n base (ver+1) (.mp ck e) (mput ck e xs key y) none false) hNn.1 (by rw[a0l,a0l];exact hNn.2) (by simp[a0v]) (by rw[htop])
  ⟨_,_,rfl,by rw[htop];exact EnvM.next_m _ _ _,by rw[EnvM.next_top,htop];exact Nat.le_refl _,fun q hq hq'=>by
   rcases Nat.lt_or_ge ver q with k | k
   ·have:q=E.top n+1:=by omega
    subst this;exact ⟨_,EnvM.next_m _ _ _⟩
   ·rw[(EnvM.next_le E n _).m n q (by omega)];exact hheads q hq k,hlt',fun _=>⟨by
   simp only[g0l];refine ⟨b,es',clock',Os',e1,hself _,s1,s2,rfl,fun q hq => ?_⟩;obtain ⟨en,O2,k1,k2,k3,k4⟩:=s3 q hq;exact ⟨en,O2,k1,k2,k3,k4 _⟩,List.nodup_cons.2 ⟨fun hb=>hbO (List.mem_append.2 (s4 b hb)),s5 (by
    have:=hTn;rw[List.cons_append,List.nodup_cons] at this
    exact this.2)⟩,fun c hc=>hOF c (hsub c hc)⟩⟩ (fun c hc=>by cases hc) (fun c hc=>by
   have hc:c∈b::Os'.flatten:=hc
   exact ⟨hc,by simp,z2 c hc⟩)
 have c3:=c2.toU;obtain ⟨E2,_,hop⟩:=l0y (P:=cx.P) (W':=setB W b (.map es' clock')) (F2:=a0g F h E lent) (takes:=taken) (ls:=lent) (O':=b::Os'.flatten) cc.hr hT (fun q hq=>List.mem_cons_of_mem _ hq) a1.2
  (fun q hq=>by
   rcases List.mem_cons.1 hq with rfl | hq
   ·exact .inr (by simp[a0d])
   ·exact .inl hq) (fun q hq hq'=>a3 q hq' q hq rfl) (hlat _) hframe (fun b hb => .inl hb) (fun c hc => .inl (hsub c hc)) hlt' (by simpa using hKn) c3
 refine ⟨_,_,hk,OpOk.skip (W':=setB W b (.map es' clock')) ?_ hop⟩;simp[execOp,ho,e1,hrun,Result.andThen]
theorem o1i {o:Oper} {cl:Go.Call} {k:V→Ups→Option R} {r:R} {p:Operand} {t kt et:TypeId} {n v0 ver base:Nat} {ck e:Ty} {xs:List (El ck×El e)}
  (cc:Ctx cx call W F E N h ρ a) (hK:KOk N h k) (ho:o.op = .call cl) (hc:cl.callee = .builtin .clear) (hargs:cl.args = #[p]) (ht:cl.argTypes[0]? = some t) (hs:cx.shp t = .map kt et)
  (hp:ρ p = .v false [.sl n v0]) (hn:h[n]? = some (ver,some (.sealed n base ver (.mp ck e) xs none false))) (hb1:base≤v0) (hb2:v0≤ver)
  (hk:k (.tup []) [(n,ver+1,some (.sealed n base (ver+1) (.mp ck e) [] none false))]=some r):a0q cx W F E N h a o k r:=by
 have hu:=x1t cc.tab hs;have hvx:=cc.ρ p;rw[hp] at hvx;obtain ⟨bs,hm,hnd,hfree,hat,htop,hheads⟩:=k1p cc.hr hn hb1 hb2 hvx;obtain ⟨b,es,clock,Os,e1,e2,e3,e4,rfl,e5⟩:=hm;rw[List.nodup_cons] at hnd;have hT:Takes F h E [n] (b::Os.flatten):=⟨fun c hc=>⟨n,by simp,hat c hc⟩,hfree,fun _=>List.nodup_cons.2 hnd⟩;have hbl:b<W.heap.size:=(Array.getElem?_eq_some_iff.1 e2).1;have hbF:¬a0g F h E [] b:=by rw[a0k];exact hfree b (by simp)
 have hset:∀(q:Nat),q≠b→(setB W b (.map #[] clock)).heap[q]? = W.heap[q]? := fun q hq=>by
  show (W.heap.setIfInBounds b _)[q]? = _;simp[Ne.symm hq]
 have hself:(setB W b (.map #[] clock)).heap[b]? = some (.map #[] clock):=by
  show (W.heap.setIfInBounds b _)[b]? = _;simp[hbl]
 have hsz:(setB W b (.map #[] clock)).heap.size=W.heap.size:=by
  show (W.heap.setIfInBounds b _).size=_;simp
 have hlat:Later W (a0g F h E []) (setB W b (.map #[] clock)) (a0g F h E []) :=
  ⟨rfl,rfl,rfl,by rw[hsz];exact Nat.le_refl _,fun q hq=>hset q (fun e=>hbF (e ▸ hq)),fun _ h=>h⟩
 have hKn:=hK _ _ _ hk;have hNn:=hKn n (by simp[a0d]);have hlt':∀c∈[b],c<(setB W b (.map #[] clock)).heap.size:=fun c hc=>by
  rw[hsz,List.mem_singleton.1 hc];exact hbl
 have hframe:∀q,q<W.heap.size→q ∉ b::Os.flatten→(setB W b (.map #[] clock)).heap[q]? = W.heap[q]? := fun q _ hq=>hset q fun e=>hq (by subst e;simp)
 have hsub:∀c∈[b],c∈b::Os.flatten:=fun c hc=>by rw[List.mem_singleton.1 hc];simp
 obtain ⟨z1,z2,z3⟩:=n0m (P:=cx.P) (W':=setB W b (.map #[] clock)) (F2:=a0g F h E []) (O':=[b]) (ls:=[]) cc.hr hT (fun q hq=>by
   rcases List.mem_cons.1 hq with rfl | hq
   ·exact hNn
   ·cases hq) hlat hframe (fun b hb => .inl hb) (fun c hc => .inl (hsub c hc))
 have c2:=(Came.nil (O:=[]) z1).put (n:=n) (ver:=ver+1) (O:=[b]) (L := .tree (a.eval p) [b]) (B := .sealed n base (ver+1) (.mp ck e) [] none false) hNn.1 (by rw[a0l,a0l];exact hNn.2) (by simp[a0v]) (by rw[htop])
  ⟨_,_,rfl,by rw[htop];exact EnvM.next_m _ _ _,by rw[EnvM.next_top,htop];exact Nat.le_refl _,fun q hq hq'=>by
   rcases Nat.lt_or_ge ver q with k | k
   ·have:q=E.top n+1:=by omega
    subst this;exact ⟨_,EnvM.next_m _ _ _⟩
   ·rw[(EnvM.next_le E n _).m n q (by omega)];exact hheads q hq k,hlt',fun _=>⟨by
   simp only[g0l];exact ⟨b,#[],clock,[],e1,hself,rfl,rfl,rfl,fun q hq=>by simp at hq⟩,by simp,fun c hc=>by
    rw[List.mem_singleton.1 hc];exact hbF⟩⟩ (fun c hc=>by cases hc) (fun c hc=>by
   have hc:c∈[b]:=hc
   exact ⟨hc,by simp,z2 c hc⟩)
 have c3:=c2.toU;obtain ⟨E2,_,hop⟩:=l0y (P:=cx.P) (W':=setB W b (.map #[] clock)) (F2:=a0g F h E []) (takes:=[]) (ls:=[]) (O':=[b]) cc.hr hT (fun q hq=>by cases hq) List.nodup_nil
  (fun q hq=>by
   rcases List.mem_cons.1 hq with rfl | hq
   ·exact .inr (by simp[a0d])
   ·cases hq) (fun q hq hq'=>by cases hq) hlat hframe (fun b hb => .inl hb) (fun c hc => .inl (hsub c hc)) hlt' (by simpa [c0x,a0h] using hKn) c3
 refine ⟨_,_,hk,OpOk.of (v := .tuple #[]) (W':=setB W b (.map #[] clock)) ?_ hop ⟨[],rfl,rfl,fun j p u hp=>by simp at hp⟩⟩;have hrun:(Builtin.clear_ cl.argTypes o.type #[a.eval p]).run cx.P W = .ok (.tuple #[]) (setB W b (.map #[] clock)):=by
  rw[e1];simp[Builtin.clear_,ht,run_underlying hu,MapKept.run_getObj_map e2,MapKept.run_setObj_map _ e2,Result.andThen,setB]
 simp[execOp,ho,resolve,hc,hargs,invoke,builtin,hrun]
end
end Go.Flat
end
section
namespace Go.Flat
open Go.RowKit (Below)
section
variable {cx:Cx} {call:Oracle cx} {fx:Hints} {W W':World} {F F':Fz} {E E':EnvM} {h:Heap} {N:Nat→Prop} {ρ:Operand→V} {a:Act} {R:Type}
theorem l0m {e:Ty} (h:oneCell e=true):width e=1∧agg e=false:=by
 unfold oneCell at h;simp only[Bool.and_eq_true,Bool.not_eq_true'] at h;exact ⟨Nat.eq_of_beq_eq_true h.1,h.2⟩
theorem d1y {P:Program}:∀(us:List V) (vs:List Value) (l:List (Nat×Nat)),r0x us=some l→us.length=vs.length→(∀(i:Nat) p u,us[i]? = some p→vs[i]? = some u→RdV P W F E p u) →
  ∃bs:List Nat,vs=bs.map (fun b=>Value.pointer (some ⟨b,0,none⟩))∧bs.length=l.length∧∀(i:Nat) p b,l[i]? = some p→bs[i]? = some b→p.2≤E.top p.1∧E.m p.1 p.2=some (.box b):=by
 intro us;induction us with
 | nil =>
  intro vs l h hlen _;simp only[r0x,Option.some.injEq] at h;subst h;have:vs=[]:=List.eq_nil_of_length_eq_zero (by simpa using hlen.symm);subst this;exact ⟨[],rfl,rfl,fun i p b hp=>by simp at hp⟩
 | cons x us ih =>
  intro vs l h hlen hrd;unfold r0x at h;split at h
  ·cases ‹_::_=[]›
  ·rename_i n ver r heq;injection heq with h1 h2;subst h1;subst h2;cases vs with
   | nil=>simp at hlen
   | cons v vs =>
    simp only[Option.map_eq_some_iff] at h;obtain ⟨l',hl',rfl⟩:=h;obtain ⟨bs,k1,k2,k3⟩:=ih vs l' hl' (by simpa using hlen) (fun i p u hp hu=>hrd (i+1) p u (by simpa using hp) (by simpa using hu));obtain ⟨g1,⟨L,g2⟩,g3⟩:=(hrd 0 _ _ rfl rfl).single.1;have hL:=g3 L g2;cases L with
    | box b =>
     have hv:v = .pointer (some ⟨b,0,none⟩):=hL;subst hv;refine ⟨b::bs,by rw[k1];rfl,by simp[k2],fun i p b' hp hb => ?_⟩;cases i with
     | zero=>simp at hp hb;subst hp;subst hb;exact ⟨g1,g2⟩
     | succ i=>exact k3 i p b' (by simpa using hp) (by simpa using hb)
    | nil=>exact hL.elim
    | arr b w len cap=>exact hL.elim
    | tree w bs=>exact hL.elim
  ·cases h
theorem u1d {o:Oper} {k:V→Ups→Option R} {r:R} {f:FuncId} {first caps:Array Operand} {l:List (Nat×Nat)} (cc:Ctx cx call W F E N h ρ a)
  (ho:o.op = .makeFunc (.func f) first caps) (h0:Nat.beq first.size 0=true) (hc:r0x (caps.toList.map ρ)=some l) (hk:k (.v false [.clob f l]) []=some r) :
  a0q cx W F E N h a o k r:=by
 have e0:first = #[]:=Array.eq_empty_of_size_eq_zero (Nat.eq_of_beq_eq_true h0)
 subst e0;obtain ⟨bs,k1,k2,k3⟩:=d1y (P:=cx.P) (W:=W) (F:=F) (E:=E) _ (caps.toList.map a.eval) l hc (by simp) (fun i p u hp hu=>by
  rw[List.getElem?_map] at hp hu;cases hx:caps.toList[i]? with
  | none=>rw[hx] at hp;cases hp
  | some y =>
   rw[hx] at hp hu;simp only[Option.map_some,Option.some.injEq] at hp hu;subst hp;subst hu
   exact cc.ρ y)
 refine a0q.value cc hk (v := .func (.func f) #[] (caps.map a.eval)) (by simp[execOp,ho,Instr.makeFunc]) (RdV.mk1 ⟨bs,?_,k2,k3⟩ rfl);rw[←k1];congr 1;apply Array.ext';simp
theorem r1e {P:Program} (hr:HR P W F E N h) {n ver base:Nat} {e:Ty} {xs:List (El e)} {hole:Option (Nat×Cell)} (hn:h[n]? = some (ver,some (.sealed n base ver (.ls e) xs hole false))) :
  ∃v bs,g0l P W F E (.ls e) xs hole bs v∧bs.Nodup∧(∀b∈bs,¬F b)∧(∀b∈bs,atName h E n b)∧ver=E.top n∧(∀j,base≤j→j≤ver→∃bs',E.m n j=some (.tree v bs'))∧N n:=by
 obtain ⟨hN,L,hL,w,bs,rfl,g1,g2,g3,g4,g5⟩:=hr.blk n _ _ hn;obtain ⟨m1,m2,m3⟩:=g5 rfl;exact ⟨w,bs,m1,m2,m3,fun b hb=>⟨_,_,_,hn,hL,hb⟩,hr.top n _ _ hN hn,g3,hN⟩
theorem sl_val {P:Program} {n v0 ver base:Nat} {v w:Value} (hheads:∀j,base≤j→j≤ver→∃bs',E.m n j=some (.tree v bs')) (hb1:base≤v0) (hb2:v0≤ver) (hv:RdV P W F E (.v false [.sl n v0]) w):w=v:=by
 obtain ⟨bs',hbs'⟩:=hheads v0 hb1 hb2;exact hv.single.1.2.2 _ hbs'
theorem z1e {n ver base':Nat} {e:Ty} {xs':List (El e)} {v':Value} {O O' takes lent:List Nat} (cc:Ctx cx call W F E N h ρ a) (hT:Takes F h E (n::takes) O) (htop:ver=E.top n) (hnd:(n::takes).Nodup) (hdis:∀q∈n::takes,q ∉ lent)
  (hN:∀q∈a0d (c0x h takes++a0h h lent++[(n,ver+1,some (.sealed n base' (ver+1) (.ls e) xs' none false))]),N q∧q<h.length)
  (hl:Later W (a0g F h E lent) W' (a0g F h E lent)) (hframe:∀q,q<W.heap.size→q ∉ O→W'.heap[q]? = W.heap[q]?) (hsub:∀c∈O',c∈O∨W.heap.size≤c) (hlt:∀c∈O',c<W'.heap.size)
  (hx:LsRd xs' W' O' v' (fun _ y O u=>formed e u∧RdB cx.P e y W' (a0g F h E lent) O (one u))) (hnd':O'.Nodup) (hfree:∀c∈O',¬a0g F h E lent c) (hheads:∀j,base'≤j→j≤ver→∃bs',E.m n j=some (.tree v' bs')) :
  ∃E2,OpPost cx.P W F E N h W' (a0g F h E lent) E2 (c0x h takes++a0h h lent++[(n,ver+1,some (.sealed n base' (ver+1) (.ls e) xs' none false))])∧E2.m n (ver+1)=some (.tree v' O')∧ver+1≤E2.top n:=by
 have hNn:=hN n (by simp[a0d]);obtain ⟨z1,z2,z3⟩:=n0m (P:=cx.P) (W':=W') (F2:=a0g F h E lent) (O':=O') (ls:=lent) cc.hr hT (fun q hq=>by
   rcases List.mem_cons.1 hq with rfl | hq
   ·exact hNn
   ·exact hN q (by simp[a0d,c0x];exact .inl hq)) hl hframe (fun b hb => .inl hb) hsub
 have c2:=(Came.nil (O:=[]) z1).put (n:=n) (ver:=ver+1) (O:=O') (L := .tree v' O') (B := .sealed n base' (ver+1) (.ls e) xs' none false) hNn.1 (by rw[a0l,a0l];exact hNn.2) (by simp[a0v]) (by rw[htop])
  ⟨_,_,rfl,by rw[htop];exact EnvM.next_m _ _ _,by rw[EnvM.next_top,htop];exact Nat.le_refl _,fun q hq hq'=>by
   rcases Nat.lt_or_ge ver q with k | k
   ·have:q=E.top n+1:=by omega
    subst this;exact ⟨_,EnvM.next_m _ _ _⟩
   ·rw[(EnvM.next_le E n _).m n q (by omega)];exact hheads q hq k,hlt,fun _=>⟨by simp only[g0l];exact hx,hnd',hfree⟩⟩ (fun c hc=>by cases hc) (fun c hc=>by
   have hc:c∈O':=hc
   exact ⟨hc,by simp,z2 c hc⟩)
 have c3:=c2.toU;rw[List.nodup_cons] at hnd;obtain ⟨E2,e21,hop⟩:=l0y (P:=cx.P) (W':=W') (F2:=a0g F h E lent) (takes:=takes) (ls:=lent) (O':=O') cc.hr hT (fun q hq=>List.mem_cons_of_mem _ hq) hnd.2
  (fun q hq=>by
   rcases List.mem_cons.1 hq with rfl | hq
   ·exact .inr (by simp[a0d])
   ·exact .inl hq) (fun q hq hq'=>hdis q hq' hq) hl hframe (fun b hb => .inl hb) hsub hlt (by simpa using hN) c3
 refine ⟨E2,by simpa using hop,?_,?_⟩
 ·rw[e21.m n (ver+1) (by rw[EnvM.next_top,htop];exact Nat.le_refl _),htop];exact EnvM.next_m _ _ _
 ·exact Nat.le_trans (by rw[EnvM.next_top,htop];exact Nat.le_refl _) (e21.top n)
theorem c2n:∀ {ls:List (List Cell)},c2o ls=true→∀(i:Nat) c,ls[i]? = some c→c=[.ns]:=by
 intro ls;induction ls with
 | nil=>intro _ i c h;simp at h
 | cons x r ih =>
  intro h i c hi;unfold c2o at h;split at h
  ·cases ‹_::_=[]›
  ·rename_i heq;injection heq with h1 h2;subst h1;subst h2;cases i with
   | zero=>simp at hi;exact hi.symm
   | succ i=>exact ih h i c (by simpa using hi)
  ·cases h
theorem u1j {o:Oper} {k:V→Ups→Option R} {r:R} {t et:TypeId} {n:Nat} {ps:Array (Nat×Operand)} {e e':Ty} {ls:List (List Cell)}
  (cc:Ctx cx call W F E N h ρ a) (hK:KOk N h k) (ho:o.op = .buildSlice t n ps)
  (hs:cx.shp t = .slice et) (he:cx.ty et=some e) (hp:k0u (width e) (List.replicate n (zeroCells e)) (ps.toList.map fun x=>(x.1,ρ x.2))=some ls)
  (hw:(f0d cx et e&&Nat.ble (n*width e) 16777216)=true) {own:Bool} (hx:lsNew own e ls=some e')
  (hk:k (.v false [.sl (nmOf fx o) (a0i h (nmOf fx o)+1)]) [(nmOf fx o,a0i h (nmOf fx o)+1,some (.sealed (nmOf fx o) (a0i h (nmOf fx o)+1) (a0i h (nmOf fx o)+1) (.ls (.own e')) (ls.map fun _=>[]) none false))]=some r):a0q cx W F E N h a o k r:=by
 unfold lsNew at hx;split at hx
 case h_2=>cases hx
 rename_i e1;cases hall:c2o ls with
 | false=>rw[hall] at hx;cases hx
 | true =>
 rw[hall] at hx;simp only[cond_true,Option.some.injEq] at hx;subst hx;simp only[Bool.and_eq_true] at hw;have hle:n*width (.slice e1)≤16777216:=Nat.le_of_ble_eq_true hw.2;have hwpos:=y0y hw.1;obtain ⟨ti,t1,t2,z,t3,t4,t5⟩:=(m0i cc.tab he).ti;have hzc:a0f cx.P W F E (zeroCells (.slice e1)) z.cells.toList:=f0k t4;have hzsz:z.cells.size=width (.slice e1):=by have:=hzc.1;rw[d0z] at this;simpa using this.symm
 have hrows:s1h cx.P W F E (width (.slice e1)) (List.replicate n (zeroCells (.slice e1))) (madeCells z.cells (n*width (.slice e1))):=by
  refine ⟨by rw[size_madeCells,List.length_replicate],p0w (a0f.one_all hzc) (by omega),fun i c hi => ?_⟩;have hin:i<n:=by
   rcases Nat.lt_or_ge i n with q | q
   ·exact q
   ·rw[List.getElem?_eq_none (by simpa using q)] at hi;cases hi
  rw[List.getElem?_replicate,if_pos hin] at hi;injection hi with hi;subst hi;have:((madeCells z.cells (n*width (.slice e1))).toList.drop (i*width (.slice e1))).take (width (.slice e1))=z.cells.toList:=by
   apply List.ext_getElem?;intro q;rw[List.getElem?_take,List.getElem?_drop,Array.getElem?_toList];by_cases hq:q<width (.slice e1)
   ·rw[if_pos hq,f1x (w0c hin hq),hzsz];have:(i*width (.slice e1)+q) % width (.slice e1)=q:=by rw[Nat.mul_comm,Nat.mul_add_mod,Nat.mod_eq_of_lt hq]
    rw[this,getElem!_pos z.cells q (by omega)];simp[hzsz,hq]
   ·rw[if_neg hq,List.getElem?_eq_none (by simp[hzsz];omega)]
  rw[this];exact hzc
 obtain ⟨us,u1,u2,u3⟩:=c1z (width (.slice e1)) ps.toList _ _ ls cc.ρ hp hrows;rw[List.length_replicate] at u3;have hrun:(Instr.buildSlice t n (ps.map fun x=>(x.1,a.eval x.2))).run cx.P W = .ok (.slice (some ⟨W.heap.size,0,none⟩) n n) (W.alloc (.cells us et)):=by
  have hu:=c0z cc.tab hs;by_cases hn:n*width (.slice e1)=0
  ·have e0:madeCells z.cells (n*width (.slice e1)) = #[]:=by rw[hn];simp[madeCells]
   rw[e0] at u1;simp[Instr.buildSlice,run_underlying hu,sizeOf,typeInfo,t1,t2,hn,newRow,Array.range_zero',u1]
  ·unfold madeCells at u1;simp[Instr.buildSlice,run_underlying hu,sizeOf,typeInfo,t1,t2,hn,show ¬16777216<n*width (.slice e1) by omega,zeroValue,t3,newRow,u1]
 have hexec:(execOp a.eval o).run cx.P W = .ok (.value (.slice (some ⟨W.heap.size,0,none⟩) n n)) (W.alloc (.cells us et)):=by simp[execOp,ho,hrun]
 have husz:us.size=n:=by have:=u2.1;rw[u3] at this;simpa [width] using this
 obtain ⟨hN,hlt⟩:=hK _ _ _ hk (nmOf fx o) (by simp[a0d]);have hvt:=a0x cc.hr hN hlt;have hsize:(W.alloc (.cells us et)).heap.size=W.heap.size+1:=by
  show (W.heap.push _).size=_;simp
 have hxl:(ls.map fun _=>([]:List (El e1))).length=n:=by rw[List.length_map];exact u3
 obtain ⟨bs,hls,hbs,hbn⟩:∃bs,LsRd (ls.map fun _=>([]:List (El e1))) (W.alloc (.cells us et)) bs (.slice (some ⟨W.heap.size,0,none⟩) n n) (fun _ y O u=>formed (.own e1) u∧RdB cx.P (.own e1) y (W.alloc (.cells us et)) F O (one u))∧(∀b∈bs,b=W.heap.size)∧bs.Nodup:=by
  rcases Nat.eq_zero_or_pos n with hn0 | hnpos
  ·subst hn0;exact ⟨[],.inl ⟨List.eq_nil_of_length_eq_zero hxl,rfl,_,rfl⟩,fun b hb=>(by cases hb),List.nodup_nil⟩
  ·have hflat:(ls.map fun _=>([]:List Nat)).flatten=[]:=by
    rw[List.flatten_eq_nil_iff];intro l hl;obtain ⟨_,_,rfl⟩:=List.mem_map.1 hl;rfl
   refine ⟨[W.heap.size],.inr ⟨W.heap.size,us,⟨(et,(0,0)),.inl rfl⟩,ls.map fun _=>[],by rw[hxl,husz],m0a W _,by omega,?_,u2.2.1,by simp,by rw[hflat],fun i hi => ?_⟩,fun b hb=>by simpa using hb,by simp⟩
   ·have:n≤n*width (.slice e1):=Nat.le_mul_of_pos_right _ hwpos;exact ⟨by simp only[maxLen];omega,by omega⟩
   ·have hin:i<n:=by rw[hxl] at hi;exact hi
    have hil:i<ls.length:=by omega
    have hlsi:ls[i]? = some ls[i]:=List.getElem?_eq_getElem hil;have hns:=c2n hall i _ hlsi;have hrd:=u2.2.2 i _ hlsi;rw[hns] at hrd;simp only[width,Nat.mul_one] at hrd;obtain ⟨u,hu0,p,hup⟩:=a0f.get0 hrd;have hu0':us[i]? = some u:=by
     rw[List.getElem?_take,List.getElem?_drop,Array.getElem?_toList] at hu0
     simpa using hu0
    refine ⟨u,[],hu0',by rw[List.getElem?_map,hlsi];rfl,?_,?_⟩
    ·subst hup;exact ⟨fun e=>(by cases e),fun _=>rfl,rfl⟩
    ·subst hup;rw[List.getElem_map];exact .inl ⟨rfl,rfl,p,rfl⟩
 have hpost:=OpPost.turn (P:=cx.P) (W':=W.alloc (.cells us et)) (F':=F) (E':=E.next (nmOf fx o) (some (.tree (.slice (some ⟨W.heap.size,0,none⟩) n n) bs))) (ver':=a0i h (nmOf fx o)+1)
  (B := .sealed (nmOf fx o) (a0i h (nmOf fx o)+1) (a0i h (nmOf fx o)+1) (.ls (.own e1)) (ls.map fun _=>[]) none false) (ns:=[]) (row:=none) cc.hr cc.hF hN hlt (EnvM.next_le _ _ _) (by rw[hvt];exact EnvM.next_top _ _ _) (fun m hm=>EnvM.next_other _ _ _ m hm)
  ⟨rfl,rfl,rfl,by rw[hsize];omega,fun k hk _=>i0o _ _ k hk⟩ (fun b hb=>by cases hb) (fun b hb=>by rw[a0k] at hb;exact hb) (fun b hb => .inl (by rw[a0k];exact hb))
  ⟨_,by rw[hvt];exact EnvM.next_m _ _ _,⟨_,_,rfl,by rw[hvt];exact EnvM.next_m _ _ _,by rw[hvt,EnvM.next_top];exact Nat.le_refl _,fun j hj hj'=>by
   have:j=E.top (nmOf fx o)+1:=by omega
   subst this;exact ⟨_,EnvM.next_m _ _ _⟩,fun b hb=>by rw[hbs b hb,hsize];omega,fun _=>⟨by simp only[g0l];exact hls,hbn,fun b hb hf=>by
   rw[hbs b hb] at hf
   have:=cc.hF _ hf;omega⟩⟩,fun x hx => .inr (by
   have:x=W.heap.size:=hbs x hx
   omega)⟩
 refine ⟨_,_,hk,OpOk.of (v := .slice (some ⟨W.heap.size,0,none⟩) n n) hexec hpost (RdV.mk1 ⟨?_,⟨.tree (.slice (some ⟨W.heap.size,0,none⟩) n n) bs,?_⟩,fun L hL => ?_⟩ rfl)⟩
 ·rw[hvt,EnvM.next_top];exact Nat.le_refl _
 ·rw[hvt];exact EnvM.next_m _ _ _
 ·rw[hvt,EnvM.next_m] at hL;injection hL with hL;subst hL;rfl
end
end Go.Flat
end
section
namespace Go.Flat
open Go.RowKit (Below)
section
variable {cx:Cx} {call:Oracle cx} {fx:Hints} {W W':World} {F F':Fz} {E E':EnvM} {h:Heap} {N:Nat→Prop} {ρ:Operand→V} {a:Act} {R:Type}
theorem c1r {x:V} {n v0 i:Nat} (h:n1o x=some (n,v0,i)):x = .v false [.sel n v0 i]:=by
 unfold n1o at h;split at h
 ·simp only[Option.some.injEq,Prod.mk.injEq] at h;obtain ⟨rfl,rfl,rfl⟩:=h;rfl
 ·cases h
theorem o0f {x:V} {p:Nat×Nat} (h:slOf x=some p):x = .v false [.sl p.1 p.2]:=by
 unfold slOf at h;split at h
 ·simp only[Option.some.injEq] at h;subst h;rfl
 ·cases h
theorem z0u:∀(Os:List (List Nat)) (i:Nat) (O:List Nat),(Os.flatten++O).Nodup→(Os.set i O).flatten.Nodup∧∀c∈(Os.set i O).flatten,c∈Os.flatten∨c∈O:=by
 intro Os;induction Os with
 | nil=>intro i O _;simp
 | cons P Os ih =>
  intro i O hn;rw[List.flatten_cons,List.append_assoc,List.nodup_append] at hn;obtain ⟨n1,n2,n3⟩:=hn;cases i with
  | zero =>
   rw[List.set_cons_zero,List.flatten_cons];have n4:=n2;rw[List.nodup_append] at n4;refine ⟨List.nodup_append.2 ⟨n4.2.1,n4.1,fun c hc d hd e=>n4.2.2 d hd c hc e.symm⟩,fun c hc => ?_⟩;rcases List.mem_append.1 hc with hc | hc
   ·exact .inr hc
   ·exact .inl (by rw[List.flatten_cons];exact List.mem_append.2 (.inr hc))
  | succ i =>
   obtain ⟨k1,k2⟩:=ih i O n2;rw[List.set_cons_succ,List.flatten_cons];refine ⟨List.nodup_append.2 ⟨n1,k1,fun c hc d hd e=>n3 c hc d (List.mem_append.2 (k2 d hd)) e⟩,fun c hc => ?_⟩;rcases List.mem_append.1 hc with hc | hc
   ·exact .inl (by rw[List.flatten_cons];exact List.mem_append.2 (.inl hc))
   ·rcases k2 c hc with k | k
    ·exact .inl (by rw[List.flatten_cons];exact List.mem_append.2 (.inr k))
    ·exact .inr k
theorem sel_at {P:Program} {n v0 i ver base:Nat} {v w:Value} (hheads:∀j,base≤j→j≤ver→∃bs',E.m n j=some (.tree v bs')) (hb1:base≤v0) (hb2:v0≤ver) (hv:RdV P W F E (.v false [.sel n v0 i]) w) :
  ∃b len cap,v = .slice (some ⟨b,0,none⟩) len cap∧i<len∧w = .pointer (some ⟨b,i,none⟩):=by
 obtain ⟨bs',hbs'⟩:=hheads v0 hb1 hb2;exact hv.single.1.2.2 _ hbs'
theorem op_lsIn {o:Oper} {k:V→Ups→Option R} {r:R} {t:TypeId} {p x:Operand} {c:Ty} {n v0 i:Nat} (cc:Ctx cx call W F E N h ρ a) (hK:KOk N h k) (ho:o.op = .store t p x) (hc:cx.ty t=some c)
  (hp:n1o (ρ p)=some (n,v0,i)) (hk:u1p cx call h c n v0 i (ρ x) (fun u=>k .undef u)=some r):a0q cx W F E N h a o k r:=by
 have hpv:=cc.ρ p;rw[c1r hp] at hpv;have hxv:=cc.ρ x;unfold u1p at hk;split at hk
 case h_2=>cases hk
 rename_i ver n' base top e xs hole x0 hn hx;split at hk
 case isFalse=>cases hk
 rename_i hcond;obtain ⟨rfl,hb1,hb2,rfl⟩:=hcond;obtain ⟨hm1,hk⟩:=a0u hk;simp only[Bool.and_eq_true] at hm1;obtain ⟨h1c,h1e⟩:=hm1;obtain ⟨hhole,hk⟩:=a0u hk;obtain ⟨hil,hk⟩:=a0u hk;have hil:=of_decide_eq_true hil;obtain ⟨hcw,hca⟩:=l0m h1c;obtain ⟨hew,hea⟩:=l0m h1e;cases hpk:c0u cx call h e [x0] with
 | none=>rw[hpk] at hk;cases hk
 | some y4 =>
 obtain ⟨y,rest,taken,lent⟩:=y4;rw[hpk] at hk;simp only[Option.bind_some] at hk;split at hk
 case h_2=>cases hk
 obtain ⟨hap,hk⟩:=a0u hk;rw[hx] at hxv;obtain ⟨v,bs,hseal,hnd,hfree,hat,htop,hheads,hNn⟩:=r1e cc.hr hn;obtain ⟨b,len,cap,rfl,hilen,hptr⟩:=sel_at hheads hb1 hb2 hpv;simp only[g0l] at hseal;rcases hseal with ⟨_,_,q,hq⟩ | ⟨b',arr,T,Os,e1,e2,e3,e4,e5,e6,rfl,e7⟩
 ·injection hq with _ hq _;omega
 injection e1 with e1 e1' e1'';injection e1 with e1;injection e1 with e1;subst e1;have hone:(a.eval x).oneCell'=true:=hxv.2.2 rfl;have hcells:=oneCell_cells hone;have hform:formed e (a.eval x):=hxv.formed (by rw[hea]) (by rw[hcells,hew];rfl);obtain ⟨O,p1,p2,_,_⟩:=f1r cc.hc cc.hr e [x0] y [] taken lent hpk _ hxv.1;have p1':RdB cx.P e y W (a0g F h E lent) O (one (a.eval x)):=RdB.congr e (fun q _=>by rw[one,Array.getElem?_toList]) p1;obtain ⟨a1,_,a3⟩:=n0n hap
 have hT:Takes F h E (n::taken) ((b::Os.flatten)++O):=Takes.append (t1:=[n]) cc.hr ⟨fun c hc=>⟨n,by simp,hat c hc⟩,hfree,fun _=>hnd⟩ p2;have hTn:=hT.nodup a1;have hle:i+(a.eval x).cells.size≤arr.size:=by rw[hcells];simp;omega
 have hrun:=i0t (v:=a.eval x) (off:=i) cc.tab hc (by rw[hcells,hcw];rfl) T.2 e2 hle (by rw[hcells];simpa using hone);have hbn:b ∉ Os.flatten++O:=by
  rw[List.cons_append,List.nodup_cons] at hTn;exact hTn.1
 have hTn2:(Os.flatten++O).Nodup:=by
  rw[List.cons_append,List.nodup_cons] at hTn;exact hTn.2
 obtain ⟨s1,s2⟩:=z0u Os i O hTn2;have hputsz:(b0m arr i (a.eval x).cells.toList).size=arr.size:=size_put (by simpa using hle);have hlen1:(a.eval x).cells.toList.length=1:=by rw[hcells];rfl
 have hput:∀q:Nat,(b0m arr i (a.eval x).cells.toList)[q]? = if q=i then some (a.eval x) else arr[q]? := by
  intro q;rw[get_put (by simpa using hle),hlen1];by_cases h1:q<i
  ·rw[if_pos h1,if_neg (by omega)]
  ·rw[if_neg h1];by_cases h2:q<i+1
   ·rw[if_pos h2,if_pos (by omega),hcells];have:q-i=0:=by omega
    rw[this];rfl
   ·rw[if_neg h2,if_neg (by omega)]
 have hl:=o0q (ns:=lent) (cs':=b0m arr i (a.eval x).cells.toList) cc.hr (hat b (by simp)) (hfree b (by simp)) (a3 n (by simp) |> fun h q=>h n q rfl);have hset:∀q,q≠b→(W.setRow b (b0m arr i (a.eval x).cells.toList)).heap[q]? = W.heap[q]? := fun q hq=>setRow_other W b q _ hq
 have hsz:(W.setRow b (b0m arr i (a.eval x).cells.toList)).heap.size=W.heap.size:=by simp
 have hsub:∀c∈b::(Os.set i O).flatten,c∈(b::Os.flatten)++O:=by
  intro c hc;rcases List.mem_cons.1 hc with rfl | hc
  ·simp
  ·rcases s2 c hc with k | k
   ·exact List.mem_append.2 (.inl (List.mem_cons_of_mem _ k))
   ·exact List.mem_append.2 (.inr k)
 have hOF:∀c∈(b::Os.flatten)++O,¬a0g F h E lent c:=by
  rintro c hc (k | ⟨q,hq,k⟩)
  ·exact hT.free c hc k
  ·obtain ⟨q',hq',k'⟩:=hT.at_ c hc;exact a3 q' hq' q hq (b0l cc.hr k' k)
 obtain ⟨E2,hop,_,_⟩:=z1e (base':=base) (xs':=xs.set i y) (v' := .slice (some ⟨b,0,none⟩) xs.length arr.size) (O':=b::(Os.set i O).flatten) cc hT htop a1 (fun q hq hq'=>a3 q hq q hq' rfl) (hK _ _ _ hk) hl
  (fun q _ hq=>hset q fun e=>hq (by subst e;simp)) (fun c hc => .inl (hsub c hc))
  (fun c hc=>by
   rw[hsz];obtain ⟨q,_,k⟩:=hT.at_ c (hsub c hc)
   exact cc.hr.lt c ⟨q,k⟩)
  (.inr ⟨b,_,⟨T.1,by rw[hputsz];exact T.2⟩,Os.set i O,by rw[List.length_set,hputsz],setRow_heap W b arr _ _ _ e2,by rw[List.length_set,hputsz];exact e3,by rw[hputsz];exact e4,v0c e5 (by rw[hcells];simpa using hone),by simpa using e6,rfl,fun q hq=>by
   have hq':q<xs.length:=by simpa using hq
   by_cases hqi:q=i
   ·subst hqi;refine ⟨a.eval x,O,by rw[hput,if_pos rfl],by rw[List.getElem?_set];simp[e6,hq'],hform,?_⟩;rw[List.getElem_set_self];exact p1'.later e hl fun z hz=>hset z fun e=>hbn (by subst e;exact List.mem_append.2 (.inr hz))
   ·obtain ⟨u,O2,w1,w2,w3⟩:=e7 q hq';have w3':formed e u∧RdB cx.P e xs[q] W F O2 (one u):=by
     cases hole with
     | none=>exact w3
     | some jc =>
      obtain ⟨j,c'⟩:=jc;have:i=j:=of_decide_eq_true hhole;dsimp only at w3;rw[if_neg (by omega)] at w3;exact w3
    refine ⟨u,O2,by rw[hput,if_neg hqi];exact w1,by rw[List.getElem?_set_ne (fun e=>hqi e.symm)];exact w2,w3'.1,?_⟩;rw[List.getElem_set_ne (fun e=>hqi e.symm)];exact RdB.later e w3'.2 ((a0z lent).trans hl) fun z hz=>hset z fun e=>hbn (by
     subst e
     exact List.mem_append.2 (.inl (List.mem_flatten.2 ⟨O2,List.mem_of_getElem? w2,hz⟩)))⟩)
  (List.nodup_cons.2 ⟨fun hb=>hbn (List.mem_append.2 (s2 b hb)),s1⟩) (fun c hc=>hOF c (hsub c hc)) (fun j hj hj'=>by rw[←e1',←e1''];exact hheads j hj hj')
 exact ⟨_,_,hk,OpOk.skip (by simp[execOp,ho,hptr,hrun]) hop⟩
end
end Go.Flat
end
section
namespace Go.Flat
open Go.RowKit (Below)
section
variable {cx:Cx} {call:Oracle cx} {fx:Hints} {W W':World} {F F':Fz} {E E':EnvM} {h:Heap} {N:Nat→Prop} {ρ:Operand→V} {a:Act} {R:Type}
theorem op_lsOut {o:Oper} {k:V→Ups→Option R} {r:R} {t:TypeId} {x:Operand} {c0:Ty} {n v0 i:Nat} (cc:Ctx cx call W F E N h ρ a) (hK:KOk N h k) (ho:o.op = .load t x) (hc0:cx.ty t=some c0)
  (hp:n1o (ρ x)=some (n,v0,i)) (hk:d1h fx h o c0 n v0 i k=some r):a0q cx W F E N h a o k r:=by
 have hpv:=cc.ρ x;rw[c1r hp] at hpv;unfold d1h at hk;split at hk
 case h_2=>cases hk
 rename_i ver n' base top e xs hn;split at hk
 case isFalse=>cases hk
 rename_i hcond;obtain ⟨rfl,hb1,hb2,rfl⟩:=hcond;obtain ⟨hm1,hk⟩:=a0u hk;simp only[Bool.and_eq_true] at hm1;obtain ⟨h1c,h1e⟩:=hm1;obtain ⟨hcw,hca⟩:=l0m h1c;obtain ⟨hew,hea⟩:=l0m h1e;cases hy:xs[i]? with
 | none=>rw[hy] at hk;cases hk
 | some y =>
 rw[hy] at hk;simp only[Option.bind_some,c0h] at hk;split at hk
 case h_2=>cases hk
 rename_i c hc;obtain ⟨hnb,hk⟩:=a0u hk;have hnb:=g0x.1 hnb;rw[List.nodup_cons] at hnb;have hKn:=hK _ _ _ hk;obtain ⟨hil,hix⟩:=List.getElem?_eq_some_iff.1 hy;obtain ⟨v,bs,hseal,hnd,hfree,hat,htop,hheads,_⟩:=r1e cc.hr hn;obtain ⟨b,len,cap,rfl,hilen,hptr⟩:=sel_at hheads hb1 hb2 hpv;simp only[g0l] at hseal;rcases hseal with ⟨_,_,q,hq⟩ | ⟨b',arr,T,Os,e1,e2,e3,e4,e5,e6,rfl,e7⟩
 ·injection hq with _ hq _;omega
 injection e1 with e1 e1' e1'';injection e1 with e1;injection e1 with e1;subst e1;obtain ⟨u,O,q1,q2,q4,q5⟩:=e7 i hil;rw[hix] at q5;have hu1:u.oneCell'=true:=q4.2.1 hea;have hcells:=oneCell_cells hu1;have hexec:(execOp a.eval o).run cx.P W = .ok (.value u) W:=by
  obtain ⟨⟨ti,t1,t2,_⟩,t3,t4,t5,t6⟩:=m0i cc.tab hc0;have hag:aggB cx.P t=false:=by rw[←t3];exact hca
  have hrun:=f0e (P:=cx.P) (W:=W) (b:=b) (o:=i) (vs:=[u]) t1 t6 (by rw[t2,hcw];rfl) (fun j hj=>by
   have:j=0:=by simpa using hj
   subst this;rw[cell_of_row W b _ arr T.1.1 T.1.2 e2]
   simpa using q1) (fun _=>rfl)
  rw[hag] at hrun;simp[execOp,ho,Instr.loadAt,hptr,Instr.sureAddr,hrun]
 have hperm:=o0w Os i O q2;rw[List.nodup_cons] at hnd;have hnd2:(O++(Os.set i []).flatten).Nodup:=hperm.nodup_iff.1 hnd.2;rw[List.nodup_append] at hnd2;have hN:=hKn n (by simp[a0d]);have hT:Takes F h E [n] (b::Os.flatten):=⟨fun c hc=>⟨n,by simp,hat c hc⟩,hfree,fun _=>List.nodup_cons.2 hnd⟩;obtain ⟨z1,z2,z3⟩:=n0m (P:=cx.P) (W':=W) (F2:=a0g F h E []) (O':=b::Os.flatten) (ls:=[]) cc.hr hT (fun m hm=>by simp at hm;subst hm;exact hN) (Later.refl W _) (fun _ _ _=>rfl) (fun b hb => .inl hb) (fun b hb => .inl hb)
 have hmem:∀c∈O,c∈b::Os.flatten:=fun c hc=>List.mem_cons_of_mem _ (hperm.mem_iff.2 (List.mem_append.2 (.inl hc)))
 obtain ⟨E1,c1,us,u1,u2,u3⟩:=j0a (P:=cx.P) h e y [] (nmOf fx o) (O:=O) (g:=one u) z1 (by rw[a0k];exact q5) hnd2.1 (fun c hc=>by rw[a0k];exact hfree c (hmem c hc)) (fun c hc=>z2 c (hmem c hc))
  (fun m hm=>by
   obtain ⟨g1,g2⟩:=hKn m (by
    simp only[a0d,List.map_cons,List.mem_cons,List.map_map];right;obtain ⟨y,hy,rfl⟩:=List.mem_map.1 hm
    exact List.mem_map.2 ⟨y,hy,rfl⟩)
   exact ⟨g1,by rw[a0l,a0l];exact g2,a0x cc.hr g1 g2⟩) hnb.2
 have htop1:E1.top n=E.top n:=c1.tops n hnb.1;have hus:us=[u]:=by
  have h0:=u2 0 (by omega);have hl:us.length=1:=by rw[u1,hew]
  match us,hl with
  | [w],_ =>
   rw[one,hcells] at h0
   simpa using h0.symm
 rw[hus,hc] at u3;have hE1:=c1.env;have c2:=c1.put (n:=n) (ver:=top+1) (O:=b::Os.flatten) (L := .tree (.slice (some ⟨b,0,none⟩) xs.length arr.size) (b::(Os.set i []).flatten)) (B := .sealed n base (top+1) (.ls e) xs (some (i,c)) false) hN.1 (by rw[a0l,a0l];exact hN.2) hnb.1 (by rw[htop])
  ⟨_,_,rfl,by rw[htop,←htop1];exact EnvM.next_m _ _ _,by rw[EnvM.next_top,htop1,htop];exact Nat.le_refl _,fun q hq hq'=>by
   rcases Nat.lt_or_ge top q with k | k
   ·have:q=E1.top n+1:=by omega
    subst this;exact ⟨_,EnvM.next_m _ _ _⟩
   ·rw[(EnvM.next_le E1 n _).m n q (by omega),hE1.m n q (by omega),←e1',←e1''];exact hheads q hq k,fun y hy=>by
   have hb:=(Array.getElem?_eq_some_iff.1 e2).1;rcases List.mem_cons.1 hy with rfl | hy
   ·exact hb
   ·exact cc.hr.lt y ⟨n,hat y (List.mem_cons_of_mem _ (hperm.mem_iff.2 (List.mem_append.2 (.inr hy))))⟩,fun _=>⟨by
   simp only[g0l];refine .inr ⟨b,arr,T,Os.set i [],rfl,e2,e3,e4,e5,by simpa using e6,rfl,fun q hq => ?_⟩;obtain ⟨u',O2,w1,w2,w4⟩:=e7 q hq;by_cases hqj:q=i
   ·subst hqj;refine ⟨u,[],q1,by rw[List.getElem?_set];simp[e6,hq],?_⟩;dsimp only;rw[if_pos rfl,hcells];exact ⟨rfl,q4,u3.later (Later.refl W _) (EnvM.next_le _ _ _)⟩
   ·refine ⟨u',O2,w1,by rw[List.getElem?_set_ne (fun e=>hqj e.symm)];exact w2,?_⟩;dsimp only;rw[if_neg hqj,a0k];exact w4,List.nodup_cons.2 ⟨fun hb=>hnd.1 (hperm.mem_iff.2 (List.mem_append.2 (.inr hb))),hnd2.2.1⟩,fun y hy=>by
   rw[a0k];rcases List.mem_cons.1 hy with rfl | hy
   ·exact hfree y (by simp)
   ·exact hfree y (List.mem_cons_of_mem _ (hperm.mem_iff.2 (List.mem_append.2 (.inr hy))))⟩⟩ hmem (fun y hy=>by
  have hy:y∈b::(Os.set i []).flatten:=hy;rcases List.mem_cons.1 hy with rfl | hy
  ·exact ⟨by simp,fun hO=>hnd.1 (hperm.mem_iff.2 (List.mem_append.2 (.inl hO))),z2 y (by simp)⟩
  ·have hy':=hperm.mem_iff.2 (List.mem_append.2 (.inr hy))
   exact ⟨List.mem_cons_of_mem _ hy',fun hO=>hnd2.2.2 y hO y hy rfl,z2 y (List.mem_cons_of_mem _ hy')⟩)
 have c3:=c2.toU;obtain ⟨E2,e21,hop⟩:=l0y (P:=cx.P) (W':=W) (F2:=a0g F h E []) (takes:=[]) (ls:=[]) (O':=b::Os.flatten) cc.hr hT (fun m hm=>by cases hm) List.nodup_nil (fun m hm => .inr (by simp at hm;subst hm;simp[a0d])) (fun m hm=>by cases hm) (Later.refl W _) (fun _ _ _=>rfl) (fun b hb => .inl hb) (fun b hb => .inl hb)
  (fun y hy=>cc.hr.lt y ⟨n,hat y hy⟩) (by simpa [c0x,a0h] using hKn) c3
 rw[a0k] at hop;have hval:RdV cx.P W F E2 (.v false [c]) u:=by
  rw[a0k] at u3;refine ⟨?_,(fun e=>by cases e),fun _=>hu1⟩;rw[hcells];exact u3.later (Later.refl W _) ((EnvM.next_le _ _ _).trans e21)
 exact ⟨_,_,hk,OpOk.of hexec hop hval⟩
theorem ls_src {P:Program} {e:Ty} {zs:List (El e)} {bs:List Nat} {w:Value} {Q:Nat→El e→List Nat→Value→Prop} (h:LsRd zs W bs w Q) :
  ∃(news:List Value) (Os:List (List Nat)),Src P W 1 w zs.length news∧Os.length=zs.length∧(∀c∈Os.flatten,c∈bs)∧(bs.Nodup→Os.flatten.Nodup)∧∀i (hi:i<zs.length),∃u O,news[i]? = some u∧Os[i]? = some O∧Q i zs[i] O u:=by
 rcases h with ⟨rfl,rfl,p,rfl⟩ | ⟨b,arr,T,Os,rfl,e2,e3,e4,e5,e6,rfl,e7⟩
 ·refine ⟨[],[],⟨rfl,fun w' _ => ?_,rfl,fun u hu=>(by cases hu)⟩,rfl,fun c hc=>(by cases hc),fun _=>List.nodup_nil,fun i hi=>(by cases hi)⟩;cases p with
  | none=>simp[Builtin.firstCells]
  | some p=>simp[Builtin.firstCells,loadCells,loadCellsFrom]
 ·have htl:(arr.toList.take zs.length).length=zs.length:=by
   have:arr.toList.length=arr.size:=Array.length_toList;rw[List.length_take];omega
  refine ⟨arr.toList.take zs.length,Os,⟨rfl,fun w' hw' => ?_,by rw[htl];simp,fun u hu=>e5 u (List.mem_of_mem_take hu)⟩,e6,fun c hc=>List.mem_cons_of_mem _ hc,fun hn=>(List.nodup_cons.1 hn).2,fun i hi => ?_⟩
  ·refine run_firstCells_some w' 1 _ ⟨b,0,none⟩ _ _ _ (by rw[htl];simp) (fun j u hu => ?_);rw[hw',addr_add,cell_of_row W b _ arr T.1.1 T.1.2 e2];rw[List.getElem?_take] at hu;split at hu
   ·simpa using hu
   ·cases hu
  ·obtain ⟨u,O,k1,k2,k3⟩:=e7 i hi;exact ⟨u,O,by rw[List.getElem?_take,if_pos hi,Array.getElem?_toList];exact k1,k2,k3⟩
theorem op_lsApp {o:Oper} {cl:Go.Call} {k:V→Ups→Option R} {r:R} {p q:Operand} {n v0:Nat} (cc:Ctx cx call W F E N h ρ a) (hK:KOk N h k) (ho:o.op = .call cl) (hc:cl.callee = .builtin .append)
  (hargs:cl.args = #[p,q]) (hp:ρ p = .v false [.sl n v0]) (hk:d1i cx h cl.argTypes n v0 (ρ q) k=some r):a0q cx W F E N h a o k r:=by
 have hpv:=cc.ρ p;rw[hp] at hpv;have hqv:=cc.ρ q;unfold d1i at hk;split at hk
 case h_2=>cases hk
 rename_i et m v1 hsh hx;rw[o0f hx] at hqv;split at hk
 case h_2=>cases hk
 rename_i ct ver n' base top e0 xs ver2 m' base2 top2 e ys hct hn hm;split at hk
 case isFalse=>cases hk
 rename_i hcond;obtain ⟨⟨rfl,hb1,hb2,rfl⟩,⟨rfl,hb3,hb4,rfl⟩,hnm⟩:=hcond;split at hk
 case h_2=>cases hk
 rename_i zs hz;obtain ⟨he,hzs⟩:=a0s hz;injection he with he;subst he;simp only at hzs;subst hzs;obtain ⟨hm1,hk⟩:=a0u hk;simp only[Bool.and_eq_true] at hm1;obtain ⟨hnz,hw1,h1e,hb0⟩:=hm1;obtain ⟨hbytes,hk⟩:=a0u hk;have hbytes:=of_decide_eq_true hbytes;have hw1:=Nat.eq_of_beq_eq_true hw1;have hb0:0<cx.bytes et:=by simpa [Nat.blt_eq] using hb0
 obtain ⟨hew,hea⟩:=l0m h1e;obtain ⟨t,ht,hs⟩:∃t,cl.argTypes[0]? = some t∧cx.shp t = .slice et:=by
  cases ht:cl.argTypes[0]? with
  | none=>rw[ht] at hsh;cases hsh
  | some t=>rw[ht] at hsh;exact ⟨t,rfl,by simpa using hsh⟩
 obtain ⟨ti,z,t1,t2,t3,t4,t5,t6,_⟩:=h1h cc.tab hct;have hnz:=d1a cc.tab hnz;have hu:=c0z cc.tab hs;have hlen:xs.length+zs.length≤maxLen:=by
  have:xs.length+zs.length≤(xs.length+zs.length)*cx.bytes et:=Nat.le_mul_of_pos_right _ hb0;simp only[maxLen];omega
 obtain ⟨v,bs,hseal,hnd,hfree,hat,htop,hheads,hNn⟩:=r1e cc.hr hn;obtain ⟨w,bs2,hseal2,hnd2,hfree2,hat2,htop2,hheads2,hNm⟩:=r1e cc.hr hm;have hv:=sl_val hheads hb1 hb2 hpv;have hw:=sl_val hheads2 hb3 hb4 hqv;simp only[g0l] at hseal hseal2;have hT:Takes F h E [n,m] (bs++bs2):=Takes.append (t1:=[n]) (t2:=[m]) cc.hr ⟨fun c hc=>⟨n,by simp,hat c hc⟩,hfree,fun _=>hnd⟩ ⟨fun c hc=>⟨m,by simp,hat2 c hc⟩,hfree2,fun _=>hnd2⟩;have hnmd:[n,m].Nodup:=by simp[hnm]
 have hTn:=hT.nodup hnmd;obtain ⟨news,Os2,hsrc,ol2,os2,on2,hy⟩:=ls_src (P:=cx.P) hseal2;have hTl:=hTn;rw[List.nodup_append] at hTn;obtain ⟨_,_,hdj⟩:=hTn;have hsrc':Src cx.P W ti.size (a.eval q) zs.length news:=by rw[t2,hw1,hw];exact hsrc
 have hnl:news.length=zs.length:=by have:=hsrc.size;omega
 have fin:∀ {v':Value} {W':World} {O':List Nat},(Builtin.append_ cl.argTypes o.type #[a.eval p,a.eval q]).run cx.P W = .ok v' W' →
   Later W (a0g F h E []) W' (a0g F h E [])→(∀c,c<W.heap.size→c ∉ bs++bs2→W'.heap[c]? = W.heap[c]?)→(∀c∈O',c∈bs++bs2∨W.heap.size≤c)→(∀c∈O',c<W'.heap.size) →
   LsRd (xs++zs) W' O' v' (fun _ y O u=>formed e u∧RdB cx.P e y W' (a0g F h E []) O (one u))→O'.Nodup→v'.oneCell'=true→a0q cx W F E N h a o k r:=by
  intro v' W' O' hrun hl hframe hsub hlt hls hnd' h1;obtain ⟨E2,hop,hm2,htop2⟩:=z1e (base':=top+1) (takes:=[m]) (lent:=[]) cc hT htop hnmd (fun q _ hq'=>by cases hq') (by simpa [a0h] using hK _ _ _ hk) hl hframe hsub hlt hls hnd'
   (fun c hc=>by
    rw[a0k];intro hf;rcases hsub c hc with q | q
    ·exact hT.free c q hf
    ·have:=cc.hF c hf;omega) (fun j hj hj'=>by omega)
  rw[a0k] at hop;refine ⟨_,_,hk,OpOk.of (v:=v') ?_ (by simpa [a0h] using hop) (RdV.mk1 ⟨htop2,⟨_,hm2⟩,fun L hL => ?_⟩ h1)⟩
  ·simp[execOp,ho,resolve,hc,hargs,invoke,builtin,hrun]
  ·rw[hm2] at hL;injection hL with hL;subst hL;rfl
 have grow:∀ {b:Option Addr} {cap:Nat} {olds:List Value} {Os:List (List Nat)},v = .slice b xs.length cap→cap<xs.length+zs.length →
   (∀w':World,(∀a,w'.cell? a=W.cell? a)→(Builtin.firstCells ti.size xs.length (.slice b xs.length cap)).run cx.P w' = .ok olds.toArray w') →
   olds.length=xs.length→(∀u∈olds,u.oneCell'=true)→Os.length=xs.length→(∀c∈Os.flatten,c∈bs)→Os.flatten.Nodup →
   (∀i (hi:i<xs.length),∃u O,olds[i]? = some u∧Os[i]? = some O∧(formed e u∧RdB cx.P e xs[i] W F O (one u)))→a0q cx W F E N h a o k r:=by
  intro b cap olds Os hvs hcap hold h1 h2 h3 h4 h5 h6;have hrun:=m0s (ty:=o.type) ht hnz hu t1 t4 hsrc' hcap (by rw[t3];exact hb0) (by rw[t3];exact hbytes) hold;rw[←hvs,←hv] at hrun;have hge:=grownCap_ge W (xs.length+zs.length) cap et;have hmax:grownCap W (xs.length+zs.length) cap et≤maxLen:=grownCap_le_maxLen W _ _ et hlen;have hzs:(Builtin.zeroCells z.cells (grownCap W (xs.length+zs.length) cap et-(xs.length+zs.length))).toList.length=grownCap W (xs.length+zs.length) cap et-(xs.length+zs.length):=by
   rw[Array.length_toList,size_zeroCells,t5,hw1,Nat.mul_one]
  have hlist:(d0d W z.cells olds news (xs.length+zs.length) cap et).toList=olds++(news++(Builtin.zeroCells z.cells (grownCap W (xs.length+zs.length) cap et-(xs.length+zs.length))).toList):=by
   simp[d0d]
  have hsz:(d0d W z.cells olds news (xs.length+zs.length) cap et).size=grownCap W (xs.length+zs.length) cap et:=by
   rw[←Array.length_toList,hlist,List.length_append,List.length_append,h1,hnl,hzs];omega
  have hget:∀i:Nat,(d0d W z.cells olds news (xs.length+zs.length) cap et)[i]? = (olds++(news++(Builtin.zeroCells z.cells (grownCap W (xs.length+zs.length) cap et-(xs.length+zs.length))).toList))[i]? := by
   intro i;rw[←hlist,Array.getElem?_toList]
  have hl:Later W (a0g F h E []) (W.drew.alloc (.cells (d0d W z.cells olds news (xs.length+zs.length) cap et) et)) (a0g F h E []):=⟨rfl,rfl,rfl,by simp,fun b hb=>i0o W.drew _ b (by rw[a0k] at hb;exact cc.hF b hb),fun _ hb=>hb⟩;have hold':∀c,c<W.heap.size→(W.drew.alloc (.cells (d0d W z.cells olds news (xs.length+zs.length) cap et) et)).heap[c]? = W.heap[c]? := fun c hc=>i0o W.drew _ c hc
  have hin:∀c∈(Os++Os2).flatten,c∈bs++bs2:=fun c hc=>by
   rw[List.flatten_append,List.mem_append] at hc;exact List.mem_append.2 (hc.imp (h4 c) (os2 c))
  have hlts:∀c∈bs++bs2,c<W.heap.size:=fun c hc=>by
   obtain ⟨q,_,k⟩:=hT.at_ c hc;exact cc.hr.lt c ⟨q,k⟩
  refine fin (O':=W.heap.size::(Os++Os2).flatten) hrun hl (fun c hc _=>hold' c hc) (fun c hc => ?_) (fun c hc => ?_) (.inr ⟨W.heap.size,_,⟨(et,(0,0)),.inl rfl⟩,Os++Os2,by rw[List.length_append,hsz],m0a W.drew _,by rw[List.length_append,hsz];exact hge,by rw[hsz];exact ⟨hmax,by omega⟩,?_,by rw[List.length_append,List.length_append,h3,ol2],rfl,fun i hi => ?_⟩)
   (List.nodup_cons.2 ⟨fun hc=>by have:=hlts _ (hin _ hc);omega,?_⟩) rfl
  ·rcases List.mem_cons.1 hc with rfl | hc
   ·exact .inr (Nat.le_refl _)
   ·exact .inl (hin c hc)
  ·rcases List.mem_cons.1 hc with rfl | hc
   ·simp
   ·have:=hlts c (hin c hc);simp;omega
  ·intro u hu;rw[hlist] at hu;rcases List.mem_append.1 hu with hu | hu
   ·exact h2 u hu
   ·rcases List.mem_append.1 hu with hu | hu
    ·exact hsrc.one u hu
    ·exact p0w (n:=(grownCap W (xs.length+zs.length) cap et-(xs.length+zs.length))*z.cells.size) t6 (by omega) u hu
  ·rw[List.length_append] at hi;by_cases hix:i<xs.length
   ·obtain ⟨u,O,k1,k2,k3,k4⟩:=h6 i hix;refine ⟨u,O,by rw[hget,List.getElem?_append_left (by omega)];exact k1,by rw[List.getElem?_append_left (by omega)];exact k2,k3,?_⟩;rw[List.getElem_append_left hix];exact RdB.later e k4 ((a0z []).trans hl) fun c hc=>hold' c (RdB.lt e k4 c hc)
   ·obtain ⟨u,O,k1,k2,k3,k4⟩:=hy (i-xs.length) (by omega);refine ⟨u,O,by rw[hget,List.getElem?_append_right (by omega),h1,List.getElem?_append_left (by omega)];exact k1,by rw[List.getElem?_append_right (by omega),h3];exact k2,k3,?_⟩;rw[List.getElem_append_right (by omega)];exact RdB.later e k4 ((a0z []).trans hl) fun c hc=>hold' c (RdB.lt e k4 c hc)
  ·rw[List.flatten_append,List.nodup_append];exact ⟨h5,on2 hnd2,fun c hc d hd=>hdj c (h4 c hc) d (os2 d hd)⟩
 rcases hseal with ⟨rfl,rfl,ad,rfl⟩ | ⟨b,arr,T,Os,rfl,e2,e3,e4,e5,e6,rfl,e7⟩
 ·rcases Nat.eq_zero_or_pos zs.length with hy0 | hy0
  ·have hyn:zs=[]:=List.eq_nil_of_length_eq_zero hy0;have hn0:news=[]:=List.eq_nil_of_length_eq_zero (by omega);have hrun:=f0v (P:=cx.P) (W:=W) (W':=W) (ty:=o.type) (n:=0) (cap:=0) (b:=ad) ht hnz hu t1 hsrc' (by omega) (fun ad _=>by rw[hn0];simp[storeCells]) (fun _=>rfl);rw[←hv,hy0] at hrun;exact fin (O':=[]) hrun (Later.refl W _) (fun _ _ _=>rfl) (fun c hc=>by cases hc) (fun c hc=>by cases hc) (.inl ⟨by simp[hyn],rfl,ad,rfl⟩) List.nodup_nil rfl
  ·refine grow (b:=ad) (cap:=0) (olds:=[]) (Os:=[]) rfl (by simpa using hy0) (fun w' _ => ?_) rfl (fun u hu=>by cases hu) rfl (fun c hc=>by cases hc) List.nodup_nil (fun i hi=>by simp at hi);cases ad with
   | none=>simp[Builtin.firstCells]
   | some ad=>simp[Builtin.firstCells,loadCells,loadCellsFrom]
 ·by_cases hfit:xs.length+zs.length≤arr.size
  ·have hle:xs.length+news.length≤arr.size:=by omega
   have hst:=e0g (P:=cx.P) b xs.length T.1.1 news 0 arr W T.2 e2 (by simpa using hle) hsrc.one;simp only[Nat.add_zero] at hst;have hrun:=f0v (P:=cx.P) (W:=W) (W':=W.setRow b (b0m arr xs.length news)) (ty:=o.type) (b:=some ⟨b,0,none⟩) ht hnz hu t1 hsrc' hfit
    (fun ad hd=>by injection hd with hd;subst hd;rw[addr_add,t2,hw1,Nat.mul_one,Nat.zero_add];exact hst) (fun e=>by cases e)
   rw[←hv] at hrun;have hl:=o0q (ns:=[]) (cs':=b0m arr xs.length news) cc.hr (hat b (by simp)) (hfree b (by simp)) (by simp);have hset:∀q,q≠b→(W.setRow b (b0m arr xs.length news)).heap[q]? = W.heap[q]? := fun q hq=>setRow_other W b q _ hq
   have hsz:(W.setRow b (b0m arr xs.length news)).heap.size=W.heap.size:=by simp
   have hpsz:(b0m arr xs.length news).size=arr.size:=size_put hle;have hbn:b ∉ Os.flatten++bs2:=by
    rw[List.cons_append,List.nodup_cons] at hTl;exact hTl.1
   have hin:∀c∈(Os++Os2).flatten,c∈Os.flatten++bs2:=fun c hc=>by
    rw[List.flatten_append,List.mem_append] at hc;exact List.mem_append.2 (hc.imp id (os2 c))
   refine fin (O':=b::(Os++Os2).flatten) hrun hl (fun c _ hc=>hset c fun e=>hc (by subst e;simp)) (fun c hc => .inl ?_) (fun c hc => ?_)
    (.inr ⟨b,_,⟨T.1,by rw[hpsz];exact T.2⟩,Os++Os2,by rw[List.length_append,hpsz],setRow_heap W b arr _ _ _ e2,by rw[List.length_append,hpsz];exact hfit,by rw[hpsz];exact e4,v0c e5 hsrc.one,by rw[List.length_append,List.length_append,e6,ol2],rfl,fun i hi => ?_⟩)
    (List.nodup_cons.2 ⟨fun hc=>hbn (hin b hc),?_⟩) rfl
   ·rcases List.mem_cons.1 hc with rfl | hc
    ·simp
    ·rw[List.cons_append];exact List.mem_cons_of_mem _ (hin c hc)
   ·rw[hsz];have:c∈(b::Os.flatten)++bs2:=by
     rcases List.mem_cons.1 hc with rfl | hc
     ·simp
     ·rw[List.cons_append];exact List.mem_cons_of_mem _ (hin c hc)
    obtain ⟨q,_,k⟩:=hT.at_ c this;exact cc.hr.lt c ⟨q,k⟩
   ·rw[List.length_append] at hi;by_cases hix:i<xs.length
    ·obtain ⟨u,O,k1,k2,k3,k4⟩:=e7 i hix;refine ⟨u,O,by rw[get_put hle,if_pos hix];exact k1,by rw[List.getElem?_append_left (by omega)];exact k2,k3,?_⟩;rw[List.getElem_append_left hix];exact RdB.later e k4 ((a0z []).trans hl) fun c hc=>hset c fun e=>hbn (by
      subst e;exact List.mem_append.2 (.inl (List.mem_flatten.2 ⟨O,List.mem_of_getElem? k2,hc⟩)))
    ·obtain ⟨u,O,k1,k2,k3,k4⟩:=hy (i-xs.length) (by omega);refine ⟨u,O,by rw[get_put hle,if_neg hix,if_pos (by omega)];exact k1,by rw[List.getElem?_append_right (by omega),e6];exact k2,k3,?_⟩;rw[List.getElem_append_right (by omega)];exact RdB.later e k4 ((a0z []).trans hl) fun c hc=>hset c fun e=>hbn (by
      subst e;exact List.mem_append.2 (.inr (os2 _ (List.mem_flatten.2 ⟨O,List.mem_of_getElem? k2,hc⟩))))
   ·rw[List.flatten_append,List.nodup_append];rw[List.nodup_cons] at hnd;exact ⟨hnd.2,on2 hnd2,fun c hc d hd=>hdj c (List.mem_cons_of_mem _ hc) d (os2 d hd)⟩
  ·have htl:(arr.toList.take xs.length).length=xs.length:=by
    have:arr.toList.length=arr.size:=Array.length_toList;rw[List.length_take];omega
   refine grow (b:=some ⟨b,0,none⟩) (cap:=arr.size) (olds:=arr.toList.take xs.length) (Os:=Os) rfl (by omega) (fun w' hw' => ?_) htl (fun u hu=>e5 u (List.mem_of_mem_take hu)) e6 (fun c hc=>List.mem_cons_of_mem _ hc) (List.nodup_cons.1 hnd).2 (fun i hi => ?_)
   ·refine run_firstCells_some w' ti.size _ ⟨b,0,none⟩ _ _ _ (by rw[htl,t2,hw1];simp) (fun j u hu => ?_);rw[hw',addr_add,cell_of_row W b _ arr T.1.1 T.1.2 e2];rw[List.getElem?_take] at hu;split at hu
    ·simpa using hu
    ·cases hu
   ·obtain ⟨u,O,k1,k2,k3⟩:=e7 i hi;exact ⟨u,O,by rw[List.getElem?_take,if_pos hi,Array.getElem?_toList];exact k1,k2,k3⟩
end
end Go.Flat
end
section
namespace Go.Flat
open Go.RowKit (Below)
section
variable {cx:Cx} {call:Oracle cx} {fx:Hints} {W W':World} {F F':Fz} {E E':EnvM} {h:Heap} {N:Nat→Prop} {ρ:Operand→V} {a:Act} {R:Type}
theorem argT {ts:Array TypeId} {s:Shp} (h:(ts[0]?).map cx.shp=some s):∃t,ts[0]? = some t∧cx.shp t=s:=by
 cases ht:ts[0]? with
 | none=>rw[ht] at h;cases h
 | some t=>rw[ht] at h;injection h with h;exact ⟨t,rfl,h⟩
theorem i1h {o:Oper} {cl:Go.Call} {b:Builtin} {k:V→Ups→Option R} {r:R} (cc:Ctx cx call W F E N h ρ a) (hK:KOk N h k) (ho:o.op = .call cl) (hc:cl.callee = .builtin b)
  (hk:q0b cx call fx h o b cl.argTypes (cl.args.toList.map ρ) k=some r):a0q cx W F E N h a o k r:=by
 unfold q0b at hk;split at hk
 ·rename_i c ha;split at hk
  ·rename_i s hs;exact op_len cc ho hc ha hs hk
  ·cases hk
 ·rename_i cs ha;split at hk
  ·rename_i n e hs;exact y1y cc ho hc ha hs hk
  ·cases hk
 ·rename_i kd m kd' n ha;exact op_min cc ho hc ha hk
 ·rename_i kd m kd' n ha;exact op_max cc ho hc ha hk
 ·rename_i kd m kd' n kd'' l ha;exact op_min3 cc ho hc ha hk
 ·rename_i kd m kd' n kd'' l ha;exact op_max3 cc ho hc ha hk
 ·rename_i s x ha;obtain ⟨p,q,hargs,hp,hq⟩:=args2 ha;split at hk
  ·rename_i pp hpp;exact op_lsApp (n:=pp.1) (v0:=pp.2) cc hK ho hc hargs (hp.trans (o0f hpp)) (by rw[hq];exact hk)
  split at hk
  ·rename_i et hs hz;split at hk
   case h_2=>cases hk
   rename_i e he;cases hw:f0d cx et e&&Nat.blt 0 (cx.bytes et) with
   | false=>rw[hw] at hk;cases hk
   | true =>
    rw[hw] at hk;obtain ⟨t,ht,hs'⟩:=argT hs;refine y1z (fx:=fx) cc hK ho hc hargs ht hs' hz he hw ?_;rw[hp,hq];exact hk
  ·cases hk
 ·rename_i d s ha;obtain ⟨p,q,hargs,hp,hq⟩:=args2 ha;split at hk
  ·rename_i et hs;split at hk
   case h_2=>cases hk
   rename_i e0 he;obtain ⟨t,ht,hs'⟩:=argT hs;exact op_copy cc ho hc hargs ht hs' he hp hq hk
  ·cases hk
 ·rename_i d ha;obtain ⟨p,hargs,hp⟩:=args1 ha;split at hk
  ·rename_i et hs;obtain ⟨t,ht,hs'⟩:=argT hs;split at hk
   ·exact o1h cc ho hc hargs ht hp ⟨_,c0z cc.tab hs'⟩ hk
   ·split at hk
    case h_2=>cases hk
    rename_i e0 he;exact op_clear cc ho hc hargs ht hs' he hp hk
  ·rename_i kt et hs;obtain ⟨t,ht,hs'⟩:=argT hs;split at hk
   case h_2=>cases hk
   rename_i n v0;split at hk
   case h_2=>cases hk
   rename_i ver n' base top ck e xs hn;split at hk
   case isFalse=>cases hk
   rename_i hcond;obtain ⟨rfl,hb1,hb2,rfl⟩:=hcond;exact o1i cc hK ho hc hargs ht hs' hp hn hb1 hb2 hk
  ·cases hk
 ·cases hk
theorem c2c {kind:Nat} {ty:Option Ty} {x y:V} {kk:Cell→Option R} {r:R} (h:binK kind ty .mul x y kk=some r):binK kind ty .mul y x kk=some r:=by
 unfold binK at h;split at h
 ·rename_i k a k' b;split at h
  ·rename_i hk;have:k=k':=hk.resolve_right (by decide);subst this;unfold binK;simp only[true_or,if_true];simp only[binI] at h ⊢;rw[Int.mul_comm];exact h
  ·cases h
 ·simp[binS] at h
 ·split at h
  ·rename_i heq;cases heq
  ·rename_i heq;cases heq
  ·cases h
 ·split at h
  ·rename_i heq _;cases heq
  ·rename_i heq _;cases heq
  ·cases h
theorem d1p {o:Oper} {k:V→Ups→Option R} {r:R} (cc:Ctx cx call W F E N h ρ a) (hfn:FnOk cx call) (hK:KOk N h k) (hk:evOp cx call fx o ρ h k=some r):a0q cx W F E N h a o k r:=by
 unfold evOp at hk;dsimp only at hk;split at hk
 ·rename_i x ho;exact y1w cc (.inl ho) hk
 ·rename_i x ho;exact y1w cc (.inr ho) hk
 ·rename_i z x y ho;split at hk
  ·rename_i b hz;exact op_pick cc ho hz hk
  ·cases hk
 ·rename_i t ho;split at hk
  ·rename_i e hs;exact o1l (fx:=fx) cc hK ho hs hk
  ·split at hk
   ·rename_i c ht;split at hk
    ·rename_i e z n hrow;cases hown:b1d fx o with
     | false=>rw[hown] at hrow;cases hrow
     | true=>rw[hown] at hrow;exact o1k (fx:=fx) cc hK ho ht hrow hk
    ·exact op_alloc (fx:=fx) cc hK ho ht hk
   ·cases hk
 ·rename_i t x ho;split at hk
  ·rename_i c ag cs ht hx;split at hk
   ·rename_i hl;exact op_box (fx:=fx) cc hK ho hx hl hk
   ·cases hk
  ·cases hk
 ·rename_i t ps ho;split at hk
  case h_2=>cases hk
  rename_i c ht;split at hk
  ·rename_i fs hs;split at hk
   ·rename_i cs hb hall;exact b1e cc ho ht hs hb hall hk
   ·cases hk
  ·rename_i n e hs;split at hk
   ·rename_i cs hb hall;exact o1j cc ho ht hs hb hall hk
   ·cases hk
  ·cases hk
 ·rename_i t n ps ho;split at hk
  case h_2=>cases hk
  rename_i et hs;split at hk
  case h_2=>cases hk
  rename_i e he;split at hk
  case h_2=>cases hk
  rename_i ls hp hw;split at hk
  ·rename_i e' hls;exact u1j (fx:=fx) cc hK ho hs he hp hw hls hk
  split at hk
  case h_2=>cases hk
  rename_i xs lent hx;exact f1u (fx:=fx) cc hK ho hs he hp hw hx hk
 ·rename_i t x ho;split at hk
  ·rename_i pp hpp;split at hk
   case h_2=>cases hk
   rename_i c ht;exact op_lsOut (fx:=fx) (n:=pp.1) (v0:=pp.2.1) (i:=pp.2.2) cc hK ho ht hpp hk
  split at hk
  ·rename_i c d ht hx;exact op_load cc.deRow ho ht hx hk
  ·cases hk
 ·rename_i t p x ho;split at hk
  ·rename_i pp hpp;split at hk
   case h_2=>cases hk
   rename_i c ht;exact op_lsIn (n:=pp.1) (v0:=pp.2.1) (i:=pp.2.2) cc hK ho ht hpp hk
  split at hk
  ·rename_i c pc ag new ht hp hx;split at hk
   ·rename_i hw;exact op_store cc.deRow ho ht hp hx hw hk
   ·cases hk
  ·cases hk
 ·rename_i x ho;split at hk
  ·rename_i c hx;split at hk
   ·rename_i hn;exact o1f cc ho hx hn hk
   ·cases hk
  ·cases hk
 ·rename_i op t x y yt ho;cases hy:t0r y with
  | true=>rw[hy] at hk;exact op_nilSl cc ho hy hk
  | false =>
   rw[hy] at hk;simp only[cond_false] at hk;cases hz:z0o y with
   | true=>rw[hz] at hk;exact op_nilIf cc ho hz hk
   | false =>
   rw[hz] at hk;simp only[cond_false] at hk;cases hm:isMul op&&c2d y with
   | false=>rw[hm] at hk;exact r1a cc ho hk
   | true =>
    rw[hm] at hk;simp only[cond_true] at hk;rw[Bool.and_eq_true] at hm;cases op<;>first | (exact absurd hm.1 (by decide)) | exact r1a cc ho (c2c hk)
 ·rename_i op t x ho;exact op_unOp cc ho hk
 ·rename_i s d x ho;split at hk
  ·rename_i k0 kd k1 n hs hd hx;exact u1i cc ho hs hd hx hk
  ·rename_i b hs hd hx;exact u1g cc ho hs hd hx hk
  ·rename_i et b hs hd hx;split at hk
   ·rename_i he;cases hown:b1d fx o with
    | true =>
     rw[hown] at hk;obtain ⟨hlen,hk⟩:=a0u hk;exact u1h cc hK ho hs hd he hx (of_decide_eq_true hlen) hk
    | false =>
     rw[hown] at hk;exact k1n cc ho hs hd he hx hk
   ·cases hk
  ·rename_i et c hs hd hx;split at hk
   ·rename_i he;exact f1t cc ho hs hd he hx hk
   ·cases hk
  ·cases hk
 ·rename_i f first caps ho
  split at hk
  ·split at hk
   ·rename_i l h0 hc;exact u1d cc ho h0 hc hk
   ·cases hk
  split at hk
  ·rename_i t v lent h0 hc;exact o1g cc ho h0 hc hk
  ·cases hk
 ·rename_i t l c ho;split at hk
  case h_2=>cases hk
  rename_i et hs;split at hk
  case h_2=>cases hk
  rename_i e n m he hl hm;split at hk
  case h_2=>cases hk
  rename_i z hz hw;exact k1l (fx:=fx) cc hK ho hs he hl hm hz hw hk
 ·rename_i t x lo hi mx ho;split at hk
  ·rename_i hs;exact y1s cc ho hs hk
  ·rename_i et hs;split at hk
   ·rename_i ti hti;obtain ⟨ti',h1,_⟩:=(cc.tab et ti hti).info;exact y1u cc ho hs ⟨ti',h1⟩ hk
   ·cases hk
  ·rename_i n et hs;split at hk
   ·exact y1v cc ho hs hk
   ·exact y1t cc ho hs hk
  ·cases hk
 ·rename_i s x f ho;split at hk
  ·rename_i off ft c hf hx;cases hz:Nat.beq (cx.cells ft) 0 with
   | true=>rw[hz] at hk;cases hk
   | false =>
    rw[hz] at hk;simp only[cond_false] at hk;split at hk
    ·exact o0p cc ho hf hx hz rfl hk
    ·exact o0p cc ho hf hx hz rfl hk
    ·exact o0p cc ho hf hx hz rfl hk
    ·cases hk
  ·cases hk
 ·rename_i s x f ho;split at hk
  ·rename_i off ft cs hf hx;split at hk
   case h_2=>cases hk
   rename_i c hc;split at hk
   ·rename_i cs' hcut;exact op_field cc ho hf hx hc hcut hk
   ·cases hk
  ·cases hk
 ·rename_i t x i ho;split at hk
  ·rename_i n hi;exact k1m cc.deRow ho (k1y hi) hk
  ·cases hk
 ·rename_i t x i ho;split at hk
  ·rename_i n hi;exact op_index cc ho hi hk
  ·cases hk
 ·rename_i x i ho;split at hk
  ·rename_i vs hx;split at hk
   ·rename_i ag cs hi;exact u1f cc ho hx hi hk
   ·cases hk
  ·cases hk
 ·rename_i t ho;split at hk
  ·rename_i kt e ht;exact u1c (fx:=fx) cc hK ho hk
  ·cases hk
 ·rename_i t x i ok ho;split at hk
  case h_2=>cases hk
  rename_i kt et n v0 kc key hs hx hi;split at hk
  ·rename_i ver n' base top ck e xs hn;split at hk
   case isFalse=>cases hk
   rename_i hcond;obtain ⟨rfl,hb1,hb2,rfl⟩:=hcond;split at hk
   case h_2=>cases hk
   rename_i key' hce;obtain ⟨ex,rfl⟩:=a0s hce;subst ex;obtain ⟨hm,hk2⟩:=a0u hk;simp only[Bool.and_eq_true] at hm;cases ok with
   | true=>cases hm.1
   | false=>exact y1x cc hK ho hs hx hi hn hb1 hb2 hm.2.1 hm.2.2 hk2
  ·rename_i ver n' base top ck kd xs hn;split at hk
   case isFalse=>cases hk
   rename_i hcond;obtain ⟨rfl,hb1,hb2,rfl⟩:=hcond;split at hk
   case h_2=>cases hk
   rename_i key' hce;obtain ⟨ex,rfl⟩:=a0s hce;subst ex;obtain ⟨hm,hk2⟩:=a0u hk;simp only[Bool.and_eq_true] at hm;exact u1e cc ho hs hx hi hn hb1 hb2 hm.1 hm.2 hk2
  ·cases hk
 ·rename_i t m i v ho;split at hk
  case h_2=>cases hk
  rename_i kt et n v0 kc key c hs hx hi hv;split at hk
  case h_2=>cases hk
  rename_i ver n' base top ck e xs hn;split at hk
  case isFalse=>cases hk
  rename_i hcond;obtain ⟨rfl,hb1,hb2,rfl⟩:=hcond;split at hk
  case h_2=>cases hk
  rename_i key' hce;obtain ⟨ex,rfl⟩:=a0s hce;subst ex;obtain ⟨hm,hk⟩:=a0u hk;simp only[Bool.and_eq_true,Bool.not_eq_true'] at hm;cases hp:c0u cx call h e [c] with
  | none=>rw[hp] at hk;cases hk
  | some y =>
   rw[hp] at hk;simp only[Option.bind_some] at hk;obtain ⟨y1,y2,y3,y4⟩:=y;dsimp only at hk;cases y2 with
   | cons=>cases hk
   | nil =>
   obtain ⟨hap,hk2⟩:=a0u hk;exact k1k cc hK ho hs hx hi hv hn hb1 hb2 hm.1 (Nat.eq_of_beq_eq_true hm.2.1) hm.2.2 hp hap hk2
 ·rename_i c ho;split at hk
  ·rename_i b hc;exact i1h (fx:=fx) cc hK ho hc hk
  ·rename_i f hc;split at hk
   ·rename_i e he;exact op_ext cc ho hc he hk
   ·exact op_call (fx:=fx) cc hfn hK ho hc hk
  ·rename_i z hc;split at hk
   ·rename_i c' hz;exact op_callV cc ho ‹_› hz hk
   ·cases hk
  ·cases hk
 ·cases hk
theorem r1u {o:Oper} {k:V→Ups→Option R} {r:R} {ρ:Operand→V} {h:Heap} (hk:evOp cx call fx o ρ h k=some r) (rd:Option Nat) (e:Operand→Value):o.semAt rd e=execOp e o:=by
 refine Oper.semAt_eq rd e o fun c hc => ?_
 unfold evOp at hk;rw[hc] at hk;cases hk
end
end Go.Flat
end
section
namespace Go.Flat
open Go.RowKit (Below)
structure Slots where
 nt:Nat
 K:List Nat
 kv:Nat→Value
 I:EnvM→Prop
 up:∀E E',I E→EnvLe E E'→I E'
 md:Bool
def Slots.may (S:Slots) (d:Nat):Prop:=d<S.nt∧d ∉ S.K
structure DefOk (n0:Nat) (W:World) (F:Fz) (live:Nat→Prop) (ds:List Deferred):Prop where
 nodup:ds.Nodup
 at_:∀d∈ds,∃D,d = { target := .collected D,args := #[] }∧W.heap[D]? = some (.deferred (some []))∧n0≤D∧¬F D∧¬live D
theorem DefOk.nil {n0:Nat} {W:World} {F:Fz} {live:Nat→Prop}:DefOk n0 W F live []:=⟨List.nodup_nil,fun d hd=>by cases hd⟩
theorem DefOk.turn {n0:Nat} {W W':World} {F F':Fz} {live live':Nat→Prop} {ds:List Deferred} (h:DefOk n0 W F live ds)
  (hs:∀D,D<W.heap.size→n0≤D→¬F D→¬live D→W.heap[D]? = some (.deferred (some []))→W'.heap[D]? = W.heap[D]? ∧ ¬F' D∧¬live' D):DefOk n0 W' F' live' ds :=
 ⟨h.nodup,fun d hd=>by
  obtain ⟨D,h1,h2,h3,h4,h5⟩:=h.at_ d hd;obtain ⟨k1,k2,k3⟩:=hs D (Array.getElem?_eq_some_iff.1 h2).1 h3 h4 h5 h2
  exact ⟨D,h1,k1.trans h2,h3,k2,k3⟩⟩
section
variable {cx:Cx} {call:Oracle cx} {fx:Hints} {W0 W W':World} {F0 F F':Fz} {O0:List Nat} {E E':EnvM} {h:Heap} {ρ:Operand→V} {a:Act} {R:Type} {nt:Slots} {st:St}
structure StRel (cx:Cx) (W0:World) (F0:Fz) (O0:List Nat) (nt:Slots) (st:St) (a:Act) (W:World) (F:Fz) (E:EnvM):Prop where
 hr:HR cx.P W F E (fun _=>True) st.h
 hF:∀b,F b→b<W.heap.size
 t:∀s,RdV cx.P W F E (getT st.t s) (a.tmps.getD s undef)
 later:Later W0 F0 W F
 frame:∀b,b<W0.heap.size→b ∉ O0→W.heap[b]? = W0.heap[b]?
 own:∀b,a0p st.h E b→b∈O0∨W0.heap.size≤b
 fz:∀b,F b→F0 b∨b∈O0∨W0.heap.size≤b
 size:a.tmps.size=nt.nt
 keep:∀i∈nt.K,a.tmps.getD i undef=nt.kv i
 defers:(nt.md=false→a.defers=[])∧DefOk W0.heap.size W F (a0p st.h E) a.defers
 env:nt.I E
theorem w0n {P:Program} {N:World} (v:Value) (h1:v.oneCell'=true):b0v P N F E (t0z v) v:=by
 unfold t0z;split
 ·exact ⟨rfl,rfl,rfl⟩
 ·exact ⟨rfl,rfl,rfl⟩
 ·exact ⟨rfl,rfl,by simp[Rd,RdP]⟩
 ·exact rfl
 ·exact ⟨none,rfl⟩
 ·exact rfl
 ·exact ⟨rfl,rfl,.nilIface,rfl,rfl,fun _=>rfl,fun e=>by cases e⟩
 ·exact rfl
 ·trivial
theorem b2j {P:Program} (v:Value):RdV P W F E (r1y v) v:=by
 unfold r1y;split
 ·rename_i cs;cases h':cs.toList.all (·.oneCell') with
  | false=>exact trivial
  | true =>
   refine ⟨⟨by simp[Value.cells],fun j c u hj hu => ?_⟩,fun _=>⟨cs,rfl⟩,fun e=>by cases e⟩;simp only[Value.cells] at hu;rw[List.getElem?_map,hu] at hj;simp at hj;subst hj;have h1:u.oneCell'=true:=by
    rw[List.all_eq_true] at h';exact h' u (List.mem_of_getElem? hu)
   exact ⟨w0n u h1,h1⟩
 ·exact trivial
 ·cases h':v.oneCell' with
  | false=>exact trivial
  | true=>exact RdV.mk1 (w0n v h') h'
theorem o0o (hg:GlobOk cx W F) (ht:∀s,RdV cx.P W F E (getT st.t s) (a.tmps.getD s undef)) (x:Operand):RdV cx.P W F E (opnd cx st x) (a.eval x):=by
 cases x with
 | tmp t=>exact ht t
 | const v=>exact b2j v
 | global g =>
  show RdV cx.P W F E (match cx.glob g with | some x => .v false [.pin x.1 x.2 0] | none => .lost) (.pointer (some ⟨g,0,none⟩));cases h:cx.glob g with
  | none=>exact trivial
  | some x =>
   obtain ⟨h1,h2⟩:=hg.val g x.1 x.2 h;exact RdV.mk1 ⟨g,0,rfl,h1,h2⟩ rfl
 | func f=>exact RdV.mk1 ⟨#[],rfl,rfl⟩ rfl
theorem StRel.ctx (hc:CallSound cx call W0 F0) (tab:e0u cx) (hs:StRel cx W0 F0 O0 nt st a W F E):Ctx cx call W F E (fun _=>True) st.h (opnd cx st) a :=
 ⟨hc.later hs.later,tab,hs.hr,o0o (hc.glob.later hs.later) hs.t,hs.hF⟩
theorem x0n {dst:Option Nat} {v:Value} (hd:∀d,dst=some d→d<a.tmps.size) (s:Nat) :
  (a.put dst v).tmps.getD s undef=if dst=some s then v else a.tmps.getD s undef:=by
 cases dst with
 | none=>simp[Act.put]
 | some d =>
  have:=hd d rfl;simp only[Act.put,Array.getD_eq_getD_getElem?,Array.getElem?_setIfInBounds,Option.some.injEq];by_cases e:d=s
  ·subst e;simp[this]
  ·simp[e]
theorem p0q {t:List (Nat×V)} {dst:Option Nat} {x:V} (s:Nat):getT (putV t dst x) s=if dst=some s then x else getT t s:=by
 cases dst with
 | none=>simp[putV]
 | some d =>
  simp only[putV,getT,Option.some.injEq];by_cases e:d=s
  ·subst e;simp
  ·have:Nat.beq d s=false:=by
    cases hb:Nat.beq d s with
    | false=>rfl
    | true=>exact absurd (Nat.eq_of_beq_eq_true hb) e
   simp[this,e]
theorem q1t (dst:Option Nat) (v:Value):(a.put dst v).tmps.size=a.tmps.size:=by
 cases dst<;>simp[Act.put]
theorem put_defers (dst:Option Nat) (v:Value):(a.put dst v).defers=a.defers:=by
 cases dst<;>simp[Act.put]
theorem b2g {o:Oper} (h:(match o.dst with | some d=>Nat.blt d nt.nt && !hasN nt.K d | none=>true)=true) (d:Nat) (e:o.dst=some d):nt.may d:=by
 rw[e] at h;simp only[Bool.and_eq_true,Bool.not_eq_true'] at h;refine ⟨by simpa [Nat.blt_eq] using h.1,fun k => ?_⟩;rw[b0u.2 k] at h;exact absurd h.2 (by simp)
theorem StRel.step {dst:Option Nat} {v:Value} {x:V} {u:Ups} (hs:StRel cx W0 F0 O0 nt st a W F E) (hd:∀d,dst=some d→nt.may d) (hp:OpPost cx.P W F E (fun _=>True) st.h W' F' E' u) (hv:RdV cx.P W' F' E' x v) :
  StRel cx W0 F0 O0 nt { t:=putV st.t dst x,h:=a0r st.h u } (a.put dst v) W' F' E':=by
 have old:∀m b,atName st.h E m b→b∈O0∨W0.heap.size≤b:=fun m b hat=>hs.own b ⟨m,hat⟩
 have hsz:W0.heap.size≤W.heap.size:=hs.later.size;refine ⟨hp.hr,fun b hb => ?_,fun s => ?_,hs.later.trans hp.later,fun b hb hO => ?_,fun b hb => ?_,fun b hb => ?_,by rw[q1t];exact hs.size,fun i hi => ?_,by
  rw[put_defers];refine ⟨hs.defers.1,hs.defers.2.turn fun D hD _ hF hL _=>⟨hp.frame D hD fun n _ hat=>hL ⟨n,hat⟩,fun hf => ?_,fun ⟨m,hat⟩ => ?_⟩⟩
  ·rcases hp.fz D hf with k | ⟨n,_,k⟩ | k
   ·exact hF k
   ·exact hL ⟨n,k⟩
   ·omega
  ·by_cases hm:m∈a0d u
   ·rcases hp.own m D hm hat with ⟨n,_,k⟩ | k
    ·exact hL ⟨n,k⟩
    ·omega
   ·have:atName st.h E' m D:=by
     obtain ⟨ver,B,L,h1,h2⟩:=hat;exact ⟨ver,B,L,by rw[←b0f u st.h m hm];exact h1,h2⟩
    exact hL ⟨m,(l0z hp.env hs.hr).1 this⟩,nt.up _ _ hs.env hp.env⟩
 ·rcases hp.fz b hb with k | ⟨n,_,k⟩ | k
  ·exact Nat.lt_of_lt_of_le (hs.hF b k) hp.later.size
  ·exact Nat.lt_of_lt_of_le (hs.hr.lt b ⟨n,k⟩) hp.later.size
  ·exact k.2
 ·rw[x0n (fun d h=>by rw[hs.size];exact (hd d h).1),p0q];split
  ·exact hv
  ·exact (hs.t s).later hp.later hp.env
 ·rw[hp.frame b (by omega) (fun n _ hat => ?_)]
  ·exact hs.frame b hb hO
  ·rcases old n b hat with k | k
   ·exact hO k
   ·omega
 ·obtain ⟨m,hat⟩:=hb;by_cases hm:m∈a0d u
  ·rcases hp.own m b hm hat with ⟨n,_,k⟩ | k
   ·exact old n b k
   ·exact .inr (by omega)
  ·have:atName st.h E' m b:=by
    obtain ⟨ver,B,L,h1,h2⟩:=hat;exact ⟨ver,B,L,by rw[←b0f u st.h m hm];exact h1,h2⟩
   exact old m b ((l0z hp.env hs.hr).1 this)
 ·rcases hp.fz b hb with k | ⟨n,_,k⟩ | k
  ·exact hs.fz b k
  ·exact .inr (old n b k)
  ·exact .inr (.inr (by omega))
 ·rw[x0n (fun d h=>by rw[hs.size];exact (hd d h).1),if_neg (fun e=>(hd i e).2 hi)];exact hs.keep i hi
theorem StRel.skip {dst:Option Nat} (hs:StRel cx W0 F0 O0 nt st a W F E) (hd:∀d,dst=some d→nt.may d):StRel cx W0 F0 O0 nt { st with t:=putV st.t dst .undef } (a.put dst undef) W F E :=
 hs.step (u:=[]) hd (OpPost.refl hs.hr) rfl
theorem b1z {g:Nat} {b:Bool} (h:a.tmps.getD g undef = .bool b):a.tmps[g]? = some (.bool b):=by
 rw[Array.getD_eq_getD_getElem?] at h;cases hg:a.tmps[g]? with
 | none=>rw[hg] at h;cases h
 | some v=>rw[hg] at h;simp at h;rw[h]
theorem guard_rd {ops:List Oper} {o:Oper} {k:Bool→St→Option R} {r:R} (ht:∀s,RdV cx.P W F E (getT st.t s) (a.tmps.getD s undef)) (hk:d1m ops o st k=some r) :
  ∃run st',k run st'=some r∧Region.wanted o (yielded ops.toArray a.tmps)=run∧st'.h=st.h∧∀s,getT st'.t s=getT st.t s:=by
 unfold d1m at hk;split at hk
 ·rename_i hg;exact ⟨true,st,hk,by simp[Region.wanted,hg],rfl,fun _=>rfl⟩
 ·rename_i j want hg;split at hk
  ·cases hk
  rename_i g hj;have hj':((ops.toArray)[j]?).bind (·.dst)=some g:=by simpa using hj
  split at hk
  ·rename_i b hb;have hv:=ht g;rw[hb] at hv;have hv:=b1z (r0l hv);have same:∀s,getT ((g,V.v false [Cell.val .bool b])::st.t) s=getT st.t s:=by
    intro s;simp only[getT];cases hbe:Nat.beq g s with
    | false=>rfl
    | true=>rw[←Nat.eq_of_beq_eq_true hbe,hb];rfl
   cases b with
   | true=>exact ⟨want,_,hk,by simp only[Region.wanted,hg,yielded,hj',Option.bind_some,hv];cases want<;>rfl,rfl,same⟩
   | false=>exact ⟨!want,_,hk,by simp only[Region.wanted,hg,yielded,hj',Option.bind_some,hv];cases want<;>rfl,rfl,same⟩
  ·rename_i hb;have hv:=ht g;rw[hb] at hv;have hv:a.tmps.getD g undef=undef:=hv;refine ⟨false,st,hk,?_,rfl,fun _=>rfl⟩;simp only[Region.wanted,hg,yielded,hj',Option.bind_some];rw[Array.getD_eq_getD_getElem?] at hv;cases hgt:a.tmps[g]? with
   | none=>cases want<;>rfl
   | some v =>
    rw[hgt] at hv;simp at hv;subst hv;cases want<;>rfl
  ·cases hk
theorem StRel.guard {st':St} (hs:StRel cx W0 F0 O0 nt st a W F E) (h1:st'.h=st.h) (h2:∀s,getT st'.t s=getT st.t s):StRel cx W0 F0 O0 nt st' a W F E :=
 ⟨by rw[h1];exact hs.hr,hs.hF,fun s=>by rw[h2];exact hs.t s,hs.later,hs.frame,by rw[h1];exact hs.own,hs.fz,hs.size,hs.keep,by rw[h1];exact hs.defers,hs.env⟩
theorem all_iff {u:Ups} {n:Nat} (h:u.all (fun x=>Nat.blt x.1 n)=true):∀m∈a0d u,m<n:=by
 intro m hm;simp only[a0d,List.mem_map] at hm;obtain ⟨x,hx,rfl⟩:=hm;rw[List.all_eq_true] at h;have:=h x hx
 simpa [Nat.blt_eq] using this
def InOk (cx:Cx) (call:Oracle cx):Prop :=
 ∀(R:Type) (f:FuncId) (us:List V) (h:Heap) (nm:Nat) (k:V→Heap→Option R) (r:R),call.inl R f us h nm k=some r→(∃s,cx.sig f=some s) ∧
  ∀(W:World) (F:Fz) (E:EnvM) (vs:List Value),GlobOk cx W F→(∀b,F b→b<W.heap.size)→HR cx.P W F E (fun _=>True) h→us.length=vs.length→(∀(i:Nat) p u,us[i]? = some p→vs[i]? = some u→RdV cx.P W F E p u) →
   Calls cx.P f vs.toArray W fun e W'=>∃v F' E' x h',e = .returned v∧k x h'=some r∧HR cx.P W' F' E' (fun _=>True) h'∧RdV cx.P W' F' E' x v∧Later W F W' F'∧EnvLe E E'∧(∀b,F' b→b<W'.heap.size) ∧
    (∀b,b<W.heap.size→¬a0p h E b→W'.heap[b]? = W.heap[b]?)∧(∀b,a0p h' E' b→a0p h E b∨W.heap.size≤b)∧(∀b,F' b→F b∨a0p h E b∨W.heap.size≤b)
theorem r1n (hc:CallSound cx call W0 F0) (hin:InOk cx call) {o:Oper} {c:Go.Call} {f:FuncId} {us:List V} {vs:List Value} {nm:Nat} {k:V→Heap→Option R} {r:R} (ho:o.op = .call c) (hs:StRel cx W0 F0 O0 nt st a W F E) (hd:∀d,o.dst=some d→nt.may d)
  (hk:call.inl R f us st.h nm k=some r) (hlen:us.length=vs.length) (hus:∀(i:Nat) p u,us[i]? = some p→vs[i]? = some u→RdV cx.P W F E p u)
  (hrun : ∀ fn, cx.P.funcs[f]? = some fn → fn.body ≠ none → ¬ fn.name = "runtime.NumGoroutine" → (execOp a.eval o).run cx.P W = .ok (.enter f vs.toArray) W) {rd : Option Nat} {next : Act → World → Prop} {Q : Exit → Act → World → Prop}
  (hQ:∀x h' v W' F' E',k x h'=some r→StRel cx W0 F0 O0 nt { t:=putV st.t o.dst x,h:=h' } (a.put o.dst v) W' F' E'→next (a.put o.dst v) W'):o.wpIn (Rnd rd) 0 cx.P a W next Q:=by
 obtain ⟨⟨s,hsig⟩,hcalls⟩:=hin _ _ _ _ _ _ _ hk;obtain ⟨fn,hf1,hf2,hf3⟩:=hc.fns.plain f s hsig;have hglob:=hc.glob.later hs.later;have hcalls:=hcalls W F E vs hglob hs.hF hs.hr hlen hus;have hsem:o.semAt rd a.eval=execOp a.eval o:=Oper.semAt_eq rd a.eval o fun c' hc'=>by rw[ho] at hc';cases hc'
 have hrun:=hrun fn hf1 (fun e=>by rw[e] at hf3;cases hf3) (by simpa using hf2);refine ⟨fun _ _=>trivial,?_⟩;rw[show (Rnd rd).round=rd from rfl,hsem,hrun,Oper.uponIn_enter];refine ⟨(fun k=>by cases k),u0f (Calls.mono hcalls fun e W' hpost => ?_)⟩;obtain ⟨v,F',E',x,h',rfl,hku,hr,hv,hl,hE,hF,hframe,hown,hfz⟩:=hpost;have hsz:W0.heap.size≤W.heap.size:=hs.later.size;refine hQ x h' v W' F' E' hku ⟨hr,hF,fun s => ?_,hs.later.trans hl,fun b hb hO => ?_,fun b hb => ?_,fun b hb => ?_,by rw[q1t];exact hs.size,fun i hi => ?_,by
  rw[put_defers];refine ⟨hs.defers.1,hs.defers.2.turn fun D hD _ hFD hL _=>⟨hframe D hD hL,fun hf => ?_,fun hat => ?_⟩⟩
  ·rcases hfz D hf with k | k | k
   ·exact hFD k
   ·exact hL k
   ·omega
  ·rcases hown D hat with k | k
   ·exact hL k
   ·omega,nt.up _ _ hs.env hE⟩
 ·rw[x0n (fun d h=>by rw[hs.size];exact (hd d h).1),p0q];split
  ·exact hv
  ·exact (hs.t s).later hl hE
 ·rw[hframe b (by omega) (fun hat => ?_)]
  ·exact hs.frame b hb hO
  ·rcases hs.own b hat with k | k
   ·exact hO k
   ·omega
 ·rcases hown b hb with k | k
  ·exact hs.own b k
  ·exact .inr (by omega)
 ·rcases hfz b hb with k | k | k
  ·exact hs.fz b k
  ·exact .inr (hs.own b k)
  ·exact .inr (.inr (by omega))
 ·rw[x0n (fun d h=>by rw[hs.size];exact (hd d h).1),if_neg (fun e=>(hd i e).2 hi)];exact hs.keep i hi
theorem z1w (hc:CallSound cx call W0 F0) (hin:InOk cx call) {o:Oper} {f:FuncId} {nm:Nat} {k:V→Heap→Option R} {r:R} (hf:inlOf cx o=some f) (hs:StRel cx W0 F0 O0 nt st a W F E) (hd:∀d,o.dst=some d→nt.may d)
  (hk:call.inl R f ((x0u o).toList.map (opnd cx st)) st.h nm k=some r) {rd:Option Nat} {next:Act→World→Prop} {Q:Exit→Act→World→Prop}
  (hQ:∀x h' v W' F' E',k x h'=some r→StRel cx W0 F0 O0 nt { t:=putV st.t o.dst x,h:=h' } (a.put o.dst v) W' F' E'→next (a.put o.dst v) W'):o.wpIn (Rnd rd) 0 cx.P a W next Q:=by
 unfold inlOf at hf;split at hf
 case h_2=>cases hf
 rename_i c ho;split at hf
 case h_2=>cases hf
 rename_i f' hcal;cases hif:cx.inl f' with
 | false=>rw[hif] at hf;cases hf
 | true =>
 rw[hif] at hf;simp only[cond_true,Option.some.injEq] at hf;subst hf;have hargs:x0u o=c.args:=by unfold x0u;rw[ho]
 rw[hargs] at hk;refine r1n (vs:=c.args.toList.map a.eval) hc hin ho hs hd hk (by simp) (fun i p u hp hu => ?_) (fun fn hf1 hf3' hf2' => ?_) hQ
 ·rw[List.getElem?_map] at hp hu;cases hx:c.args.toList[i]? with
  | none=>rw[hx] at hp;cases hp
  | some y =>
   rw[hx] at hp hu;simp only[Option.map_some,Option.some.injEq] at hp hu;subst hp;subst hu;exact o0o (hc.glob.later hs.later) hs.t y
 ·have e1:(c.args.toList.map a.eval).toArray=c.args.map a.eval:=by
   apply Array.ext';simp
  rw[e1];simp[execOp,ho,resolve,hcal,Deferred.ofValue,Act.eval,invoke,callFunc,hf1,hf2',hf3']
theorem b2p (hc:CallSound cx call W0 F0) (hin:InOk cx call) {o:Oper} {p:FuncId×List V} {nm:Nat} {k:V→Heap→Option R} {r:R} (hf:cloOf o (opnd cx st)=some p) (hs:StRel cx W0 F0 O0 nt st a W F E) (hd:∀d,o.dst=some d→nt.may d)
  (hk:call.inl R p.1 p.2 st.h nm k=some r) {rd:Option Nat} {next:Act→World→Prop} {Q:Exit→Act→World→Prop}
  (hQ:∀x h' v W' F' E',k x h'=some r→StRel cx W0 F0 O0 nt { t:=putV st.t o.dst x,h:=h' } (a.put o.dst v) W' F' E'→next (a.put o.dst v) W'):o.wpIn (Rnd rd) 0 cx.P a W next Q:=by
 unfold cloOf at hf;split at hf
 case h_2=>cases hf
 rename_i c ho;split at hf
 case h_2=>cases hf
 rename_i t hcal;split at hf
 case h_2=>cases hf
 rename_i f caps hclo;simp only[Option.some.injEq] at hf;subst hf;have hglob:=hc.glob.later hs.later;have hv:=o0o hglob hs.t (.tmp t);rw[hclo] at hv;obtain ⟨bs,hval,hbl,hbox⟩:=hv.single.1;refine r1n (vs:=c.args.toList.map a.eval++bs.map fun b=>Value.pointer (some ⟨b,0,none⟩)) hc hin ho hs hd hk (by simp[hbl]) (fun i p u hp hu => ?_) (fun fn hf1 hf3' hf2' => ?_) hQ
 ·by_cases hi:i<c.args.toList.length
  ·rw[List.getElem?_append_left (by simpa using hi),List.getElem?_map] at hp hu;cases hx:c.args.toList[i]? with
   | none=>rw[hx] at hp;cases hp
   | some y =>
    rw[hx] at hp hu;simp only[Option.map_some,Option.some.injEq] at hp hu;subst hp;subst hu;exact o0o hglob hs.t y
  ·rw[List.getElem?_append_right (by simpa using hi),List.getElem?_map,List.length_map] at hp hu;cases hx:caps[i-c.args.toList.length]? with
   | none=>rw[hx] at hp;cases hp
   | some q =>
    cases hb:bs[i-c.args.toList.length]? with
    | none=>rw[hb] at hu;cases hu
    | some b =>
     rw[hx] at hp;rw[hb] at hu;simp only[Option.map_some,Option.some.injEq] at hp hu;subst hp;subst hu;obtain ⟨g1,g2⟩:=hbox _ q b hx hb;refine RdV.mk1 ⟨g1,⟨_,g2⟩,fun L hL => ?_⟩ rfl;rw[g2] at hL;injection hL with hL;subst hL;rfl
 ·have e1:(c.args.toList.map a.eval++bs.map fun b=>Value.pointer (some ⟨b,0,none⟩)).toArray=c.args.map a.eval++(bs.map fun b=>Value.pointer (some ⟨b,0,none⟩)).toArray:=by
   apply Array.ext';simp
  rw[e1];simp[execOp,ho,resolve,hcal,Deferred.ofValue,hval,invoke,callFunc,hf1,hf2',hf3']
theorem p1c (hc:CallSound cx call W0 F0) (tab:e0u cx) (hfn:FnOk cx call) (hin:InOk cx call) (all:List Oper) (rd:Option Nat) (Q:Exit→Act→World→Prop):∀(ops:List Oper) (i:Nat) (st:St) (a:Act) (W:World) (F:Fz) (E:EnvM) (k:St→Option R) (r:R),
  all.drop i=ops→l1j nt.nt nt.K ops=true→StRel cx W0 F0 O0 nt st a W F E→p1d cx call fx all ops st k=some r →
  (∀st' a' W' F' E',k st'=some r→StRel cx W0 F0 O0 nt st' a' W' F' E'→Q .normal a' W')→wpOpsIn (Rnd rd) 0 cx.P all.toArray Q (List.range' i ops.length) a W:=by
 intro ops;induction ops with
 | nil =>
  intro i st a W F E k r _ _ hs hk hQ;exact hQ st a W F E hk hs
 | cons o rest ih =>
  intro i st a W F E k r hdrop hd hs hk hQ;have hget:all[i]? = some o:=by
   have:(all.drop i)[0]? = some o:=by rw[hdrop];rfl
   rw[List.getElem?_drop] at this
   simpa using this
  have hdrop':all.drop (i+1)=rest:=by rw[←List.tail_drop,hdrop];rfl
  simp only[l1j,List.all_cons,Bool.and_eq_true] at hd;obtain ⟨hd1,hd2⟩:=hd;have hdst:∀d,o.dst=some d→nt.may d:=fun d e=>b2g hd1 d e
  simp only[List.length_cons,List.range'_succ];simp only[p1d] at hk;obtain ⟨run,st1,hk1,hwant,he1,he2⟩:=guard_rd hs.t hk;have hs1:=hs.guard he1 he2;have hg:(all.toArray)[i]? = some o:=by simpa using hget
  simp only[wpOpsIn,hg];cases run with
  | true =>
   simp only[hwant,if_true];dsimp only at hk1;split at hk1
   ·rename_i f hf;exact z1w hc hin hf hs1 hdst hk1 fun x h' v W' F' E' hku hs'=>ih (i+1) _ _ W' F' E' k r hdrop' hd2 hs' hku hQ
   split at hk1
   ·rename_i p hf;exact b2p hc hin hf hs1 hdst hk1 fun x h' v W' F' E' hku hs'=>ih (i+1) _ _ W' F' E' k r hdrop' hd2 hs' hku hQ
   have hsem:=r1u hk1;have hsound:=d1p (fx:=fx) (hs1.ctx hc tab) hfn (o:=o) (r:=r) ?_ hk1
   ·obtain ⟨x,u,hku,hok⟩:=hsound;dsimp only at hku;split at hku
    case h_2=>cases hku
    refine hok rd _ _ (hsem rd _) fun v W' F' E' hp hv => ?_
    exact ih (i+1) _ _ W' F' E' k r hdrop' hd2 (hs1.step hdst hp hv) hku hQ
   ·intro x u r' hku n hn;dsimp only at hku;split at hku
    case h_2=>cases hku
    rename_i hall;exact ⟨trivial,all_iff hall n hn⟩
  | false =>
   simp only[hwant,Bool.false_eq_true,if_false];exact ⟨fun _ _=>trivial,ih (i+1) _ _ W F E k r hdrop' hd2 (hs1.skip hdst) hk1 hQ⟩
end
end Go.Flat
end
section
namespace Go.Flat
section
variable {cx:Cx} {call:Oracle cx} {fx:Hints} {h:Heap} {ρ:Operand→V} {R:Type}
theorem x0v {α β:Type} (o:Option α) (f:α→Option R) (f':α→Option β) (g:β→Option R) (h:∀x,f x=(f' x).bind g):o.bind f=(o.bind f').bind g:=by cases o<;>simp[h]
theorem via {α β:Type} (o:Option α) {A:Option R} {B:Option β} {k:α→Option R} {k':α→Option β} {g:β→Option R} (h1:A=o.bind k) (h2:B=o.bind k') (h3:∀x,k x=(k' x).bind g):A=B.bind g:=by
 rw[h1,h2];exact x0v o k k' g h3
theorem b0n (b:Bool) (o:Option R) {α:Type} (f:α→Option R) (p:Option α) (hp:o=p.bind f):must b o=(must b p).bind f:=by
 cases b<;>simp[must,hp]
theorem u0c {α:Type} (b:Bool) (o o':Option R) {p p':Option α} {g:α→Option R} (h:o=p.bind g) (h':o'=p'.bind g):(bif b then o else o')=(bif b then p else p').bind g:=by cases b<;>assumption
theorem rowK_nat {α:Type} {e:Ty} {xs:List (El e)}:∀(n j:Nat) (k:List Cell→Option R) (f:List Cell→Option α) (g:α→Option R),(∀c,k c=(f c).bind g)→rowK e xs n j k=(rowK e xs n j f).bind g:=by
 intro n;induction n with
 | zero=>intro j k f g h;exact h []
 | succ n ih =>
  intro j k f g h;unfold rowK;exact x0v _ _ _ _ fun y=>ih _ _ _ _ fun c=>h _
theorem k1q (w:Nat) (c:Cell) (k:List Cell→Option R):t0n h w c k=(t0n h w c some).bind k:=by
 unfold t0n;split
 ·split
  ·split
   ·split<;>rfl
   ·rfl
  ·rfl
 ·split<;>rfl
 ·split
  ·split
   ·refine u0c _ _ _ ?_ ?_
    ·refine x0v _ _ _ _ fun y => ?_
     split<;>rfl
    ·refine u0c _ _ _ ?_ rfl;rw[f1l,f1l];exact rowK_nat _ _ _ _ _ fun c=>u0c _ _ _ rfl rfl
   ·rfl
  ·rfl
 ·rfl
theorem c1d (c:Cell) (new:List Cell) (k:Ups→Option R):c1e cx call h c new k=(c1e cx call h c new some).bind k:=by
 unfold c1e;split
 ·split
  ·split
   ·split<;>rfl
   ·rfl
  ·rfl
 ·split
  ·split
   ·refine u0c _ _ _ ?_ ?_
    ·refine x0v _ _ _ _ fun y => ?_
     split
     ·split
      ·split<;>rfl
      ·rfl
     ·rfl
    ·refine u0c _ _ _ ?_ rfl;split
     ·refine b0n _ _ _ _ ?_;split<;>rfl
     ·rfl
   ·rfl
  ·rfl
 ·rfl
theorem q0c (e:Ty) (c:Cell) (k:List (El e)→Option R):arrK cx call h e c k=(arrK cx call h e c some).bind k:=by
 unfold arrK;split<;>rfl
theorem r1j (s:Shp) (c:Cell) (k:Nat→Option R):lenK h s c k=(lenK h s c some).bind k:=by
 unfold lenK;split
 ·split<;>rfl
 ·split
  ·rfl
  ·rfl
  ·split
   ·split<;>rfl
   ·rfl
  ·rfl
  ·split
   ·split<;>rfl
   ·rfl
  ·rfl
 ·split
  ·split
   ·split<;>rfl
   ·rfl
  ·rfl
 ·rfl
theorem p0r (i:Int) {α:Type} (k:Nat→Option R) (f:Nat→Option α) (g:α→Option R) (hk:∀j,k j=(f j).bind g):∀n j,o0k i n j k=(o0k i n j f).bind g:=by
 intro n;induction n with
 | zero=>intro j;rfl
 | succ n ih =>
  intro j;simp only[o0k];cases decide (i=(j:Int)) with
  | true=>exact hk j
  | false=>exact ih _
theorem f0l {α:Type} (b:Bool) (o:Option R) (p:Option α) (g:α→Option R) (h:o=p.bind g):(bif b then o else none)=(bif b then p else none).bind g:=by cases b<;>simp[h]
theorem r0a (t:TypeId) (x:V) (i:Int) (k:Cell→Option R):j0d cx h t x i k=(j0d cx h t x i some).bind k:=by
 unfold j0d;split
 ·cases Nat.beq _ 0 with
  | true=>rfl
  | false =>
   simp only[cond_false];split
   ·refine p0r _ _ _ _ ?_ _ _;intro _;rfl
   ·split
    ·cases at? _ i<;>rfl
    ·refine p0r _ _ _ _ ?_ _ _;intro _;rfl
   ·split
    ·exact b0n _ _ _ _ rfl
    ·refine p0r _ _ _ _ ?_ _ _;intro _;rfl
   ·rfl
 ·split
  ·refine f0l _ _ _ _ ?_;cases at? _ i<;>rfl
  ·split
   ·split
    ·refine f0l _ _ _ _ ?_;cases at? _ i<;>rfl
    ·rfl
   ·rfl
  ·split
   ·split
    ·refine f0l _ _ _ _ ?_;cases at? _ i<;>rfl
    ·rfl
   ·rfl
  ·split
   ·split
    ·refine f0l _ _ _ _ ?_;cases at? _ i<;>rfl
    ·rfl
   ·rfl
  ·rfl
 ·rfl
theorem d1k (t:TypeId) (x:V) (i:Int) (k:V→Option R):d1l cx t x i k=(d1l cx t x i some).bind k:=by
 unfold d1l;split
 ·split
  ·split
   ·cases at? _ i<;>rfl
   ·refine p0r _ _ _ _ (fun j => ?_) _ _;split<;>rfl
  ·rfl
 ·cases at? _ i<;>rfl
 ·rfl
theorem w1r (n l:Nat) (hi:Option V) {α:Type} (k:Nat→Nat→Option R) (f:Nat→Nat→Option α) (g:α→Option R) (hk:∀i j,k i j=(f i j).bind g):upK n l hi k=(upK n l hi f).bind g:=by
 unfold upK;split
 ·exact b0n _ _ _ _ (hk _ _)
 ·split
  ·exact b0n _ _ _ _ (hk _ _)
  ·rfl
theorem f0q (n:Nat) (lo hi:Option V) {α:Type} (k:Nat→Nat→Option R) (f:Nat→Nat→Option α) (g:α→Option R) (hk:∀i j,k i j=(f i j).bind g):i0f n lo hi k=(i0f n lo hi f).bind g:=by
 unfold i0f;split
 ·exact w1r _ _ _ _ _ _ hk
 ·split
  ·exact b0n _ _ _ _ (w1r _ _ _ _ _ _ hk)
  ·rfl
theorem c1l (et:TypeId) (x:V) (lo hi mx:Option V) (k:Cell→Option R):c1m cx h et x lo hi mx k=(c1m cx h et x lo hi mx some).bind k:=by
 unfold c1m;split
 ·split
  ·split
   ·rfl
   ·rfl
   ·split
    ·split<;>rfl
    ·rfl
   ·rfl
  ·rfl
 ·split
  ·exact f0l _ _ _ _ (f0q _ _ _ _ _ _ fun _ _=>rfl)
  ·exact f0q _ _ _ _ _ _ fun _ _=>rfl
  ·split
   ·split
    ·exact f0l _ _ _ _ (f0q _ _ _ _ _ _ fun _ _=>rfl)
    ·rfl
   ·rfl
  ·split
   ·split
    ·exact f0l _ _ _ _ (f0q _ _ _ _ _ _ fun _ _=>rfl)
    ·rfl
   ·rfl
  ·rfl
theorem c1j (n:Nat) (et:TypeId) (x:V) (lo hi mx:Option V) (k:Cell→Option R):c1k cx h n et x lo hi mx k=(c1k cx h n et x lo hi mx some).bind k:=by
 unfold c1k;split
 ·split
  ·split
   ·exact f0l _ _ _ _ (b0n _ _ _ _ (f0q _ _ _ _ _ _ fun _ _=>rfl))
   ·rfl
  ·rfl
 ·rfl
theorem s1z (n:Nat) (et:TypeId) (x:V) (lo hi mx:Option V) {α:Type} (k:Cell→Ups→Option R) (f:Cell→Ups→Option α) (g:α→Option R) (hk:∀c u,k c u=(f c u).bind g):sliceB cx h n et x lo hi mx k=(sliceB cx h n et x lo hi mx f).bind g:=by
 unfold sliceB;split
 ·split
  ·split
   ·split
    ·exact f0q _ _ _ _ _ _ fun _ _=>hk _ _
    ·rfl
   ·rfl
  ·rfl
 ·rfl
theorem c1h (x:V) (lo hi mx:Option V) (k:Cell→Option R):c1i x lo hi mx k=(c1i x lo hi mx some).bind k:=by
 unfold c1i;split
 ·exact f0q _ _ _ _ _ _ fun _ _=>rfl
 ·rfl
theorem a1n (o:Oper) (e:Ty) (bytes:Nat) (s x:V) (k:Cell→Ups→Option R):v0y cx call fx h o e bytes s x k=(v0y cx call fx h o e bytes s x fun c u=>some (c,u)).bind fun p=>k p.1 p.2:=by
 have news:∀ {α:Type} (kk:List (El e)→Option R) (f:List (El e)→Option α) (g:α→Option R),(∀ys,kk ys=(f ys).bind g) →
   (match x with
   | .v false [.val .str b]=>match b0s (a := .slice (.int .u8)) (b := .slice e) ((b:List UInt8).map fun (c:UInt8)=>(c.toNat:Int)) with | some y=>kk y | none=>none
   | .v false [c]=>arrK cx call h e c kk
   | _=>none) =
   (match x with
   | .v false [.val .str b]=>match b0s (a := .slice (.int .u8)) (b := .slice e) ((b:List UInt8).map fun (c:UInt8)=>(c.toNat:Int)) with | some y=>f y | none=>none
   | .v false [c]=>arrK cx call h e c f
   | _=>none).bind g:=by
  intro α kk f g hk;split
  ·split
   ·exact hk _
   ·rfl
  ·rw[q0c,q0c e _ f];cases arrK cx call h e _ some with
   | none=>rfl
   | some ys=>exact hk ys
  ·rfl
 unfold v0y;dsimp only;split
 ·exact news _ _ _ fun ys=>b0n _ _ _ _ rfl
 ·split
  ·split
   ·split
    ·exact news _ _ _ fun ys=>b0n _ _ _ _ rfl
    ·rfl
   ·rfl
  ·rfl
 ·split
  ·split
   ·split
    ·exact news _ _ _ fun ys=>b0n _ _ _ _ rfl
    ·rfl
   ·rfl
  ·rfl
 ·rfl
theorem c1y (c:Cell) {α:Type} (k:(n ver off len:Nat)→(e:Ty)→List (El e)→Option R) (f:(n ver off len:Nat)→(e:Ty)→List (El e)→Option α) (g:α→Option R)
  (hk:∀n ver off len e xs,k n ver off len e xs=(f n ver off len e xs).bind g):t0j h c k=(t0j h c f).bind g:=by
 unfold t0j;split
 ·split
  ·split
   ·exact hk _ _ _ _ _ _
   ·rfl
  ·rfl
 ·split
  ·split
   ·exact b0n _ _ _ _ (hk _ _ _ _ _ _)
   ·rfl
  ·rfl
 ·rfl
theorem u1q (ts:Array TypeId) (n v0:Nat) (x:V) (k:V→Ups→Option R):d1i cx h ts n v0 x k=(d1i cx h ts n v0 x fun x u=>some (x,u)).bind fun p=>k p.1 p.2:=by
 unfold d1i;split
 ·split
  ·split
   ·split
    ·exact b0n _ _ _ _ (b0n _ _ _ _ rfl)
    ·rfl
   ·rfl
  ·rfl
 ·rfl
theorem l1v (o:Oper) (b:Builtin) (ts:Array TypeId) (args:List V) (k:V→Ups→Option R) :
  q0b cx call fx h o b ts args k=(q0b cx call fx h o b ts args fun x u=>some (x,u)).bind fun p=>k p.1 p.2:=by
 unfold q0b;split
 ·split
  ·exact via _ (r1j _ _ _) (r1j _ _ _) fun _=>rfl
  ·rfl
 ·split<;>rfl
 ·rfl
 ·rfl
 ·rfl
 ·rfl
 ·split
  ·exact u1q _ _ _ _ _
  split
  ·split
   ·refine f0l _ _ _ _ ?_;exact via _ (a1n _ _ _ _ _ _) (a1n _ _ _ _ _ _) fun _=>rfl
   ·rfl
  ·rfl
 ·split
  ·split
   ·refine c1y _ _ _ _ fun n ver off len e xs => ?_
    split
    ·split
     ·split<;>rfl
     ·exact via _ (q0c _ _ _) (q0c _ _ _) fun _=>rfl
    ·rfl
   ·rfl
  ·rfl
 ·split
  ·split
   ·rfl
   ·split
    ·refine c1y _ _ _ _ fun n ver off len e xs => ?_
     split
     ·split<;>rfl
     ·rfl
    ·rfl
  ·split
   ·split
    ·split<;>rfl
    ·rfl
   ·rfl
  ·rfl
 ·rfl
theorem c2f (t:Ty) (c:Cell) (x:El t) (nm:Nat) {α:Type} (k:Ups→Nat→Option R) (f:Ups→Nat→Option α) (g:α→Option R) (hk:∀u n,k u n=(f u n).bind g):o0m.backK h t c x nm k=(o0m.backK h t c x nm f).bind g:=by
 unfold o0m.backK;split
 ·rw[c0h,c0h];exact hk _ _
 ·exact hk _ _
 ·split
  ·split
   ·exact b0n _ _ _ _ (hk _ _)
   ·rfl
  ·rfl
 ·split
  ·split
   ·exact hk _ _
   ·rfl
  ·rfl
 ·split
  ·split
   ·exact hk _ _
   ·rfl
  ·rfl
 ·rfl
theorem k1h (e:Ty×Option Cell) (x:El e.1) (nm:Nat) {α:Type} (k:List (Bool×List Cell)→Ups→Nat→Option R) (f:List (Bool×List Cell)→Ups→Nat→Option α) (g:α→Option R)
  (hk:∀vs u n,k vs u n=(f vs u n).bind g):f1s h e x nm k=(f1s h e x nm f).bind g:=by
 obtain ⟨t,oc⟩:=e;cases oc with
 | none=>simp only[f1s];rw[c0h,c0h];exact hk _ _ _
 | some c=>simp only[f1s];exact c2f _ _ _ _ _ _ _ fun u n=>hk _ _ _
theorem y1m:∀(bt:List (Ty×Option Cell)) (y:El (tup (bt.map Prod.fst))) (nm:Nat) {α:Type} (k:List (Bool×List Cell)→Ups→Option R) (f:List (Bool×List Cell)→Ups→Option α) (g:α→Option R),
  (∀vs u,k vs u=(f vs u).bind g)→o0m h bt y nm k=(o0m h bt y nm f).bind g:=by
 intro bt;induction bt with
 | nil=>intro y nm α k f g hk;exact hk _ _
 | cons e r ih =>
  intro y nm α k f g hk;cases r with
  | nil=>rw[z0g,z0g];exact k1h _ _ _ _ _ _ fun vs u n=>hk _ _
  | cons e2 r=>rw[v0a,v0a];exact k1h _ _ _ _ _ _ fun vs u n=>ih _ _ _ _ _ fun vs' u'=>hk _ _
theorem b2x (o:Oper) (f:FuncId) (args:List V) (k:V→Ups→Option R):v1x cx call fx h o f args k=(v1x cx call fx h o f args fun x u=>some (x,u)).bind fun p=>k p.1 p.2:=by
 unfold v1x;split
 ·rfl
 ·split
  ·rfl
  ·split
   ·dsimp only;split
    ·rfl
    ·cases call f _ with
     | none=>rfl
     | some r =>
      simp only[Option.bind_some];split
      ·rfl
      ·exact y1m _ _ _ _ _ _ fun vs u=>b0n _ _ _ _ rfl
   ·rfl
theorem extK_nat (e:Nat) (args:List V) (k:V→Ups→Option R):extK e args k=(extK e args fun x u=>some (x,u)).bind fun p=>k p.1 p.2:=by
 unfold extK;split
 ·exact b0n _ _ _ _ rfl
 ·exact b0n _ _ _ _ rfl
 ·rfl
theorem b2w (c:Cell) (args:List V) (k:V→Ups→Option R):v1w cx call h c args k=(v1w cx call h c args fun x u=>some (x,u)).bind fun p=>k p.1 p.2:=by
 unfold v1w;split
 ·split
  ·split
   ·rename_i p _ _ _ _ _;cases p _<;>rfl
   ·rfl
  ·rfl
 ·split
  ·split
   ·dsimp only;split
    ·split
     ·rename_i p _ _ _ _ _;cases p _<;>rfl
     ·rfl
    ·rfl
   ·rfl
  ·rfl
 ·rfl
theorem binI_nat (op:BinOp) (kd:IntKind) (x y:Int) (k:Cell→Option R):binI op kd x y k=(binI op kd x y some).bind k:=by
 cases op<;>simp only[binI]<;>(try rfl)
 ·cases decide (y=0)<;>rfl
 ·cases decide (y=0)<;>rfl
 ·cases decide (y<0)<;>rfl
 ·cases decide (y<0)<;>rfl
theorem binS_nat (op:BinOp) (x y:List UInt8) (k:Cell→Option R):binS op x y k=(binS op x y some).bind k:=by
 cases op<;>simp only[binS]<;>(try rfl);exact f0l _ _ _ _ rfl
theorem s1d (kind:Nat) (ty:Option Ty) (op:BinOp) (x y:V) (k:Cell→Option R):binK kind ty op x y k=(binK kind ty op x y some).bind k:=by
 unfold binK;split
 ·split
  ·exact binI_nat _ _ _ _ _
  ·rfl
 ·exact binS_nat _ _ _ _
 ·split<;>rfl
 ·split<;>rfl
theorem d1b (kind:Nat) (op:BinOp) (x:V) (k:Cell→Option R):d1c kind op x k=(d1c kind op x some).bind k:=by
 unfold d1c;split
 ·rename_i xs;cases decide (xs.length=0)<;>rfl
 ·rename_i xs;cases decide (xs.length=0)<;>rfl
 ·rfl
 ·rfl
 ·rfl
theorem d1d (kind:Nat) (op:BinOp) (x:V) (k:Cell→Option R):d1e kind op x k=(d1e kind op x some).bind k:=by
 unfold d1e;split<;>rfl
theorem w1s (op:UnOp) (x:V) (k:Cell→Option R):unK op x k=(unK op x some).bind k:=by
 unfold unK;split<;>rfl
theorem a1h {α β:Type} (m:Option β) (f:β→Option R) (g:β→Option α) (k:α→Option R) (h:∀y,f y=(g y).bind k):m.bind f=(m.bind g).bind k:=by
 cases m with
 | none=>rfl
 | some y=>exact h y
theorem z1g {o:Oper} {n ver base:Nat} {kt e:Ty} {xs:List (El kt×El e)} {key:El kt} (k:V→Ups→Option R):o1r fx h o n ver base kt e xs key k=(o1r fx h o n ver base kt e xs key fun x u=>some (x,u)).bind fun p=>k p.1 p.2:=by
 unfold o1r;split
 ·rfl
 ·rw[c0h,c0h];split
  ·exact b0n _ _ _ _ rfl
  ·rfl
theorem u1o (o:Oper) (c:Ty) (n v0 i:Nat) (k:V→Ups→Option R):d1h fx h o c n v0 i k=(d1h fx h o c n v0 i fun x u=>some (x,u)).bind fun p=>k p.1 p.2:=by
 unfold d1h;split
 ·split
  ·refine b0n _ _ _ _ ?_;refine a1h _ _ _ _ fun y => ?_
   rw[c0h,c0h];split
   ·exact b0n _ _ _ _ rfl
   ·rfl
  ·rfl
 ·rfl
theorem z1f (c:Ty) (n v0 i:Nat) (x:V) (k:V→Ups→Option R):(u1p cx call h c n v0 i x fun u=>k .undef u)=(u1p cx call h c n v0 i x fun u=>some (V.undef,u)).bind fun p=>k p.1 p.2:=by
 unfold u1p;split
 ·split
  ·refine b0n _ _ _ _ ?_;refine b0n _ _ _ _ ?_;refine b0n _ _ _ _ ?_;refine a1h _ _ _ _ fun y => ?_
   split
   ·exact b0n _ _ _ _ rfl
   ·rfl
  ·rfl
 ·rfl
theorem r1v (o:Oper) (k:V→Ups→Option R):evOp cx call fx o ρ h k=(evOp cx call fx o ρ h fun x u=>some (x,u)).bind fun p=>k p.1 p.2:=by
 have cell:∀(f:(Cell→Option R)→Option R) (g:(Cell→Option (V×Ups))→Option (V×Ups)) (m:Option Cell),(∀k,f k=m.bind k)→(∀k,g k=m.bind k) →
   f (fun c=>k (.v false [c]) [])=(g fun c=>some (.v false [c],[])).bind fun p=>k p.1 p.2:=by
  intro f g m hf hg;rw[hf,hg];cases m<;>rfl
 unfold evOp;dsimp only;split
 ·rfl
 ·rfl
 ·split
  ·rename_i b _;cases b<;>rfl
  ·rfl
 ·split
  ·rfl
  ·split
   ·split<;>rfl
   ·rfl
 ·split
  ·split<;>rfl
  ·rfl
 ·split
  ·split
   ·split<;>rfl
   ·split<;>rfl
   ·rfl
  ·rfl
 ·split
  ·split
   ·split
    ·split
     ·rfl
     split
     ·split<;>rfl
     ·rfl
    ·rfl
   ·rfl
  ·rfl
 ·split
  ·split
   ·exact u1o _ _ _ _ _ _
   ·rfl
  split
  ·exact via _ (k1q _ _ _) (k1q _ _ _) fun _=>rfl
  ·rfl
 ·split
  ·split
   ·exact z1f _ _ _ _ _ _
   ·rfl
  split
  ·split
   ·exact via _ (c1d _ _ _) (c1d _ _ _) fun _=>rfl
   ·rfl
  ·rfl
 ·split
  ·split<;>rfl
  ·rfl
 ·rename_i y _ _;cases t0r y with
  | true=>exact cell _ _ _ (fun k=>d1b _ _ _ k) (fun k=>d1b _ _ _ k)
  | false =>
   cases z0o y with
   | true=>exact cell _ _ _ (fun k=>d1d _ _ _ k) (fun k=>d1d _ _ _ k)
   | false=>exact cell _ _ _ (fun k=>s1d _ _ _ _ _ k) (fun k=>s1d _ _ _ _ _ k)
 ·exact cell _ _ _ (fun k=>w1s _ _ k) (fun k=>w1s _ _ k)
 ·split
  ·rfl
  ·rfl
  ·split
   ·cases b1d fx o with
    | true=>exact b0n _ _ _ _ rfl
    | false=>rfl
   ·rfl
  ·split
   ·exact via _ (q0c _ _ _) (q0c _ _ _) fun _=>rfl
   ·rfl
  ·rfl
 ·split<;>(split<;>rfl)
 ·split
  ·split
   ·split
    ·exact b0n _ _ _ _ rfl
    ·rfl
   ·rfl
  ·rfl
 ·split
  ·exact cell _ _ _ (fun k=>c1h _ _ _ _ k) (fun k=>c1h _ _ _ _ k)
  ·split
   ·exact cell _ _ _ (fun k=>c1l _ _ _ _ _ k) (fun k=>c1l _ _ _ _ _ k)
   ·rfl
  ·split
   ·exact s1z _ _ _ _ _ _ _ _ _ fun _ _=>rfl
   ·exact cell _ _ _ (fun k=>c1j _ _ _ _ _ _ k) (fun k=>c1j _ _ _ _ _ _ k)
  ·rfl
 ·split
  ·cases Nat.beq _ 0 with
   | true=>rfl
   | false=>simp only[cond_false];split<;>rfl
  ·rfl
 ·split
  ·split
   ·split<;>rfl
   ·rfl
  ·rfl
 ·split
  ·exact cell _ _ _ (fun k=>r0a _ _ _ k) (fun k=>r0a _ _ _ k)
  ·rfl
 ·split
  ·exact via _ (d1k _ _ _ _) (d1k _ _ _ _) fun _=>rfl
  ·rfl
 ·split
  ·split<;>rfl
  ·rfl
 ·split<;>rfl
 ·split
  ·split
   ·split
    ·split
     ·exact b0n _ _ _ _ (z1g _)
     ·rfl
    ·rfl
   ·split
    ·split
     ·exact b0n _ _ _ _ rfl
     ·rfl
    ·rfl
   ·rfl
  ·rfl
 ·split
  ·split
   ·split
    ·split
     ·refine b0n _ _ _ _ ?_;refine a1h _ _ _ _ fun y => ?_
      split
      ·exact b0n _ _ _ _ rfl
      ·rfl
     ·rfl
    ·rfl
   ·rfl
  ·rfl
 ·split
  ·exact l1v _ _ _ _ _
  ·split
   ·exact extK_nat _ _ _
   ·exact b2x _ _ _ _
  ·split
   ·exact b2w _ _ _
   ·rfl
  ·rfl
 ·rfl
end
end Go.Flat
end
section
namespace Go.Flat
open Go.RowKit (Below)
section
variable {cx:Cx} {call:Oracle cx} {fx:Hints} {h:Heap} {ρ ρ':Operand→V} {R:Type}
theorem o0n {x:Option Operand} (h:∀y,x=some y→ρ y=ρ' y):x.map ρ=x.map ρ':=by
 cases x with
 | none=>rfl
 | some y=>simp[h y rfl]
theorem v1m (o:Oper) (k:V→Ups→Option R) (hρ:∀x∈o.op.operands.toList,ρ x=ρ' x):evOp cx call fx o ρ h k=evOp cx call fx o ρ' h k:=by
 unfold evOp;dsimp only;generalize hop:o.op=op at hρ;cases op<;>simp only[Op.operands] at hρ<;>(try dsimp only)
 case move x=>rw[hρ x (by simp)]
 case assign x=>rw[hρ x (by simp)]
 case pick c a b=>rw[hρ c (by simp),hρ a (by simp),hρ b (by simp)]
 case box t x=>rw[hρ x (by simp)]
 case build t ps =>
  have:(ps.toList.map fun x=>(x.1,ρ x.2))=ps.toList.map fun x=>(x.1,ρ' x.2):=List.map_congr_left fun x hx=>by rw[hρ x.2 (by simp;exact ⟨x.1,Array.mem_toList_iff.1 hx⟩)]
  rw[this]
 case buildSlice t n ps =>
  have:(ps.toList.map fun x=>(x.1,ρ x.2))=ps.toList.map fun x=>(x.1,ρ' x.2):=List.map_congr_left fun x hx=>by rw[hρ x.2 (by simp;exact ⟨x.1,Array.mem_toList_iff.1 hx⟩)]
  rw[this]
 case load t x=>rw[hρ x (by simp)]
 case store t a x=>rw[hρ a (by simp),hρ x (by simp)]
 case nilCheck x=>rw[hρ x (by simp)]
 case binOp op t x y yt=>rw[hρ x (by simp),hρ y (by simp)]
 case unOp op t x=>rw[hρ x (by simp)]
 case convert s d x=>rw[hρ x (by simp)]
 case makeFunc t first caps =>
  have:caps.toList.map ρ=caps.toList.map ρ':=List.map_congr_left fun x hx=>hρ x (by simp;exact .inr (Array.mem_toList_iff.1 hx))
  cases t<;>first | simp only[this] | rfl
 case makeSlice t l c=>rw[hρ l (by simp),hρ c (by simp)]
 case slice t x lo hi mx =>
  rw[hρ x (by simp),o0n (x:=lo) fun y hy=>hρ y (by simp[hy]),o0n (x:=hi) fun y hy=>hρ y (by simp[hy]),o0n (x:=mx) fun y hy=>hρ y (by simp[hy])]
 case fieldAddr s x f=>rw[hρ x (by simp)]
 case field s x f=>rw[hρ x (by simp)]
 case indexAddr t x i=>rw[hρ x (by simp),hρ i (by simp)]
 case index t x i=>rw[hρ x (by simp),hρ i (by simp)]
 case extract x i=>rw[hρ x (by simp)]
 case makeMap t r=>cases r<;>rfl
 case lookup t x i ok=>rw[hρ x (by simp),hρ i (by simp)]
 case mapUpdate t m i v=>rw[hρ m (by simp),hρ i (by simp),hρ v (by simp)]
 case call c =>
  simp only[Call.operands] at hρ;have h1:c.args.toList.map ρ=c.args.toList.map ρ':=List.map_congr_left fun x hx=>hρ x (by simp;exact .inr (Array.mem_toList_iff.1 hx))
  have h2:∀z,c.callee = .value z→ρ z=ρ' z:=fun z hz=>hρ z (by simp[hz])
  rw[h1];cases hcal:c.callee with
  | builtin b=>rfl
  | invoke r n=>rfl
  | value z=>cases z<;>simp only[h2 _ hcal]
end
theorem k0g (h:Heap) (ns:List Nat) (n:Nat):(restrict h ns)[n]? = (h[n]?).map fun e=>if hasN ns n=true then e else (0,none):=by
 unfold restrict;rw[List.getElem?_map,List.getElem?_zipIdx];cases h[n]? <;> simp
theorem j0v {h:Heap} {ns:List Nat} {n:Nat} (hn:n∈ns):(restrict h ns)[n]? = h[n]? := by
 rw[k0g,b0u.2 hn];cases h[n]? <;> simp
theorem w0f {h:Heap} {ns:List Nat} {n:Nat} (hn:n ∉ ns) {ver:Nat} {B:Blk}:(restrict h ns)[n]? ≠ some (ver,some B):=by
 rw[k0g];have:hasN ns n=false:=by
  cases hh:hasN ns n with
  | false=>rfl
  | true=>exact absurd (b0u.1 hh) hn
 rw[this];cases h[n]? <;> simp
theorem o0j (h:Heap) (ns:List Nat):(restrict h ns).length=h.length:=by simp[restrict]
section
variable {P:Program} {W W':World} {F F':Fz} {E E':EnvM} {h:Heap}
theorem a1l {ns:List Nat} {n b:Nat} (hat:atName (restrict h ns) E n b):n∈ns∧atName h E n b:=by
 obtain ⟨ver,B,L,h1,h2⟩:=hat;by_cases hn:n∈ns
 ·rw[j0v hn] at h1;exact ⟨hn,ver,B,L,h1,h2⟩
 ·exact absurd h1 (w0f hn)
theorem HR.restrict {ns:List Nat} (hr:HR P W F E (fun _=>True) h):HR P W F E (· ∈ ns) (Flat.restrict h ns):=by
 have back:∀n ver B,(Flat.restrict h ns)[n]? = some (ver,some B)→n∈ns∧h[n]? = some (ver,some B):=by
  intro n ver B hn;by_cases hm:n∈ns
  ·rw[j0v hm] at hn;exact ⟨hm,hn⟩
  ·exact absurd hn (w0f hm)
 refine ⟨fun n ver b hn hb => ?_,fun n ver b hb => ?_,fun n m vn vm bn bm L M x h1 h2 => ?_⟩
 ·rw[j0v hn] at hb;exact hr.top n ver b trivial hb
 ·obtain ⟨k1,k2⟩:=back n ver b hb;obtain ⟨_,L,k3,k4⟩:=hr.blk n ver b k2;exact ⟨k1,L,k3,k4⟩
 ·exact hr.inj n m vn vm bn bm L M x (back n vn bn h1).2 (back m vm bm h2).2
theorem OpPost.widen {ns:List Nat} {u:Ups} (hr:HR P W F E (fun _=>True) h) (hp:OpPost P W F E (· ∈ ns) (Flat.restrict h ns) W' F' E' u) (hu:∀n∈a0d u,n∈ns):OpPost P W F E (fun _=>True) h W' F' E' u:=by
 have inn:∀n:Nat,n∈ns→(a0r h u)[n]? = (a0r (Flat.restrict h ns) u)[n]? := by
  intro n hn;by_cases hm:n∈a0d u
  ·exact g0u u _ _ n hm (o0j h ns).symm
  ·rw[b0f u _ n hm,b0f u _ n hm,j0v hn]
 have out:∀n:Nat,n ∉ ns→(a0r h u)[n]? = h[n]? := fun n hn=>b0f u _ n (fun k=>hn (hu n k))
 have old:∀m b,atName (Flat.restrict h ns) E m b→atName h E m b:=fun m b k=>(a1l k).2
 have verle:∀n ver B,h[n]? = some (ver,some B)→ver≤E.top n:=fun n ver B hn=>Nat.le_of_eq (hr.top n ver _ trivial hn)
 have far:∀n ver B L b,n ∉ ns→h[n]? = some (ver,some B)→E.m n ver=some L→L.has b→b<W.heap.size∧(∀m∈a0d u,¬atName (Flat.restrict h ns) E m b):=by
  intro n ver B L b hn h1 h2 h3;refine ⟨hr.lt b ⟨n,ver,B,L,h1,h2,h3⟩,fun m hm hat => ?_⟩;have:=b0l hr (old m b hat) ⟨ver,B,L,h1,h2,h3⟩;subst this;exact hn (hu m hm)
 refine ⟨⟨fun n ver b _ hb => ?_,fun n ver B hb => ?_,fun n m vn vm bn bm L M x h1 h2 h3 h4 h5 h6 => ?_⟩,hp.later,hp.env,fun b hb hnot=>hp.frame b hb fun n hn k=>hnot n hn (old n b k),fun b hb => ?_,fun m b hm hat => ?_,hp.tops⟩
 ·by_cases hn:n∈ns
  ·rw[inn n hn] at hb;exact hp.hr.top n ver b hn hb
  ·rw[out n hn] at hb;rw[hp.tops n (fun k=>hn (hu n k))];exact hr.top n ver b trivial hb
 ·by_cases hn:n∈ns
  ·rw[inn n hn] at hb;obtain ⟨_,k⟩:=hp.hr.blk n ver B hb;exact ⟨trivial,k⟩
  ·rw[out n hn] at hb;obtain ⟨_,L,k1,k2⟩:=hr.blk n ver B hb;refine ⟨trivial,L,by rw[hp.env.m n ver (verle n ver B hb)];exact k1,k2.later hp.later hp.env fun b hLb => ?_⟩;obtain ⟨f1,f2⟩:=far n ver B L b hn hb k1 hLb;refine ⟨hp.frame b f1 f2,fun hnf hf => ?_⟩;rcases hp.fz b hf with q | ⟨m,hm,q⟩ | q
   ·exact hnf q
   ·exact f2 m hm q
   ·omega
 ·-- one in,one out
  have mixed:∀n m vn vm bn bm L M,n∈ns→m ∉ ns→(a0r h u)[n]? = some (vn,some bn)→(a0r h u)[m]? = some (vm,some bm)→E'.m n vn=some L→E'.m m vm=some M→L.has x→M.has x→False:=by
   intro n m vn vm bn bm L M hn hm h1 h2 h3 h4 h5 h6;rw[out m hm] at h2;rw[hp.env.m m vm (verle m vm bm h2)] at h4;obtain ⟨f1,f2⟩:=far m vm bm M x hm h2 h4 h6;rw[inn n hn] at h1;by_cases hnu:n∈a0d u
   ·rcases hp.own n x hnu ⟨vn,bn,L,h1,h3,h5⟩ with ⟨q,hq,k⟩ | k
    ·exact f2 q hq k
    ·omega
   ·rw[b0f u _ n hnu,j0v hn] at h1;rw[hp.env.m n vn (verle n vn bn h1)] at h3;have:=hr.inj n m vn vm bn bm L M x h1 h2 h3 h4 h5 h6;subst this;exact hm hn
  by_cases hn:n∈ns
  ·by_cases hm:m∈ns
   ·rw[inn n hn] at h1;rw[inn m hm] at h2;exact hp.hr.inj n m vn vm bn bm L M x h1 h2 h3 h4 h5 h6
   ·exact (mixed n m vn vm bn bm L M hn hm h1 h2 h3 h4 h5 h6).elim
  ·by_cases hm:m∈ns
   ·exact (mixed m n vm vn bm bn M L hm hn h2 h1 h4 h3 h6 h5).elim
   ·rw[out n hn] at h1;rw[out m hm] at h2;rw[hp.env.m n vn (verle n vn bn h1)] at h3;rw[hp.env.m m vm (verle m vm bm h2)] at h4;exact hr.inj n m vn vm bn bm L M x h1 h2 h3 h4 h5 h6
 ·rcases hp.fz b hb with q | ⟨m,hm,q⟩ | q
  ·exact .inl q
  ·exact .inr (.inl ⟨m,hm,old m b q⟩)
  ·exact .inr (.inr q)
 ·have:atName (a0r (Flat.restrict h ns) u) E' m b:=by
   obtain ⟨v,B,L,k1,k2⟩:=hat;exact ⟨v,B,L,by rw[←inn m (hu m hm)];exact k1,k2⟩
  rcases hp.own m b hm this with ⟨q,hq,k⟩ | k
  ·exact .inl ⟨q,hq,old q b k⟩
  ·exact .inr k
end
end Go.Flat
end
section
namespace Go.Flat
open Go.RowKit (Below)
theorem bit_eq (x i:Nat):Nat.beq (Nat.land (Nat.shiftRight x i) 1) 1=x.testBit i:=by
 have h:Nat.land (Nat.shiftRight x i) 1=(x >>> i) &&& 1:=rfl;rw[h];simp only[Nat.testBit,Nat.and_one_is_mod,Nat.one_and_eq_mod_two];rcases Nat.mod_two_eq_zero_or_one (x >>> i) with e | e<;>rw[e]<;>rfl
theorem z0h (bs:List Nat) (i j:Nat):ordered bs i j=(bs.getD j 0).testBit i:=bit_eq _ _
def asks (o:Oper) (i:Nat):Prop:=∃e∈o.after.toList,Region.binds .any e=true∧e.on=i
theorem c2e (acc:List Nat) (o:Oper) (i:Nat):(w1a acc o).testBit i=true↔∃m,asks o m∧(i=m∨(acc.getD m 0).testBit i=true):=by
 have key:∀(es:List Edge) (s:Nat),((es.foldl (fun s e=>match Region.binds .any e with | true=>Nat.lor s (Nat.lor (Nat.shiftLeft 1 e.on) (acc.getD e.on 0)) | false=>s) s).testBit i=true) ↔
   (s.testBit i=true∨∃e∈es,Region.binds .any e=true∧(i=e.on∨(acc.getD e.on 0).testBit i=true)):=by
  intro es;induction es with
  | nil=>intro s;simp
  | cons e r ih =>
   intro s;rw[List.foldl_cons,ih];cases hb:Region.binds .any e with
   | false=>simp[hb]
   | true =>
    have h1:(Nat.lor s (Nat.lor (Nat.shiftLeft 1 e.on) (acc.getD e.on 0))).testBit i=(s.testBit i||((1 <<< e.on).testBit i||(acc.getD e.on 0).testBit i)):=by
     show (s ||| ((1 <<< e.on) ||| (acc.getD e.on 0))).testBit i=_;rw[Nat.testBit_or,Nat.testBit_or]
    have h2:(1 <<< e.on).testBit i=decide (i=e.on):=by
     rw[Nat.shiftLeft_eq,Nat.one_mul,Nat.testBit_two_pow];rw[decide_eq_decide];exact eq_comm
    dsimp only;rw[h1,h2];simp only[Bool.or_eq_true,decide_eq_true_eq,List.mem_cons];constructor
    ·rintro ((h | h | h) | ⟨e',he',h⟩)
     ·exact .inl h
     ·exact .inr ⟨e,.inl rfl,hb,.inl h⟩
     ·exact .inr ⟨e,.inl rfl,hb,.inr h⟩
     ·exact .inr ⟨e',.inr he',h⟩
    ·rintro (h | ⟨e',rfl | he',h1,h2⟩)
     ·exact .inl (.inl h)
     ·rcases h2 with h2 | h2
      ·exact .inl (.inr (.inl h2))
      ·exact .inl (.inr (.inr h2))
     ·exact .inr ⟨e',he',h1,h2⟩
 unfold w1a;refine (key o.after.toList 0).trans ?_;simp only[Nat.zero_testBit,Bool.false_eq_true,false_or,asks];constructor
 ·rintro ⟨e,h1,h2,h3⟩;exact ⟨e.on,⟨e,h1,h2,rfl⟩,h3⟩
 ·rintro ⟨m,⟨e,h1,h2,rfl⟩,h3⟩;exact ⟨e,h1,h2,h3⟩
theorem a1i:∀(ops:List Oper) (acc:List Nat) (m:Nat),m<acc.length→(befs ops acc)[m]? = acc[m]? := by
 intro ops;induction ops with
 | nil=>intro acc m _;rfl
 | cons o r ih =>
  intro acc m hm;simp only[befs];rw[ih _ m (by simp;omega),List.getElem?_append_left hm]
theorem befs_get:∀(ops:List Oper) (acc:List Nat) (k:Nat) (o:Oper),ops[k]? = some o→∃acc',(befs ops acc)[acc.length+k]? = some (w1a acc' o)∧acc'.length=acc.length+k∧∀m,m<acc.length+k→acc'[m]? = (befs ops acc)[m]? := by
 intro ops;induction ops with
 | nil=>intro acc k o h;simp at h
 | cons o' r ih =>
  intro acc k o h;cases k with
  | zero =>
   simp at h;subst h;refine ⟨acc,?_,rfl,fun m hm => ?_⟩
   ·simp only[befs,Nat.add_zero];rw[a1i r _ _ (by simp),List.getElem?_append_right (Nat.le_refl _)];simp
   ·simp only[befs,Nat.add_zero] at hm ⊢;rw[a1i r _ m (by simp;omega),List.getElem?_append_left hm]
  | succ k =>
   simp only[List.getElem?_cons_succ] at h;obtain ⟨acc',h1,h2,h3⟩:=ih (acc++[w1a acc o']) k o h;simp only[befs];simp only[List.length_append,List.length_cons,List.length_nil,Nat.zero_add] at h1 h2 h3;refine ⟨acc',by rw[←h1];congr 1;omega,by omega,fun m hm=>h3 m (by omega)⟩
theorem a1k:∀(ops:List Oper) (b k:Nat) (o:Oper),w1b ops b=true→ops[k]? = some o→∀i,asks o i→i<b+k:=by
 intro ops;induction ops with
 | nil=>intro b k o _ h;simp at h
 | cons o' r ih =>
  intro b k o hb h i hi;simp only[w1b,Bool.and_eq_true] at hb;cases k with
  | zero =>
   simp at h;subst h;obtain ⟨e,h1,h2,rfl⟩:=hi;have:=hb.1;rw[List.all_eq_true] at this;have:=this e h1;rw[h2] at this
   simpa [Nat.blt_eq] using this
  | succ k =>
   have:=ih (b+1) k o hb.2 (by simpa using h) i hi;omega
theorem v0b {ops:List Oper} (hb:w1b ops 0=true) {D:Nat→Prop} (hD:∀j o,ops[j]? = some o→D j→∀m,asks o m→D m):∀j o,ops[j]? = some o→(∀m,asks o m→D m)→∀i,ordered (befs ops []) i j=true→i<j∧D i:=by
 intro j;induction j using Nat.strongRecOn with
 | _ j ih =>
  intro o ho hready i hi;obtain ⟨acc,h1,h2,h3⟩:=befs_get ops [] j o ho;simp only[List.length_nil,Nat.zero_add] at h1 h2 h3;rw[z0h] at hi;have hj:(befs ops []).getD j 0=w1a acc o:=by rw[List.getD_eq_getElem?_getD,h1];rfl
  rw[hj,c2e] at hi;obtain ⟨m,hm,hi⟩:=hi;have hmj:=a1k ops 0 j o hb ho m hm;rw[Nat.zero_add] at hmj;rcases hi with rfl | hi
  ·exact ⟨hmj,hready _ hm⟩
  ·have hacc:acc.getD m 0=(befs ops []).getD m 0:=by rw[List.getD_eq_getElem?_getD,List.getD_eq_getElem?_getD,h3 m hmj]
   rw[hacc,←z0h] at hi;have hlt:m<ops.length:=by
    have:j<ops.length:=by
     rcases Nat.lt_or_ge j ops.length with q | q
     ·exact q
     ·rw[List.getElem?_eq_none q] at ho;cases ho
    omega
   have hom:ops[m]? = some ops[m]:=List.getElem?_eq_getElem hlt;obtain ⟨q1,q2⟩:=ih m hmj _ hom (hD m _ hom (hready m hm)) i hi;exact ⟨by omega,q2⟩
theorem j0g:∀(ops:List Oper) (s b i:Nat),e0a ops s b=some i→b≤i∧∃o,ops[i-b]? = some o∧o.dst=some s:=by
 intro ops;induction ops with
 | nil=>intro s b i h;cases h
 | cons o r ih =>
  intro s b i h;simp only[e0a] at h;cases hd:o.dst with
  | none =>
   rw[hd] at h;obtain ⟨h1,o',h2,h3⟩:=ih s (b+1) i h;exact ⟨by omega,o',by rw[show i-b=(i-(b+1))+1 by omega];simpa using h2,h3⟩
  | some d =>
   rw[hd] at h;dsimp only at h;cases hb:Nat.beq d s with
   | true =>
    rw[hb] at h;simp at h;subst h;exact ⟨Nat.le_refl _,o,by simp,by rw[hd,Nat.eq_of_beq_eq_true hb]⟩
   | false =>
    rw[hb] at h;obtain ⟨h1,o',h2,h3⟩:=ih s (b+1) i h;exact ⟨by omega,o',by rw[show i-b=(i-(b+1))+1 by omega];simpa using h2,h3⟩
theorem w1h:∀(ops:List Oper) (s b j:Nat) (o:Oper),(ops.filterMap (·.dst)).Nodup→ops[j]? = some o→o.dst=some s→e0a ops s b=some (b+j):=by
 intro ops;induction ops with
 | nil=>intro s b j o _ h;simp at h
 | cons o' r ih =>
  intro s b j o hn h hd;simp only[e0a];cases j with
  | zero =>
   simp at h;subst h;rw[hd];simp
  | succ j =>
   simp only[List.getElem?_cons_succ] at h;have hmem:o∈r:=List.mem_of_getElem? h;cases hd':o'.dst with
   | none =>
    rw[List.filterMap_cons,hd'] at hn;dsimp only;rw[ih s (b+1) j o hn h hd];congr 1;omega
   | some d =>
    rw[List.filterMap_cons,hd',List.nodup_cons] at hn;have hne:d≠s:=fun e=>hn.1 (by rw[List.mem_filterMap];exact ⟨o,hmem,by rw[hd,e]⟩)
    have:Nat.beq d s=false:=by
     cases hb:Nat.beq d s with
     | false=>rfl
     | true=>exact absurd (Nat.eq_of_beq_eq_true hb) hne
    dsimp only;rw[this];simp only[cond_false];rw[ih s (b+1) j o hn.2 h hd];congr 1;omega
theorem look_all {ops:List Oper} {bs:List Nat}:∀(l:List Oper) (b k:Nat) (o:Oper),z0m ops bs l b=true→l[k]? = some o→∀s∈looks ops o,r1f ops bs (b+k) s=true:=by
 intro l;induction l with
 | nil=>intro b k o _ h;simp at h
 | cons o' r ih =>
  intro b k o hl h s hs;simp only[z0m,Bool.and_eq_true] at hl;cases k with
  | zero =>
   simp at h;subst h;have:=hl.1;rw[List.all_eq_true] at this;exact this s hs
  | succ k =>
   have:=ih (b+1) k o hl.2 (by simpa using h) s hs;rw[show b+(k+1)=b+1+k by omega];exact this
theorem look_ok {ops:List Oper} {bs:List Nat} {j s i:Nat} (h:r1f ops bs j s=true) (hw:e0a ops s 0=some i):i=j∨ordered bs i j=true∨ordered bs j i=true:=by
 unfold r1f at h;rw[hw] at h;simp only[Bool.or_eq_true] at h;rcases h with h | h
 ·exact .inl (Nat.eq_of_beq_eq_true h)
 ·exact .inr h
end Go.Flat
end
section
namespace Go.Flat
open Go.RowKit (Below)
abbrev Ent:=Option (V×Ups×List Nat×List Nat)
def Ent.val:Ent→V
 | none => .undef
 | some x=>x.1
def Ent.ups:Ent→Ups
 | none=>[]
 | some x=>x.2.1
def k1i (cx:Cx) (T:Nat→V):Operand→V
 | .tmp t=>T t
 | .const v=>r1y v
 | .global g=>match cx.glob g with | some x => .v false [.pin x.1 x.2 0] | none => .lost
 | .func f => .v false [.clo f .unit ()]
def o0u (ops:List Oper) (o:Oper) (T:Nat→V):Option Bool :=
 match o.guard with
 | none=>some true
 | some (j,want) =>
  match (ops[j]?).bind (·.dst) with
  | none=>none
  | some g =>
   match T g with
   | .v false [.val .bool b]=>some (bif b then want else !want)
   | .undef=>some false
   | _=>none
def putT (T:Nat→V) (dst:Option Nat) (x:V):Nat→V:=fun s=>if dst=some s then x else T s
section
variable {cx:Cx} {call:Oracle cx} {fx:Hints} {R:Type}
def Trace (cx:Cx) (call:Oracle cx) (fx:Hints) (all:List Oper):List Oper→(Nat→V)→Heap→List Ent→(Nat→V)→Heap→Prop
 | [],T,h,L,T',h'=>L=[]∧T'=T∧h'=h
 | o :: r, T, h, L, T', h' => ∃ e L', L = e :: L' ∧
     (match e with
      | none=>o0u all o T=some false
      | some (x,u,s1,s2)=>o0u all o T=some true∧evOp cx call fx o (k1i cx T) (restrict h (s1++s2)) (fun x u=>some (x,u))=some (x,u)∧(∀n∈a0d u,n∈s2∧n<h.length)) ∧
     Trace cx call fx all r (putT T o.dst e.val) (a0r h e.ups) L' T' h'
theorem guardK_T {ops:List Oper} {o:Oper} {st:St} {k:Bool→St→Option R} {r:R} (hk:d1m ops o st k=some r) :
  ∃run st',k run st'=some r∧o0u ops o (getT st.t)=some run∧st'.h=st.h∧getT st'.t=getT st.t:=by
 unfold d1m at hk;unfold o0u;cases hg:o.guard with
 | none=>rw[hg] at hk;exact ⟨true,st,hk,rfl,rfl,rfl⟩
 | some jw =>
  obtain ⟨j,want⟩:=jw;rw[hg] at hk;dsimp only at hk ⊢;cases hj:(ops[j]?).bind (·.dst) with
  | none=>rw[hj] at hk;cases hk
  | some g =>
   rw[hj] at hk;dsimp only at hk ⊢;split at hk
   ·rename_i b hb;have same:getT ((g,V.v false [Cell.val .bool b])::st.t)=getT st.t:=by
     funext s;simp only[getT];cases hbe:Nat.beq g s with
     | false=>rfl
     | true=>rw[←Nat.eq_of_beq_eq_true hbe,hb];rfl
    simp only[hb];cases b with
    | true=>exact ⟨want,_,hk,rfl,rfl,same⟩
    | false=>exact ⟨!want,_,hk,rfl,rfl,same⟩
   ·rename_i hb;simp only[hb];exact ⟨false,st,hk,rfl,rfl,rfl⟩
   ·cases hk
theorem opnd_T (st:St):opnd cx st=k1i cx (getT st.t):=by
 funext x;cases x<;>rfl
def trOf:List Ent→Nat→Tr→Tr
 | [],_,tr=>tr
 | none::L,i,tr=>trOf L (i+1) tr
 | some (_,_,s1,s2)::L,i,tr=>trOf L (i+1) (t0l i s1 s2 tr)
theorem s1s (o:Oper) (ρ:Operand→V) (h:Heap) {k:List Nat→List Nat→Option R} {r:R} (hk:w1u cx fx o ρ h k=some r):∃s1 s2,k s1 s2=some r:=by
 have force:∀(ns:List Nat) {kk:List Nat→Option R},w0l ns kk=some r→∃ms,kk ms=some r:=by
  intro ns;induction ns with
  | nil=>intro kk h;exact ⟨_,h⟩
  | cons n rest ih=>intro kk h;obtain ⟨ms,h⟩:=ih h;exact ⟨_,h⟩
 have close:∀(d:Nat) (ns:List Nat) {kk:List Nat→Option R},l1m h d ns kk=some r→∃ms,kk ms=some r:=by
  intro d;induction d with
  | zero=>intro ns kk hh;exact force ns hh
  | succ d ih =>
   intro ns kk hh;obtain ⟨ms,hh⟩:=force ns hh;obtain ⟨ms',hh⟩:=ih _ hh;exact ⟨_,hh⟩
 have wr:∀ns,l1m h 4 ns (fun ns=>w0l (fresh cx fx o) fun fr=>k [] (ns++fr))=some r→∃s1 s2,k s1 s2=some r:=by
  intro ns hh;obtain ⟨ms,hh⟩:=close 4 ns hh;obtain ⟨fr,hh⟩:=force _ hh;exact ⟨_,_,hh⟩
 have rd:∀ns,l1m h 4 ns (fun ns=>k ns [])=some r→∃s1 s2,k s1 s2=some r:=by
  intro ns hh;obtain ⟨ms,hh⟩:=close 4 ns hh;exact ⟨_,_,hh⟩
 unfold w1u at hk;dsimp only at hk;split at hk
 all_goals (try exact ⟨_,_,hk⟩)
 all_goals (try exact rd _ hk)
 all_goals (try exact wr _ hk)
 all_goals (try (obtain ⟨fr,hk⟩:=force _ hk;exact ⟨_,_,hk⟩))
 ·split at hk
  ·exact wr _ hk
  ·exact rd _ hk
 ·split at hk
  ·exact wr _ hk
  ·exact rd _ hk
 ·split at hk
  ·exact wr _ hk
  ·exact rd _ hk
 ·split at hk
  ·split at hk
   ·obtain ⟨ms,hk⟩:=close 4 _ hk;obtain ⟨fr,hk⟩:=force _ hk;exact ⟨_,_,hk⟩
   ·exact wr _ hk
  ·exact wr _ hk
theorem l1f (all:List Oper):∀(ops:List Oper) (i:Nat) (st:St) (tr:Tr) (k:St→Tr→Option R) (r:R),l1g cx call fx all ops i st tr k=some r →
  ∃L st',k st' (trOf L i tr)=some r∧Trace cx call fx all ops (getT st.t) st.h L (getT st'.t) st'.h:=by
 intro ops;induction ops with
 | nil=>intro i st tr k r hk;exact ⟨[],st,hk,rfl,rfl,rfl⟩
 | cons o rest ih =>
  intro i st tr k r hk;simp only[l1g] at hk;obtain ⟨run,st1,hk,hg,hh,ht⟩:=guardK_T hk;cases run with
  | true =>
   dsimp only at hk;obtain ⟨s1,s2,hk⟩:=s1s _ _ _ hk;rw[r1v] at hk;cases hev:evOp cx call fx o (opnd cx st1) (restrict st1.h (s1++s2)) (fun x u=>some (x,u)) with
   | none=>rw[hev] at hk;cases hk
   | some p =>
    obtain ⟨x,u⟩:=p;rw[hev] at hk;simp only[Option.bind_some] at hk;split at hk
    case h_2=>cases hk
    rename_i hall;obtain ⟨L,st',h1,h2⟩:=ih _ _ _ _ r hk;refine ⟨some (x,u,s1,s2)::L,st',h1,some (x,u,s1,s2),L,rfl,⟨hg,?_,fun n hn => ?_⟩,?_⟩
    ·rw[←ht,←hh,←opnd_T];exact hev
    ·simp only[a0d,List.mem_map] at hn;obtain ⟨y,hy,rfl⟩:=hn;rw[List.all_eq_true] at hall;have:=hall y hy;simp only[Bool.and_eq_true] at this;exact ⟨b0u.1 this.1,by rw[←hh];simpa [Nat.blt_eq] using this.2⟩
    ·have:putT (getT st.t) o.dst (Ent.val (some (x,u,s1,s2)))=getT (putV st1.t o.dst x):=by
      funext s;rw[p0q,ht];rfl
     rw[this,←hh];exact h2
  | false =>
   dsimp only at hk;obtain ⟨L,st',h1,h2⟩:=ih _ _ _ _ r hk;refine ⟨none::L,st',h1,none,L,rfl,hg,?_⟩;have:putT (getT st.t) o.dst (Ent.val none)=getT (putV st1.t o.dst .undef):=by
    funext s;rw[p0q,ht];rfl
   rw[this,←hh];exact h2
theorem e1j:∀(L:List Ent) (i:Nat) (tr:Tr),trOf L i tr=trOf L i []++tr:=by
 intro L;induction L with
 | nil=>intro i tr;rfl
 | cons e L ih =>
  intro i tr;cases e with
  | none=>exact ih _ _
  | some x =>
   obtain ⟨x,u,s1,s2⟩:=x;simp only[trOf];rw[ih,ih (i+1) (t0l i s1 s2 [])];rw[List.append_assoc];congr 1;unfold t0l;split<;>simp
theorem trOf_mem:∀(L:List Ent) (i j:Nat) (x:V) (u:Ups) (s1 s2:List Nat),L[j]? = some (some (x,u,s1,s2))→¬(s1=[]∧s2=[])→(i+j,s1,s2)∈trOf L i []:=by
 intro L;induction L with
 | nil=>intro i j x u s1 s2 h;simp at h
 | cons e L ih =>
  intro i j x u s1 s2 h hne;cases j with
  | zero =>
   simp at h;subst h;simp only[trOf];rw[e1j];have:t0l i s1 s2 []=[(i,s1,s2)]:=by
    unfold t0l;split
    ·exact absurd ⟨rfl,rfl⟩ hne
    ·rfl
   rw[this];simp
  | succ j =>
   simp only[List.getElem?_cons_succ] at h;have:=ih (i+1) j x u s1 s2 h hne;cases e with
   | none=>simp only[trOf];rw[show i+(j+1)=i+1+j by omega];exact this
   | some y =>
    obtain ⟨y,v,t1,t2⟩:=y;simp only[trOf];rw[e1j,show i+(j+1)=i+1+j by omega];exact List.mem_append_left _ this
theorem l1n (b:List Nat×List Nat):clash ([],[]) b=false∧clash b ([],[])=false:=by
 have h1:∀l:List Nat,meet [] l=false:=fun l=>rfl
 have h2:∀l:List Nat,meet l []=false:=by
  intro l;induction l with
  | nil=>rfl
  | cons n r ih=>simp[meet,hasN]
 simp[clash,h1,h2]
theorem c2k {bs:List Nat}:∀ {tr:Tr},v0z bs tr=true→∀(pre post:Tr) (x y:Nat×List Nat×List Nat),tr=pre++x::post→y∈post→clash x.2 y.2=true→ordered bs x.1 y.1=true:=by
 intro tr;induction tr with
 | nil=>intro _ pre post x y h;simp at h
 | cons z r ih =>
  intro h pre post x y he hy hc;obtain ⟨zi,zs⟩:=z;simp only[v0z,Bool.and_eq_true] at h;cases pre with
  | nil =>
   simp at he;obtain ⟨rfl,rfl⟩:=he;have:=h.1;rw[List.all_eq_true] at this;have:=this y hy;simp only[Bool.or_eq_true,Bool.not_eq_true'] at this;rcases this with q | q
   ·simp only at hc;rw[hc] at q;cases q
   ·exact q
  | cons w pre =>
   simp at he;exact ih h.2 pre post x y he.2 hy hc
theorem s1r:∀(L:List Ent) (b i j:Nat) (x y:V) (u v:Ups) (s1 s2 t1 t2:List Nat),i<j→L[i]? = some (some (x,u,s1,s2))→L[j]? = some (some (y,v,t1,t2))→¬(s1=[]∧s2=[])→¬(t1=[]∧t2=[]) →
  ∃pre post,(trOf L b []).reverse=pre++(b+i,s1,s2)::post∧(b+j,t1,t2)∈post:=by
 intro L;induction L with
 | nil=>intro b i j x y u v s1 s2 t1 t2 _ h;simp at h
 | cons e L ih =>
  intro b i j x y u v s1 s2 t1 t2 hij h1 h2 hs ht;obtain ⟨j,rfl⟩:∃j',j=j'+1:=⟨j-1,by omega⟩;simp only[List.getElem?_cons_succ] at h2;cases i with
  | zero =>
   simp at h1;subst h1;simp only[trOf];rw[e1j];have:t0l b s1 s2 []=[(b,s1,s2)]:=by
    unfold t0l;split
    ·exact absurd ⟨rfl,rfl⟩ hs
    ·rfl
   rw[this,List.reverse_append];refine ⟨[],(trOf L (b+1) []).reverse,rfl,?_⟩;rw[List.mem_reverse,show b+(j+1)=b+1+j by omega];exact trOf_mem L (b+1) j y v t1 t2 h2 ht
  | succ i =>
   simp only[List.getElem?_cons_succ] at h1;obtain ⟨pre,post,k1,k2⟩:=ih (b+1) i j x y u v s1 s2 t1 t2 (by omega) h1 h2 hs ht;have e1:b+(i+1)=b+1+i:=by omega
   have e2:b+(j+1)=b+1+j:=by omega
   rw[e1,e2];cases e with
   | none=>exact ⟨pre,post,k1,k2⟩
   | some z =>
    obtain ⟨z,w,r1,r2⟩:=z;simp only[trOf];rw[e1j,List.reverse_append,k1];exact ⟨(t0l b r1 r2 []).reverse++pre,post,by rw[List.append_assoc],k2⟩
theorem i1k {bs:List Nat} {L:List Ent} (h:v0z bs (trOf L 0 []).reverse=true) {i j:Nat} (hij:i<j) {x y:V} {u v:Ups} {s1 s2 t1 t2:List Nat} (h1:L[i]? = some (some (x,u,s1,s2))) (h2:L[j]? = some (some (y,v,t1,t2)))
  (hc:clash (s1,s2) (t1,t2)=true):ordered bs i j=true:=by
 by_cases hs:s1=[]∧s2=[]
 ·obtain ⟨rfl,rfl⟩:=hs;rw[(l1n _).1] at hc;cases hc
 by_cases ht:t1=[]∧t2=[]
 ·obtain ⟨rfl,rfl⟩:=ht;rw[(l1n _).2] at hc;cases hc
 obtain ⟨pre,post,k1,k2⟩:=s1r L 0 i j x y u v s1 s2 t1 t2 hij h1 h2 hs ht;simp only[Nat.zero_add] at k1 k2;exact c2k h pre post _ _ k1 k2 hc
theorem meet_iff {a b:List Nat}:meet a b=true↔∃n,n∈a∧n∈b:=by
 simp only[meet,List.any_eq_true,b0u]
theorem a1c {s1 s2 t1 t2:List Nat}:clash (s1,s2) (t1,t2)=true↔(∃n,n∈s2∧n∈t1++t2)∨∃n,n∈t2∧n∈s1:=by
 simp only[clash,Bool.or_eq_true,meet_iff]
end
end Go.Flat
end
section
namespace Go.Flat
open Go.RowKit (Below)
def ent (L:List Ent) (i:Nat):Ent:=(L[i]?).getD none
def TD (ops:List Oper) (L:List Ent) (T0:Nat→V) (D:Nat→Bool):Nat→V:=fun s =>
 match e0a ops s 0 with
 | some i=>if D i=true then (ent L i).val else T0 s
 | none=>T0 s
def HD (L:List Ent) (h0:Heap) (D:Nat→Bool):Nat→Heap
 | 0=>h0
 | n+1=>if D n=true then a0r (HD L h0 D n) (ent L n).ups else HD L h0 D n
theorem m0c (L:List Ent) (h0:Heap) (D:Nat→Bool):∀n,(HD L h0 D n).length=h0.length:=by
 intro n;induction n with
 | zero=>rfl
 | succ n ih=>simp only[HD];split<;>simp[a0l,ih]
theorem HD_get {L:List Ent} {h0:Heap} {D D':Nat→Bool} {m:Nat}:∀n,(∀i,i<n→m∈a0d (ent L i).ups→D i=D' i)→(HD L h0 D n)[m]? = (HD L h0 D' n)[m]? := by
 intro n;induction n with
 | zero=>intro _;rfl
 | succ n ih =>
  intro h;have ih:=ih fun i hi=>h i (by omega)
  simp only[HD];by_cases hm:m∈a0d (ent L n).ups
  ·have e:=h n (by omega) hm;rw[←e];split
   ·exact g0u _ _ _ m hm (by rw[m0c,m0c])
   ·exact ih
  ·have k:∀(E:Nat→Bool),(if E n=true then a0r (HD L h0 E n) (ent L n).ups else HD L h0 E n)[m]? = (HD L h0 E n)[m]? := by
    intro E;split
    ·exact b0f _ _ m hm
    ·rfl
   rw[k D,k D'];exact ih
theorem i1m {L:List Ent} {h0:Heap} {D D':Nat→Bool}:∀n,(∀i,i<n→D i=D' i)→HD L h0 D n=HD L h0 D' n:=by
 intro n h;apply List.ext_getElem?;intro m;exact HD_get n fun i hi _=>h i hi
theorem n1m (h:Heap) (u v:Ups) (hd:∀n,n∈a0d u→n ∉ a0d v):a0r (a0r h u) v=a0r (a0r h v) u:=by
 apply List.ext_getElem?;intro n;by_cases h1:n∈a0d u
 ·rw[b0f v _ n (hd n h1)];exact g0u u _ _ n h1 (by rw[a0l])
 ·rw[b0f u (a0r h v) n h1];by_cases h2:n∈a0d v
  ·exact g0u v _ _ n h2 (by rw[a0l])
  ·rw[b0f v _ n h2,b0f v _ n h2,b0f u _ n h1]
def addD (D:Nat→Bool) (j:Nat):Nat→Bool:=fun i=>D i||Nat.beq i j
theorem a1o (D:Nat→Bool) (j:Nat):addD D j j=true:=by simp[addD]
theorem m0b (D:Nat→Bool) (j i:Nat) (h:i≠j):addD D j i=D i:=by
 have:Nat.beq i j=false:=by
  cases hb:Nat.beq i j with
  | false=>rfl
  | true=>exact absurd (Nat.eq_of_beq_eq_true hb) h
 simp[addD,this]
theorem HD_put {L:List Ent} {h0:Heap} {D:Nat→Bool} {j:Nat} (hj:D j=false):∀n,j<n→(∀i,j<i→i<n→D i=true→∀m,m∈a0d (ent L j).ups→m ∉ a0d (ent L i).ups) →
  HD L h0 (addD D j) n=a0r (HD L h0 D n) (ent L j).ups:=by
 intro n;induction n with
 | zero=>intro h;omega
 | succ n ih =>
  intro hlt hd;simp only[HD];by_cases e:j=n
  ·subst e;rw[a1o,if_pos rfl,hj,if_neg (by simp),i1m (D:=addD D j) (D':=D) j fun i hi=>m0b D j i (by omega)]
  ·have hjn:j<n:=by omega
   rw[m0b D j n (fun q=>e q.symm),ih hjn fun i h1 h2=>hd i h1 (by omega)];split
   ·rename_i hDn;exact n1m _ _ _ (hd n hjn (by omega) hDn)
   ·rfl
theorem TD_put {ops:List Oper} {L:List Ent} {T0:Nat→V} {D:Nat→Bool} {j:Nat} {o:Oper} (hn:(ops.filterMap (·.dst)).Nodup) (ho:ops[j]? = some o) (hj:D j=false) :
  TD ops L T0 (addD D j)=putT (TD ops L T0 D) o.dst (ent L j).val:=by
 funext s;unfold putT;by_cases hd:o.dst=some s
 ·have hw:=w1h ops s 0 j o hn ho hd;rw[Nat.zero_add] at hw;rw[if_pos hd];simp only[TD,hw,a1o,if_true]
 ·rw[if_neg hd];unfold TD;cases hw:e0a ops s 0 with
  | none=>rfl
  | some i =>
   obtain ⟨_,o',k1,k2⟩:=j0g ops s 0 i hw;rw[Nat.sub_zero] at k1;have hne:i≠j:=fun e=>by
    subst e;rw[ho] at k1;injection k1 with k1;subst k1;exact hd k2
   simp only[m0b D j i hne]
def upto (j:Nat):Nat→Bool:=fun i=>Nat.blt i j
theorem upto_succ (j:Nat):upto (j+1)=addD (upto j) j:=by
 funext i;simp only[upto,addD];rw[Bool.eq_iff_iff];simp[Nat.blt_eq,Nat.beq_eq];omega
theorem s0f (j:Nat):upto j j=false:=by
 cases h:upto j j with
 | false=>rfl
 | true=>simp[upto,Nat.blt_eq] at h
theorem h0h {j i:Nat}:upto j i=true↔i<j:=by simp[upto,Nat.blt_eq]
section
variable {cx:Cx} {call:Oracle cx} {fx:Hints} {R:Type}
def c2y (cx:Cx) (call:Oracle cx) (fx:Hints) (all:List Oper) (T0:Nat→V) (h0:Heap) (L:List Ent) (j:Nat) (o:Oper):Prop :=
 match ent L j with
 | none=>o0u all o (TD all L T0 (upto j))=some false
 | some (x,u,s1,s2)=>o0u all o (TD all L T0 (upto j))=some true∧evOp cx call fx o (k1i cx (TD all L T0 (upto j))) (restrict (HD L h0 (upto j) all.length) (s1++s2)) (fun x u=>some (x,u))=some (x,u) ∧
   (∀n∈a0d u,n∈s2∧n<h0.length)
theorem s1q {all:List Oper} {T0:Nat→V} {h0:Heap} {L:List Ent} {T':Nat→V} {h':Heap} (hn:(all.filterMap (·.dst)).Nodup):∀(r:List Oper) (j:Nat) (L':List Ent) (T:Nat→V) (h:Heap),
  all.drop j=r→L.drop j=L'→T=TD all L T0 (upto j)→h=HD L h0 (upto j) all.length→Trace cx call fx all r T h L' T' h' →
   (∀i o,j≤i→all[i]? = some o→c2y cx call fx all T0 h0 L i o)∧T'=TD all L T0 (upto all.length)∧h'=HD L h0 (upto all.length) all.length:=by
 intro r;induction r with
 | nil =>
  intro j L' T h hr hL hT hh htr;obtain ⟨_,rfl,rfl⟩:=htr;have hlen:all.length≤j:=by
   have:=congrArg List.length hr;simp at this;omega
  have e:∀i,i<all.length→upto j i=upto all.length i:=by
   intro i hi;rw[h0h.2 hi,h0h.2 (by omega)]
  refine ⟨fun i o hi ho => ?_,?_,?_⟩
  ·rw[List.getElem?_eq_none (by omega)] at ho;cases ho
  ·rw[hT];funext s;unfold TD;cases hw:e0a all s 0 with
   | none=>rfl
   | some i =>
    obtain ⟨_,o',k1,_⟩:=j0g all s 0 i hw;rw[Nat.sub_zero] at k1;have hi:i<all.length:=by
     rcases Nat.lt_or_ge i all.length with q | q
     ·exact q
     ·rw[List.getElem?_eq_none q] at k1;cases k1
    simp only[e i hi]
  ·rw[hh];exact i1m _ e
 | cons o r ih =>
  intro j L' T h hr hL hT hh htr;obtain ⟨e,L2,rfl,he,htr⟩:=htr;have ho:all[j]? = some o:=by
   have:(all.drop j)[0]? = some o:=by rw[hr];rfl
   rw[List.getElem?_drop] at this
   simpa using this
  have hjl:j<all.length:=by
   rcases Nat.lt_or_ge j all.length with q | q
   ·exact q
   ·rw[List.getElem?_eq_none q] at ho;cases ho
  have hent:ent L j=e:=by
   have:(L.drop j)[0]? = some e:=by rw[hL];rfl
   rw[List.getElem?_drop] at this;unfold ent;rw[show j=j+0 from rfl,this];rfl
  have hr':all.drop (j+1)=r:=by rw[←List.tail_drop,hr];rfl
  have hL':L.drop (j+1)=L2:=by rw[←List.tail_drop,hL];rfl
  obtain ⟨k1,k2,k3⟩:=ih (j+1) L2 _ _ hr' hL'
   (by rw[hT,upto_succ,TD_put hn ho (s0f j),hent])
   (by rw[hh,upto_succ,HD_put (s0f j) all.length hjl (fun i h1 _ h3=>by rw[h0h] at h3;omega),hent]) htr
  refine ⟨fun i o' hi ho' => ?_,k2,k3⟩;by_cases hij:i=j
  ·subst hij;rw[ho] at ho';injection ho' with ho';subst ho';unfold c2y;rw[hent];cases e with
   | none=>rw[←hT];exact he
   | some x =>
    obtain ⟨x,u,s1,s2⟩:=x;rw[←hT,←hh];exact ⟨he.1,he.2.1,fun n hn=>⟨(he.2.2 n hn).1,by have:=(he.2.2 n hn).2;rw[hh,m0c] at this;exact this⟩⟩
  ·exact k1 i o' (by omega) ho'
end
section
variable {cx:Cx} {call:Oracle cx} {fx:Hints} {W0 W W':World} {F0 F F':Fz} {O0:List Nat} {E E':EnvM} {h:Heap} {a:Act} {nt:Slots} {st:St}
theorem t0s {ops:List Oper} {o:Oper} {T:Nat→V} {run:Bool} (ht:∀s,RdV cx.P W F E (T s) (a.tmps.getD s undef)) (hg:o0u ops o T=some run):Region.wanted o (yielded ops.toArray a.tmps)=run:=by
 unfold o0u at hg;cases hgu:o.guard with
 | none=>rw[hgu] at hg;injection hg with hg;subst hg;simp[Region.wanted,hgu]
 | some jw =>
  obtain ⟨j,want⟩:=jw;rw[hgu] at hg;dsimp only at hg;cases hj:(ops[j]?).bind (·.dst) with
  | none=>rw[hj] at hg;cases hg
  | some g =>
   rw[hj] at hg;dsimp only at hg;have hj':((ops.toArray)[j]?).bind (·.dst)=some g:=by simpa using hj
   have hv:=ht g;split at hg
   ·rename_i b hb;injection hg with hg;rw[hb] at hv;have hv:=b1z (r0l hv);simp only[Region.wanted,hgu,yielded,hj',Option.bind_some,hv];subst hg;cases b<;>cases want<;>rfl
   ·rename_i hb;injection hg with hg;subst hg;rw[hb] at hv;have hv:a.tmps.getD g undef=undef:=hv;simp only[Region.wanted,hgu,yielded,hj',Option.bind_some];rw[Array.getD_eq_getD_getElem?] at hv;cases hgt:a.tmps[g]? with
    | none=>cases want<;>rfl
    | some v =>
     rw[hgt] at hv;simp at hv;subst hv;cases want<;>rfl
   ·cases hg
def RelT (cx:Cx) (W0:World) (F0:Fz) (O0:List Nat) (nt:Slots) (T:Nat→V) (h:Heap) (a:Act) (W:World) (F:Fz) (E:EnvM):Prop :=
 ∃st:St,st.h=h∧getT st.t=T∧StRel cx W0 F0 O0 nt st a W F E
theorem StRel.drew (hs:StRel cx W0 F0 O0 nt st a W F E) {st':St} (h1:st'.h=st.h) (h2:getT st'.t=getT st.t):StRel cx W0 F0 O0 nt st' a { W with drawn:=W.drawn+1 } F E:=by
 have hl:Later W F { W with drawn:=W.drawn+1 } F:=⟨rfl,rfl,rfl,Nat.le_refl _,fun _ _=>rfl,fun _ hb=>hb⟩;refine ⟨by rw[h1];exact hs.hr.world hl (fun b _=>⟨rfl,fun h=>h⟩),hs.hF,fun s=>by rw[h2];exact (hs.t s).later hl (EnvLe.refl E),hs.later.trans hl,hs.frame,by rw[h1];exact hs.own,hs.fz,hs.size,hs.keep,by rw[h1];exact ⟨hs.defers.1,hs.defers.2.turn fun D _ _ h1 h2 _=>⟨rfl,h1,h2⟩⟩,hs.env⟩
def f1w (s2:List Nat) (len:Nat) (u:Ups):Bool:=u.all fun y=>hasN s2 y.1&&Nat.blt y.1 len
theorem z0k {s2:List Nat} {len:Nat} {u:Ups}:f1w s2 len u=true↔∀n∈a0d u,n∈s2∧n<len:=by
 unfold f1w;rw[List.all_eq_true];constructor
 ·intro h n hn;simp only[a0d,List.mem_map] at hn;obtain ⟨y,hy,rfl⟩:=hn;have:=h y hy;simp only[Bool.and_eq_true] at this;exact ⟨b0u.1 this.1,by simpa [Nat.blt_eq] using this.2⟩
 ·intro h y hy;obtain ⟨k1,k2⟩:=h y.1 (by simp only[a0d,List.mem_map];exact ⟨y,hy,rfl⟩);simp only[Bool.and_eq_true];exact ⟨b0u.2 k1,by simpa [Nat.blt_eq] using k2⟩
structure Open (cx:Cx) (call:Oracle cx) (fx:Hints) (ops:List Oper) (T0:Nat→V) (h0:Heap) (L:List Ent):Prop where
 nodup:(ops.filterMap (·.dst)).Nodup
 look:z0m ops (befs ops []) ops 0=true
 back:w1b ops 0=true
 ents:∀i o,ops[i]? = some o→c2y cx call fx ops T0 h0 L i o
 apart:v0z (befs ops []) (trOf L 0 []).reverse=true
theorem p1g {rd:Option Nat} {ops:List Oper} {T0:Nat→V} {h0:Heap} {L:List Ent} {Q:Exit→Act→World→Prop} (hc:CallSound cx call W0 F0) (tab:e0u cx) (hfn:FnOk cx call) (ho:Open cx call fx ops T0 h0 L) (hd:l1j nt.nt nt.K ops=true)
  (hQ:∀a W F E,RelT cx W0 F0 O0 nt (TD ops L T0 (upto ops.length)) (HD L h0 (upto ops.length) ops.length) a W F E→Q .normal a W) :
  ∀(fuel:Nat) (listed:Array Bool) (a:Act) (W:World) (F:Fz) (E:EnvM),listed.size=ops.length→((List.range ops.length).filter fun i => !listed.getD i true).length≤fuel →
   (∀j o,ops[j]? = some o→listed.getD j true=true→∀m,asks o m→listed.getD m true=true) →
   RelT cx W0 F0 O0 nt (TD ops L T0 (fun i=>listed.getD i true)) (HD L h0 (fun i=>listed.getD i true) ops.length) a W F E→wpAnyIn (Rnd rd) 0 cx.P .any ops.toArray Q fuel listed a W:=by
 have done:∀(listed:Array Bool) (a:Act) (W:World) (F:Fz) (E:EnvM),listed.size=ops.length→(∀i,i<ops.length→listed.getD i true=true) →
   RelT cx W0 F0 O0 nt (TD ops L T0 (fun i=>listed.getD i true)) (HD L h0 (fun i=>listed.getD i true) ops.length) a W F E→Q .normal a W:=by
  intro listed a W F E _ hall hrel;have e1:HD L h0 (fun i=>listed.getD i true) ops.length=HD L h0 (upto ops.length) ops.length:=i1m _ fun i hi=>by rw[hall i hi,h0h.2 hi]
  have e2:TD ops L T0 (fun i=>listed.getD i true)=TD ops L T0 (upto ops.length):=by
   funext s;unfold TD;cases hw:e0a ops s 0 with
   | none=>rfl
   | some i =>
    obtain ⟨_,o',k1,_⟩:=j0g ops s 0 i hw;rw[Nat.sub_zero] at k1;have hi:i<ops.length:=by
     rcases Nat.lt_or_ge i ops.length with q | q
     ·exact q
     ·rw[List.getElem?_eq_none q] at k1;cases k1
    simp only[hall i hi,h0h.2 hi]
  rw[e1,e2] at hrel;exact hQ a W F E hrel
 have readyNil:∀(listed:Array Bool),listed.size=ops.length→Region.ready .any ops.toArray listed=[]→∀i,i<ops.length→listed.getD i true=true:=by
  intro listed hsz hr i;induction i using Nat.strongRecOn with
  | _ i ih =>
   intro hi;cases hl:listed.getD i true with
   | true=>rfl
   | false =>
    exfalso;have hmem:i∈Region.ready .any ops.toArray listed:=by
     rw[mem_ready];have hoi:ops[i]? = some ops[i]:=List.getElem?_eq_getElem hi;refine ⟨hl,ops[i],by simp[hi],fun e he hbind => ?_⟩;have hlt:=a1k ops 0 i _ ho.back hoi e.on ⟨e,Array.mem_toList_iff.2 he,hbind,rfl⟩;have:=ih e.on (by omega) (by omega);have hes:e.on<listed.size:=by omega
     simp only[Array.getD_eq_getD_getElem?,Array.getElem?_eq_getElem hes,Option.getD_some] at this ⊢;exact this
    rw[hr] at hmem;cases hmem
 intro fuel;induction fuel with
 | zero =>
  intro listed a W F E hsz hcnt hclosed hrel;have hall:∀i,i<ops.length→listed.getD i true=true:=by
   intro i hi;cases hl:listed.getD i true with
   | true=>rfl
   | false =>
    have:i∈(List.range ops.length).filter fun i => !listed.getD i true:=by
     rw[List.mem_filter,List.mem_range,hl];exact ⟨hi,rfl⟩
    have h0:((List.range ops.length).filter fun i => !listed.getD i true)=[]:=List.eq_nil_of_length_eq_zero (by omega);rw[h0] at this;cases this
  refine ⟨?_,done listed a W F E hsz hall hrel⟩;cases hr:Region.ready .any ops.toArray listed with
  | nil=>rfl
  | cons i r =>
   exfalso;have hmem:i∈Region.ready .any ops.toArray listed:=by rw[hr];simp
   rw[mem_ready] at hmem;obtain ⟨h2,o,h1,_⟩:=hmem;have h1:i<ops.length:=by
    have:ops[i]? = some o:=by simpa using h1
    rcases Nat.lt_or_ge i ops.length with q | q
    ·exact q
    ·rw[List.getElem?_eq_none q] at this;cases this
   rw[hall i h1] at h2;cases h2
 | succ fuel ih =>
  intro listed a W F E hsz hcnt hclosed hrel;refine ⟨fun hr=>done listed a W F E hsz (readyNil listed hsz hr) hrel,fun j hj => ?_⟩;rw[mem_ready] at hj;obtain ⟨hnl,o,hoj,hready⟩:=hj;have hoj:ops[j]? = some o:=by simpa using hoj
  have hjl:j<ops.length:=by
   rcases Nat.lt_or_ge j ops.length with q | q
   ·exact q
   ·rw[List.getElem?_eq_none q] at hoj;cases hoj
  generalize hDe:(fun i=>listed.getD i true)=D at hrel;have hDi:∀i,listed.getD i true=D i:=fun i=>by rw[←hDe]
  have hDj:D j=false:=by rw[←hDi];exact hnl
  have hreadyD:∀m,asks o m→D m=true:=by
   rintro m ⟨e,he,hbind,rfl⟩;have:=hready e (Array.mem_toList_iff.1 he) hbind;have hlt:=a1k ops 0 j o ho.back hoj e.on ⟨e,he,hbind,rfl⟩;have hes:e.on<listed.size:=by omega
   rw[←hDi];simp only[Array.getD_eq_getD_getElem?,Array.getElem?_eq_getElem hes,Option.getD_some] at this ⊢;exact this
  have hclosedD:∀j o,ops[j]? = some o→D j=true→∀m,asks o m→D m=true:=fun j o h1 h2 m h3=>by
   rw[←hDi] at h2 ⊢;exact hclosed j o h1 h2 m h3
  have before:∀i,ordered (befs ops []) i j=true→i<j∧D i=true:=v0b ho.back (D:=fun i=>D i=true) hclosedD j o hoj hreadyD;have behind:∀i,i<ops.length→ordered (befs ops []) j i=true→j<i∧D i=false:=by
   intro i hi hord;have hoi:ops[i]? = some ops[i]:=List.getElem?_eq_getElem hi;have h1:=(v0b ho.back (D:=fun _=>True) (fun _ _ _ _ _ _=>trivial) i _ hoi (fun _ _=>trivial) j hord).1;refine ⟨h1,?_⟩;cases hDi':D i with
   | false=>rfl
   | true =>
    have:=(v0b ho.back (D:=fun i=>D i=true) hclosedD i _ hoi (hclosedD i _ hoi hDi') j hord).2;rw[hDj] at this;cases this
  have agree:∀s∈looks ops o,TD ops L T0 D s=TD ops L T0 (upto j) s:=by
   intro s hs;have hlk:=look_all ops 0 j o ho.look hoj s hs;rw[Nat.zero_add] at hlk;unfold TD;cases hw:e0a ops s 0 with
   | none=>rfl
   | some i =>
    obtain ⟨_,o',k1,_⟩:=j0g ops s 0 i hw;rw[Nat.sub_zero] at k1;have hi:i<ops.length:=by
     rcases Nat.lt_or_ge i ops.length with q | q
     ·exact q
     ·rw[List.getElem?_eq_none q] at k1;cases k1
    rcases look_ok hlk hw with rfl | h1 | h1
    ·simp only[hDj,s0f]
    ·obtain ⟨q1,q2⟩:=before i h1;simp only[q2,h0h.2 q1]
    ·obtain ⟨q1,q2⟩:=behind i hi h1;have:upto j i=false:=by
      cases hu:upto j i with
      | false=>rfl
      | true=>rw[h0h] at hu;omega
     simp only[q2,this]
  have hents:=ho.ents j o hoj;have entLt:∀i x,ent L i=some x→L[i]? = some (some x):=by
   intro i x hx;unfold ent at hx;cases hLi:L[i]? with
   | none=>rw[hLi] at hx;cases hx
   | some e=>rw[hLi] at hx;simp at hx;rw[hx]
  have upsIn:∀i,i<ops.length→∀m,m∈a0d (ent L i).ups→∃x u s1 s2,ent L i=some (x,u,s1,s2)∧m∈s2:=by
   intro i hi m hm;have he:=ho.ents i _ (List.getElem?_eq_getElem hi);unfold c2y at he;cases hx:ent L i with
   | none=>rw[hx] at hm;cases hm
   | some x =>
    obtain ⟨x,u,s1,s2⟩:=x;rw[hx] at he hm;exact ⟨x,u,s1,s2,rfl,(he.2.2 m hm).1⟩
  obtain ⟨st,hst1,hst2,hs⟩:=hrel;have hdst:∀d,o.dst=some d→nt.may d:=fun d e=>b2g (List.all_eq_true.1 hd o (List.mem_of_getElem? hoj)) d e
  have hsize':(listed.setIfInBounds j true).size=ops.length:=by simp[hsz]
  have hDnew:(fun i=>(listed.setIfInBounds j true).getD i true)=addD D j:=by
   funext i;by_cases e:i=j
   ·subst e;rw[a1o];have:i<listed.size:=by omega
    simp[Array.getD_eq_getD_getElem?,this]
   ·rw[m0b D j i e,←hDi];exact getD_set_ne true (fun q=>e q.symm)
  have hcnt':((List.range ops.length).filter fun i => !(listed.setIfInBounds j true).getD i true).length≤fuel:=by
   have e1:((List.range ops.length).filter fun i => !(listed.setIfInBounds j true).getD i true)=((List.range ops.length).filter fun i => !listed.getD i true).filter fun i => !Nat.beq i j:=by
    rw[List.filter_filter];apply List.filter_congr;intro i _;have:(listed.setIfInBounds j true).getD i true=addD D j i:=congrFun hDnew i;rw[this,hDi];simp only[addD,Bool.not_or];rw[Bool.and_comm]
   rw[e1];have hlt:(((List.range ops.length).filter fun i => !listed.getD i true).filter fun i => !Nat.beq i j).length<((List.range ops.length).filter fun i => !listed.getD i true).length:=by
    rw[List.length_filter_lt_length_iff_exists];exact ⟨j,by rw[List.mem_filter,List.mem_range,hnl];exact ⟨hjl,rfl⟩,by simp⟩
   omega
  have hclosed':∀i o',ops[i]? = some o'→(listed.setIfInBounds j true).getD i true=true→∀m,asks o' m→(listed.setIfInBounds j true).getD m true=true:=by
   intro i o' h1 h2 m h3;have g:∀i,(listed.setIfInBounds j true).getD i true=addD D j i:=fun i=>congrFun hDnew i
   rw[g] at h2 ⊢;by_cases e:i=j
   ·subst e;rw[hoj] at h1;injection h1 with h1;subst h1;simp[addD,hreadyD m h3]
   ·rw[m0b D j i e] at h2;simp[addD,hclosedD i o' h1 h2 m h3]
  have next:∀(a':Act) (W':World) (F':Fz) (E':EnvM),RelT cx W0 F0 O0 nt (putT (TD ops L T0 D) o.dst (ent L j).val) (a0r (HD L h0 D ops.length) (ent L j).ups) a' W' F' E' →
    wpAnyIn (Rnd rd) 0 cx.P .any ops.toArray Q fuel (listed.setIfInBounds j true) a' W':=by
   intro a' W' F' E' hr;refine ih _ a' W' F' E' hsize' hcnt' hclosed' ?_;rw[hDnew,TD_put ho.nodup hoj hDj,HD_put hDj ops.length hjl ?_]
   ·exact hr
   ·intro i h1 h2 h3 m hm hm';obtain ⟨x,u,s1,s2,e1,m1⟩:=upsIn j hjl m hm;obtain ⟨y,v,t1,t2,e2,m2⟩:=upsIn i h2 m hm';have hcl:clash (s1,s2) (t1,t2)=true:=a1c.2 (.inl ⟨m,m1,by simp[m2]⟩);have:=(behind i h2 (i1k ho.apart h1 (entLt _ _ e1) (entLt _ _ e2) hcl)).2;rw[h3] at this;cases this
  have hoja:(ops.toArray)[j]? = some o:=by simpa using hoj
  have guardEq:o0u ops o (TD ops L T0 D)=o0u ops o (TD ops L T0 (upto j)):=by
   unfold o0u;cases hgu:o.guard with
   | none=>rfl
   | some jw =>
    obtain ⟨g,want⟩:=jw;dsimp only;cases hgj:(ops[g]?).bind (·.dst) with
    | none=>rfl
    | some s =>
     dsimp only;rw[agree s (by simp[looks,hgu,hgj])]
  have ht:∀s,RdV cx.P W F E (TD ops L T0 D s) (a.tmps.getD s undef):=fun s=>by rw[←hst2];exact hs.t s
  unfold wpOpIn;rw[hoja];dsimp only;unfold c2y at hents;cases hej:ent L j with
  | none =>
   rw[hej] at hents next;have hw:=t0s (cx:=cx) ht (by rw[guardEq];exact hents);rw[hw];simp only[Bool.false_eq_true,if_false];refine ⟨fun _ _=>trivial,next _ W F E ⟨{ st with t:=putV st.t o.dst .undef },by simp[hst1,Ent.ups,a0r],?_,hs.skip hdst⟩⟩;funext s;rw[p0q,hst2];rfl
  | some x =>
   obtain ⟨x,u,s1,s2⟩:=x;rw[hej] at hents next;obtain ⟨hg,hev,hnm⟩:=hents;have hw:=t0s (cx:=cx) ht (by rw[guardEq];exact hg);rw[hw];simp only[if_true];have hres:restrict (HD L h0 D ops.length) (s1++s2)=restrict (HD L h0 (upto j) ops.length) (s1++s2):=by
    apply List.ext_getElem?;intro m;rw[k0g,k0g];by_cases hm:m∈s1++s2
    ·rw[HD_get (D:=D) (D':=upto j) ops.length fun i hi hmi => ?_];obtain ⟨y,v,t1,t2,e2,m2⟩:=upsIn i hi m hmi;rcases Nat.lt_trichotomy i j with hij | hij | hij
     ·have hcl:clash (t1,t2) (s1,s2)=true:=a1c.2 (.inl ⟨m,m2,hm⟩);rw[(before i (i1k ho.apart hij (entLt _ _ e2) (entLt _ _ hej) hcl)).2,h0h.2 hij]
     ·subst hij;rw[hDj,s0f]
     ·have hcl:clash (s1,s2) (t1,t2)=true:=by
       rw[a1c];rcases List.mem_append.1 hm with q | q
       ·exact .inr ⟨m,m2,q⟩
       ·exact .inl ⟨m,q,by simp[m2]⟩
      rw[(behind i hi (i1k ho.apart hij (entLt _ _ hej) (entLt _ _ e2) hcl)).2];cases hu:upto j i with
      | false=>rfl
      | true=>rw[h0h] at hu;omega
    ·have:hasN (s1++s2) m=false:=by
      cases hh:hasN (s1++s2) m with
      | false=>rfl
      | true=>exact absurd (b0u.1 hh) hm
     rw[this];have key:∀(k:Heap),k.length=h0.length→(k[m]?).map (fun e=>if false=true then e else ((0,none):Nat×Option Blk))=if m<h0.length then some (0,none) else none:=by
      intro k hk;by_cases hlt:m<h0.length
      ·rw[List.getElem?_eq_getElem (by omega),if_pos hlt];rfl
      ·rw[List.getElem?_eq_none (by omega),if_neg hlt];rfl
     rw[key _ (m0c _ _ _ _),key _ (m0c _ _ _ _)]
   have hρ:∀y∈o.op.operands.toList,k1i cx (TD ops L T0 D) y=k1i cx (TD ops L T0 (upto j)) y:=by
    intro y hy;cases y with
    | tmp t =>
     exact agree t (by
      unfold looks;apply List.mem_append_left;rw[List.mem_filterMap]
      exact ⟨.tmp t,hy,rfl⟩)
    | _=>rfl
   have hev2:evOp cx call fx o (k1i cx (TD ops L T0 D)) (restrict (HD L h0 D ops.length) (s1++s2)) (fun x u=>some (x,u))=some (x,u):=by
    rw[hres,v1m o _ hρ];exact hev
   have hev3:evOp cx call fx o (k1i cx (TD ops L T0 D)) (restrict (HD L h0 D ops.length) (s1++s2)) (fun x u=>if f1w s2 h0.length u=true then some (x,u) else none)=some (x,u):=by
    rw[r1v,hev2];simp only[Option.bind_some];rw[if_pos (z0k.2 hnm)]
   have hctx:Ctx cx call W F E (· ∈ s1++s2) (restrict (HD L h0 D ops.length) (s1++s2)) (k1i cx (TD ops L T0 D)) a:=by
    refine ⟨hc.later hs.later,tab,?_,fun y => ?_,hs.hF⟩
    ·rw[←hst1];exact hs.hr.restrict
    ·rw[←hst2,←opnd_T];exact o0o (hc.glob.later hs.later) hs.t y
   obtain ⟨x',u',hk',hok⟩:=d1p (fx:=fx) hctx hfn (k:=fun x u=>if f1w s2 h0.length u=true then some (x,u) else none) (by
    intro x' u' r' hk n hn;dsimp only at hk;split at hk
    case isFalse=>cases hk
    rename_i hin;obtain ⟨q1,q2⟩:=z0k.1 hin n hn
    exact ⟨by simp[q1],by rw[o0j,m0c];exact q2⟩) hev3
   dsimp only at hk';split at hk'
   case isFalse=>cases hk'
   simp only[Option.some.injEq,Prod.mk.injEq] at hk';obtain ⟨rfl,rfl⟩:=hk';refine hok rd _ _ (r1u hev3 rd _) fun v W' F' E' hp hv => ?_
   have hpw:=OpPost.widen (by rw[←hst1];exact hs.hr) hp (fun n hn=>by simp[(hnm n hn).1]);rw[←hst1] at hpw;refine next _ W' F' E' ⟨_,?_,?_,hs.step hdst hpw hv⟩
   ·rw[hst1];rfl
   ·funext s;rw[p0q,hst2];rfl
end
end Go.Flat
end
section
namespace Go.Flat
open Go.RowKit (Below)
section
variable {cx:Cx} {call:Oracle cx} {fx:Hints} {W0 W W':World} {F0 F F':Fz} {O0:List Nat} {E E':EnvM} {h:Heap} {a:Act} {R:Type} {nt:Slots} {st:St}
theorem b1p {rd:Option Nat} {id:Nat} {ops:Array Oper} {draw:Bool} {Q:Exit→Act→World→Prop} {k:St→Option R} {r:R} (hc:CallSound cx call W0 F0) (tab:e0u cx) (hfn:FnOk cx call) (hin:InOk cx call) (hm:cx.P.follows .mixedOrders=true)
  (hd:l1j nt.nt nt.K ops.toList=true) (hs:StRel cx W0 F0 O0 nt st a W F E) (hk:g1v cx call fx ops.toList draw st k=some r)
  (hQ:∀st' a' W' F' E',k st'=some r→StRel cx W0 F0 O0 nt st' a' W' F' E'→Q .normal a' W'):(Code.region id ops draw).wpIn (Rnd rd) 0 cx.P Q a W:=by
 unfold g1v at hk;cases draw with
 | false =>
  dsimp only at hk;apply wpIn_region;have:=p1c (W0:=W0) (F0:=F0) (O0:=O0) (nt:=nt) hc tab hfn hin ops.toList rd Q ops.toList 0 st a W F E k r (by simp) hd hs hk hQ;rw[List.range_eq_range']
  simpa using this
 | true =>
  dsimp only at hk;split at hk
  case isFalse=>cases hk
  rename_i hap;simp only[l1k,Bool.and_eq_true] at hap;obtain ⟨h1,h2,h3⟩:=hap;obtain ⟨L,st',hk',htr⟩:=l1f ops.toList ops.toList 0 st [] _ r hk;split at hk'
  case isFalse=>cases hk'
  rename_i hapt;have hnd:=g0x.1 h1;have hz:∀i,upto 0 i=false:=fun i=>by
   cases hu:upto 0 i with
   | false=>rfl
   | true=>rw[h0h] at hu;omega
  have hT0:TD ops.toList L (getT st.t) (upto 0)=getT st.t:=by
   funext s;unfold TD;cases e0a ops.toList s 0 with
   | none=>rfl
   | some i=>simp only[hz i];rfl
  have hH0:∀(D:Nat→Bool) (n:Nat),(∀i,i<n→D i=false)→HD L st.h D n=st.h:=by
   intro D n;induction n with
   | zero=>intro _;rfl
   | succ n ih =>
    intro hD;simp only[HD,hD n (by omega),Bool.false_eq_true,if_false];exact ih fun i hi=>hD i (by omega)
  obtain ⟨k1,k2,k3⟩:=s1q (L:=L) (T0:=getT st.t) (h0:=st.h) hnd ops.toList 0 L _ _ (by simp) (by simp) hT0.symm (hH0 _ _ fun i _=>hz i).symm htr;apply wpIn_region_any hm;refine p1g (W0:=W0) (F0:=F0) (O0:=O0) (nt:=nt) (L:=L) (T0:=getT st.t) (h0:=st.h) hc tab hfn ⟨hnd,h2,h3,fun i o ho=>k1 i o (Nat.zero_le _) ho,hapt⟩ hd (fun a' W' F' E' hr => ?_)
   ops.size _ a _ F E (by simp) ?_ ?_ ?_
  ·obtain ⟨st2,e1,e2,hs2⟩:=hr;rw[←k3] at e1;rw[←k2] at e2;exact hQ st' a' W' F' E' hk' (hs2.guard e1.symm (fun s=>by rw[e2]))
  ·have:((List.range ops.toList.length).filter fun i => !(Array.replicate ops.size false).getD i true).length≤(List.range ops.toList.length).length:=List.length_filter_le _ _
   simpa using this
  ·intro j o hj hl;exfalso;have hlt:j<ops.size:=by
    rcases Nat.lt_or_ge j ops.size with q | q
    ·exact q
    ·rw[List.getElem?_eq_none (by simpa using q)] at hj;cases hj
   simp[Array.getD_eq_getD_getElem?,hlt] at hl
  ·have hf:∀i,i<ops.toList.length→(Array.replicate ops.size false).getD i true=false:=by
    intro i hi;have:i<ops.size:=by simpa using hi
    simp[Array.getD_eq_getD_getElem?,this]
   refine ⟨st,(hH0 _ _ hf).symm,?_,hs.drew rfl rfl⟩;funext s;unfold TD;cases hw:e0a ops.toList s 0 with
   | none=>rfl
   | some i =>
    obtain ⟨_,o',q1,_⟩:=j0g ops.toList s 0 i hw;rw[Nat.sub_zero] at q1;have hi:i<ops.toList.length:=by
     rcases Nat.lt_or_ge i ops.toList.length with q | q
     ·exact q
     ·rw[List.getElem?_eq_none q] at q1;cases q1
    simp only[hf i hi];rfl
def d0h (l:List (Nat×Ty)) (a:Act):List Value:=l.map fun p=>a.tmps.getD p.1 undef
structure KeepRel (cx:Cx) (W0:World) (F0:Fz) (O0:List Nat) (nt:Slots) (l:List (Nat×Ty)) (x:El (b0i l)) (a:Act) (W:World) (F:Fz) (O:List Nat):Prop where
 hF:∀b,F b→b<W.heap.size
 later:Later W0 F0 W F
 frame:∀b,b<W0.heap.size→b ∉ O0→W.heap[b]? = W0.heap[b]?
 own:∀b∈O,b∈O0∨W0.heap.size≤b
 fz:∀b,F b→F0 b∨b∈O0∨W0.heap.size≤b
 size:a.tmps.size=nt.nt
 keep:∀i∈nt.K,a.tmps.getD i undef=nt.kv i
 defers:(nt.md=false→a.defers=[])∧DefOk W0.heap.size W F (· ∈ O) a.defers
 forms:b0t (l.map (·.2)) (d0h l a)
 rd:RdB cx.P (b0i l) x W F O (cat (d0h l a))
 nodup:O.Nodup
 free:∀b∈O,¬F b
theorem k1f (hc:CallSound cx call W F) (hr:HR cx.P W F E (fun _=>True) st.h) (ht:∀s,RdV cx.P W F E (getT st.t s) (a.tmps.getD s undef)):∀(l:List (Nat×Ty)) (x:El (b0i l)) (ns:List Nat),
  l0l cx call st l=some (x,ns)→∃taken lent O,ns.Perm (taken++lent)∧b0t (l.map (·.2)) (d0h l a)∧RdB cx.P (b0i l) x W (a0g F st.h E lent) O (cat (d0h l a))∧Takes F st.h E taken O:=by
 intro l;induction l with
 | nil =>
  intro x ns hk;simp only[l0l,Option.some.injEq] at hk;obtain ⟨_,rfl⟩:=hk;exact ⟨[],[],[],List.Perm.refl _,trivial,rfl,Takes.nil⟩
 | cons p l ih =>
  obtain ⟨s,t⟩:=p;intro x ns hk;simp only[l0l] at hk;split at hk
  case h_2=>cases hk
  rename_i ag cs hg;split at hk
  case isFalse=>cases hk
  rename_i hag;have hv:=ht s;rw[hg] at hv;cases h1:k0v cx call st.h t cs with
  | none=>rw[h1] at hk;cases hk
  | some z =>
   rw[h1] at hk;simp only[Option.bind_some] at hk;cases h2:l0l cx call st l with
   | none=>rw[h2] at hk;cases hk
   | some q =>
    rw[h2] at hk;simp only[Option.map_some,Option.some.injEq] at hk;obtain ⟨rfl,rfl⟩:=hk;obtain ⟨O1,k1,k2,k3⟩:=u0z hc hr (x:=z.1) (taken:=z.2.1) (lent:=z.2.2) h1 hv.1;obtain ⟨t2,l2,O2,m0,m1,m2,m3⟩:=ih q.1 q.2 h2;have hw:(a.tmps.getD s undef).cells.size=width t:=by simpa using k3
    refine ⟨z.2.1++t2,z.2.2++l2,O1++O2,?_,⟨RdV1.formed hv hag hw,m1⟩,⟨O1,O2,rfl,RdB.congr t (fun j hj => ?_) (k1.later t (Later.same a0g.left) (fun _ _=>rfl)),?_⟩,k2.append hr m3⟩
    ·rw[List.append_assoc,List.append_assoc];exact List.Perm.append_left _ ((List.Perm.append_left _ m0).trans (List.perm_append_comm_assoc _ _ _))
    ·show cat (a.tmps.getD s undef::d0h l a) j=_;rw[f0g hw j hj,one,Array.getElem?_toList]
    ·show RdB cx.P (b0i l) q.1 W _ O2 (fun j=>cat (a.tmps.getD s undef::d0h l a) (width t+j));rw[g0k hw];exact m2.later (b0i l) (Later.same a0g.right) (fun _ _=>rfl)
theorem u0y (hc:CallSound cx call W0 F0) (hs:StRel cx W0 F0 O0 nt st a W F E) {l:List (Nat×Ty)} {x:El (b0i l)} (hk:l0k cx call st l=some x) :
  ∃F' O,KeepRel cx W0 F0 O0 nt l x a W F' O∧(∀b∈O,a0p st.h E b)∧(∀b,F' b→F b∨a0p st.h E b)∧Later W F W F':=by
 unfold l0k at hk;split at hk
 case h_2=>cases hk
 rename_i x' ns hp;split at hk
 case isFalse=>cases hk
 rename_i hnd;injection hk with hk;subst hk;obtain ⟨taken,lent,O,k0,k1,k2,k3⟩:=k1f (hc.later hs.later) hs.hr hs.t l x' ns hp;have hnd':(taken++lent).Nodup:=(k0.nodup_iff).1 (g0x.1 hnd);rw[List.nodup_append] at hnd';have hO:∀b∈O,a0p st.h E b:=fun b hb=>by
  obtain ⟨n,_,hat⟩:=k3.at_ b hb;exact ⟨n,hat⟩
 have hF2:∀b,a0g F st.h E lent b→F b∨a0p st.h E b:=fun b hb=>by
  rcases hb with hb | ⟨n,_,hat⟩
  ·exact .inl hb
  ·exact .inr ⟨n,hat⟩
 refine ⟨a0g F st.h E lent,O,⟨fun b hb=>a0g.lt hs.hr hs.hF hb,hs.later.trans (a0z lent),hs.frame,fun b hb => ?_,fun b hb => ?_,hs.size,hs.keep,?_,k1,k2,k3.nodup hnd'.1,?_⟩,hO,hF2,a0z lent⟩
 ·obtain ⟨n,_,hat⟩:=k3.at_ b hb;exact hs.own b ⟨n,hat⟩
 ·rcases hb with hb | ⟨n,_,hat⟩
  ·exact hs.fz b hb
  ·exact .inr (hs.own b ⟨n,hat⟩)
 ·exact ⟨hs.defers.1,hs.defers.2.turn fun D _ _ h1 h2 _=>⟨rfl,fun hf=>(hF2 D hf).elim h1 h2,fun hm=>h2 (hO D hm)⟩⟩
 ·rintro b hb (hf | ⟨n,hn,hat⟩)
  ·exact k3.free b hb hf
  ·obtain ⟨m,hm,hat'⟩:=k3.at_ b hb;exact hnd'.2.2 m hm n hn (b0l hs.hr hat' hat)
theorem z0f (hc:CallSound cx call W0 F0) (hs:StRel cx W0 F0 O0 nt st a W F E) {l:List (Nat×Ty)} {x:El (b0i l)} (hk:l0k cx call st l=some x):∃F' O,KeepRel cx W0 F0 O0 nt l x a W F' O:=by
 obtain ⟨F',O,h,_⟩:=u0y hc hs hk;exact ⟨F',O,h⟩
theorem d1n {bs:List (Nat×Nat×Blk)} (hf:r1q h bs=true):(∀n∈a0v bs,n<h.length)∧(a0v bs).Nodup:=by
 simp only[r1q,Bool.and_eq_true] at hf;refine ⟨fun n hn => ?_,g0x.1 hf.2⟩;simp only[a0v,List.mem_map] at hn;obtain ⟨b,hb,rfl⟩:=hn;have:=List.all_eq_true.1 hf.1 b hb
 simpa [Nat.blt_eq] using this
theorem b2u {P:Program} {t:Ty} {cs:List Cell} {v:Value} {g:Get} (hf:formed t v) (hc:d0l P W F E t cs g) (hg:∀j,j<width t→g j=one v j):RdV P W F E (.v (agg t) cs) v:=by
 obtain ⟨vs,v1,v2,v3⟩:=hc;have hvs:vs=v.cells.toList:=by
  apply List.ext_getElem?;intro j;by_cases hj:j<width t
  ·rw[←v2 j hj,hg j hj,one,Array.getElem?_toList]
  ·have:=hf.2.2;rw[List.getElem?_eq_none (by omega),List.getElem?_eq_none (by simp;omega)]
 subst hvs;exact ⟨v3,hf.1,hf.2.1⟩
theorem a1s {P:Program}:∀(l:List (Nat×Ty)) (x:El (b0i l)) (t:List (Nat×V)) (h:Heap) (nm:Nat) (k:St→Option R) (r:R),m0h l x t h nm k=some r →
  ∀ {E:EnvM} {O:List Nat},HR P W F E (fun _=>True) h→b0t (l.map (·.2)) (d0h l a)→RdB P (b0i l) x W F O (cat (d0h l a))→O.Nodup→(∀b∈O,¬F b)→(∀b∈O,¬a0p h E b) →
   (∀s,RdV P W F E (getT t s) (a.tmps.getD s undef)) →
   ∃st' E',k st'=some r∧HR P W F E' (fun _=>True) st'.h∧(∀s,RdV P W F E' (getT st'.t s) (a.tmps.getD s undef))∧(∀b,a0p st'.h E' b→a0p h E b∨b∈O):=by
 intro l;induction l with
 | nil=>intro x t h nm k r hk E O hr _ _ _ _ _ ht;exact ⟨⟨t,h⟩,E,hk,hr,ht,fun b hb => .inl hb⟩
 | cons p l ih =>
  obtain ⟨s,ty⟩:=p;intro x t h nm k r hk E O hr hf hx hO hF hL ht;simp only[m0h,c0h] at hk;obtain ⟨hfr,hk⟩:=a0u hk;obtain ⟨f1,f2⟩:=d1n hfr;obtain ⟨O1,O2,rfl,x1,x2⟩:=hx;rw[List.nodup_append] at hO;have hf':formed ty (a.tmps.getD s undef)∧b0t (l.map (·.2)) (d0h l a):=hf;obtain ⟨E1,c1,cc1⟩:=j0a h ty x.1 [] nm hr x1 hO.1 (fun b hb=>hF b (by simp[hb])) (fun b hb=>hL b (by simp[hb])) (fun n hn=>⟨trivial,f1 n hn,a0x hr trivial (f1 n hn)⟩) f2;have hlive:∀b∈O2,¬a0p (d0e h (a0y h ty x.1 [] nm).2.1) E1 b:=by
   rintro b hb ⟨m,hat⟩;rcases c1.at_ m b hat with ⟨_,k⟩ | ⟨_,k⟩
   ·exact hO.2.2 b k b hb rfl
   ·exact hL b (by simp[hb]) ⟨m,k⟩
  have hg:(fun j=>cat (d0h ((s,ty)::l) a) (width ty+j))=cat (d0h l a):=g0k (vs:=d0h l a) hf'.1.2.2;have x2':RdB P (b0i l) x.2 W F O2 (fun j=>cat (d0h ((s,ty)::l) a) (width ty+j)):=x2;rw[hg] at x2';obtain ⟨st',E2,m1,m2,m3,m4⟩:=ih x.2 _ _ _ k r hk c1.hr hf'.2 x2' hO.2.1 (fun b hb=>hF b (by simp[hb])) hlive (fun s'=>by
   simp only[getT];cases hbe:Nat.beq s s' with
   | false=>exact (ht s').later (Later.refl W F) c1.env
   | true =>
    have:=Nat.eq_of_beq_eq_true hbe;subst this
    exact b2u hf'.1 cc1 (f0g (vs:=d0h l a) hf'.1.2.2))
  refine ⟨st',E2,m1,m2,m3,fun b hb => ?_⟩;rcases m4 b hb with ⟨m,hat⟩ | q
  ·rcases c1.at_ m b hat with ⟨_,k⟩ | ⟨_,k⟩
   ·exact .inr (by simp[k])
   ·exact .inl ⟨m,k⟩
  ·exact .inr (by simp[q])
theorem d1f {P:Program} (fx:Hints):HR P W F ⟨fun _ _=>none,fun _=>0⟩ (fun _=>True) (m0y fx):=by
 have get:∀(n:Nat) (x:Nat×Option Blk),(m0y fx)[n]? = some x→x=(0,none):=by
  intro n x hx;unfold m0y at hx;rw[List.getElem?_replicate] at hx;split at hx
  ·injection hx with hx;exact hx.symm
  ·cases hx
 refine ⟨fun n ver b _ hb => ?_,fun n ver b hb => ?_,fun n m vn vm bn bm L M x h1 => ?_⟩
 ·have:=get n _ hb;injection this
 ·have:=get n _ hb;injection this with _ h2;cases h2
 ·have:=get n _ h1;injection this with _ h2;cases h2
theorem k0i (fx:Hints) {E:EnvM} {b:Nat}:¬a0p (m0y fx) E b:=by
 rintro ⟨n,ver,B,L,h1,_⟩;unfold m0y at h1;rw[List.getElem?_replicate] at h1;split at h1
 ·injection h1 with h1;injection h1 with _ h1;cases h1
 ·cases h1
theorem w0a {l:List (Nat×Ty)} {x:El (b0i l)} {k:St→Option R} {r:R} {O:List Nat} (hk:i0p fx l x k=some r) (hI:∀E,nt.I E) (hs:KeepRel cx W0 F0 O0 nt l x a W F O) :
  ∃st' E',k st'=some r∧StRel cx W0 F0 O0 nt st' a W F E'∧∀b,a0p st'.h E' b→b∈O:=by
 unfold i0p at hk;obtain ⟨st',E',h1,h2,h3,h4⟩:=a1s (P:=cx.P) (W:=W) (F:=F) (a:=a) l x [] (m0y fx) 0 k r hk (d1f fx) hs.forms hs.rd hs.nodup hs.free (fun b _=>k0i fx) (fun s=>trivial);have hL:∀b,a0p st'.h E' b→b∈O:=fun b hb=>by
  rcases h4 b hb with q | q
  ·exact (k0i fx q).elim
  ·exact q
 exact ⟨st',E',h1,⟨h2,hs.hF,h3,hs.later,hs.frame,fun b hb=>hs.own b (hL b hb),hs.fz,hs.size,hs.keep,⟨hs.defers.1,hs.defers.2.turn fun D _ _ h1 h2 _=>⟨rfl,h1,fun h=>h2 (hL D h)⟩⟩,hI E'⟩,hL⟩
theorem r0f {l:List (Nat×Ty)} {x:El (b0i l)} {k:St→Option R} {r:R} {O:List Nat} (hk:i0p fx l x k=some r) (hI:∀E,nt.I E) (hs:KeepRel cx W0 F0 O0 nt l x a W F O) :
  ∃st' E',k st'=some r∧StRel cx W0 F0 O0 nt st' a W F E':=by
 obtain ⟨st',E',h1,h2,_⟩:=w0a hk hI hs;exact ⟨st',E',h1,h2⟩
end
end Go.Flat
end
section
namespace Go.Flat
open Go.RowKit (Below)
theorem o1v {a b:List Nat} {n:Nat}:hasN (a++b) n=(hasN a n||hasN b n):=by
 induction a with
 | nil=>rfl
 | cons m r ih=>simp only[List.cons_append,hasN,ih,Bool.or_assoc]
theorem d1z {nt:Nat} {K L:List Nat}:∀c:Code,noRF c=true→b0y nt K c=true→x0f L c=true→b0y nt (K++L) c=true:=by
 intro c;induction c with
 | region id ops draw =>
  intro _ h1 h2;simp only[b0y,l1j,x0f] at h1 h2 ⊢;rw[List.all_eq_true] at h1 h2 ⊢;intro o ho;have h1:=h1 o ho;have h2:=h2 o ho;split
  ·rename_i d hd;rw[hd] at h1 h2;simp only[Bool.and_eq_true,Bool.not_eq_true'] at h1 h2 ⊢;exact ⟨h1.1,by rw[o1v,h1.2,h2];rfl⟩
  ·rfl
 | seq a b iha ihb =>
  intro h0 h1 h2;simp only[noRF,b0y,x0f,Bool.and_eq_true] at h0 h1 h2 ⊢;exact ⟨iha h0.1 h1.1 h2.1,ihb h0.2 h1.2 h2.2⟩
 | cond c a b iha ihb =>
  intro h0 h1 h2;simp only[noRF,b0y,x0f,Bool.and_eq_true] at h0 h1 h2 ⊢;exact ⟨iha h0.1 h1.1 h2.1,ihb h0.2 h1.2 h2.2⟩
 | block id a ih=>intro h0 h1 h2;exact ih h0 h1 h2
 | loop a ih=>intro h0 h1 h2;exact ih h0 h1 h2
 | rangeFunc g ps a b iha ihb=>intro h0;cases h0
 | scope a _=>intro h0;cases h0
 | _=>intro _ _ _;rfl
def f1q:List Nat→List Value→Array Value→Array Value
 | p::ps,v::vs,t=>f1q ps vs (t.setIfInBounds p v)
 | _,_,t=>t
theorem putPs_eq:∀(ps:List Nat) (vs:List Value) (t:Array Value),(ps.zip vs).foldl (fun t (p,v)=>t.setIfInBounds p v) t=f1q ps vs t:=by
 intro ps;induction ps with
 | nil=>intro vs t;cases vs<;>rfl
 | cons p ps ih =>
  intro vs t;cases vs with
  | nil=>rfl
  | cons v vs=>exact ih vs _
theorem t1y:∀(ps:List Nat) (vs:List Value) (t:Array Value),(f1q ps vs t).size=t.size:=by
 intro ps;induction ps with
 | nil=>intro vs t;cases vs<;>rfl
 | cons p ps ih =>
  intro vs t;cases vs with
  | nil=>rfl
  | cons v vs=>show (f1q ps vs _).size=_;rw[ih];simp
theorem o1c:∀(ps:List Nat) (vs:List Value) (t:Array Value) (s:Nat),s ∉ ps→(f1q ps vs t).getD s undef=t.getD s undef:=by
 intro ps;induction ps with
 | nil=>intro vs t s _;cases vs<;>rfl
 | cons p ps ih =>
  intro vs t s hs;cases vs with
  | nil=>rfl
  | cons v vs =>
   show (f1q ps vs _).getD s undef=_;rw[ih vs _ s (fun h=>hs (List.mem_cons_of_mem _ h))];simp only[Array.getD_eq_getD_getElem?,Array.getElem?_setIfInBounds];rw[if_neg (fun e=>hs (by rw[←e];exact List.mem_cons_self))]
section
variable {cx:Cx} {call:Oracle cx} {fx:Hints} {W0 W W':World} {F0 F F':Fz} {O0:List Nat} {E E':EnvM} {h:Heap} {a:Act} {R:Type} {nt:Slots} {st:St}
theorem parK_rd:∀(ps:List Nat) (e:Ty) (y:El e) (t t':List (Nat×V)) (vs:List Value) (tm:Array Value),parK ps e y t=some t'→d0y cx.P e y W F vs→(∀p∈ps,p<tm.size)→(∀s,RdV cx.P W F E (getT t s) (tm.getD s undef)) →
  vs.length=ps.length∧∀s,RdV cx.P W F E (getT t' s) ((f1q ps vs tm).getD s undef):=by
 intro ps;induction ps with
 | nil =>
  intro e y t t' vs tm hk hv _ ht;cases e with
  | unit =>
   simp only[parK,Option.some.injEq] at hk;subst hk;have:vs=[]:=hv;subst this;exact ⟨rfl,ht⟩
  | _=>cases hk
 | cons p ps ih =>
  intro e y t t' vs tm hk hv hp ht;cases e with
  | pair a b =>
   simp only[parK] at hk;obtain ⟨v,r,rfl,f1,f2,f3⟩:=hv;have hv1:RdV cx.P W F E (toV a y.1) v:=by
    obtain ⟨ws,w1,w2,w3⟩:=i0z (E:=E) a y.1 _ f2;exact b2u f1 ⟨ws,w1,w2,w3⟩ fun j _=>rfl
   obtain ⟨k1,k2⟩:=ih b y.2 _ t' r (tm.setIfInBounds p v) hk f3 (fun q hq=>by simpa using hp q (List.mem_cons_of_mem _ hq)) (fun s=>by
    simp only[getT];have hlt:=hp p List.mem_cons_self;cases hbe:Nat.beq p s with
    | true =>
     have:=Nat.eq_of_beq_eq_true hbe;subst this
     simpa [Array.getD_eq_getD_getElem?,Array.getElem?_setIfInBounds,hlt] using hv1
    | false =>
     have hne:p≠s:=fun e=>by subst e;simp at hbe
     have:=ht s
     simpa [Array.getD_eq_getD_getElem?,Array.getElem?_setIfInBounds,hne] using this)
   exact ⟨by simp[k1],k2⟩
  | _=>cases hk
open Classical in
theorem StRel.rebase {nt':Slots} {a':Act} {W2:World} (hs:StRel cx W0 F0 O0 nt st a W F E) (hl:Later W F W2 F) (hsz:W2.heap.size=W.heap.size) (hsame:∀b,a0p st.h E b→W2.heap[b]? = W.heap[b]?)
  (ht:a'.tmps=a.tmps) (hn:nt'.nt=nt.nt) (hk:∀i∈nt'.K,a.tmps.getD i undef=nt'.kv i) (hI:nt'.I E) (hd:a'.defers=[]) :
  ∃O1:List Nat,(∀b,b∈O1↔a0p st.h E b)∧StRel cx W2 F O1 nt' st a' W2 F E:=by
 have hO:∀b,b∈(List.range W.heap.size).filter (fun b=>decide (a0p st.h E b))↔a0p st.h E b:=fun b=>by
  simp only[List.mem_filter,List.mem_range,decide_eq_true_eq];exact ⟨fun h=>h.2,fun h=>⟨hs.hr.lt b h,h⟩⟩
 exact ⟨_,hO,hs.hr.world hl (fun b hb=>⟨hsame b hb,fun h=>h⟩),fun b hb=>by rw[hsz];exact hs.hF b hb,fun s=>by rw[ht];exact (hs.t s).later hl (EnvLe.refl E),Later.refl W2 F,fun _ _ _=>rfl,fun b hb => .inl ((hO b).2 hb),fun _ hb => .inl hb,
  by rw[ht,hn];exact hs.size,fun i hi=>by rw[ht];exact hk i hi,⟨fun _=>hd,by rw[hd];exact .nil⟩,hI⟩
theorem h0x {l:Nat} {o:Obj} (hl:¬F l):Later W F (W.putObj l o) F :=
 ⟨rfl,rfl,rfl,by simp,fun b hb=>World.putObj_heap_other (fun e=>hl (e ▸ hb)),fun _ h=>h⟩
theorem StRel.dead {l:Nat} {o:Obj} (hs:StRel cx W0 F0 O0 nt st a W F E) (h0:W0.heap.size≤l) (hF:¬F l) (hL:¬a0p st.h E l) (hd:W.heap[l]? ≠ some (.deferred (some []))):StRel cx W0 F0 O0 nt st a (W.putObj l o) F E:=by
 have hl:=h0x (W:=W) (o:=o) hF;refine ⟨hs.hr.world hl (fun b hb=>⟨World.putObj_heap_other (fun e=>hL (e ▸ hb)),fun h=>h⟩),fun b hb=>by simpa using hs.hF b hb,fun s=>(hs.t s).later hl (EnvLe.refl E),hs.later.trans hl,fun b hb hO => ?_,hs.own,hs.fz,hs.size,hs.keep,⟨hs.defers.1,hs.defers.2.turn fun D hD _ h1 h2 h3=>⟨World.putObj_heap_other (fun e=>hd (e ▸ h3)),h1,h2⟩⟩,hs.env⟩;rw[World.putObj_heap_other (by omega)];exact hs.frame b hb hO
theorem KeepRel.dead {l:Nat} {o:Obj} {live:List (Nat×Ty)} {x:El (b0i live)} {O:List Nat} (hs:KeepRel cx W0 F0 O0 nt live x a W F O) (h0:W0.heap.size≤l) (hF:¬F l) (hL:l ∉ O) (hd:W.heap[l]? ≠ some (.deferred (some []))):KeepRel cx W0 F0 O0 nt live x a (W.putObj l o) F O:=by
 have hl:=h0x (W:=W) (o:=o) hF;refine ⟨fun b hb=>by simpa using hs.hF b hb,hs.later.trans hl,fun b hb hO => ?_,hs.own,hs.fz,hs.size,hs.keep,⟨hs.defers.1,hs.defers.2.turn fun D hD _ h1 h2 h3=>⟨World.putObj_heap_other (fun e=>hd (e ▸ h3)),h1,h2⟩⟩,hs.forms,RdB.later (b0i live) hs.rd hl (fun b hb=>World.putObj_heap_other (fun e=>hL (e ▸ hb))),hs.nodup,hs.free⟩;rw[World.putObj_heap_other (by omega)];exact hs.frame b hb hO
def w0s (cx:Cx) (call:Oracle cx) (fx:Hints) (W0:World) (F0:Fz) (O0:List Nat) (nt:Slots) (rd:Option Nat) (Rf:Type) (ret:St→Option Rf) (c:Code):Prop :=
 ∀(R:Type) (kr:Rf→Option R) (st:St) (k:Exit→St→Option R) (r:R) (a:Act) (W:World) (F:Fz) (E:EnvM) (Q:Exit→Act→World→Prop),
  b0y nt.nt nt.K c=true→StRel cx W0 F0 O0 nt st a W F E→evC cx call fx Rf ret c R kr st k=some r →
  (∀e st' a' W' F' E',k e st'=some r→StRel cx W0 F0 O0 nt st' a' W' F' E'→Q e a' W') →
  (∀y st' a' W' F' E',kr y=some r→ret st'=some y→StRel cx W0 F0 O0 nt st' a' W' F' E'→Q .ret a' W')→c.wpIn (Rnd rd) 0 cx.P Q a W
theorem n1u {Rf:Type} {ret:St→Option Rf} {asg body:Code} {live:List (Nat×Ty)} {e:Ty} {ps:Array Nat} {l D0:Nat} {fn:FuncId} {x z:El (b0i live)} {A:World} {FA:Fz} {O:List Nat} {y:El e} {vs:List Value}
  (hasg:∀(W0:World) (F0:Fz) (O0:List Nat) (nt:Slots),CallSound cx call W0 F0→(∀E,nt.I E)→w0s cx call fx W0 F0 O0 nt (some l) Rf ret asg)
  (hbody:∀(W0:World) (F0:Fz) (O0:List Nat) (nt:Slots),CallSound cx call W0 F0→(∀E,nt.I E)→w0s cx call fx W0 F0 O0 nt (some l) Rf ret body)
  (hc:CallSound cx call W0 F0) (hI:∀E,nt.I E) (hps:∀p∈ps.toList,p<nt.nt∧p ∉ nt.K∧p ∉ live.map (·.1))
  (hba:b0y nt.nt (nt.K++live.map (·.1)) asg=true) (hbb:b0y nt.nt (nt.K++live.map (·.1)) body=true)
  (hs:KeepRel cx W0 F0 O0 nt live x a A FA O)
  (hl:A.heap[l]? = some (.loop { state := .ready,pending:=none,fn:=fn,tmps:=a.tmps,params:=ps,assign:=asg,body:=body,defers:=D0 })) (hl0:W0.heap.size≤l) (hlF:¬FA l) (hlO:l ∉ O)
  (hv:d0y cx.P e y A FA vs)
  (hk:(i0p fx live x fun st=>(parK ps.toList e y st.t).bind fun t=>evC cx call fx Rf ret asg _ (fun _=>none) { st with t:=t } (onN fun st=>evC cx call fx Rf ret body _ (fun _=>none) st (onN fun st=>l0k cx call st live)))=some z)
  {R:Ending→World→Prop} (hR:∀A' FA' O',KeepRel cx W0 F0 O0 nt live z a A' FA' O'→A'.heap[l]? = A.heap[l]? → Later A FA A' FA' →
   (∀b,b<A.heap.size→b ∉ O→A'.heap[b]? = A.heap[b]?)→(∀b∈O',b∈O∨A.heap.size≤b)→(∀b,FA' b→FA b∨b∈O∨A.heap.size≤b)→R (.returned (.bool true)) A') :
  YieldAt Fence.wide 0 cx.P l vs.toArray A R:=by
 obtain ⟨st,E1,hk,hst,hlive⟩:=w0a hk hI hs;cases hpk:parK ps.toList e y st.t with
 | none=>rw[hpk] at hk;cases hk
 | some t1 =>
 rw[hpk] at hk;simp only[Option.bind_some] at hk;have hlt:l<A.heap.size:=(Array.getElem?_eq_some_iff.1 hl).1;have hcA:CallSound cx call A FA:=hc.later hs.later
 let nt':Slots:=⟨nt.nt,nt.K++live.map (·.1),fun i=>a.tmps.getD i undef,nt.I,nt.up,false⟩
 obtain ⟨O1,hO1,hs1⟩:=hst.rebase (nt':=nt') (a' := { tmps:=a.tmps,defers:=[] }) (Later.refl A FA) rfl (fun _ _=>rfl) rfl rfl (fun i _=>rfl) hst.env rfl;obtain ⟨hvl,ht1⟩:=parK_rd ps.toList e y st.t t1 vs a.tmps hpk hv (fun p hp=>by rw[hs.size];exact (hps p hp).1) hst.t;have hs2:StRel cx A FA O1 nt' { st with t:=t1 } { tmps:=f1q ps.toList vs a.tmps,defers:=[] } A FA E1 :=
  ⟨hs1.hr,hs1.hF,ht1,hs1.later,hs1.frame,hs1.own,hs1.fz,by rw[t1y];exact hs1.size,fun i hi=>by
   rw[o1c _ _ _ _ (fun hp=>by
    rcases List.mem_append.1 hi with h | h
    ·exact (hps i hp).2.1 h
    ·exact (hps i hp).2.2 h)],hs1.defers,hs1.env⟩
 have hl1:l ∉ O1:=fun h=>hlO (hlive l ((hO1 l).1 h))
 have hsz:vs.toArray.size=ps.size:=by simpa using hvl
 have hy:=run_yield (P:=cx.P) (args:=vs.toArray) hl hsz;have hfold:(ps.zip vs.toArray).foldl (fun tmps (t,a)=>tmps.setIfInBounds t a) a.tmps=f1q ps.toList vs a.tmps:=by
  rw[←putPs_eq,←Array.foldl_toList,Array.toList_zip]
 dsimp only at hy;rw[hfold] at hy;refine ⟨fn,_,asg,body,hy,roundIn_of_wpIn trivial ?_⟩;refine hasg A FA O1 nt' hcA hI _ _ _ _ z _ A FA E1 _ hba hs2 hk (fun ex st' a' W' F' E' h1 h2 => ?_) (fun y st' a' W' F' E' h1=>by cases h1);cases ex with
 | normal =>
  simp only[onN] at h1;have hlW:W'.heap[l]? = A.heap[l]? := h2.frame l hlt hl1;have hbr:=run_beginRound (P:=cx.P) (hlW.trans hl) rfl;have nl':∀b,b<A.heap.size→b ∉ O→¬a0p st'.h E' b:=fun b hb hbO hat=>by
   rcases h2.own b hat with h | h
   ·exact hbO (hlive b ((hO1 b).1 h))
   ·omega
  have nf':∀b,b<A.heap.size→b ∉ O→¬FA b→¬F' b:=fun b hb hbO hf hat=>by
   rcases h2.fz b hat with h | h | h
   ·exact hf h
   ·exact hbO (hlive b ((hO1 b).1 h))
   ·omega
  refine ⟨_,hbr,?_⟩;have hlp:=h0x (W:=W') (F:=F') (o := .loop { state := .busy,pending:=none,fn:=fn,tmps:=a.tmps,params:=ps,assign:=asg,body:=body,defers:=D0 }) (nf' l hlt hlO hlF);obtain ⟨O2,hO2,hs3⟩:=h2.rebase (nt':=nt') (a':=a') hlp (by simp) (fun b hb=>World.putObj_heap_other (fun e=>nl' l hlt hlO (e ▸ hb))) rfl rfl (fun i hi=>h2.keep i hi) h2.env (h2.defers.1 rfl);refine hbody _ F' O2 nt' (hcA.later (h2.later.trans hlp)) hI _ _ _ _ z _ _ F' E' _ hbb hs3 h1 (fun ex3 st3 a3 W3 F3 E3 q1 q2 => ?_) (fun y st' a' W' F' E' h1=>by cases h1);cases ex3 with
  | normal =>
   simp only[onN] at q1;have hlt':l<W'.heap.size:=Nat.lt_of_lt_of_le hlt h2.later.size;have hAW:A.heap.size≤W'.heap.size:=h2.later.size;have hsz2:∀b,b<A.heap.size→b<(W'.putObj l (.loop { state := .busy,pending:=none,fn:=fn,tmps:=a.tmps,params:=ps,assign:=asg,body:=body,defers:=D0 })).heap.size:=fun b hb=>by simp;omega
   have n2:∀b,b<A.heap.size→b ∉ O→b ∉ O2:=fun b hb hbO h=>nl' b hb hbO ((hO2 b).1 h)
   have hl3:W3.heap[l]? = some (.loop { state := .busy,pending:=none,fn:=fn,tmps:=a.tmps,params:=ps,assign:=asg,body:=body,defers:=D0 }) :=
    (q2.frame l (hsz2 l hlt) (n2 l hlt hlO)).trans (World.putObj_heap_same hlt')
   obtain ⟨F4,O4,hk4,hO4,hF4,hl4⟩:=u0y (hcA.later (h2.later.trans hlp)) q2 q1;have own4:∀b∈O4,b∈O∨A.heap.size≤b:=fun b hb=>by
    rcases q2.own b (hO4 b hb) with h | h
    ·rcases h2.own b ((hO2 b).1 h) with h | h
     ·exact .inl (hlive b ((hO1 b).1 h))
     ·exact .inr h
    ·simp at h;exact .inr (by omega)
   have fz4:∀b,F4 b→FA b∨b∈O∨A.heap.size≤b:=fun b hb=>by
    have lv:a0p st'.h E' b→FA b∨b∈O∨A.heap.size≤b:=fun h=>by
     rcases h2.own b h with h | h
     ·exact .inr (.inl (hlive b ((hO1 b).1 h)))
     ·exact .inr (.inr h)
    rcases hF4 b hb with h | h
    ·rcases q2.fz b h with h | h | h
     ·rcases h2.fz b h with h | h | h
      ·exact .inl h
      ·exact .inr (.inl (hlive b ((hO1 b).1 h)))
      ·exact .inr (.inr h)
     ·exact lv ((hO2 b).1 h)
     ·simp at h;exact .inr (.inr (by omega))
    ·rcases q2.own b h with h | h
     ·exact lv ((hO2 b).1 h)
     ·simp at h;exact .inr (.inr (by omega))
   have hlF4:¬F4 l:=fun h=>by
    rcases fz4 l h with h | h | h
    ·exact hlF h
    ·exact hlO h
    ·omega
   have hlO4:l ∉ O4:=fun h=>by
    rcases own4 l h with h | h
    ·exact hlO h
    ·omega
   have her:=run_endRound (P:=cx.P) none hl3;have hl5:=h0x (W:=W3) (o := .loop { state := .ready,pending:=none,fn:=fn,tmps:=a.tmps,params:=ps,assign:=asg,body:=body,defers:=D0 }) hlF4;have same:∀b,b<A.heap.size→b ∉ O→(W3.putObj l (.loop { state := .ready,pending:=none,fn:=fn,tmps:=a.tmps,params:=ps,assign:=asg,body:=body,defers:=D0 })).heap[b]? = A.heap[b]? := fun b hb hbO=>by
    by_cases e:b=l
    ·subst e;rw[World.putObj_heap_same (Array.getElem?_eq_some_iff.1 hl3).1,hl]
    ·rw[World.putObj_heap_other e,q2.frame b (hsz2 b hb) (n2 b hb hbO),World.putObj_heap_other e,h2.frame b hb (fun h=>hbO (hlive b ((hO1 b).1 h)))]
   have hlat:Later A FA (W3.putObj l (.loop { state := .ready,pending:=none,fn:=fn,tmps:=a.tmps,params:=ps,assign:=asg,body:=body,defers:=D0 })) F4 :=
    ((h2.later.trans hlp).trans (q2.later.trans hl4)).trans hl5
   have hslots:d0h live a3=d0h live a:=by
    unfold d0h;refine List.map_congr_left fun p hp => ?_
    exact hk4.keep p.1 (List.mem_append_right _ (List.mem_map_of_mem hp))
   refine ⟨.bool true,_,her,?_⟩;refine hR _ F4 O4 ?_ (same l hlt hlO) hlat same own4 fz4;have hsz0:W0.heap.size≤A.heap.size:=hs.later.size;refine ⟨fun b hb=>by simpa using hk4.hF b hb,hs.later.trans hlat,fun b hb hbO => ?_,fun b hb => ?_,fun b hb => ?_,hs.size,hs.keep,⟨hs.defers.1,hs.defers.2.turn fun D hD _ d1 d2 _=>⟨same D hD d2,fun h => ?_,fun h => ?_⟩⟩,?_,?_,hk4.nodup,hk4.free⟩
   ·refine (same b (by omega) (fun h => ?_)).trans (hs.frame b hb hbO);rcases hs.own b h with h | h
    ·exact hbO h
    ·omega
   ·rcases own4 b hb with h | h
    ·exact hs.own b h
    ·exact .inr (by omega)
   ·rcases fz4 b hb with h | h | h
    ·exact hs.fz b h
    ·exact .inr (hs.own b h)
    ·exact .inr (.inr (by omega))
   ·rcases fz4 D h with h | h | h
    ·exact d1 h
    ·exact d2 h
    ·omega
   ·rcases own4 D h with h | h
    ·exact d2 h
    ·omega
   ·rw[←hslots];exact hk4.forms
   ·rw[←hslots];exact RdB.later (b0i live) hk4.rd hl5 (fun b hb=>World.putObj_heap_other (fun e=>hlO4 (e ▸ hb)))
  | _=>simp[onN] at q1
 | _=>simp[onN] at h1
theorem KeepRel.turn {live:List (Nat×Ty)} {x:El (b0i live)} {O bs:List Nat} (hs:KeepRel cx W0 F0 O0 nt live x a W F O) (ht:Turn bs W F W' F') (hbO:∀b∈bs,b ∉ O) (hb0:∀b∈bs,b∈O0∨W0.heap.size≤b)
  (hds:DefOk W0.heap.size W F (fun b=>b∈O∨b∈bs) a.defers):KeepRel cx W0 F0 O0 nt live x a W' F' O∧DefOk W0.heap.size W' F' (fun b=>b∈O∨b∈bs) a.defers:=by
 have hsz:=hs.later.size;have hO:∀b∈O,W'.heap[b]? = W.heap[b]? := fun b hb=>ht.same b (RdB.lt (b0i live) hs.rd b hb) (fun h=>hbO b h hb)
 have hd:DefOk W0.heap.size W' F' (fun b=>b∈O∨b∈bs) a.defers:=hds.turn fun D hD _ h1 h2 _=>⟨ht.same D hD fun h=>h2 (.inr h),fun h=>by
  rcases ht.fz D h with h | h
  ·exact h1 h
  ·omega,h2⟩
 refine ⟨⟨fun b hb => ?_,hs.later.trans ht.later,fun b hb hbO => ?_,hs.own,fun b hb => ?_,hs.size,hs.keep,⟨hs.defers.1,⟨hd.nodup,fun d hdd => ?_⟩⟩,hs.forms,RdB.later (b0i live) hs.rd ht.later hO,hs.nodup,fun b hb hf => ?_⟩,hd⟩
 ·rcases ht.fz b hb with h | h
  ·exact Nat.lt_of_lt_of_le (hs.hF b h) ht.later.size
  ·exact h.2
 ·refine (ht.same b (by omega) (fun h => ?_)).trans (hs.frame b hb hbO);rcases hb0 b h with h | h
  ·exact hbO h
  ·omega
 ·rcases ht.fz b hb with h | h
  ·exact hs.fz b h
  ·exact .inr (.inr (by omega))
 ·obtain ⟨D,k1,k2,k3,k4,k5⟩:=hd.at_ d hdd;exact ⟨D,k1,k2,k3,k4,fun h=>k5 (.inl h)⟩
 ·rcases ht.fz b hf with h | h
  ·exact hs.free b hb h
  ·have:=RdB.lt (b0i live) hs.rd b hb;omega
theorem o1b {Rf:Type} {ret:St→Option Rf} {asg body:Code} {live:List (Nat×Ty)} {e:Ty} {ps:Array Nat} {g:Operand} {xs:List (El e)} {x z:El (b0i live)} {v:Value} {bs O:List Nat} {Q:Exit→Act→World→Prop}
  (hasg:∀(l:Nat) (W0:World) (F0:Fz) (O0:List Nat) (nt:Slots),CallSound cx call W0 F0→(∀E,nt.I E)→w0s cx call fx W0 F0 O0 nt (some l) Rf ret asg)
  (hbody:∀(l:Nat) (W0:World) (F0:Fz) (O0:List Nat) (nt:Slots),CallSound cx call W0 F0→(∀E,nt.I E)→w0s cx call fx W0 F0 O0 nt (some l) Rf ret body)
  (hc:CallSound cx call W0 F0) (hI:∀E,nt.I E) (hmd:nt.md=true) (hps:∀p∈ps.toList,p<nt.nt∧p ∉ nt.K∧p ∉ live.map (·.1))
  (hba:b0y nt.nt (nt.K++live.map (·.1)) asg=true) (hbb:b0y nt.nt (nt.K++live.map (·.1)) body=true)
  (hs:KeepRel cx W0 F0 O0 nt live x a W F O) (hseq:b1x cx.P e xs W F bs v) (hg:a.eval g=v) (hbO:∀b∈bs,b ∉ O) (hbF:∀b∈bs,¬F b) (hb0:∀b∈bs,b∈O0∨W0.heap.size≤b)
  (hds:DefOk W0.heap.size W F (fun b=>b∈O∨b∈bs) a.defers)
  (hk:seqF cx call fx live e ps.toList (fun st k=>evC cx call fx Rf ret asg _ (fun _=>none) st (onN fun st=>evC cx call fx Rf ret body _ (fun _=>none) st (onN k))) xs x=some z)
  (hQ:∀a' W' F' O',KeepRel cx W0 F0 O0 nt live z a' W' F' O'→Q .normal a' W'):(Code.rangeFunc g ps asg body).wpIn (Rnd none) 0 cx.P Q a W:=by
 refine wpIn_rangeFunc ?_;intro fn hfn;obtain ⟨gf,lb,rfl,⟨gfn,hgf,hname,hgb⟩,hblt,hcon⟩:=hseq;have hgb':gfn.body≠none:=fun e=>by rw[e] at hgb;cases hgb
 have hname' : ¬ gfn.name = "runtime.NumGoroutine" := by simpa using hname
 have hW0:=hs.later.size;obtain ⟨rec0,hrec⟩:∃rec0:Loop,rec0 = { state := .ready,pending:=none,fn:=fn,tmps:=a.tmps,params:=ps,assign:=asg,body:=body,defers:=W.heap.size }:=⟨_,rfl⟩;obtain ⟨W1,hW1⟩:∃W1,(W.alloc (.deferred (some []))).alloc (.loop rec0)=W1:=⟨_,rfl⟩;have hL1:W1.heap[W.heap.size+1]? = some (.loop rec0):=by
  rw[←hW1];have:=World.alloc_heap_new (W.alloc (.deferred (some []))) (.loop rec0);rwa [World.size_alloc] at this
 have hK1:W1.heap[W.heap.size]? = some (.deferred (some [])):=by
  rw[←hW1];exact (RowKit.Below.heap_alloc _ _ _ (by simp)).trans (World.alloc_heap_new W _)
 have hsz1:W1.heap.size=W.heap.size+2:=by rw[←hW1];simp
 have hsame1:∀b,b<W.heap.size→W1.heap[b]? = W.heap[b]? := fun b hb=>by
  rw[←hW1];exact (RowKit.Below.heap_alloc _ _ _ (by simp;omega)).trans (RowKit.Below.heap_alloc _ _ _ hb)
 have hlat1:Later W F W1 F:=⟨by rw[←hW1];rfl,by rw[←hW1];rfl,by rw[←hW1];rfl,by omega,fun b hb=>hsame1 b (hs.hF b hb),fun _ h=>h⟩;refine ⟨W.heap.size+1,[{ target := .collected W.heap.size,args := #[] }],W1,{ target := .fn (.func gf) lb,args := #[.func (.yield (W.heap.size+1)) #[] #[]] },W1,gf,
  #[.func (.yield (W.heap.size+1)) #[] #[]]++lb,W1,?_,?_,?_,?_,(fun h=>by cases h),?_⟩
 ·rw[←hW1,hrec];exact run_enterLoop_outer _ _ _ _ _
 ·simp only[resolve,hg];simp[go_sem]
 ·intro f' _;trivial
 ·simp[invoke,go_sem,callFunc,hgf,hname',hgb']
 ·refine u0f (Calls.mono (hcon (W.heap.size+1)
   (fun k A FA=>∃y O',seqF cx call fx live e ps.toList (fun st k=>evC cx call fx Rf ret asg _ (fun _=>none) st (onN fun st=>evC cx call fx Rf ret body _ (fun _=>none) st (onN k))) (xs.drop k) y=some z ∧
    KeepRel cx W0 F0 O0 nt live y a A FA O'∧A.heap[W.heap.size+1]? = some (.loop rec0)∧A.heap[W.heap.size]? = some (.deferred (some []))∧(¬FA (W.heap.size+1)∧W.heap.size+1 ∉ O')∧(¬FA W.heap.size∧W.heap.size ∉ O') ∧
    (∀b∈bs,b ∉ O')∧(∀b∈bs,¬FA b)∧DefOk W0.heap.size A FA (fun b=>b∈O'∨b∈bs) a.defers)
   W1 F hlat1 (fun b hb=>hsame1 b (hblt b hb)) (fun b hb=>by have:=hs.hF b hb;omega) hbF ?turn ?round ?start) ?fin)
  case turn =>
   rintro k A FA B FB ⟨y,O',j1,j2,j3,j4,j5,j6,j7,j8,j9⟩ ht;have hl:W.heap.size+1<A.heap.size:=(Array.getElem?_eq_some_iff.1 j3).1;obtain ⟨q1,q2⟩:=j2.turn ht j7 hb0 j9;have nb:∀b,W.heap.size≤b→b ∉ bs:=fun b hb h=>by have:=hblt b h;omega
   have nf:∀b,b<A.heap.size→¬FA b→¬FB b:=fun b hb h1 h2=>by
    rcases ht.fz b h2 with h | h
    ·exact h1 h
    ·omega
   exact ⟨y,O',j1,q1,(ht.same _ hl (nb _ (by omega))).trans j3,(ht.same _ (by omega) (nb _ (by omega))).trans j4,⟨nf _ hl j5.1,j5.2⟩,⟨nf _ (by omega) j6.1,j6.2⟩,j7,fun b hb=>nf b (by have:=hblt b hb;omega) (j8 b hb),q2⟩
  case round =>
   rintro k y A FA vs hy ⟨u,O',j1,j2,j3,j4,j5,j6,j7,j8,j9⟩ hlA hFA hv;have hl:W.heap.size+1<A.heap.size:=(Array.getElem?_eq_some_iff.1 j3).1;have hdrop:xs.drop k=y::xs.drop (k+1):=by
    obtain ⟨hlt,rfl⟩:=List.getElem?_eq_some_iff.1 hy;exact List.drop_eq_getElem_cons hlt
   rw[hdrop] at j1;simp only[seqF] at j1;cases hone:i0p fx live u (fun st=>(parK ps.toList e y st.t).bind fun t=>evC cx call fx Rf ret asg _ (fun _=>none) { st with t:=t } (onN fun st=>evC cx call fx Rf ret body _ (fun _=>none) st (onN fun st=>l0k cx call st live))) with
   | none=>rw[hone] at j1;cases j1
   | some w =>
    rw[hone] at j1;simp only[Option.bind_some] at j1;refine n1u (D0:=W.heap.size) (fn:=fn) (hasg (W.heap.size+1)) (hbody (W.heap.size+1)) hc hI hps hba hbb j2 (by rw[j3,hrec]) (by omega) j5.1 j5.2 hv hone fun A' FA' O2 r1 r2 r3 r4 r5 r6 => ?_
    have nf:∀b,b<A.heap.size→b ∉ O'→¬FA b→¬FA' b:=fun b hb h0 h1 h2=>by
     rcases r6 b h2 with h | h | h
     ·exact h1 h
     ·exact h0 h
     ·omega
    have no:∀b,b<A.heap.size→b ∉ O'→b ∉ O2:=fun b hb h0 h2=>by
     rcases r5 b h2 with h | h
     ·exact h0 h
     ·omega
    have hbA:∀b∈bs,b<A.heap.size:=fun b hb=>by have:=hblt b hb;omega
    exact ⟨rfl,FA',⟨w,O2,j1,r1,r2.trans j3,(r4 _ (by omega) j6.2).trans j4,⟨nf _ hl j5.2 j5.1,no _ hl j5.2⟩,⟨nf _ (by omega) j6.2 j6.1,no _ (by omega) j6.2⟩,fun b hb=>no b (hbA b hb) (j7 b hb),fun b hb=>nf b (hbA b hb) (j7 b hb) (j8 b hb),
     j9.turn fun D hD _ d1 d2 _=>⟨r4 D hD fun h=>d2 (.inl h),nf D hD (fun h=>d2 (.inl h)) d1,fun h=>h.elim (no D hD fun h=>d2 (.inl h)) fun h=>d2 (.inr h)⟩⟩,
     r3,r1.hF,fun b hb=>r4 b (hbA b hb) (j7 b hb),fun b hb=>nf b (hbA b hb) (j7 b hb) (j8 b hb)⟩
  case start =>
   have hlt:∀b∈O,b<W.heap.size:=RdB.lt (b0i live) hs.rd;have ht:Turn bs W F W1 F:=⟨hlat1,fun b hb _=>hsame1 b hb,fun b hb => .inl hb⟩;obtain ⟨q1,q2⟩:=hs.turn ht hbO hb0 hds;exact ⟨x,O,hk,q1,hL1,hK1,⟨fun h=>by have:=hs.hF _ h;omega,fun h=>by have:=hlt _ h;omega⟩,⟨fun h=>by have:=hs.hF _ h;omega,fun h=>by have:=hlt _ h;omega⟩,hbO,hbF,q2⟩
  case fin =>
   rintro en W' ⟨⟨u,rfl⟩,F',y,O',j1,j2,j3,j4,j5,j6,j7,j8,j9⟩;rw[List.drop_length] at j1;simp only[seqF,Option.some.injEq] at j1;subst j1;refine ⟨none,_,by have:=run_endLoop (P:=cx.P) j3 (by rw[hrec];simp);rw[hrec] at this;exact this,?_⟩;have hq:=j2.dead (o := .loop { rec0 with state := .exhausted }) (l:=W.heap.size+1) (by omega) j5.1 j5.2 (by rw[j3];simp);refine hQ _ _ F' O' ?_;subst hrec;refine ⟨hq.hF,hq.later,hq.frame,hq.own,hq.fz,hq.size,hq.keep,⟨(fun h=>by rw[hmd] at h;cases h),?_,fun d hd => ?_⟩,hq.forms,hq.rd,hq.nodup,hq.free⟩
   ·show ({ target := .collected W.heap.size,args := #[] }::a.defers:List Deferred).Nodup;refine List.nodup_cons.2 ⟨fun h => ?_,hs.defers.2.nodup⟩;obtain ⟨D,k1,k2,_⟩:=hs.defers.2.at_ _ h;have hlt:=(Array.getElem?_eq_some_iff.1 k2).1;injection k1 with k1;injection k1 with k1;omega
   ·rcases List.mem_cons.1 hd with rfl | hd
    ·exact ⟨_,rfl,(World.putObj_heap_other (by omega)).trans j4,by omega,j6.1,j6.2⟩
    ·exact hq.defers.2.at_ d hd
end
end Go.Flat
end
section
namespace Go.Flat
open Go.RowKit (Below)
theorem o1z {P:Program}:∀(t:Ty),r0b t=true→∀ {x:El t} {W W2:World} {F F2:Fz} {g:Get},(RdP P t).1 x W F g→(RdP P t).1 x W2 F2 g:=by
 intro t;induction t with
 | unit=>intro _ x W W2 F F2 g h;exact h
 | bool=>intro _ x W W2 F F2 g h;exact h
 | int k=>intro _ x W W2 F F2 g h;exact h
 | str=>intro _ x W W2 F F2 g h;exact h
 | err=>intro _ x W W2 F F2 g h;exact h
 | wrap e ih=>intro hf x W W2 F F2 g h;exact ih hf h
 | pair a b iha ihb =>
  intro hf x W W2 F F2 g h;simp only[r0b,Bool.and_eq_true] at hf;exact ⟨iha hf.1 h.1,ihb hf.2 h.2⟩
 | _=>intro hf;cases hf
theorem p1a {P:Program} {W W2:World} {F F2:Fz} {E:EnvM} {c:Cell} {v:Value} (h:b0v P W F E c v) (hf:g1m c=true):b0v P W2 F2 E c v:=by
 cases c with
 | val t x=>exact ⟨h.1,h.2.1,o1z t hf h.2.2⟩
 | pin t x off=>cases hf
 | clo f t x=>cases hf
 | clob f l=>exact h
 | sel n ver i=>cases hf
 | loc n ver off=>exact h
 | lel n ver i off=>exact h
 | lrow n ver=>exact h
 | lall n ver=>exact h
 | lsl n ver off l=>exact h
 | sl n ver=>exact h
 | np=>exact h
 | ns=>exact h
 | nf=>exact h
 | anyB=>exact h
 | dead=>trivial
 | nm=>exact h
theorem m1p {P:Program} {W W2:World} {F F2:Fz} {E:EnvM} {c:Cell} {v:Value} (h:b0v P W F E c v):b0v P W2 F2 E (k0d c) v:=by
 unfold k0d;cases hf:g1m c with
 | true=>exact p1a h hf
 | false=>trivial
theorem o0b {P:Program} {W W2:World} {F F2:Fz} {E:EnvM} {cs:List Cell} {vs:List Value} (h:a0f P W F E cs vs):a0f P W2 F2 E (cs.map k0d) vs:=by
 refine ⟨by simpa using h.1,fun j c v hc hv => ?_⟩;rw[List.getElem?_map] at hc;cases hj:cs[j]? with
 | none=>rw[hj] at hc;cases hc
 | some d =>
  rw[hj] at hc;injection hc with hc;subst hc;obtain ⟨k1,k2⟩:=h.2 j d v hj hv;exact ⟨m1p k1,k2⟩
theorem i1z {P:Program} {W W2:World} {F F2:Fz} {E:EnvM} {ag:Bool} {cs:List Cell} {v:Value} (h:RdV1 P W F E ag cs v):RdV1 P W2 F2 E ag (cs.map k0d) v:=⟨o0b h.1,h.2⟩
theorem thawV_rd {P:Program} {W W2:World} {F F2:Fz} {E:EnvM} {x:V} {v:Value} (h:RdV P W F E x v):RdV P W2 F2 E (w1y x) v:=by
 cases x with
 | v ag cs=>exact i1z h
 | tup l =>
  obtain ⟨vs,h1,h2,h3⟩:=h;refine ⟨vs,h1,by simpa using h2,fun j p u hp hu => ?_⟩;rw[List.getElem?_map] at hp;cases hj:l[j]? with
  | none=>rw[hj] at hp;cases hp
  | some q =>
   rw[hj] at hp;injection hp with hp;subst hp;exact i1z (h3 j q u hj hu)
 | undef=>exact h
 | lost=>trivial
theorem w1z (ds:List Nat) (old new:List (Nat×V)) (s:Nat):getT (thawT ds old new) s=bif hasN ds s then w1y (getT new s) else getT old s:=by
 unfold thawT;induction ds with
 | nil=>rfl
 | cons d ds ih =>
  show getT ((d,w1y (getT new d))::(ds.map (fun s=>(s,w1y (getT new s)))++old)) s=_;simp only[getT,hasN];cases hb:Nat.beq d s with
  | true =>
   have:=Nat.eq_of_beq_eq_true hb;subst this;simp
  | false =>
   simp only[cond_false,ih];cases hasN ds s<;>simp
theorem y0i (h0:Heap):∀(h:Heap) (n i:Nat),(e1t h0 n h)[i]? = (h[i]?).map fun p=>(p.1,match p.2 with | some B=>x1a (frAt h0 (n+i) p.1) B | none=>none)
 | [],n,i=>by simp[e1t]
 | (ver,ob)::r,n,0=>by cases ob<;>simp[e1t]
 | (ver,ob)::r,n,i+1=>by
  show (e1t h0 (n+1) r)[i]? = _;rw[y0i h0 r (n+1) i,show n+1+i=n+(i+1) by omega];rfl
theorem z0s {h:Heap} {n ver:Nat} {fr:Bool} (e:frAt h n ver=some fr):(∃t cs,h[n]? = some (ver,some (.box t cs fr)))∨∃e xs,h[n]? = some (ver,some (.arr e xs fr)):=by
 unfold frAt at e;split at e
 ·rename_i v t cs fr' hn;cases hb:Nat.beq v ver with
  | false=>rw[hb] at e;cases e
  | true =>
   rw[hb] at e;injection e with e;subst e;rw[Nat.eq_of_beq_eq_true hb] at hn;exact .inl ⟨t,cs,hn⟩
 ·rename_i v e' xs fr' hn;cases hb:Nat.beq v ver with
  | false=>rw[hb] at e;cases e
  | true =>
   rw[hb] at e;injection e with e;subst e;rw[Nat.eq_of_beq_eq_true hb] at hn;exact .inr ⟨e',xs,hn⟩
 ·cases e
theorem frAt_fz {P:Program} {W:World} {F:Fz} {E:EnvM} {h:Heap} (hr:HR P W F E (fun _=>True) h) {n ver:Nat} {fr:Bool} (e:frAt h n ver=some fr) {L:Loc} (hL:E.m n ver=some L) :
  (∀b,L = .box b→(fr=false→¬F b)∧(fr=true→F b))∧∀b w l c,L = .arr b w l c→(fr=false→¬F b)∧(fr=true→F b):=by
 rcases z0s e with ⟨t,cs,hn⟩ | ⟨e',xs,hn⟩
 ·obtain ⟨_,L',hL',b,arr,T,rfl,_,_,_,k1,k2⟩:=hr.blk n ver _ hn;rw[hL] at hL';injection hL' with hL';subst hL';refine ⟨fun b' hb => ?_,fun b' w l c hb=>(by cases hb)⟩;injection hb with hb;subst hb;exact ⟨k1,k2⟩
 ·obtain ⟨_,L',hL',hB⟩:=hr.blk n ver _ hn;rw[hL] at hL';injection hL' with hL';subst hL';rcases hB with ⟨rfl,_⟩ | ⟨b,cap,rfl,_,k1,k2⟩
  ·exact ⟨fun b' hb=>(by cases hb),fun b' w l c hb=>(by cases hb)⟩
  ·refine ⟨fun b' hb=>(by cases hb),fun b' w l c hb => ?_⟩;injection hb with hb;subst hb;exact ⟨k1,k2⟩
theorem thawB_rd {P:Program} {W:World} {F F2:Fz} {E:EnvM} {L:Loc} {B B2:Blk} {o:Option Bool} (h:g0m P W F2 E L B) (hF:∀b,F b→F2 b)
  (ho:∀fr,o=some fr→(∀b,L = .box b→(fr=false→¬F b)∧(fr=true→F b))∧∀b w l c,L = .arr b w l c→(fr=false→¬F b)∧(fr=true→F b)) (e:x1a o B=some B2):g0m P W F E L B2:=by
 unfold x1a at e;split at e
 ·rename_i t cs;injection e with e;subst e;obtain ⟨b,arr,T,rfl,h1,h2,h3,h4,_⟩:=h;exact ⟨b,arr,T,rfl,h1,o0b h2,by simpa using h3,fun _ hb=>h4 rfl (hF b hb),fun e=>(by cases e)⟩
 ·rename_i t cs;cases o with
  | none=>cases e
  | some fr =>
   injection e with e;subst e;obtain ⟨b,arr,T,rfl,h1,h2,h3,_,_⟩:=h;obtain ⟨k1,k2⟩:=(ho fr rfl).1 b rfl;exact ⟨b,arr,T,rfl,h1,o0b h2,by simpa using h3,k1,k2⟩
 ·rename_i t xs;cases hf:r0b t with
  | false=>rw[hf] at e;cases e
  | true =>
   rw[hf] at e;injection e with e;subst e;rcases h with ⟨h1,h2⟩ | ⟨b,cap,rfl,⟨cs,T,q1,q2,q3,q4,q5,q6⟩,h3,_⟩
   ·exact .inl ⟨h1,h2⟩
   ·exact .inr ⟨b,cap,rfl,⟨cs,T,q1,q2,q3,q4,q5,fun i hi=>o1z t hf (q6 i hi)⟩,fun _ hb=>h3 rfl (hF b hb),fun e=>(by cases e)⟩
 ·rename_i t xs;cases hf:r0b t with
  | false=>rw[hf] at e;cases e
  | true =>
   rw[hf] at e;cases o with
   | none=>cases e
   | some fr =>
    injection e with e;subst e;rcases h with ⟨h1,h2⟩ | ⟨b,cap,rfl,⟨cs,T,q1,q2,q3,q4,q5,q6⟩,_,_⟩
    ·exact .inl ⟨h1,h2⟩
    ·obtain ⟨k1,k2⟩:=(ho fr rfl).2 b _ _ _ rfl;exact .inr ⟨b,cap,rfl,⟨cs,T,q1,q2,q3,q4,q5,fun i hi=>o1z t hf (q6 i hi)⟩,k1,k2⟩
 ·rename_i n base top T e' x hole fr;injection e with e;subst e;obtain ⟨v,bs,rfl,h1,h2,h3,h4,h5⟩:=h;refine ⟨v,bs,rfl,h1,h2,h3,h4,fun hfr => ?_⟩;obtain ⟨k1,k2,k3⟩:=h5 hfr;exact ⟨k1,k2,fun b hb hFb=>k3 b hb (hF b hFb)⟩
 ·cases e
theorem v1z {n:Nat} {K K2:List Nat}:∀c:Code,n0e c=true→b0y n K c=true→(∀d∈v0n c,d ∉ K2)→b0y n K2 c=true:=by
 intro c;induction c with
 | skip=>intro _ _ _;rfl
 | ret=>intro _ _ _;rfl
 | exit id=>intro _ _ _;rfl
 | region id ops draw =>
  intro _ h hd;simp only[b0y,l1j,List.all_eq_true] at h ⊢;intro o ho;have h1:=h o ho;cases hdst:o.dst with
  | none=>rfl
  | some d =>
   rw[hdst] at h1;simp only[Bool.and_eq_true] at h1 ⊢;refine ⟨h1.1,?_⟩;have:d∈v0n (.region id ops draw):=List.mem_filterMap.2 ⟨o,ho,hdst⟩;have hk:=hd d this;cases hh:hasN K2 d with
   | false=>rfl
   | true=>exact absurd (b0u.1 hh) hk
 | seq a b iha ihb =>
  intro hf h hd;simp only[n0e,b0y,Bool.and_eq_true] at hf h ⊢;exact ⟨iha hf.1 h.1 fun d hm=>hd d (List.mem_append_left _ hm),ihb hf.2 h.2 fun d hm=>hd d (List.mem_append_right _ hm)⟩
 | cond z a b iha ihb =>
  intro hf h hd;simp only[n0e,b0y,Bool.and_eq_true] at hf h ⊢;exact ⟨iha hf.1 h.1 fun d hm=>hd d (List.mem_append_left _ hm),ihb hf.2 h.2 fun d hm=>hd d (List.mem_append_right _ hm)⟩
 | block id a ih =>
  intro hf h hd;exact ih hf h hd
 | _=>intro hf;cases hf
theorem below_no {n:Nat} {K:List Nat}:∀c:Code,n0e c=true→b0y n K c=true→∀i∈K,i ∉ v0n c:=by
 intro c;induction c with
 | region id ops draw =>
  intro _ h i hi hd;simp only[b0y,l1j,List.all_eq_true] at h;obtain ⟨o,ho,hdst⟩:=List.mem_filterMap.1 hd;have h1:=h o ho;rw[hdst] at h1;simp only[Bool.and_eq_true] at h1;rw[b0u.2 hi] at h1;exact absurd h1.2 (by simp)
 | seq a b iha ihb =>
  intro hf h i hi hd;simp only[n0e,b0y,Bool.and_eq_true] at hf h;rcases List.mem_append.1 hd with hd | hd
  ·exact iha hf.1 h.1 i hi hd
  ·exact ihb hf.2 h.2 i hi hd
 | cond z a b iha ihb =>
  intro hf h i hi hd;simp only[n0e,b0y,Bool.and_eq_true] at hf h;rcases List.mem_append.1 hd with hd | hd
  ·exact iha hf.1 h.1 i hi hd
  ·exact ihb hf.2 h.2 i hi hd
 | block id a ih=>intro hf h i hi hd;exact ih hf h i hi hd
 | skip=>intro _ _ i _ hd;cases hd
 | ret=>intro _ _ i _ hd;cases hd
 | exit id=>intro _ _ i _ hd;cases hd
 | _=>intro hf;cases hf
theorem v1f:∀c:Code,n0e c=true→noRF c=true:=by
 intro c;induction c with
 | seq a b iha ihb =>
  intro h;simp only[n0e,noRF,Bool.and_eq_true] at h ⊢;exact ⟨iha h.1,ihb h.2⟩
 | cond z a b iha ihb =>
  intro h;simp only[n0e,noRF,Bool.and_eq_true] at h ⊢;exact ⟨iha h.1,ihb h.2⟩
 | block id a ih=>intro h;exact ih h
 | skip=>intro _;rfl
 | ret=>intro _;rfl
 | exit id=>intro _;rfl
 | region id ops draw=>intro _;rfl
 | _=>intro h;cases h
theorem m1q {fx:Hints} {a b:Code} (h:q1g fx a b=true):fx.thaw≠[]∧n0e a=true:=by
 unfold q1g at h;split at h
 ·cases h
 ·rename_i hne;refine ⟨fun e=>hne e,?_⟩;split at h
  ·rw[Bool.and_eq_true] at h;exact h.2
  ·cases h
theorem b2v (fx:Hints) (c:Code):(fx.calm c).thaw=[]∨noRF c=true:=by
 unfold Hints.calm;split
 ·rename_i h;exact .inl h
 ·cases hn:noRF c with
  | true=>exact .inr rfl
  | false=>exact .inl rfl
section
variable {cx:Cx} {call:Oracle cx} {fx:Hints} {W0:World} {F0:Fz} {O0:List Nat} {nt:Slots}
def s1u (nt:Slots) (a:Act) (E:EnvM) (ds:List Nat):Slots where
 nt:=nt.nt
 K:=(List.range nt.nt).filter fun i => !hasN ds i
 kv:=fun i=>a.tmps.getD i undef
 I:=fun E'=>EnvLe E E'
 up:=fun _ _ h k=>h.trans k
 md:=false
open Classical in
noncomputable def u1t (h:Heap) (E:EnvM) (n:Nat):List Nat:=(List.range n).filter fun b=>decide (a0p h E b)
theorem StRel.into {st:St} {a:Act} {W:World} {F:Fz} {E:EnvM} (hs:StRel cx W0 F0 O0 nt st a W F E) (hmd:nt.md=false) (ds:List Nat) :
  StRel cx W F (u1t st.h E W.heap.size) (s1u nt a E ds) st a W F E:=by
 refine ⟨hs.hr,hs.hF,hs.t,Later.refl W F,fun _ _ _=>rfl,fun b hb => ?_,fun b hb => .inl hb,hs.size,fun i _=>rfl,⟨fun _=>hs.defers.1 hmd,by rw[hs.defers.1 hmd];exact .nil⟩,EnvLe.refl E⟩;by_cases h:b<W.heap.size
 ·exact .inl (List.mem_filter.2 ⟨List.mem_range.2 h,by simpa using hb⟩)
 ·exact .inr (by omega)
theorem z1i {h:Heap} {E:EnvM} {n b:Nat} (hb:b∈u1t h E n):a0p h E b:=by
 have:=(List.mem_filter.1 hb).2
 simpa using this
theorem StRel.outOf {st st':St} {a a':Act} {W W':World} {F F':Fz} {E E':EnvM} {ds:List Nat} (hs:StRel cx W0 F0 O0 nt st a W F E) (h2:StRel cx W F (u1t st.h E W.heap.size) (s1u nt a E ds) st' a' W' F' E')
  (hK:∀i∈nt.K,i<nt.nt→i ∉ ds):StRel cx W0 F0 O0 nt st' a' W' F' E':=by
 have hO:∀b∈u1t st.h E W.heap.size,b∈O0∨W0.heap.size≤b:=fun b hb=>hs.own b (z1i hb)
 have hd:=h2.defers.1 rfl;have hsz:W0.heap.size≤W.heap.size:=hs.later.size;refine ⟨h2.hr,h2.hF,h2.t,hs.later.trans h2.later,fun b hb hn => ?_,fun b hb => ?_,fun b hb => ?_,h2.size,fun i hi => ?_,⟨fun _=>hd,by rw[hd];exact .nil⟩,nt.up E E' hs.env h2.env⟩
 ·refine (h2.frame b (by omega) fun hm => ?_).trans (hs.frame b hb hn);rcases hO b hm with k | k
  ·exact hn k
  ·omega
 ·rcases h2.own b hb with k | k
  ·exact hO b k
  ·exact .inr (by omega)
 ·rcases h2.fz b hb with k | k | k
  ·exact hs.fz b k
  ·exact .inr (hO b k)
  ·exact .inr (.inr (by omega))
 ·by_cases hi2:i<nt.nt
  ·refine (h2.keep i ?_).trans (hs.keep i hi);refine List.mem_filter.2 ⟨List.mem_range.2 hi2,?_⟩;cases hh:hasN ds i with
   | false=>rfl
   | true=>exact absurd (b0u.1 hh) (hK i hi hi2)
  ·have e1:a'.tmps.getD i undef=undef:=by
    rw[Array.getD_eq_getD_getElem?,Array.getElem?_eq_none (by rw[h2.size];exact Nat.le_of_not_lt hi2)];rfl
   have e2:a.tmps.getD i undef=undef:=by
    rw[Array.getD_eq_getD_getElem?,Array.getElem?_eq_none (by rw[hs.size];omega)];rfl
   rw[e1,←hs.keep i hi,e2]
theorem StRel.thaw {st st':St} {a a':Act} {W W':World} {F F':Fz} {E E':EnvM} {ds:List Nat} (hs:StRel cx W0 F0 O0 nt st a W F E) (h2:StRel cx W F (u1t st.h E W.heap.size) (s1u nt a E ds) st' a' W' F' E')
  (hK:∀i∈nt.K,i<nt.nt→i ∉ ds):StRel cx W0 F0 O0 nt (thawSt ds st st') a' W' F E':=by
 have h3:=hs.outOf h2 hK;have hE:EnvLe E E':=h2.env;have hl:Later W F W' F:=⟨h2.later.os,h2.later.tape,h2.later.output,h2.later.size,h2.later.keep,fun _ h=>h⟩;have entry:∀n ver B,(e1t st.h 0 st'.h)[n]? = some (ver,some B)→∃B',st'.h[n]? = some (ver,some B')∧x1a (frAt st.h n ver) B'=some B:=by
  intro n ver B hn;rw[y0i,Nat.zero_add] at hn;cases hp:st'.h[n]? with
  | none=>rw[hp] at hn;cases hn
  | some p =>
   rw[hp] at hn;obtain ⟨v',ob⟩:=p;simp only[Option.map_some,Option.some.injEq,Prod.mk.injEq] at hn;obtain ⟨rfl,hn⟩:=hn;cases ob with
   | none=>cases hn
   | some B'=>exact ⟨B',rfl,hn⟩
 have live:∀b,a0p (e1t st.h 0 st'.h) E' b→a0p st'.h E' b:=by
  rintro b ⟨n,ver,B,L,q1,q2,q3⟩;obtain ⟨B',q4,_⟩:=entry n ver B q1;exact ⟨n,ver,B',L,q4,q2,q3⟩
 refine ⟨⟨fun n ver b hN hn => ?_,fun n ver B hn => ?_,fun n m vn vm bn bm L M x q1 q2 q3 q4 q5 q6 => ?_⟩,fun b hb=>Nat.lt_of_lt_of_le (hs.hF b hb) h2.later.size,fun s => ?_,hs.later.trans hl,h3.frame,fun b hb=>h3.own b (live b hb),hs.fz,h3.size,h3.keep,
  ⟨h3.defers.1,by rw[h2.defers.1 rfl];exact .nil⟩,h3.env⟩
 ·change (e1t st.h 0 st'.h)[n]? = some (ver,b) at hn
  rw[y0i] at hn;cases hp:st'.h[n]? with
  | none=>rw[hp] at hn;cases hn
  | some p =>
   rw[hp] at hn;simp only[Option.map_some,Option.some.injEq,Prod.mk.injEq] at hn;have:=h2.hr.top n p.1 p.2 hN (by rw[hp]);rw[←hn.1];exact this
 ·obtain ⟨B',q1,q2⟩:=entry n ver B hn;obtain ⟨k0,L,k1,k2⟩:=h2.hr.blk n ver B' q1;refine ⟨k0,L,k1,thawB_rd k2 h2.later.more (fun fr hfr => ?_) q2⟩;obtain ⟨L',hL'⟩:∃L',E.m n ver=some L':=by
   rcases z0s hfr with ⟨t,cs,hn⟩ | ⟨e',xs,hn⟩
   ·obtain ⟨_,L',hL',_⟩:=hs.hr.blk n ver _ hn;exact ⟨L',hL'⟩
   ·obtain ⟨_,L',hL',_⟩:=hs.hr.blk n ver _ hn;exact ⟨L',hL'⟩
  have hver:ver≤E.top n:=by
   rcases z0s hfr with ⟨t,cs,hn⟩ | ⟨e',xs,hn⟩
   ·exact Nat.le_of_eq (hs.hr.top n ver _ trivial hn)
   ·exact Nat.le_of_eq (hs.hr.top n ver _ trivial hn)
  rw[hE.m n ver hver,hL'] at k1;injection k1 with k1;subst k1;exact frAt_fz hs.hr hfr hL'
 ·obtain ⟨Bn,r1,_⟩:=entry n vn bn q1;obtain ⟨Bm,r2,_⟩:=entry m vm bm q2;exact h2.hr.inj n m vn vm Bn Bm L M x r1 r2 q3 q4 q5 q6
 ·show RdV cx.P W' F E' (getT (thawT ds st.t st'.t) s) (a'.tmps.getD s undef);rw[w1z];cases hd:hasN ds s with
  | true=>exact thawV_rd (h2.t s)
  | false =>
   have e:a'.tmps.getD s undef=a.tmps.getD s undef:=by
    by_cases hi2:s<nt.nt
    ·exact h2.keep s (List.mem_filter.2 ⟨List.mem_range.2 hi2,by rw[hd];rfl⟩)
    ·rw[Array.getD_eq_getD_getElem?,Array.getD_eq_getD_getElem?,Array.getElem?_eq_none (by rw[h2.size];exact Nat.le_of_not_lt hi2),Array.getElem?_eq_none (by rw[hs.size];omega)]
   rw[e];exact (hs.t s).later hl hE
end
end Go.Flat
end
