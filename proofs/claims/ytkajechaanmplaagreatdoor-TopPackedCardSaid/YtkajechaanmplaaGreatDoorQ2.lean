/-
 Plain proofs about the functions of this seat, part 2 of 3.
-/
import Derived.Test.YtkajechaanmplaaGreatDoorQ1
import Derived.Test.YtkajechaanmplaaGreatDoorTr
import Derived.Test.YtkajechaanmplaaGreatDoorFlatM4
import Derived.KernelRfl
namespace Go.Proofs.YtkajechaanmplaaGreatDoor
open Go.Flat Go.Plim
set_option linter.unusedVariables false
set_option linter.unusedSimpArgs false
theorem allE_okc (l:List Cel):∀c,c0p c→c0p (allE c l).1:=by
 induction l with
 | nil=>intro c h;exact h
 | cons x l ih =>
  intro c h;simp only[allE];split
  ·rename_i k;exact ih _ (o1q k).2.2.2.2
  ·exact z1a
theorem j1a (l:List Slo) (i k:Int):c0p (j1b l i k).1:=by
 unfold j1b;split
 ·exact z1a
 ·exact allE_okc _ _ z1a
theorem d1g {a b i:Int} (ha:1≤a∧a≤1099511627776) (hb:1≤b∧b≤1099511627776) (hm:b % a=0) (h:g0n b i) :
  IntKind.wrap .i64 (i*(b / a))=i*(b / a)∧IntKind.wrap .i64 ((IntKind.wrap .i64 (i+1))*(b / a))=(i+1)*(b / a):=by
 obtain ⟨h1,h2,h3,h4,h5,h6⟩:=u1n ha hb hm h;have:=l1x hb.1 h;have:=h.1;rw[w64 (x:=i+1) (by omega) (by omega),h6,w64 (by omega) (by omega),w64 (by omega) (by omega)];exact ⟨rfl,rfl⟩
theorem v1a (n:Nat) {c:Conf} {s:Trs} (h:FoldOk c s) {i:Int} (hb:g0n c.2.1.2.1 i):f0j (n+19) (c,s) 1 i=some ((mk1 c s i).1,((mk1 c s i).2,(c,s))):=by
 have hr:=h.cok.rng;obtain ⟨e1,e2⟩:=d1g hr.w0 hr.w1 h.cok.m1 hb;rw[b1m];simp only[tfd,if_neg (show ¬(c.2.1.1=0) by have:=hr.w0;omega),t1x hr.w1 hr.w0.1,e1,e2,i1v n h.t0,obs];rfl
theorem u1z (n:Nat) {c:Conf} {s:Trs} (h:FoldOk c s) {i:Int} (hb:g0n c.2.1.2.2 i):f0j (n+19) (c,s) 2 i=some ((mk2 c s i).1,((mk2 c s i).2,(c,s))):=by
 have hr:=h.cok.rng;obtain ⟨e1,e2⟩:=d1g hr.w1 hr.w2 h.cok.m2 hb;rw[b1l];simp only[tfd,if_neg (show ¬(c.2.1.2.1=0) by have:=hr.w1;omega),t1x hr.w2 hr.w1.1,e1,e2,i1v n h.t1,obs];rfl
theorem a2j (n:Nat) {c:Conf} {s:Trs} (h:FoldOk c s) (i:Int) {x:Cel} (hx:CelW x):e0m (n+9) (c,s) 0 i x=some (if FitsP x c.2.1.1 i then (0,(c,(tput s.1 i x,s.2))) else (2,(c,s))):=by
 rw[g1r,e1n n _ _ (p0i h.t0) hx];simp only[obs,tfd];by_cases hf:FitsP x c.2.1.1 i
 ·rw[if_pos (And.intro h.t0 hf),if_pos hf];rfl
 ·have hn:¬(TierOk s.1 c.2.1.1∧FitsP x c.2.1.1 i):=fun k=>hf k.2
  rw[if_neg hn,if_neg hf];rfl
theorem a2i (n:Nat) {c:Conf} {s:Trs} (h:FoldOk c s) (i:Int) {x:Cel} (hx:CelW x):e0m (n+9) (c,s) 1 i x=some (if FitsP x c.2.1.2.1 i then (0,(c,(s.1,(tput s.2.1 i x,s.2.2)))) else (2,(c,s))):=by
 rw[g1q,e1n n _ _ (p0i h.t1) hx];simp only[obs,tfd];by_cases hf:FitsP x c.2.1.2.1 i
 ·rw[if_pos (And.intro h.t1 hf),if_pos hf];rfl
 ·have hn:¬(TierOk s.2.1 c.2.1.2.1∧FitsP x c.2.1.2.1 i):=fun k=>hf k.2
  rw[if_neg hn,if_neg hf];rfl
theorem a2h (n:Nat) {c:Conf} {s:Trs} (h:FoldOk c s) (i:Int) {x:Cel} (hx:CelW x):e0m (n+9) (c,s) 2 i x=some (if FitsP x c.2.1.2.2 i then (0,(c,(s.1,(s.2.1,tput s.2.2 i x)))) else (2,(c,s))):=by
 rw[g1p,e1n n _ _ (p0i h.t2) hx];simp only[obs,tfd];by_cases hf:FitsP x c.2.1.2.2 i
 ·rw[if_pos (And.intro h.t2 hf),if_pos hf];rfl
 ·have hn:¬(TierOk s.2.2 c.2.1.2.2∧FitsP x c.2.1.2.2 i):=fun k=>hf k.2
  rw[if_neg hn,if_neg hf];rfl
theorem p0s {a w i j:Int} (ha:1≤a) (hw:1≤w) (h0:0≤i) (hij:i≤j) (hj:g0n a j) :
  IntKind.wrap .i64 (Int.tdiv (IntKind.wrap .i64 (i*a)) w)=i*a / w∧g0n w (i*a / w):=by
 have hm:=hj.mul ha;have h1:0≤i*a:=Int.mul_nonneg h0 (by omega);have h2:i*a≤j*a:=Int.mul_le_mul_of_nonneg_right hij (by omega);have h3:0≤i*a / w:=Int.ediv_nonneg h1 (by omega);have h4:i*a / w≤i*a:=Int.ediv_le_self _ h1;rw[w64 (x:=i*a) (by omega) (by omega),u0l h1,w64 (by omega) (by omega)];exact ⟨rfl,d1r hw ⟨h1,by omega⟩⟩
theorem x1i (n:Nat) {c:Conf} {s:Trs} (h:FoldOk c s) {i j:Int} (h0:0≤i) (hij:i≤j) (hj:g0n c.2.1.1 j) :
  (tif (decide (IntKind.wrap .i64 (Int.tdiv (IntKind.wrap .i64 (i*c.2.1.1)) c.2.1.2.2)=IntKind.wrap .i64 (Int.tdiv (IntKind.wrap .i64 (j*c.2.1.1)) c.2.1.2.2))) (some (c,s))
   (a0a (f0j (n+19) (c,s) (2:Int) (IntKind.wrap .i64 (Int.tdiv (IntKind.wrap .i64 (i*c.2.1.1)) c.2.1.2.2))) fun r0 =>
    tif (decide (r0.2.1=(0:Int))) (tif (decide ((0:Int)<r0.1.1)) (a0a (e0m (n+19) r0.2.2 (2:Int) (IntKind.wrap .i64 (Int.tdiv (IntKind.wrap .i64 (i*c.2.1.1)) c.2.1.2.2)) r0.1) fun r1=>some r1.2) (some r0.2.2)) (some r0.2.2)))=some (c,up2 c s i j):=by
 have hr:=h.cok.rng;have hjj:0≤j:=hj.1;obtain ⟨e1,b1⟩:=p0s hr.w0.1 hr.w2.1 h0 hij hj;obtain ⟨e2,_⟩:=p0s hr.w0.1 hr.w2.1 hjj (Int.le_refl j) hj;rw[e1,e2,u1z n h b1];simp only[obs,tfd];unfold up2;by_cases c1:i*c.2.1.1 / c.2.1.2.2=j*c.2.1.1 / c.2.1.2.2
 ·rw[if_pos c1,if_pos c1]
 rw[if_neg c1,if_neg c1];generalize i*c.2.1.1 / c.2.1.2.2=a at *
 have hok:c0p (mk2 c s a).1:=j1a _ _ _;by_cases c2:(mk2 c s a).2=0
 ·rw[if_pos c2];by_cases c3:0<(mk2 c s a).1.1
  ·rw[if_pos c3,a2h (n+10) h a (CelW.of hok)];by_cases c4:FitsP (mk2 c s a).1 c.2.1.2.2 a
   ·rw[if_pos c4,if_pos (And.intro c2 c4)];rfl
   ·rw[if_neg c4,if_neg (fun k=>c4 k.2)];rfl
  ·rw[if_neg c3,if_neg (fun k=>c3 (by have:=k.2.n.n1;omega))]
 ·rw[if_neg c2,if_neg (fun k=>c2 k.1)]
theorem fold_up (n:Nat) {c:Conf} {s:Trs} (h:FoldOk c s) {i j:Int} (h0:0≤i) (hij:i≤j) (hj:g0n c.2.1.1 j):g1n (n+20) (c,s) i j=some (c,upw c s i j):=by
 have hr:=h.cok.rng;have hjj:0≤j:=hj.1;obtain ⟨e1,b1⟩:=p0s hr.w0.1 hr.w1.1 h0 hij hj;obtain ⟨e2,_⟩:=p0s hr.w0.1 hr.w1.1 hjj (Int.le_refl j) hj;have z1:¬(c.2.1.2.1=0):=by have:=hr.w1;omega
 have z2:¬(c.2.1.2.2=0):=by have:=hr.w2;omega
 rw[v1l];simp only[e1,e2,decide_eq_false z1,decide_eq_false z2,tff,v1a n h b1,obs,x1i n h h0 hij hj];unfold upw;simp only[tfd];by_cases c1:i*c.2.1.1 / c.2.1.2.1=j*c.2.1.1 / c.2.1.2.1
 ·have:up1 c s i j=s:=by unfold up1;rw[if_pos c1]
  rw[if_pos c1,this]
 rw[if_neg c1];have e3:up1 c s i j=if (mk1 c s (i*c.2.1.1 / c.2.1.2.1)).2=0∧FitsP (mk1 c s (i*c.2.1.1 / c.2.1.2.1)).1 c.2.1.2.1 (i*c.2.1.1 / c.2.1.2.1) then (s.1,(tput s.2.1 (i*c.2.1.1 / c.2.1.2.1) (mk1 c s (i*c.2.1.1 / c.2.1.2.1)).1,s.2.2)) else s:=by
  unfold up1;rw[if_neg c1]
 have hk:=up1_ok h i j;rw[e3] at hk ⊢;generalize i*c.2.1.1 / c.2.1.2.1=a at *
 have hok:c0p (mk1 c s a).1:=j1a _ _ _;by_cases c2:(mk1 c s a).2=0
 ·rw[if_pos c2];by_cases c3:0<(mk1 c s a).1.1
  ·rw[if_pos c3,a2i (n+10) h a (CelW.of hok)];by_cases c4:FitsP (mk1 c s a).1 c.2.1.2.1 a
   ·rw[if_pos (And.intro c2 c4)] at hk ⊢;rw[if_pos c4];have:=x1i n hk h0 hij hj;simp only[obs,if_neg z2];simp only[tfd] at this ⊢;exact this
   ·have hn1:¬((mk1 c s a).2=0∧FitsP (mk1 c s a).1 c.2.1.2.1 a):=fun k=>c4 k.2
    rw[if_neg hn1] at hk ⊢;rw[if_neg c4];have:=x1i n hk h0 hij hj;simp only[obs,if_neg z2];simp only[tfd] at this ⊢;exact this
  ·rw[if_neg c3,if_neg (fun k=>c3 (by have:=k.2.n.n1;omega))]
 ·rw[if_neg c2,if_neg (fun k=>c2 k.1)]
noncomputable def w0p (c:Conf) (s:Trs) (was:Slo) (j:Int):Trs×Int :=
 if FoldOk c s then
  (if was=s0 then (s,0)
   else if FitsP was.2 c.2.1.1 was.1 then
    (if was.1=j then (s,0) else if was.1≤j∧g0n c.2.1.1 j then (upw c (tput s.1 was.1 was.2,s.2) was.1 j,0) else (([],([],[])),1))
   else (([],([],[])),2))
 else (([],([],[])),2)
theorem z0t {c:Conf} {s:Trs} (h:FoldOk c s) {i:Int} {x:Cel} (hf:FitsP x c.2.1.1 i):FoldOk c (tput s.1 i x,s.2) :=
 ⟨h.cok,by simpa [tput] using h.n0,h.n1,h.n2,e1k h.t0 hf,h.t1,h.t2⟩
theorem v1c (n:Nat) (c:Conf) {s:Trs} (hw:TrsW s) {was:Slo} (hx:SloW was) (j:Int):v0j (n+21) c s was j=some (w0p c s was j):=by
 rw[g1j,t0t (n+12) c hw];unfold w0p;by_cases h:FoldOk c s
 case neg=>rw[if_neg h,if_neg h];rfl
 have hr:=h.cok.rng;rw[if_pos h,if_pos h];simp only[obs,p0t,decide_true,Bool.not_true,tff,x1r,tfn,tfd,if_true,s0j (n+14) hx.c];by_cases c1:was=s0
 ·rw[if_pos c1,if_pos c1,if_pos c1]
 rw[if_neg c1,if_neg c1,if_neg c1];by_cases c2:FitsP was.2 c.2.1.1 was.1
 case neg=>rw[if_neg c2,if_neg c2]
 rw[if_pos c2,if_pos c2];by_cases c3:was.1=j
 ·rw[if_pos c3,if_pos c3]
 rw[if_neg c3,if_neg c3];by_cases c4:j<was.1
 ·rw[if_pos c4,if_neg (fun q=>by omega)]
 rw[if_neg c4,begins_0 (n+19) c s hr.w0.1 j];simp only[obs,tfn,tfd];by_cases hb:g0n c.2.1.1 j
 ·have hi:=c2.i0;rw[if_pos hb,if_pos ⟨by omega,hb⟩,a2j (n+11) h was.1 hx.c,if_pos c2];simp only[obs,if_true,fold_up n (z0t h c2) hi.1 (show was.1≤j by omega) hb]
 ·rw[if_neg hb,if_neg (fun q=>hb q.2)]
theorem FoldOk.lens {c:Conf} {s:Trs} (h:FoldOk c s):s.1.length≤1000000∧s.2.1.length≤1000000∧s.2.2.length≤1000000:=by
 have:=h.t0.l1;have:=h.t1.l1;have:=h.t2.l1;omega
abbrev Ser:=List Lab×(Int×(Rw×(Trs×Slo)))
structure SerW (s:Ser):Prop where
 last:I64 s.2.1
 raw:RawW s.2.2.1
 trs:TrsW s.2.2.2.1
 opn:SloW s.2.2.2.2
def b0e (l:List Slo) (i:Int):Prop:=∀s∈l,0<s.2.1→s.1<i
noncomputable instance (l i):Decidable (b0e l i):=Classical.propDecidable _
structure Fresh (s:Ser):Prop where
 raw:s.2.2.1.2.2=[]
 opn:s.2.2.2.2=s0
 b0:b0e s.2.2.2.1.1 0
 b1:b0e s.2.2.2.1.2.1 0
 b2:b0e s.2.2.2.1.2.2 0
structure EndsP (c:Conf) (s:Ser):Prop where
 last:∃e,s.2.2.1.2.2.getLast? = some e∧e.1=s.2.1
 ol:s.2.2.2.2.2.2.2.1.1=s.2.1
 fit:FitsP s.2.2.2.2.2 c.2.1.1 s.2.2.2.2.1
 b0:b0e s.2.2.2.1.1 (s.2.1 / c.2.1.1)
 b1:b0e s.2.2.2.1.2.1 (s.2.1 / c.2.1.2.1)
 b2:b0e s.2.2.2.1.2.2 (s.2.1 / c.2.1.2.2)
structure SerOk (c:Conf) (s:Ser):Prop where
 fold:FoldOk c s.2.2.2.1
 lab:LabOk s.1
 raw:RawOk s.2.2.1 c.1
 st:(s.2.1 = -1∧Fresh s)∨(s.2.1 ≠ -1∧EndsP c s)
noncomputable instance (s):Decidable (Fresh s):=Classical.propDecidable _
noncomputable instance (c s):Decidable (EndsP c s):=Classical.propDecidable _
noncomputable instance (c s):Decidable (SerOk c s):=Classical.propDecidable _
theorem h1q (n:Nat) {del:a0c×Unit→Option Bool} {p:Slo→Bool} (hd:∀x,del (x,())=some (p x)) (l:List Slo) (hL:l.length≤1000000):f0i (n+2) l del=some (l.any p):=by
 rw[m0o,i0k];rcases z1x hd n l hL l [] a0b 0 l.length rfl rfl rfl (by unfold a0b;omega) with ⟨h1,h2⟩ | ⟨A,x,B,h1,h2,h3,h4⟩
 ·rw[h1];have:l.any p=false:=by rw[List.any_eq_false];intro x hx;simp[h2 x hx]
  rw[this];rfl
 ·rw[h4];have:l.any p=true:=List.any_eq_true.2 ⟨x,by rw[h1];simp,h3⟩;simp only[obs,o0i,this,Int.zero_add];rw[decide_eq_true (by omega)]
theorem c0s (n:Nat) (l:List Slo) (i:Int) (hL:l.length≤1000000):d0i (n+3) l i=some (!decide (b0e l i)):=by
 rw[w0z,h1q (p:=fun s=>decide (0<s.2.1∧i≤s.1)) n (fun x=>by
  show j0s (n+1+1) x i=_;rw[t0b]
  by_cases h1:0<x.2.1<;>by_cases h2:i≤x.1<;>simp[h1,h2]) l hL]
 simp only[obs];refine congrArg some ?_;by_cases h:b0e l i
 ·rw[decide_eq_true h];rw[List.any_eq_false.2]
  ·rfl
  ·intro x hx k;have:=of_decide_eq_true k;have:=h x hx this.1;omega
 ·rw[decide_eq_false h];have:∃x∈l,0<x.2.1∧i≤x.1:=Classical.byContradiction fun k=>h fun x hx hc=>by
   rcases Int.lt_or_le x.1 i with q | q
   ·exact q
   ·exact absurd ⟨x,hx,hc,q⟩ k
  obtain ⟨x,hx,hq⟩:=this;rw[List.any_eq_true.2 ⟨x,hx,decide_eq_true hq⟩];rfl
theorem u1v (n:Nat) (c:Conf) {s:Ser} (hf:FoldOk c s.2.2.2.1):y0n (n+4) (c,s)=some (decide (Fresh s)):=by
 obtain ⟨l0,l1,l2⟩:=hf.lens;rw[j1g,x1r,c0s n _ _ l0,c0s n _ _ l1,c0s n _ _ l2];simp only[obs,Bool.not_not,tfd];by_cases h1:(s.2.2.1.2.2.length:Int)=0
 case neg=>rw[if_neg h1,decide_eq_false (fun k:Fresh s=>h1 (by rw[k.raw];rfl))]
 rw[if_pos h1];by_cases h2:s.2.2.2.2=s0
 case neg=>rw[if_neg h2,decide_eq_false (fun k:Fresh s=>h2 k.opn)]
 rw[if_pos h2];by_cases h3:b0e s.2.2.2.1.1 0
 case neg=>rw[if_neg h3,decide_eq_false (fun k:Fresh s=>h3 k.b0)]
 rw[if_pos h3];by_cases h4:b0e s.2.2.2.1.2.1 0
 case neg=>rw[if_neg h4,decide_eq_false (fun k:Fresh s=>h4 k.b1)]
 rw[if_pos h4];refine congrArg some (decide_eq_decide.2 ⟨fun k=>⟨List.length_eq_zero_iff.1 (by omega),h2,h3,h4,k⟩,fun k=>k.b2⟩)
theorem z1o {c:Conf} {s:Ser} (hr:RawOk s.2.2.1 c.1) {e:Ev} (he:s.2.2.1.2.2.getLast? = some e):EvOk e:=hr.f.ok e (List.mem_of_getLast? he)
theorem z1t (n:Nat) (c:Conf) {s:Ser} (hf:FoldOk c s.2.2.2.1) (hr:RawOk s.2.2.1 c.1) (hw:SerW s):x0k (n+7) (c,s)=some (decide (EndsP c s)):=by
 obtain ⟨l0,l1,l2⟩:=hf.lens;have hg:=hf.cok.rng;have hlen:=hr.len;have hm1:=hr.m1;rw[n1h,q1q (n+5) s.2.2.1 (by omega)];cases hl:s.2.2.1.2.2.getLast? with
 | none =>
  simp only[obs];rw[show (decide ((3:Int)=0))=false from rfl,tff,decide_eq_false];intro k;obtain ⟨e,he,_⟩:=k.last;rw[hl] at he;cases he
 | some e =>
  have heo:=z1o hr hl;simp only[obs,decide_true,tft,tfd,if_true];by_cases h1:e.1=s.2.1
  case neg =>
   rw[if_neg h1,decide_eq_false];intro k;obtain ⟨e',he,hq⟩:=k.last;rw[hl] at he;injection he with he;subst he;exact h1 hq
  rw[if_pos h1];by_cases h2:s.2.2.2.2.2.2.2.1.1=s.2.1
  case neg=>rw[if_neg h2,decide_eq_false (fun k:EndsP c s=>h2 k.ol)]
  have q0:=q1s heo hg.w0.1;have q1:=q1s heo hg.w1.1;have q2:=q1s heo hg.w2.1;rw[h1] at q0 q1 q2;rw[if_pos h2,s0j n hw.opn.c];simp only[obs,tfd,q0,q1,q2,c0s (n+3) _ _ l0,c0s (n+3) _ _ l1,c0s (n+3) _ _ l2,Bool.not_not,if_neg (show ¬(c.2.1.1=0) by have:=hg.w0;omega),if_neg (show ¬(c.2.1.2.1=0) by have:=hg.w1;omega),if_neg (show ¬(c.2.1.2.2=0) by have:=hg.w2;omega)];by_cases h3:FitsP s.2.2.2.2.2 c.2.1.1 s.2.2.2.2.1
  case neg=>rw[if_neg h3,decide_eq_false (fun k:EndsP c s=>h3 k.fit)]
  rw[if_pos h3];by_cases h4:b0e s.2.2.2.1.1 (s.2.1 / c.2.1.1)
  case neg=>rw[if_neg h4,decide_eq_false (fun k:EndsP c s=>h4 k.b0)]
  rw[if_pos h4];by_cases h5:b0e s.2.2.2.1.2.1 (s.2.1 / c.2.1.2.1)
  case neg=>rw[if_neg h5,decide_eq_false (fun k:EndsP c s=>h5 k.b1)]
  rw[if_pos h5];refine congrArg some (decide_eq_decide.2 ⟨fun k=>⟨⟨e,hl,h1⟩,h2,h3,h4,h5,k⟩,fun k=>k.b2⟩)
theorem z08 (p:Prop) [Decidable p]:((if p then (0:Int) else 8)=0)↔p:=by by_cases h:p<;>simp[h]
theorem o0g (n:Nat) (c:Conf) {s:Ser} (hw:SerW s):m0q (n+10) c s=some (if SerOk c s then (some (c,s),0) else (none,2)):=by
 rw[a1w,v1d n c hw.trs,r0n (n+3),j1w (n+4) _ _ hw.raw];simp only[obs,tfn,tfd];by_cases h1:FoldOk c s.2.2.2.1
 case neg=>rw[if_neg (mt (z02 _).1 h1),if_neg (fun k:SerOk c s=>h1 k.fold)]
 by_cases h2:LabOk s.1
 case neg=>rw[if_pos ((z02 _).2 h1),if_neg (mt (z08 _).1 h2),if_neg (fun k:SerOk c s=>h2 k.lab)]
 by_cases h3:RawOk s.2.2.1 c.1
 case neg=>rw[if_pos ((z02 _).2 h1),if_pos ((z08 _).2 h2),if_neg (mt (z02 _).1 h3),if_neg (fun k:SerOk c s=>h3 k.raw)]
 rw[if_pos ((z02 _).2 h1),if_pos ((z08 _).2 h2),if_pos ((z02 _).2 h3),u1v (n+5) c h1,z1t (n+2) c h1 h3 hw];simp only[obs,tfd];by_cases h4:s.2.1 = -1
 ·rw[if_pos h4];by_cases h5:Fresh s
  ·rw[if_pos h5,if_pos (⟨h1,h2,h3,.inl ⟨h4,h5⟩⟩:SerOk c s)]
  ·rw[if_neg h5,if_pos h4,if_neg (fun k:SerOk c s=>by
    rcases k.st with q | q
    ·exact h5 q.2
    ·exact q.1 h4)]
 ·rw[if_neg h4,if_neg h4];by_cases h5:EndsP c s
  ·rw[if_pos h5,if_pos (⟨h1,h2,h3,.inr ⟨h4,h5⟩⟩:SerOk c s)]
  ·rw[if_neg h5,if_neg (fun k:SerOk c s=>by
    rcases k.st with q | q
    ·exact h4 q.1
    ·exact h5 q.2)]
theorem w0k {l:List Slo} {w:Int} (h:TierOk l w) (i:Int):b0e l i↔∀s∈tall l,s.1<i:=by
 constructor
 ·intro k s hs;have:=(tall_N h hs).n1;exact k s (p0v.1 hs).1 (by omega)
 ·intro k s hs hc;exact k s (p0v.2 ⟨hs,fun e=>by rw[e] at hc;simp[s0,z0] at hc⟩)
theorem z0j {l:List Slo} {w:Int} (h:TierOk l w):b0e l 0↔tall l=[]:=by
 rw[w0k h];constructor
 ·intro k;by_cases e:tall l=[]
  ·exact e
  ·obtain ⟨s,hs⟩:=List.exists_mem_of_ne_nil _ e;have:=(l0b h hs).1.i0;have:=k s hs;omega
 ·intro e s hs;rw[e] at hs;cases hs
theorem nn {α:Type} {a b:α} (h:a=b):¬(a≠b):=fun k=>k h
def ser0:Ser:=([],(0,(r0w,(([],([],[])),s0))))
def p1x (s:Ser) (i:Int):Prop:=s.2.2.2.2≠s0∧s.2.2.2.2.1≠i
noncomputable instance (s i):Decidable (p1x s i):=Classical.propDecidable _
noncomputable def turned (c:Conf) (s:Ser) (i:Int):(Trs×Slo)×Int :=
 if p1x s i then (if (w0p c s.2.2.2.1 s.2.2.2.2 i).2=0 then (((w0p c s.2.2.2.1 s.2.2.2.2 i).1,s0),0) else ((s.2.2.2.1,s.2.2.2.2),(w0p c s.2.2.2.1 s.2.2.2.2 i).2)) else ((s.2.2.2.1,s.2.2.2.2),0)
noncomputable def putE (c:Conf) (s:Ser) (e:Ev):Ser×Int :=
 if SerOk c s∧EvOk e then
  (if e.1≤s.2.1 then (ser0,9)
   else if (turned c s (e.1 / c.2.1.1)).2≠0 then (ser0,(turned c s (e.1 / c.2.1.1)).2)
   else if (k0h s.2.2.1 c.1 e).2≠0 then (ser0,(k0h s.2.2.1 c.1 e).2)
   else if (mrgE (turned c s (e.1 / c.2.1.1)).1.2.2 (d0j e)).2≠0 then (ser0,(mrgE (turned c s (e.1 / c.2.1.1)).1.2.2 (d0j e)).2)
   else ((s.1,(e.1,((k0h s.2.2.1 c.1 e).1,((turned c s (e.1 / c.2.1.1)).1.1,(e.1 / c.2.1.1,(mrgE (turned c s (e.1 / c.2.1.1)).1.2.2 (d0j e)).1))))),0))
 else (ser0,2)
theorem k1j {c:Conf} {s:Ser} (h:SerOk c s):s.2.2.2.2.2.1=0↔s.2.2.2.2=s0:=by
 constructor
 ·intro k;rcases h.st with q | q
  ·exact q.2.opn
  ·have:=q.2.fit.n.n1;omega
 ·intro k;rw[k];rfl
theorem turned_w {c:Conf} {s:Ser} (hw:SerW s) (i:Int):SloW (turned c s i).1.2:=by
 unfold turned;split
 ·split
  ·exact y0p
  ·exact hw.opn
 ·exact hw.opn
theorem z1s (n:Nat) (c:Conf) {s:Ser} (h:SerOk c s) (hw:SerW s) (i:Int):f1b (n+22) (c,s) i=some ((turned c s i).2,(c,(s.1,(s.2.1,(s.2.2.1,(turned c s i).1))))):=by
 rw[n1g];simp only[tfd,v1c n c hw.trs hw.opn i,obs];unfold turned;by_cases h1:s.2.2.2.2.1=i
 ·rw[if_pos h1,if_neg (fun k:p1x s i=>k.2 h1)]
 rw[if_neg h1];by_cases h2:s.2.2.2.2.2.1=0
 ·rw[if_pos h2,if_neg (fun k:p1x s i=>k.1 ((k1j h).1 h2))]
 have ht:p1x s i:=⟨fun k=>h2 ((k1j h).2 k),h1⟩;rw[if_neg h2,if_pos ht];by_cases h3:(w0p c s.2.2.2.1 s.2.2.2.2 i).2=0
 ·rw[if_pos h3,if_pos h3,h3];rfl
 ·rw[if_neg h3,if_neg h3]
theorem c1p (n:Nat) (c:Conf) {s:Ser} (hw:SerW s) {e:Ev} (he:EvW e):p0o (n+23) c s e=some (putE c s e):=by
 rw[f1f,o0g (n+12) c hw,e0q _ he];unfold putE;by_cases h1:SerOk c s
 case neg=>rw[if_neg h1,if_neg (fun k:SerOk c s∧EvOk e=>h1 k.1)];rfl
 rw[if_pos h1];have hg:=h1.fold.cok.rng;simp only[obs,p0t,decide_true,Bool.not_true,tff,tfn,tfd];by_cases h2:EvOk e
 case neg=>rw[if_neg (mt (z02 _).1 h2),if_neg (fun k:SerOk c s∧EvOk e=>h2 k.2)];rfl
 rw[if_pos ((z02 _).2 h2),if_pos (And.intro h1 h2)];by_cases h3:e.1≤s.2.1
 ·rw[if_pos h3,if_pos h3];rfl
 rw[if_neg h3,if_neg h3,if_neg (show ¬(c.2.1.1=0) by have:=hg.w0;omega),q1s h2 hg.w0.1,z1s n c h1 hw];generalize ht:turned c s (e.1 / c.2.1.1)=t;have htw:=turned_w (c:=c) hw (e.1 / c.2.1.1);rw[ht] at htw;simp only[obs];by_cases h4:t.2=0
 case neg=>rw[if_neg h4,if_pos h4];rfl
 rw[if_pos h4,if_neg (nn h4),s1x,raw_put (n+15) c.1 hw.raw he,cell_add (n+14) htw.c he,if_pos h2];simp only[obs,tfn,tfd];by_cases h5:(k0h s.2.2.1 c.1 e).2=0
 case neg =>
  rw[if_neg h5,if_pos h5];simp only[obs];rw[if_neg h5];rfl
 rw[if_pos h5,if_neg (nn h5)];simp only[obs];by_cases h6:(mrgE t.1.2.2 (d0j e)).2=0
 ·rw[if_pos h6,if_neg (nn h6)];simp only[if_true]
 ·rw[if_neg h6,if_pos h6];rfl
end Go.Proofs.YtkajechaanmplaaGreatDoor

namespace Go.Plim
set_option linter.unusedVariables false
def below (w:Int) (l:List Ev) (t:Int):List Ev:=l.filter fun e=>decide (e.1 / w<t / w)
structure EndsAt (l:List Ev) (t:Int):Prop where
 foll:Foll l
 le:∀e∈l,e.1≤t
 last:∃e∈l,e.1=t
theorem EndsAt.wle {l:List Ev} {t:Int} (h:EndsAt l t) {w:Int} (hw:1≤w):∀e∈l,e.1 / w≤t / w:=fun e he=>Int.ediv_le_ediv (by omega) (h.le e he)
theorem v1p {l:List Ev} {t:Int} (h:EndsAt l t) {w:Int} (hw:1≤w):l=below w l t++win w l (t / w):=by
 have key:∀(m:List Ev),(∀e∈m,e.1 / w≤t / w)→m.Pairwise (fun a b=>a.1 / w≤b.1 / w)→m=below w m t++win w m (t / w):=by
  intro m;induction m with
  | nil=>intro _ _;rfl
  | cons x m ih =>
   intro h1 h2;rw[List.pairwise_cons] at h2;have ih':=ih (fun e he=>h1 e (by simp[he])) h2.2;have hx:=h1 x (by simp);unfold below win at *
   by_cases c:x.1 / w<t / w
   ·rw[List.filter_cons_of_pos (by simpa using c),List.filter_cons_of_neg (by simp;omega),List.cons_append,←ih']
   ·have e0:m.filter (fun e=>decide (e.1 / w<t / w))=[]:=by
     rw[List.filter_eq_nil_iff];intro y hy;have:=h2.1 y hy;simp;omega
    rw[List.filter_cons_of_neg (by simpa using c),List.filter_cons_of_pos (by simp;omega),e0,List.nil_append];rw[e0,List.nil_append] at ih';rw[←ih']
 exact key l (h.wle hw) (foll_wd hw h.foll)
theorem w1t (t:List Slo) (i:Int) (a b:Cel):tput (tput t i a) i b=tput t i b:=by
 unfold tput;rw[List.length_set,List.set_set]
theorem e1s {t:List Slo} {w a:Int} {l:List Ev} (h:TierInv t w l):∀(n:Nat) (B:List Ev),B.length=n+1→Foll (l++B)→(∀e∈B,e.1 / w=a) →
  FitsP (cellOf (win w (l++B) a)) w a∧TierInv (tput t a (cellOf (win w (l++B) a))) w (l++B):=by
 intro n;induction n with
 | zero =>
  intro B hB hf ha
  match B,hB with
  | [e],_ =>
   have he:=ha e (by simp);have:=y0h h hf;rw[he] at this;rw[win_snoc,if_pos he];exact this
 | succ n ih =>
  intro B hB hf ha;rcases List.eq_nil_or_concat B with rfl | ⟨B',e,rfl⟩
  ·cases hB
  rw[List.concat_eq_append] at *
  have he:=ha e (by simp);have hf':Foll (l++B'++[e]):=by rw[List.append_assoc];exact hf
  obtain ⟨h1,h2⟩:=ih B' (by simp at hB;exact hB) (d0a.1 hf').1 (fun x hx=>ha x (by simp[hx]));have:=y0h h2 hf';rw[he,w1t,List.append_assoc] at this;rw[←List.append_assoc,win_snoc,if_pos he];rw[List.append_assoc];exact this
theorem e1r {s:List Slo} {w:Int} {l:List Ev} {t:Int} (he:EndsAt l t) (h:TierInv s w (below w l t)):FitsP (cellOf (win w l (t / w))) w (t / w)∧TierInv (tput s (t / w) (cellOf (win w l (t / w)))) w l:=by
 have hw:=h.ok.w0;have hs:=v1p he hw;obtain ⟨e,hel,het⟩:=he.last;have hne:win w l (t / w)≠[]:=fun k=>by
  have:e∈win w l (t / w):=v0d.2 ⟨hel,by rw[het]⟩;rw[k] at this;cases this
 have hlen:(win w l (t / w)).length=((win w l (t / w)).length-1)+1:=by have:=List.length_pos_iff.2 hne;omega
 have:=e1s h _ (win w l (t / w)) hlen (by rw[←hs];exact he.foll) (fun x hx=>(v0d.1 hx).2);rw[←hs] at this;exact this
theorem edvm {t a b:Int} (ha:1≤a) (hb:1≤b) (hm:b % a=0):t / a*a / b=t / b∧t / a / (b / a)=t / b:=by
 have e:a*(b / a)=b:=by have:=Int.mul_ediv_add_emod b a;omega
 have h1:t / a / (b / a)=t / b:=by rw[Int.ediv_ediv_of_nonneg (by omega),e]
 refine ⟨?_,h1⟩;rw[←h1]
 conv=>lhs;rw[←e,Int.mul_comm (t / a) a]
 exact Int.mul_ediv_mul_of_pos _ _ (by omega)
end Go.Plim
namespace Go.Proofs.YtkajechaanmplaaGreatDoor
open Go.Flat Go.Plim
structure FInv (c:Conf) (s:Trs) (l:List Ev) (t:Int):Prop where
 ok:FoldOk c s
 i0:TierInv s.1 c.2.1.1 (below c.2.1.1 l t)
 i1:TierInv s.2.1 c.2.1.2.1 (below c.2.1.2.1 l t)
 i2:TierInv s.2.2 c.2.1.2.2 (below c.2.1.2.2 l t)
theorem OkC.m02 {c:Conf} (h:OkC c):c.2.1.2.2 % c.2.1.1=0:=by
 have h1:=Int.dvd_of_emod_eq_zero h.m1;have h2:=Int.dvd_of_emod_eq_zero h.m2;exact Int.emod_eq_zero_of_dvd (Int.dvd_trans h1 h2)
end Go.Proofs.YtkajechaanmplaaGreatDoor
namespace Go.Proofs.YtkajechaanmplaaGreatDoor
open Go.Flat Go.Plim
set_option linter.unusedVariables false
set_option linter.unusedSimpArgs false
noncomputable def now1 (c:Conf) (s:Ser):Cel×Int:=mrgE (j1b s.2.2.2.1.1 (s.2.1 / c.2.1.2.1*(c.2.1.2.1 / c.2.1.1)) (s.2.1 / c.2.1.1)).1 s.2.2.2.2.2
noncomputable def now2 (c:Conf) (s:Ser):Cel×Int :=
 if (now1 c s).2≠0 then (z0,(now1 c s).2) else mrgE (j1b s.2.2.2.1.2.1 (s.2.1 / c.2.1.2.2*(c.2.1.2.2 / c.2.1.2.1)) (s.2.1 / c.2.1.2.1)).1 (now1 c s).1
theorem t1h {c:Conf} {s:Ser} (h:SerOk c s) (hn:¬(s.2.1 = -1)):EndsP c s∧∃e,EvOk e∧e.1=s.2.1:=by
 rcases h.st with q | q
 ·exact absurd q.1 hn
 ·obtain ⟨e,he,h1⟩:=q.2.last;exact ⟨q.2,e,z1o h.raw he,h1⟩
structure At (c:Conf) (s:Ser):Prop where
 l0:0≤s.2.1
 l1:s.2.1<35184372088832
theorem serOk_at {c:Conf} {s:Ser} (h:SerOk c s) (hn:¬(s.2.1 = -1)):0≤s.2.1∧s.2.1<35184372088832:=by
 obtain ⟨_,e,he,h1⟩:=t1h h hn;rw[←h1];exact ⟨he.t0,he.t1⟩
structure SerL (s:Ser):Prop where
 l:s.1.length≤1000000
 r:s.2.2.1.2.2.length≤1000000
 a:s.2.2.2.1.1.length≤1000000
 b:s.2.2.2.1.2.1.length≤1000000
 d:s.2.2.2.1.2.2.length≤1000000
theorem j1i (n:Nat) (c:Conf) {s:Ser} (hw:SerW s):o0h (n+11) c s=some (if SerOk c s then 0 else 2):=by
 rw[y0w,o0g n c hw];by_cases h:SerOk c s
 ·rw[if_pos h,if_pos h];rfl
 ·rw[if_neg h,if_neg h];rfl
theorem x1p (n:Nat) (l:List Lab) (hL:l.length≤9223372036854775807):∀(rest pre:List Lab) (f:Nat) (ix len:Int),l=pre++rest→ix=pre.length→len=l.length→rest.length<f →
  h0y n f (l,len,ix,())=some (.inl ())∨h0y n f (l,len,ix,())=some (.inr 0):=by
 intro rest;induction rest with
 | nil =>
  intro pre f ix len hl hi hn hf;obtain ⟨f,rfl⟩:∃g,f=g+1:=⟨f-1,by simp at hf;omega⟩;left;rw[o0t];simp only[tfd,if_neg (idxe hl hi hn)]
 | cons x rest ih =>
  intro pre f ix len hl hi hn hf;obtain ⟨f,rfl⟩:∃g,f=g+1:=⟨f-1,by simp at hf;omega⟩;have hlen:=congrArg List.length hl;simp at hlen;rw[o0t];simp only[tfd,if_pos (idx hl hi hn),b0z hl hi,obs];rw[w64 (x:=ix+1) (by omega) (by omega)];by_cases h1:ix=40
  ·right;rw[if_pos h1]
  rw[if_neg h1];by_cases h2:(1000:Int)<x.1.length
  ·right;rw[if_pos h2]
  rw[if_neg h2];by_cases h3:(1000:Int)<x.2.length
  ·right;rw[if_pos h3]
  rw[if_neg h3];exact ih (pre++[x]) f (ix+1) len (idxl hl) (idxs hi) hn (by simp at hf;omega)
theorem z1q (n:Nat) (l:List Lab) (hL:l.length≤9223372036854775807):t0q (n+1) l=some 0∨t0q (n+1) l=some 1:=by
 rw[k1u];rcases x1p n l hL l [] a0b 0 _ rfl rfl rfl (by unfold a0b;omega) with h | h
 ·right;rw[h];rfl
 ·left;rw[h];rfl
theorem r0p (n:Nat) (a b:List Lab) (hL:a.length≤9223372036854775807):∀(ra rb pa pb:List Lab) (f:Nat) (ix len:Int),a=pa++ra→b=pb++rb→pa.length=pb.length→ra.length=rb.length→ix=pa.length→len=a.length→ra.length<f →
  e0z n f (a,b,len,ix,())=some (if ra=rb then .inl () else .inr false):=by
 intro ra;induction ra with
 | nil =>
  intro rb pa pb f ix len ha hb hp hr hi hn hf;obtain ⟨f,rfl⟩:∃g,f=g+1:=⟨f-1,by simp at hf;omega⟩;have e:rb=[]:=List.length_eq_zero_iff.1 (by simpa using hr.symm);subst e;rw[i0l,decide_eq_false (idxe ha hi hn),tff,if_pos rfl]
 | cons x ra ih =>
  intro rb pa pb f ix len ha hb hp hr hi hn hf;obtain ⟨f,rfl⟩:∃g,f=g+1:=⟨f-1,by simp at hf;omega⟩;cases rb with
  | nil=>simp at hr
  | cons y rb =>
   have hlen:=congrArg List.length ha;simp at hlen;rw[i0l,decide_eq_true (idx ha hi hn),tft,b0z ha hi,b0z hb (by omega)];simp only[obs,labEq];rw[w64 (x:=ix+1) (by omega) (by omega)];by_cases h:x=y
   ·subst h;simp only[decide_true,Bool.not_true,tff];rw[ih rb (pa++[x]) (pb++[x]) f (ix+1) len (idxl ha) (idxl hb) (by simp;omega) (by simpa using hr) (idxs hi) hn (by simp at hf;omega)];simp
   ·rw[if_neg (by simp[h])];simp only[decide_eq_false h,Bool.not_false,tft]
theorem l0r (n:Nat) (a b:List Lab) (hL:a.length≤9223372036854775807):k0r (n+1) a b=some (decide (a=b)):=by
 rw[u0r];by_cases h:a.length=b.length
 ·rw[decide_eq_true (show ((a.length:Nat):Int)=(b.length:Nat) by omega)];simp only[Bool.not_true,tff];rw[r0p n a b hL a b [] [] a0b 0 _ rfl rfl rfl h rfl rfl (by unfold a0b;omega)];by_cases h':a=b
  ·rw[if_pos h',decide_eq_true h'];rfl
  ·rw[if_neg h',decide_eq_false h'];rfl
 ·rw[decide_eq_false (show ¬((a.length:Nat):Int)=(b.length:Nat) by omega),decide_eq_false (fun k:a=b=>h (by rw[k]))];rfl
theorem r0q (n:Nat) (a b:List Ev) (hL:a.length≤9223372036854775807):∀(ra rb pa pb:List Ev) (f:Nat) (ix len:Int),a=pa++ra→b=pb++rb→pa.length=pb.length→ra.length=rb.length→ix=pa.length→len=a.length→ra.length<f →
  f0b n f (a,b,len,ix,())=some (if ra=rb then .inl () else .inr false):=by
 intro ra;induction ra with
 | nil =>
  intro rb pa pb f ix len ha hb hp hr hi hn hf;obtain ⟨f,rfl⟩:∃g,f=g+1:=⟨f-1,by simp at hf;omega⟩;have e:rb=[]:=List.length_eq_zero_iff.1 (by simpa using hr.symm);subst e;rw[i0m,decide_eq_false (idxe ha hi hn),tff,if_pos rfl]
 | cons x ra ih =>
  intro rb pa pb f ix len ha hb hp hr hi hn hf;obtain ⟨f,rfl⟩:∃g,f=g+1:=⟨f-1,by simp at hf;omega⟩;cases rb with
  | nil=>simp at hr
  | cons y rb =>
   have hlen:=congrArg List.length ha;simp at hlen;rw[i0m,decide_eq_true (idx ha hi hn),tft,b0z ha hi,b0z hb (by omega)];simp only[obs,evEq];rw[w64 (x:=ix+1) (by omega) (by omega)];by_cases h:x=y
   ·subst h;simp only[decide_true,Bool.not_true,tff];rw[ih rb (pa++[x]) (pb++[x]) f (ix+1) len (idxl ha) (idxl hb) (by simp;omega) (by simpa using hr) (idxs hi) hn (by simp at hf;omega)];simp
   ·rw[if_neg (by simp[h])];simp only[decide_eq_false h,Bool.not_false,tft]
theorem v0m (n:Nat) (a b:List Ev) (hL:a.length≤9223372036854775807):k0s (n+1) a b=some (decide (a=b)):=by
 rw[u0s];by_cases h:a.length=b.length
 ·rw[decide_eq_true (show ((a.length:Nat):Int)=(b.length:Nat) by omega)];simp only[Bool.not_true,tff];rw[r0q n a b hL a b [] [] a0b 0 _ rfl rfl rfl h rfl rfl (by unfold a0b;omega)];by_cases h':a=b
  ·rw[if_pos h',decide_eq_true h'];rfl
  ·rw[if_neg h',decide_eq_false h'];rfl
 ·rw[decide_eq_false (show ¬((a.length:Nat):Int)=(b.length:Nat) by omega),decide_eq_false (fun k:a=b=>h (by rw[k]))];rfl
theorem t0w (n:Nat) (a b:List Slo) (hL:a.length≤9223372036854775807):∀(ra rb pa pb:List Slo) (f:Nat) (ix len:Int),a=pa++ra→b=pb++rb→pa.length=pb.length→ra.length=rb.length→ix=pa.length→len=a.length→ra.length<f →
  f0m n f (a,b,len,ix,())=some (if ra=rb then .inl () else .inr false):=by
 intro ra;induction ra with
 | nil =>
  intro rb pa pb f ix len ha hb hp hr hi hn hf;obtain ⟨f,rfl⟩:∃g,f=g+1:=⟨f-1,by simp at hf;omega⟩;have e:rb=[]:=List.length_eq_zero_iff.1 (by simpa using hr.symm);subst e;rw[j0q,decide_eq_false (idxe ha hi hn),tff,if_pos rfl]
 | cons x ra ih =>
  intro rb pa pb f ix len ha hb hp hr hi hn hf;obtain ⟨f,rfl⟩:∃g,f=g+1:=⟨f-1,by simp at hf;omega⟩;cases rb with
  | nil=>simp at hr
  | cons y rb =>
   have hlen:=congrArg List.length ha;simp at hlen;rw[j0q,decide_eq_true (idx ha hi hn),tft,b0z ha hi,b0z hb (by omega)];simp only[obs,sloEq];rw[w64 (x:=ix+1) (by omega) (by omega)];by_cases h:x=y
   ·subst h;simp only[decide_true,Bool.not_true,tff];rw[ih rb (pa++[x]) (pb++[x]) f (ix+1) len (idxl ha) (idxl hb) (by simp;omega) (by simpa using hr) (idxs hi) hn (by simp at hf;omega)];simp
   ·rw[if_neg (by simp[h])];simp only[decide_eq_false h,Bool.not_false,tft]
theorem i0b (n:Nat) (a b:List Slo) (hL:a.length≤9223372036854775807):g0b (n+1) a b=some (decide (a=b)):=by
 rw[w0x];by_cases h:a.length=b.length
 ·rw[decide_eq_true (show ((a.length:Nat):Int)=(b.length:Nat) by omega)];simp only[Bool.not_true,tff];rw[t0w n a b hL a b [] [] a0b 0 _ rfl rfl rfl h rfl rfl (by unfold a0b;omega)];by_cases h':a=b
  ·rw[if_pos h',decide_eq_true h'];rfl
  ·rw[if_neg h',decide_eq_false h'];rfl
 ·rw[decide_eq_false (show ¬((a.length:Nat):Int)=(b.length:Nat) by omega),decide_eq_false (fun k:a=b=>h (by rw[k]))];rfl
noncomputable instance decSer (a b:Ser):Decidable (a=b):=Classical.propDecidable _
structure SerM (s:Ser):Prop where
 l:s.1.length≤9223372036854775807
 r:s.2.2.1.2.2.length≤9223372036854775807
 a:s.2.2.2.1.1.length≤9223372036854775807
 b:s.2.2.2.1.2.1.length≤9223372036854775807
 d:s.2.2.2.1.2.2.length≤9223372036854775807
theorem y0u (n:Nat) (a b:Ser) (h:SerM a):g0v (n+3) a b=some (decide (a=b)):=by
 rw[a1x,t0p,n1x,l0r n _ _ h.l,v0m n _ _ h.r,i0b (n+1) _ _ h.a,i0b (n+1) _ _ h.b,i0b (n+1) _ _ h.d];obtain ⟨a1,a2,⟨r1,r2,r3⟩,⟨t1,t2,t3⟩,a5⟩:=a;obtain ⟨b1,b2,⟨q1,q2,q3⟩,⟨u1,u2,u3⟩,b5⟩:=b;simp only[obs,sloEq,tfd];by_cases h1:a1=b1
 case neg=>simp[h1]
 by_cases h2:a2=b2
 case neg=>simp[h1,h2]
 by_cases h3:r1=q1
 case neg=>simp[h1,h2,h3]
 by_cases h4:r2=q2
 case neg=>simp[h1,h2,h3,h4]
 by_cases h5:r3=q3
 case neg=>simp[h1,h2,h3,h4,h5]
 by_cases h6:t1=u1
 case neg=>simp[h1,h2,h3,h4,h5,h6]
 by_cases h7:t2=u2
 case neg=>simp[h1,h2,h3,h4,h5,h6,h7]
 by_cases h8:t3=u3
 case neg=>simp[h1,h2,h3,h4,h5,h6,h7,h8]
 by_cases h9:a5=b5
 case neg=>simp[h1,h2,h3,h4,h5,h6,h7,h8,h9]
 simp[h1,h2,h3,h4,h5,h6,h7,h8,h9]
def oldV (now w m:Int):Int×Int:=if OfP now w∧1≤m∧m≤4096 then (if 0<now / w+1-m then now / w+1-m else 0,0) else (0,1)
theorem w1m (n:Nat) (now w m:Int):y0d (n+4) now w m=some (oldV now w m):=by
 rw[i1s,wi_of n now w,i1q];unfold oldV;by_cases h:OfP now w
 case neg=>rw[if_neg h,if_neg (fun k=>h k.1)];rfl
 rw[if_pos h];have hq:=j1y h;simp only[obs,decide_true,Bool.not_true,tff];by_cases h1:1≤m
 case neg=>simp[h,h1]
 by_cases h2:m≤4096
 case neg=>simp[h,h1,h2]
 rw[w64 (x:=now / w+1) (by omega) (by omega),w64 (x:=now / w+1-m) (by omega) (by omega)];simp[h,h1,h2]
noncomputable def z0r (t now w m:Int):Bool:=decide (OfP t w∧(oldV now w m).2=0∧t / w<(oldV now w m).1)
theorem m1i (n:Nat) (t now w m:Int):y0e (n+5) t now w m=some (z0r t now w m):=by
 rw[s1p,wi_of (n+1) t w,w1m n now w m];unfold z0r;simp only[obs,tfd];by_cases h:OfP t w
 case neg=>rw[if_neg h,if_neg (by simp),decide_eq_false (fun k=>h k.1)]
 rw[if_pos h,if_pos rfl];by_cases h1:(oldV now w m).2=0
 ·rw[if_pos h1];exact congrArg some (decide_eq_decide.2 ⟨fun k=>⟨h,h1,k⟩,fun k=>k.2.2⟩)
 ·rw[if_neg h1,decide_eq_false (fun k=>h1 k.2.1)]
noncomputable def b1u (c:Conf) (last now:Int):Bool :=
 decide (OkC c)&&(z0r last now c.2.1.1 c.2.2.1.1&&(z0r last now c.2.1.2.1 c.2.2.1.2.1&&z0r last now c.2.1.2.2 c.2.2.1.2.2))
theorem y0v (n:Nat) (c:Conf) (last now:Int):m0r (n+6) c last now=some (b1u c last now):=by
 rw[a1y,l0v (n+2) c,m1i n,m1i n,m1i n];unfold b1u;by_cases h:OkC c
 case neg=>rw[if_neg h,decide_eq_false h];rfl
 rw[if_pos h,decide_eq_true h];simp only[obs,decide_true,tft,Bool.true_and];cases z0r last now c.2.1.1 c.2.2.1.1<;>cases z0r last now c.2.1.2.1 c.2.2.1.2.1<;>cases z0r last now c.2.1.2.2 c.2.2.1.2.2<;>rfl
noncomputable def newV (c:Conf) (l:List Lab):Ser×Int :=
 if OkC c then (if LabOk l then ((l,(-1,(r0w,(emp c,s0)))),0) else (ser0,8)) else (ser0,2)
theorem p1k (n:Nat) (l:List Lab) (h:l.length≤1000000):k0t (n+1) l=some l:=by
 rw[u0t,decide_eq_true (show (0+l.length)*32≤140737488355328 by omega)];simp only[tft,List.nil_append];by_cases h0:l.length=0
 ·rw[decide_eq_true h0,tft,List.length_eq_zero_iff.1 h0,l1w]
 ·rw[decide_eq_false h0,tff]
theorem c1q (n:Nat) (c:Conf) (l:List Lab):l0g (n+7) c l=some (newV c l):=by
 rw[f1g,l0v (n+3) c,r0n n l];unfold newV;by_cases h:OkC c
 case neg=>rw[if_neg h,if_neg h];rfl
 rw[if_pos h,if_pos h];simp only[obs,decide_true,Bool.not_true,tff];by_cases h1:LabOk l
 case neg=>rw[if_neg h1,if_neg h1];rfl
 rw[if_pos h1,if_pos h1,p1k (n+5) l (by have:=h1.n1;omega),v1b (n+2) c];rfl
abbrev Sta:=Conf×(Int×(Int×List Ser))
structure StaW (s:Sta):Prop where
 len:s.2.2.2.length≤9223372036854775807
 ser:∀x∈s.2.2.2,SerW x∧SerM x
def Whole (s:Sta):Prop:=OkC s.1∧(s.2.2.2.length:Int)=s.1.2.2.2.1
noncomputable instance (s):Decidable (Whole s):=Classical.propDecidable _
def LvX (s:Sta) (x:Ser):Prop:=x≠ser0∧(s.2.2.1 = -1∨b1u s.1 x.2.1 s.2.2.1=false)
noncomputable instance (s x):Decidable (LvX s x):=Classical.propDecidable _
def r0y (t:Int):Prop:=0≤t∧t<35184372088832
instance (t):Decidable (r0y t):=by unfold r0y;infer_instance
def Clock (s:Sta):Prop:=r0y s.2.1∧(s.2.2.1 = -1∨r0y s.2.2.1)∧s.2.2.1≤s.2.1
instance (s):Decidable (Clock s):=by unfold Clock;infer_instance
def mk (s:Sta):Int:=s.2.1 / s.1.2.1.1*s.1.2.1.1
def Twin (s:Sta) (i:Nat) (x:Ser):Prop:=LvX s x∧∃k,k<i∧∃y,s.2.2.2[k]? = some y∧LvX s y∧y.1=x.1
noncomputable instance (s i x):Decidable (Twin s i x):=Classical.propDecidable _
def p0b (s:Sta) (i:Nat) (x:Ser):Prop:=x=ser0∨(SerOk s.1 x∧0≤x.2.1∧x.2.1<mk s+s.1.2.1.1∧¬Twin s i x)
noncomputable instance (s i x):Decidable (p0b s i x):=Classical.propDecidable _
structure StaOk (s:Sta):Prop where
 whole:Whole s
 clock:Clock s
 right:∀(i:Nat) x,s.2.2.2[i]? = some x→p0b s i x
noncomputable instance (s):Decidable (StaOk s):=Classical.propDecidable _
theorem Whole.len {s:Sta} (h:Whole s):s.2.2.2.length≤65536:=by
 have:=h.1.rng.cap;have:=h.2;omega
theorem i1j {α:Type} {l:List α} {i:Nat} {x:α} (h:l[i]? = some x):at? l (i:Int)=some x:=by
 unfold at?;rw[decide_eq_true (show (0:Int)≤(i:Int) by omega),Int.toNat_natCast];exact h
theorem StaW.at {s:Sta} (h:StaW s) {i:Nat} {x:Ser} (hx:s.2.2.2[i]? = some x):SerW x∧SerM x:=h.ser x (List.mem_of_getElem? hx)
theorem ser0_m:SerM ser0:=⟨by simp[ser0],by simp[ser0,r0w],by simp[ser0],by simp[ser0],by simp[ser0]⟩
theorem q1k (n:Nat) {x:Ser} (h:SerM x):s0q (n+4) x=some (decide (x=ser0)):=by
 have:=y0u n x ser0 h;rw[j1e];have e:g0v (n+3) x ([],((0:Int),(((0:Int),((0:Int),[])),(([],([],[])),((0:Int),z0)))))=some (decide (x=ser0)):=this
 change a0a (g0v (n+3) x ([],((0:Int),(((0:Int),((0:Int),[])),(([],([],[])),((0:Int),z0)))))) _=_
 rw[e];rfl
theorem s0r (n:Nat) {s:Sta} {i:Nat} {x:Ser} (hx:s.2.2.2[i]? = some x) (hm:SerM x):d0n (n+7) s (i:Int)=some (decide (LvX s x)):=by
 rw[u0o,i1j hx,obs,q1k (n+2) hm,obs,tfn,tfd,y0v n];by_cases h:x=ser0
 ·rw[if_pos h,decide_eq_false (fun k:LvX s x=>k.1 h)]
 rw[if_neg h,tfd];by_cases h1:s.2.2.1 = -1
 ·rw[if_pos h1,decide_eq_true (show LvX s x from ⟨h,.inl h1⟩)]
 ·rw[if_neg h1];cases hd:b1u s.1 x.2.1 s.2.2.1
  ·rw[decide_eq_true (show LvX s x from ⟨h,.inr hd⟩)];rfl
  ·rw[decide_eq_false (fun k:LvX s x=>by rcases k.2 with k | k;exact h1 k;rw[hd] at k;cases k)];rfl
theorem place_l (n:Nat) (is:(Int×Unit)→Option Bool) (p:Nat→Bool) (L:Nat) (hL:L≤1000000) (his:∀k:Nat,k<L→is ((k:Int),())=some (p k)):∀(d k f:Nat),k+d=L→d<f →
  (∃m:Nat,k≤m∧m<L∧p m=true∧(∀j,k≤j→j<m→p j=false)∧b0x n f (is,(L:Int),(k:Int),())=some (.inr (m:Int))) ∨
  ((∀j,k≤j→j<L→p j=false)∧b0x n f (is,(L:Int),(k:Int),())=some (.inl ())):=by
 intro d;induction d with
 | zero =>
  intro k f hk hf;obtain ⟨f,rfl⟩:∃g,f=g+1:=⟨f-1,by omega⟩;refine .inr ⟨fun j h1 h2=>by omega,?_⟩;rw[i0j,decide_eq_false (by omega),tff]
 | succ d ih =>
  intro k f hk hf;obtain ⟨f,rfl⟩:∃g,f=g+1:=⟨f-1,by omega⟩;rw[i0j,decide_eq_true (by omega),tft,his k (by omega),obs];cases hp:p k
  ·rw[tff,w64 (by omega) (by omega),show ((k:Int)+1)=((k+1:Nat):Int) by omega];rcases ih (k+1) f (by omega) (by omega) with ⟨m,h1,h2,h3,h4,h5⟩ | ⟨h1,h2⟩
   ·exact .inl ⟨m,by omega,h2,h3,fun j q1 q2=>by
     rcases Nat.lt_or_ge k j with q | q
     ·exact h4 j (by omega) q2
     ·rw[show j=k by omega];exact hp,h5⟩
   ·exact .inr ⟨fun j q1 q2=>by
     rcases Nat.lt_or_ge k j with q | q
     ·exact h1 j (by omega) q2
     ·rw[show j=k by omega];exact hp,h2⟩
  ·rw[tft];exact .inl ⟨k,Nat.le_refl _,by omega,hp,fun j q1 q2=>by omega,rfl⟩
theorem t0v (n:Nat) (s:Sta) (is:(Int×Unit)→Option Bool) (p:Nat→Bool) (hL:s.2.2.2.length≤1000000) (his:∀k:Nat,k<s.2.2.2.length→is ((k:Int),())=some (p k)) :
  (∃m:Nat,m<s.2.2.2.length∧p m=true∧(∀j,j<m→p j=false)∧d0m (n+1) s is=some (m:Int)) ∨
  ((∀j,j<s.2.2.2.length→p j=false)∧d0m (n+1) s is=some (-1)):=by
 rw[u0n];rcases place_l n is p _ hL his s.2.2.2.length 0 a0b (by omega) (by unfold a0b;omega) with ⟨m,h1,h2,h3,h4,h5⟩ | ⟨h1,h2⟩
 ·refine .inl ⟨m,h2,h3,fun j q=>h4 j (by omega) q,?_⟩;have h5':b0x n a0b (is,(s.2.2.2.length:Int),(0:Int),())=some (.inr (m:Int)):=h5;rw[h5'];rfl
 ·refine .inr ⟨fun j q=>h1 j (by omega) q,?_⟩;have h2':b0x n a0b (is,(s.2.2.2.length:Int),(0:Int),())=some (.inl ()):=h2;rw[h2'];rfl
theorem d1j (n:Nat) (a b:List Lab) (h:a.length≤9223372036854775807):l0n (n+2) a b=some (decide (a=b)):=by
 rw[t0p,l0r n a b h];rfl
def IsTw (s:Sta) (i k:Nat) (x:Ser):Prop:=k=i∨∃y,s.2.2.2[k]? = some y∧LvX s y∧y.1=x.1
noncomputable instance (s i k x):Decidable (IsTw s i k x):=Classical.propDecidable _
theorem st_twin (n:Nat) {s:Sta} (hw:StaW s) (hL:s.2.2.2.length≤1000000) {i:Nat} {x:Ser} (hx:s.2.2.2[i]? = some x):m0k (n+9) s (i:Int)=some (decide (Twin s i x)):=by
 have hil:i<s.2.2.2.length:=(List.getElem?_eq_some_iff.1 hx).1;have hm:=(hw.at hx).2;rw[w0v];have his:∀k:Nat,k<s.2.2.2.length→(fun y0:Int×Unit=>e0o (n+8) y0.1 (i:Int) s) ((k:Int),())=some (decide (IsTw s i k x)):=by
  intro k hk;have hy:s.2.2.2[k]? = some s.2.2.2[k]:=List.getElem?_eq_getElem hk;generalize s.2.2.2[k]=y at hy;have hmy:=(hw.at hy).2;show e0o (n+8) (k:Int) (i:Int) s=_;rw[s0o,tfd,s0r n hy hmy,obs,i1j hy,obs,i1j hx,obs,d1j (n+5) _ _ hmy.l,obs,tfd];by_cases h1:k=i
  ·rw[if_pos (by rw[h1]),decide_eq_true (show IsTw s i k x from .inl h1)]
  rw[if_neg (by omega)];by_cases h2:LvX s y
  ·rw[if_pos h2];refine congrArg some (decide_eq_decide.2 ⟨fun h3 => .inr ⟨y,hy,h2,h3⟩,fun h3 => ?_⟩);rcases h3 with h3 | ⟨z,z1,z2,z3⟩
   ·exact absurd h3 h1
   ·rw[hy] at z1;cases z1;exact z3
  ·rw[if_neg h2,decide_eq_false];rintro (h3 | ⟨z,z1,z2,z3⟩)
   ·exact h1 h3
   ·rw[hy] at z1;cases z1;exact h2 z2
 rcases t0v (n+7) s (fun y0:Int×Unit=>e0o (n+8) y0.1 (i:Int) s) (fun k=>decide (IsTw s i k x)) hL his with ⟨m,h1,h2,h3,h4⟩ | ⟨h1,h2⟩
 ·rw[h4,obs,tfd,s0r (n+1) hx hm];have h2:=of_decide_eq_true h2;have hmi:m≤i:=by
   rcases Nat.lt_or_ge i m with q | q
   ·have:=of_decide_eq_false (h3 i q);exact absurd (.inl rfl) this
   ·exact q
  by_cases q:m<i
  ·rw[if_pos (by omega),obs];refine congrArg some (decide_eq_decide.2 ⟨fun k=>⟨k,m,q,?_⟩,fun k=>k.1⟩);exact h2.resolve_left (by omega)
  ·rw[if_neg (by omega),decide_eq_false];rintro ⟨k1,k,k2,k3⟩;exact of_decide_eq_false (h3 k (by omega)) (.inr k3)
 ·exact absurd (.inl rfl) (of_decide_eq_false (h1 i hil))
theorem x0q {s:Sta} (h:r0y s.2.1) (hw:1≤s.1.2.1.1∧s.1.2.1.1≤1099511627776):0≤mk s∧mk s≤s.2.1∧s.2.1<mk s+s.1.2.1.1∧s.2.1-s.2.1 % s.1.2.1.1=mk s:=by
 have e:=Int.mul_ediv_add_emod s.2.1 s.1.2.1.1;have e1:=Int.emod_nonneg s.2.1 (show s.1.2.1.1≠0 by omega);have e2:=Int.emod_lt_of_pos s.2.1 (show 0<s.1.2.1.1 by omega);rw[Int.mul_comm] at e;have e3:0≤mk s:=Int.mul_nonneg (Int.ediv_nonneg h.1 (by omega)) (by omega);unfold mk at *
 exact ⟨e3,by omega,by omega,by omega⟩
theorem x1n (n:Nat) {s:Sta} (h:r0y s.2.1) (hw:1≤s.1.2.1.1∧s.1.2.1.1≤1099511627776):i0r (n+1) s=some (mk s):=by
 have:=x0q h hw;have:=h.1;have:=h.2;rw[w0w,tfd,if_neg (by omega),n0y h.1,w64 (by omega) (by omega),(x0q h hw).2.2.2]
theorem st_right (n:Nat) {s:Sta} (hw:StaW s) (hh:Whole s) (ht:r0y s.2.1) {i:Nat} {x:Ser} (hx:s.2.2.2[i]? = some x):k0o (n+12) s (i:Int)=some (decide (p0b s i x)):=by
 have hm:=hw.at hx;have hr:=hh.1.rng;have hL:=hh.len;have hmk:=x0q ht hr.w0;have ht1:=ht.1;have ht2:=ht.2;have hw0:=hr.w0;obtain ⟨m1,m2,m3,m4⟩:=hmk;rw[u0m,i1j hx,obs,q1k (n+7) hm.2,obs,tfd,j1i n s.1 hm.1,obs,x1n (n+10) ht hr.w0,obs,w64 (by omega) (by omega),st_twin (n+2) hw (by omega) hx,obs];simp only[tfd];by_cases h0:x=ser0
 ·rw[if_pos h0,decide_eq_true (show p0b s i x from .inl h0)]
 rw[if_neg h0];by_cases h1:SerOk s.1 x
 case neg=>rw[if_neg h1,if_neg (by decide),decide_eq_false (fun q:p0b s i x=>by rcases q with k | k;exact h0 k;exact h1 k.1)]
 rw[if_pos h1,if_pos rfl];by_cases h2:0≤x.2.1
 case neg=>rw[if_neg h2,decide_eq_false (fun q:p0b s i x=>by rcases q with k | k;exact h0 k;exact h2 k.2.1)]
 rw[if_pos h2];by_cases h3:x.2.1<mk s+s.1.2.1.1
 case neg=>rw[if_neg h3,decide_eq_false (fun q:p0b s i x=>by rcases q with k | k;exact h0 k;exact h3 k.2.2.1)]
 rw[if_pos h3];by_cases h4:Twin s i x
 ·rw[decide_eq_true h4,decide_eq_false (fun q:p0b s i x=>by rcases q with k | k;exact h0 k;exact k.2.2.2 h4)];rfl
 ·rw[decide_eq_false h4,decide_eq_true (show p0b s i x from .inr ⟨h1,h2,h3,h4⟩)];rfl
def sta0:Sta:=(((0:Int),(((0:Int),((0:Int),(0:Int))),(((0:Int),((0:Int),(0:Int))),((0:Int),(0:Int))))),((0:Int),((0:Int),[])))
theorem y0m (n:Nat) (s:Sta):m0l (n+4) s=some (if Whole s then (s,0) else (sta0,2)):=by
 rw[m1w,l0v n s.1,obs,tfn,tfd,tfn,tfd];by_cases h:OkC s.1
 case neg=>rw[if_neg h,if_neg (show ¬((2:Int)=0) by decide),if_neg (fun k:Whole s=>h k.1)];rfl
 rw[if_pos h,if_pos rfl];by_cases h1:(s.2.2.2.length:Int)=s.1.2.2.2.1
 ·rw[if_pos h1,if_pos (show Whole s from ⟨h,h1⟩)]
 ·rw[if_neg h1,if_neg (fun k:Whole s=>h1 k.2)];rfl
theorem n1e (n:Nat) (t:Int):s0p (n+1) t=some (decide (r0y t)):=by
 rw[m1v,tfd];by_cases h:0≤t
 ·rw[if_pos h];exact congrArg some (decide_eq_decide.2 ⟨fun k=>⟨h,k⟩,fun k=>k.2⟩)
 ·rw[if_neg h,decide_eq_false (fun k:r0y t=>h k.1)]
theorem st_clock (n:Nat) (s:Sta):k0p (n+2) s=some (decide (Clock s)):=by
 rw[u0p,n1e n,n1e n,obs,obs];simp only[tfd];by_cases h:r0y s.2.1
 case neg=>rw[if_neg h,decide_eq_false (fun k:Clock s=>h k.1)]
 rw[if_pos h];by_cases h1:s.2.2.1 = -1
 ·rw[if_pos h1];exact congrArg some (decide_eq_decide.2 ⟨fun k=>⟨h,.inl h1,k⟩,fun k=>k.2.2⟩)
 rw[if_neg h1];by_cases h2:r0y s.2.2.1
 ·rw[if_pos h2];exact congrArg some (decide_eq_decide.2 ⟨fun k=>⟨h,.inr h2,k⟩,fun k=>k.2.2⟩)
 ·rw[if_neg h2,decide_eq_false (fun k:Clock s=>by rcases k.2.1 with q | q;exact h1 q;exact h2 q)]
def Wrong (s:Sta) (k:Nat):Prop:=∃x,s.2.2.2[k]? = some x∧¬p0b s k x
noncomputable instance (s k):Decidable (Wrong s k):=Classical.propDecidable _
theorem o0d (n:Nat) {s:Sta} (hw:StaW s):j0o (n+14) s=some (if StaOk s then 0 else 2):=by
 rw[j1f,y0m (n+9) s,obs,tfn,tfd];by_cases h:Whole s
 case neg=>rw[if_neg h,if_neg (show ¬((sta0,(2:Int)).2=0) by decide),if_neg (fun k:StaOk s=>h k.whole)]
 rw[if_pos h,if_pos rfl,st_clock (n+11) s,obs,tfn,tfd];by_cases h1:Clock s
 case neg=>rw[if_neg h1,if_neg (fun k:StaOk s=>h1 k.clock)]
 rw[if_pos h1];have hL:=h.len;have his:∀k:Nat,k<s.2.2.2.length→(fun y2:Int×Unit=>e0b (n+13) y2.1 s) ((k:Int),())=some (decide (Wrong s k)):=by
  intro k hk;have hy:s.2.2.2[k]? = some s.2.2.2[k]:=List.getElem?_eq_getElem hk;generalize s.2.2.2[k]=y at hy;show e0b (n+13) (k:Int) s=_;rw[a1v,st_right n hw h h1.1 hy,obs];by_cases q:p0b s k y
  ·rw[decide_eq_true q,decide_eq_false (fun z:Wrong s k=>by obtain ⟨x,x1,x2⟩:=z;rw[hy] at x1;cases x1;exact x2 q)];rfl
  ·rw[decide_eq_false q,decide_eq_true (show Wrong s k from ⟨y,hy,q⟩)];rfl
 rcases t0v (n+12) s (fun y2:Int×Unit=>e0b (n+13) y2.1 s) (fun k=>decide (Wrong s k)) (by omega) his with ⟨m,q1,q2,q3,q4⟩ | ⟨q1,q2⟩
 ·rw[show (fun y2:Int×Unit=>e0b (n+13) y2.1 (s,(0:Int)).1)=fun y2:Int×Unit=>e0b (n+13) y2.1 s from rfl];obtain ⟨x,x1,x2⟩:=of_decide_eq_true q2;rw[q4,obs,tfd,if_pos (by omega),if_neg (fun k:StaOk s=>x2 (k.right m x x1))]
 ·rw[show (fun y2:Int×Unit=>e0b (n+13) y2.1 (s,(0:Int)).1)=fun y2:Int×Unit=>e0b (n+13) y2.1 s from rfl];rw[q2,obs,tfd,if_neg (by decide),if_pos];refine ⟨h,h1,fun i x hx => ?_⟩;have:=of_decide_eq_false (q1 i (List.getElem?_eq_some_iff.1 hx).1);exact Decidable.byContradiction fun k=>this ⟨x,hx,k⟩
end Go.Proofs.YtkajechaanmplaaGreatDoor
namespace Go.Proofs.YtkajechaanmplaaGreatDoor
open Go.Flat Go.Plim
set_option linter.unusedVariables false
def i1l (c:Conf) (s:Trs) (o:Slo) (l:List Ev):Prop :=
 (l=[]∧o=s0∧∀t,FInv c s [] t)∨∃t,EndsAt l t∧FInv c s l t∧o=(t / c.2.1.1,cellOf (win c.2.1.1 l (t / c.2.1.1)))
theorem emp_inv {c:Conf} (h:OkC c):i1l c (emp c) s0 []:=by
 have hr:=h.rng;have n0:=hr.n0;have n1:=hr.n1;have n2:=hr.n2;refine .inl ⟨rfl,rfl,fun t => ?_⟩;have e:emp c=(List.replicate c.2.2.1.1.toNat s0,(List.replicate c.2.2.1.2.1.toNat s0,List.replicate c.2.2.1.2.2.toNat s0)):=if_pos h;have i0:TierInv (List.replicate c.2.2.1.1.toNat s0) c.2.1.1 []:=r0g (by omega) (by omega) hr.w0.1 hr.w0.2;have i1:TierInv (List.replicate c.2.2.1.2.1.toNat s0) c.2.1.2.1 []:=r0g (by omega) (by omega) hr.w1.1 hr.w1.2;have i2:TierInv (List.replicate c.2.2.1.2.2.toNat s0) c.2.1.2.2 []:=r0g (by omega) (by omega) hr.w2.1 hr.w2.2;rw[e]
 exact ⟨⟨h,by simp;omega,by simp;omega,by simp;omega,i0.ok,i1.ok,i2.ok⟩,i0,i1,i2⟩
theorem i1l.fold {c:Conf} {s:Trs} {o:Slo} {l:List Ev} (h:i1l c s o l):FoldOk c s:=by
 rcases h with ⟨_,_,h⟩ | ⟨t,_,h,_⟩
 ·exact (h 0).ok
 ·exact h.ok
theorem a2t {e:Ev} (h:EvOk e) {w:Int} (hw:1≤w):g0n w (e.1 / w):=d1r hw ⟨h.t0,by have:=h.t1;omega⟩
def Turn (o:Slo) (i:Int):Prop:=0<o.2.1∧o.1≠i
end Go.Proofs.YtkajechaanmplaaGreatDoor
namespace Go.Proofs.YtkajechaanmplaaGreatDoor
open Go.Flat Go.Plim
set_option linter.unusedVariables false
set_option linter.unusedSimpArgs false
def x0b (room:Int) (l:List Ev):Rw :=
 (if (l.length:Int)≤room then 0 else (l.length:Int)-room,(if (l.length:Int)≤room then 0 else ((l[l.length-room.toNat-1]?).getD e0).1,l.drop (l.length-room.toNat)))
theorem y1f {room:Int} (h:1≤room) (l:List Ev):((x0b room l).2.2.length:Int)=if (l.length:Int)≤room then (l.length:Int) else room:=by
 simp only[x0b,List.length_drop];split<;>omega
theorem t1v {room:Int} (h:1≤room) (l:List Ev):(x0b room l).2.2.getLast? = l.getLast? := by
 simp only[x0b,List.getLast?_drop];by_cases h0:l=[]
 ·subst h0;simp
 ·have:0<l.length:=List.length_pos_iff.2 h0;rw[if_neg (by omega)]
theorem rawOf_ok {room:Int} (h:1≤room∧room≤4096) {l:List Ev} (hl:Foll l) (hL:l.length≤1000000):RawOk (x0b room l) room:=by
 have hlen:=y1f h.1 l;refine ⟨h.1,h.2,by rw[hlen];split<;>omega,?_,?_,?_,?_,?_⟩
 ·simp only[x0b];split<;>omega
 ·simp only[x0b];split<;>omega
 ·exact hl.sub (List.drop_sublist _ _)
 ·simp only[x0b];intro k;split
  ·rfl
  ·rename_i h1;rw[if_neg h1] at k;omega
 ·intro k;simp only[x0b] at k hlen ⊢;by_cases h1:(l.length:Int)≤room
  ·rw[if_pos h1] at k;exact absurd rfl k
  rw[if_neg h1] at hlen ⊢;obtain ⟨d,hd⟩:∃d,l.length-room.toNat=d+1:=⟨l.length-room.toNat-1,by omega⟩;rw[hd,show d+1-1=d by omega];have hdl:d<l.length:=by omega
  have hdl':d+1<l.length:=by omega
  rw[List.getElem?_eq_getElem hdl];refine ⟨by rw[←hlen,hd],((hl.ok _ (List.getElem_mem hdl)).t0),fun x hx => ?_⟩;rw[List.head?_drop,List.getElem?_eq_getElem hdl'] at hx;have:=List.pairwise_iff_getElem.1 hl.inc d (d+1) hdl hdl' (by omega);simp at hx;rw[←hx];exact this
structure SerInv (c:Conf) (s:Ser) (l:List Ev):Prop where
 lab:LabOk s.1
 len:l.length≤1000000
 raw:s.2.2.1=x0b c.1 l
 opn:i1l c s.2.2.2.1 s.2.2.2.2 l
 last:(l=[]∧s.2.1 = -1)∨EndsAt l s.2.1
theorem SerInv.foll {c:Conf} {s:Ser} {l:List Ev} (h:SerInv c s l):Foll l:=by
 rcases h.last with ⟨rfl,_⟩ | h
 ·exact Foll.nil
 ·exact h.foll
theorem k0l {l:List Ev} {t:Int} (h:EndsAt l t):∃e,l.getLast? = some e∧e.1=t:=by
 obtain ⟨x,hx,hxt⟩:=h.last;rcases List.eq_nil_or_concat l with rfl | ⟨p,y,rfl⟩
 ·cases hx
 rw[List.concat_eq_append] at *
 have h1:=h.le y (by simp);refine ⟨y,by simp,?_⟩;rcases List.mem_append.1 hx with q | q
 ·have:=(d0a.1 h.foll).2.2 x q y (by simp);omega
 ·simp at q;rw[←q];exact hxt
theorem b2e {l:List Ev} {t u:Int} (h:EndsAt l t) (k:EndsAt l u):t=u:=by
 obtain ⟨e,h1,h2⟩:=k0l h;obtain ⟨e',k1,k2⟩:=k0l k;rw[h1] at k1;simp at k1;rw[←h2,←k2,k1]
theorem b2f {l:List Ev} {t:Int} (h:EndsAt l t):l≠[]:=by
 obtain ⟨x,hx,_⟩:=h.last;exact List.ne_nil_of_mem hx
theorem SerInv.at_ {c:Conf} {s:Ser} {l:List Ev} (h:SerInv c s l) (hl:l≠[]):EndsAt l s.2.1∧FInv c s.2.2.2.1 l s.2.1∧s.2.2.2.2=(s.2.1 / c.2.1.1,cellOf (win c.2.1.1 l (s.2.1 / c.2.1.1))):=by
 have he:=h.last.resolve_left fun k=>hl k.1
 rcases h.opn with k | ⟨t,k1,k2,k3⟩
 ·exact absurd k.1 hl
 ·have:=b2e he k1;subst this;exact ⟨he,k2,k3⟩
theorem y0j {t:List Slo} {w:Int} (h:TierInv t w []):tall t=[]:=by
 cases hc:tall t with
 | nil=>rfl
 | cons x r =>
  have hx:x∈tall t:=by rw[hc];simp
  have h1:=h.cells x hx;have:=(l0b h.ok hx).1.n.n1;rw[h1] at this;simp[win,cellOf,z0] at this
theorem p0a {t:List Slo} {w u:Int} {l:List Ev} (h:TierInv t w (below w l u)) (hl:Foll l):b0e t (u / w):=by
 rw[w0k h.ok];intro x hx;have h1:=h.cells x hx;have hn:=(l0b h.ok hx).1.n;have hne:win w (below w l u) x.1≠[]:=fun k=>by
  rw[k] at h1;exact hn.ne h1
 obtain ⟨e,he⟩:=List.exists_mem_of_ne_nil _ hne;obtain ⟨k1,k2⟩:=v0d.1 he;have:=of_decide_eq_true (List.mem_filter.1 k1).2;omega
theorem l1t {w T:Int} {l:List Ev} (he:EndsAt l T):(cellOf (win w l (T / w))).2.2.1.1=T:=by
 obtain ⟨x,hx,hxt⟩:=he.last;have hm:x∈win w l (T / w):=v0d.2 ⟨hx,by rw[hxt]⟩;have hw:=e1e (w:=w) he.foll (T / w);have hh:=s1b hw (List.ne_nil_of_mem hm);have ew:EndsAt (win w l (T / w)) T:=⟨hw,fun y hy=>he.le y (v0d.1 hy).1,x,hm,hxt⟩;obtain ⟨e,k1,k2⟩:=k0l ew;have:=hh.last;rw[k1] at this;simp at this;rw[←this,k2]
theorem y0x {c:Conf} {s:Ser} {l:List Ev} (h:SerInv c s l):SerOk c s:=by
 have hf:=h.opn.fold;have hr:=hf.cok.rng;have hraw:RawOk s.2.2.1 c.1:=by rw[h.raw];exact rawOf_ok hr.raw h.foll h.len
 refine ⟨hf,h.lab,hraw,?_⟩;by_cases hl:l=[]
 ·subst hl;refine .inl ?_;have hlast:=h.last.resolve_right fun k=>b2f k rfl
  rcases h.opn with ⟨_,k1,k2⟩ | ⟨t,k1,_⟩
  ·have:=k2 0;exact ⟨hlast.2,by rw[h.raw];simp[x0b],k1,(z0j this.ok.t0).2 (y0j this.i0),(z0j this.ok.t1).2 (y0j this.i1),(z0j this.ok.t2).2 (y0j this.i2)⟩
  ·exact absurd rfl (b2f k1)
 ·obtain ⟨he,hi,ho⟩:=h.at_ hl;obtain ⟨x,hx,hxt⟩:=he.last;have:=(he.foll.ok x hx).t0;refine .inr ⟨by omega,?_,?_,?_,p0a hi.i0 he.foll,p0a hi.i1 he.foll,p0a hi.i2 he.foll⟩
  ·rw[h.raw,t1v hr.raw.1];exact k0l he
  ·rw[ho];exact l1t he
  ·rw[ho];exact (e1r he hi.i0).1
theorem q1o {c:Conf} {s:Ser} {l:List Ev} (h:SerInv c s l):SerW s:=by
 have hok:=y0x h;refine ⟨?_,fun e he=>EvW.of (hok.raw.f.ok e he),hok.fold.w,?_⟩
 ·by_cases hn:s.2.1 = -1
  ·rw[hn];unfold I64;omega
  ·have:=serOk_at hok hn;unfold I64;omega
 ·rcases h.opn with ⟨_,k,_⟩ | ⟨t,he,hi,ho⟩
  ·rw[k];exact y0p
  ·obtain ⟨x,hx,hxt⟩:=he.last;have hxo:=he.foll.ok x hx;have:=j1z hxo hi.ok.cok.rng.w0.1;rw[hxt] at this;rw[ho];exact ⟨by unfold I64;simp only;omega,.of (b2s (e1e he.foll _))⟩
theorem f1v {c:Conf} {l:List Lab} (h:OkC c) (hl:LabOk l):SerInv c (l,(-1,(r0w,(emp c,s0)))) [] :=
 ⟨hl,by simp,by have:=h.rng.raw;simp[x0b,r0w];omega,emp_inv h,.inl ⟨rfl,rfl⟩⟩
noncomputable def q0g (s:Sta) (l:List Lab):Option Nat:=s.2.2.2.findIdx? fun x=>decide (x.1=l∧LvX s x)
noncomputable def r0k (s:Sta):Option Nat:=s.2.2.2.findIdx? fun x=>decide (¬LvX s x)
noncomputable def lvAt (s:Sta) (i:Nat):Bool:=match s.2.2.2[i]? with | some x=>decide (LvX s x) | none=>false
noncomputable def t0o (s:Sta):List Nat:=(List.range s.2.2.2.length).filter (lvAt s)
theorem p0x {s:Sta} {l:List Lab} {i:Nat}:q0g s l=some i↔∃x,s.2.2.2[i]? = some x∧x.1=l∧LvX s x∧∀j,j<i→∀y,s.2.2.2[j]? = some y→¬(y.1=l∧LvX s y):=by
 unfold q0g;rw[List.findIdx?_eq_some_iff_getElem];constructor
 ·rintro ⟨h,h1,h2⟩;have h1:=of_decide_eq_true h1;refine ⟨_,List.getElem?_eq_getElem h,h1.1,h1.2,fun j hj y hy => ?_⟩;obtain ⟨hjl,e⟩:=List.getElem?_eq_some_iff.1 hy;have:=h2 j hj;rw[e] at this
  simpa using this
 ·rintro ⟨x,hx,h1,h2,h3⟩;obtain ⟨hl,e⟩:=List.getElem?_eq_some_iff.1 hx;refine ⟨hl,by rw[e];exact decide_eq_true ⟨h1,h2⟩,fun j hj => ?_⟩;have:=h3 j hj _ (List.getElem?_eq_getElem (by omega))
  simpa using this
theorem v0l {s:Sta} {l:List Lab}:q0g s l=none↔∀x∈s.2.2.2,¬(x.1=l∧LvX s x):=by
 unfold q0g;rw[List.findIdx?_eq_none_iff];simp
theorem c1w {s:Sta} {i:Nat}:r0k s=some i↔∃x,s.2.2.2[i]? = some x∧¬LvX s x∧∀j,j<i→∀y,s.2.2.2[j]? = some y→LvX s y:=by
 unfold r0k;rw[List.findIdx?_eq_some_iff_getElem];constructor
 ·rintro ⟨h,h1,h2⟩;refine ⟨_,List.getElem?_eq_getElem h,of_decide_eq_true h1,fun j hj y hy => ?_⟩;obtain ⟨hjl,e⟩:=List.getElem?_eq_some_iff.1 hy;have:=h2 j hj;rw[e] at this
  simpa using this
 ·rintro ⟨x,hx,h1,h3⟩;obtain ⟨hl,e⟩:=List.getElem?_eq_some_iff.1 hx;refine ⟨hl,by rw[e];exact decide_eq_true h1,fun j hj => ?_⟩;have:=h3 j hj _ (List.getElem?_eq_getElem (by omega))
  simpa using this
theorem t1m {s:Sta}:r0k s=none↔∀x∈s.2.2.2,LvX s x:=by
 unfold r0k;rw[List.findIdx?_eq_none_iff];simp
theorem z0l {s:Sta} {i:Nat} {x:Ser} (h:s.2.2.2[i]? = some x):lvAt s i=decide (LvX s x):=by
 unfold lvAt;rw[h]
theorem r1h (s:Sta):(t0o s).length≤s.2.2.2.length:=by
 have:=List.length_filter_le (lvAt s) (List.range s.2.2.2.length)
 simpa [t0o] using this
noncomputable def d0s (s:Sta) (l:List Lab) (e:Ev):Int×(Bool×Int) :=
 if ¬StaOk s then (0,(false,2)) else if ¬LabOk l then (0,(false,8)) else if ¬EvOk e then (0,(false,2)) else
 if e.1<mk s∨mk s+s.1.2.1.1≤e.1 then (0,(false,9)) else
 match q0g s l with
 | some i=>if e.1≤((s.2.2.2[i]?).getD ser0).2.1 then (0,(false,9)) else ((i:Int),(false,0))
 | none=>if e.2.2.2=true then (0,(false,3)) else match r0k s with | some i=>((i:Int),(true,0)) | none=>(0,(false,7))
end Go.Proofs.YtkajechaanmplaaGreatDoor
namespace Go.Proofs.YtkajechaanmplaaGreatDoor
open Go.Flat
def rd (st:List UInt8×Bool) (k:Nat):Int×(List UInt8×Bool):=if st.2=true∨st.1.length<k then (0,([],true)) else (valI (c0d (st.1.take k)),(st.1.drop k,false))
def q0 (s:List UInt8):=rd (s,false) 4
def q1 (s:List UInt8):=rd (q0 s).2 8
def q2 (s:List UInt8):=rd (q1 s).2 8
def q3 (s:List UInt8):=rd (q2 s).2 8
def q4 (s:List UInt8):=rd (q3 s).2 4
def q5 (s:List UInt8):=rd (q4 s).2 4
def q6 (s:List UInt8):=rd (q5 s).2 4
def q7 (s:List UInt8):=rd (q6 s).2 4
def q8 (s:List UInt8):=rd (q7 s).2 4
def q9 (s:List UInt8):=rd (q8 s).2 8
structure Full (s:List UInt8):Prop where
 z:(q9 s).1=0
 good:(q9 s).2.2=false
 left:(q9 s).2.1=[]
def idxC (c:Conf):Int:=prt c.2.2.2.2 120
def hom (c:Conf):Int:=1+idxC c+c.2.2.2.2
def siz (c:Conf):Int:=hom c+1+c.2.2.2.1*plc c
theorem idx_range {c:Conf} (h:Rng c):0≤idxC c∧idxC c≤8192:=by
 have:=g0e (x:=c.2.2.2.2) (e:=120) (by omega) (by have:=h.log;omega);have:=h.log;unfold idxC;omega
theorem siz_wrap {c:Conf} (h:OkC c):IntKind.wrap .i64 (IntKind.wrap .i64 (hom c+1)+IntKind.wrap .i64 (c.2.2.2.1*plc c))=siz c∧0≤siz c∧siz c≤2000000000:=by
 have hl:=h.rng.log;have hi:=idx_range h.rng;have hp:=y1h h.rng;have hcap:=h.rng.cap;have h1:0≤c.2.2.2.1*plc c:=Int.mul_nonneg (by omega) (by omega);have h2:c.2.2.2.1*plc c≤65536*plc c:=Int.mul_le_mul_of_nonneg_right (by omega) (by omega);have hh:hom c=1+idxC c+c.2.2.2.2:=rfl;rw[w64 (x:=hom c+1) (by omega) (by omega),w64 (x:=c.2.2.2.1*plc c) (by omega) (by omega),w64 (by omega) (by omega)];have hs:siz c=hom c+1+c.2.2.2.1*plc c:=rfl;omega
def sizR (c:Conf):Int×Int:=if 16777216<siz c then (0,1) else (siz c,0)
end Go.Proofs.YtkajechaanmplaaGreatDoor
namespace Go.Proofs.YtkajechaanmplaaGreatDoor
open Go.Flat
set_option linter.unusedVariables false
set_option linter.unusedSimpArgs false
theorem c2w (n:Nat) {c:Conf} (h:OkC c):v0q (n+4) c=some (plc c):=by
 rw[h1y,u0e n h,z0b (n+1) h.rng];simp only[obs,tfd,tfn];rw[if_pos trivial]
theorem z1y (n:Nat) {c:Conf} (h:OkC c):v0r (n+4) c=some (idxC c):=by
 have hl:=h.rng.log;rw[i1a,u0e n h];simp only[obs,tfd,tfn];rw[if_pos trivial,o0l (n+2) _ 120 (by omega) (by omega) (by omega) (by omega)];simp only[obs];rfl
theorem home1_ok (n:Nat) {c:Conf} (h:OkC c):a1b (n+5) c=some (hom c):=by
 have hl:=h.rng.log;have hi:=idx_range h.rng;rw[l1l,u0e (n+1) h,z1y n h];simp only[obs,tfd,tfn];rw[if_pos trivial,w64 (x:=1+idxC c) (by omega) (by omega),w64 (by omega) (by omega)];rfl
theorem size1_ok (n:Nat) {c:Conf} (h:OkC c):u0a (n+6) c=some (sizR c):=by
 obtain ⟨e,_⟩:=siz_wrap h;rw[w0o,u0e (n+2) h,home1_ok n h,c2w (n+1) h];simp only[obs,tfd,tfn,e];rw[if_pos trivial];unfold sizR;by_cases hs:16777216<siz c
 ·rw[if_pos hs,if_pos hs]
 ·rw[if_neg hs,if_neg hs]
theorem size1_no (n:Nat) {c:Conf} (h:¬OkC c):u0a (n+6) c=some (0,2):=by
 rw[w0o,s1a (n+2) h];simp only[obs,tfd,tfn];rw[if_neg (by decide)]
end Go.Proofs.YtkajechaanmplaaGreatDoor
namespace Go.Proofs.YtkajechaanmplaaGreatDoor
open Go.Flat Go.Plim
set_option linter.unusedVariables false
set_option linter.unusedSimpArgs false
theorem l1i {l:List Ser} {k:Nat} (h:k<l.length):∃y,l[k]? = some y:=⟨l[k],List.getElem?_eq_getElem h⟩
noncomputable def v1j (s:Sta) (l:List Lab):Int×Int:=if Whole s then (match q0g s l with | some i=>((i:Int),0) | none=>(0,3)) else (0,2)
noncomputable def t1p (s:Sta):Int×Int:=if Whole s then (match r0k s with | some i=>((i:Int),0) | none=>(0,7)) else (0,2)
noncomputable def k1r (s:Sta):List Int:=if Whole s then (t0o s).map Int.ofNat else []
def IsF (s:Sta) (l:List Lab) (k:Nat):Prop:=∃y,s.2.2.2[k]? = some y∧y.1=l∧LvX s y
noncomputable instance (s l k):Decidable (IsF s l k):=Classical.propDecidable _
def IsR (s:Sta) (k:Nat):Prop:=∃y,s.2.2.2[k]? = some y∧¬LvX s y
noncomputable instance (s k):Decidable (IsR s k):=Classical.propDecidable _
theorem v1g {s:Sta} {l:List Lab} {m:Nat} (h:IsF s l m) (hn:∀j,j<m→¬IsF s l j):q0g s l=some m:=by
 obtain ⟨y,h1,h2,h3⟩:=h;exact p0x.2 ⟨y,h1,h2,h3,fun j hj z hz k=>hn j hj ⟨z,hz,k.1,k.2⟩⟩
theorem find_no {s:Sta} {l:List Lab} (hn:∀j,j<s.2.2.2.length→¬IsF s l j):q0g s l=none:=by
 refine v0l.2 fun x hx k => ?_
 obtain ⟨i,hi,e⟩:=List.getElem_of_mem hx;exact hn i hi ⟨x,by rw[List.getElem?_eq_getElem hi,e],k.1,k.2⟩
theorem t1l {s:Sta} {m:Nat} (h:IsR s m) (hn:∀j,j<m→¬IsR s j):r0k s=some m:=by
 obtain ⟨y,h1,h2⟩:=h;exact c1w.2 ⟨y,h1,h2,fun j hj z hz=>Decidable.byContradiction fun k=>hn j hj ⟨z,hz,k⟩⟩
theorem room_no {s:Sta} (hn:∀j,j<s.2.2.2.length→¬IsR s j):r0k s=none:=by
 refine t1m.2 fun x hx=>Decidable.byContradiction fun k => ?_
 obtain ⟨i,hi,e⟩:=List.getElem_of_mem hx;exact hn i hi ⟨x,by rw[List.getElem?_eq_getElem hi,e],k⟩
theorem stt_find (n:Nat) {s:Sta} (hw:StaW s) (l:List Lab):e1z (n+10) s l=some (v1j s l):=by
 rw[n1a,y0m (n+5) s,obs,tfn,tfd];unfold v1j;by_cases h:Whole s
 case neg=>rw[if_neg h,if_neg h,if_neg (show ¬((sta0,(2:Int)).2=0) by decide)]
 rw[if_pos h,if_pos h,if_pos rfl];have his:∀k:Nat,k<s.2.2.2.length→(fun y1:Int×Unit=>e0y (n+9) y1.1 s l s) ((k:Int),())=some (decide (IsF s l k)):=by
  intro k hk;obtain ⟨y,hy⟩:=l1i hk;have hm:=(hw.at hy).2;show e0y (n+9) (k:Int) s l s=_;rw[e1y,i1j hy,obs,d1j (n+6) _ _ hm.l,obs,tfd,s0r (n+1) hy hm,obs];by_cases h1:y.1=l
  ·rw[if_pos h1];refine congrArg some (decide_eq_decide.2 ⟨fun k=>⟨y,hy,h1,k⟩,fun ⟨z,z1,z2,z3⟩ => ?_⟩);rw[hy] at z1;cases z1;exact z3
  ·rw[if_neg h1,decide_eq_false (fun q:IsF s l k=>by obtain ⟨z,z1,z2,z3⟩:=q;rw[hy] at z1;cases z1;exact h1 z2)]
 rcases t0v (n+8) s (fun y1:Int×Unit=>e0y (n+9) y1.1 s l s) (fun k=>decide (IsF s l k)) (by have:=h.len;omega) his with ⟨m,q1,q2,q3,q4⟩ | ⟨q1,q2⟩
 ·rw[show (fun y1:Int×Unit=>e0y (n+9) y1.1 s l (s,(0:Int)).1)=fun y1:Int×Unit=>e0y (n+9) y1.1 s l s from rfl,q4,obs,tfd,if_neg (by omega),v1g (of_decide_eq_true q2) (fun j hj=>of_decide_eq_false (q3 j hj))]
 ·rw[show (fun y1:Int×Unit=>e0y (n+9) y1.1 s l (s,(0:Int)).1)=fun y1:Int×Unit=>e0y (n+9) y1.1 s l s from rfl,q2,obs,tfd,if_pos (by decide),find_no (fun j hj=>of_decide_eq_false (q1 j hj))]
theorem stt_room (n:Nat) {s:Sta} (hw:StaW s):x0i (n+10) s=some (t1p s):=by
 rw[m1x,y0m (n+5) s,obs,tfn,tfd];unfold t1p;by_cases h:Whole s
 case neg=>rw[if_neg h,if_neg h,if_neg (show ¬((sta0,(2:Int)).2=0) by decide)]
 rw[if_pos h,if_pos h,if_pos rfl];have his:∀k:Nat,k<s.2.2.2.length→(fun y1:Int×Unit=>e0x (n+9) y1.1 s) ((k:Int),())=some (decide (IsR s k)):=by
  intro k hk;obtain ⟨y,hy⟩:=l1i hk;have hm:=(hw.at hy).2;show e0x (n+9) (k:Int) s=_;rw[e1v,s0r (n+1) hy hm,obs];by_cases h1:LvX s y
  ·rw[decide_eq_true h1,decide_eq_false (fun q:IsR s k=>by obtain ⟨z,z1,z2⟩:=q;rw[hy] at z1;cases z1;exact z2 h1)];rfl
  ·rw[decide_eq_false h1,decide_eq_true (show IsR s k from ⟨y,hy,h1⟩)];rfl
 rcases t0v (n+8) s (fun y1:Int×Unit=>e0x (n+9) y1.1 s) (fun k=>decide (IsR s k)) (by have:=h.len;omega) his with ⟨m,q1,q2,q3,q4⟩ | ⟨q1,q2⟩
 ·rw[show (fun y1:Int×Unit=>e0x (n+9) y1.1 (s,(0:Int)).1)=fun y1:Int×Unit=>e0x (n+9) y1.1 s from rfl,q4,obs,tfd,if_neg (by omega),t1l (of_decide_eq_true q2) (fun j hj=>of_decide_eq_false (q3 j hj))]
 ·rw[show (fun y1:Int×Unit=>e0x (n+9) y1.1 (s,(0:Int)).1)=fun y1:Int×Unit=>e0x (n+9) y1.1 s from rfl,q2,obs,tfd,if_pos (by decide),room_no (fun j hj=>of_decide_eq_false (q1 j hj))]
theorem lvAt_el {s:Sta} {k:Nat} {y:Ser} (h:s.2.2.2[k]? = some y):decide (LvX s y)=lvAt s k:=(z0l h).symm
theorem s1w (n:Nat) {s:Sta} (hw:StaW s) (hL:s.2.2.2.length≤1000000):∀(d k f:Nat) (out:List Int),k+d=s.2.2.2.length→d<f→out.length≤k →
  g0q (n+7) f (s,out,(s.2.2.2.length:Int),(k:Int),())=some (.inl (out++((List.range' k d).filter (lvAt s)).map Int.ofNat,())):=by
 intro d;induction d with
 | zero =>
  intro k f out hk hf ho;obtain ⟨f,rfl⟩:∃g,f=g+1:=⟨f-1,by omega⟩;rw[q0p,decide_eq_false (by omega),tff];simp
 | succ d ih =>
  intro k f out hk hf ho;obtain ⟨f,rfl⟩:∃g,f=g+1:=⟨f-1,by omega⟩;obtain ⟨y,hy⟩:=l1i (l:=s.2.2.2) (k:=k) (by omega);rw[q0p,decide_eq_true (by omega),tft,s0r n hy (hw.at hy).2,obs,lvAt_el hy,w64 (by omega) (by omega),show ((k:Int)+1)=((k+1:Nat):Int) by omega,List.range'_succ];cases h:lvAt s k
  ·rw[tff,ih (k+1) f out (by omega) (by omega) (by omega),List.filter_cons_of_neg (by simp[h])]
  ·rw[tft,decide_eq_true (by omega),tft,ih (k+1) f _ (by omega) (by omega) (by simp;omega),List.filter_cons_of_pos h];simp
theorem q1j (n:Nat) {s:Sta} (hw:StaW s):x0j (n+8) s=some (k1r s):=by
 rw[m1z,y0m (n+3) s,obs,tfn,tfd];unfold k1r;by_cases h:Whole s
 case neg=>rw[if_neg h,if_neg h,if_neg (show ¬((sta0,(2:Int)).2=0) by decide)]
 rw[if_pos h,if_pos h,if_pos rfl];have hL:=h.len;have e:g0q (n+7) a0b (s,([]:List Int),(s.2.2.2.length:Int),(0:Int),())=_:=s1w n hw (by omega) s.2.2.2.length 0 a0b [] (by omega) (by unfold a0b;omega) (by simp);simp only;rw[e,obs,b0g];unfold t0o;rw[List.range_eq_range'];rfl
noncomputable def markV (s:Sta):Int:=if Whole s∧r0y s.2.1 then mk s else 0
theorem stt_mark (n:Nat) (s:Sta):e1x (n+5) s=some (markV s):=by
 rw[m1y,y0m n s,obs,tfn,tfd,n1e (n+3),obs,tfn,tfd];unfold markV;by_cases h:Whole s
 case neg=>rw[if_neg h,if_neg (show ¬((sta0,(2:Int)).2=0) by decide),if_neg (fun k=>h k.1)]
 rw[if_pos h,if_pos rfl];by_cases h1:r0y s.2.1
 case neg=>rw[if_neg h1,if_neg (fun k=>h1 k.2)]
 rw[if_pos h1,if_pos ⟨h,h1⟩,x1n (n+3) h1 h.1.rng.w0];rfl
noncomputable def q0f (c:Conf):Sta×Int:=if OkC c then (if (sizR c).2=0 then ((c,(0,(-1,List.replicate c.2.2.2.1.toNat ser0))),0) else (sta0,(sizR c).2)) else (sta0,2)
theorem cap_test {c:Conf} (h:OkC c):((decide ((0:Int)≤c.2.2.2.1))&&((decide (c.2.2.2.1≤c.2.2.2.1))&&(decide ((c.2.2.2.1*(264:Int))≤(140737488355328:Int)))))=true:=by
 have:=h.rng.cap;rw[decide_eq_true (by omega),decide_eq_true (by omega),decide_eq_true (by omega)];rfl
theorem x1f (n:Nat) (c:Conf):e1w (n+7) c=some (q0f c):=by
 rw[s1v];unfold q0f;by_cases h:OkC c
 case neg=>rw[size1_no n h,if_neg h];rfl
 rw[size1_ok n h,if_pos h,obs,tfn,tfd];by_cases h1:(sizR c).2=0
 ·rw[if_pos h1,if_pos h1,cap_test h];rfl
 ·rw[if_neg h1,if_neg h1];rfl
theorem x1m:StaW sta0:=⟨by simp[sta0],by simp[sta0]⟩
theorem ser0_w:SerW ser0:=by
 refine ⟨?_,?_,⟨?_,?_,?_⟩,y0p⟩
 ·unfold I64;simp[ser0]
 ·intro e he;simp[ser0,r0w] at he
 ·intro x hx;simp[ser0] at hx
 ·intro x hx;simp[ser0] at hx
 ·intro x hx;simp[ser0] at hx
theorem newSt_w (c:Conf):StaW (q0f c).1:=by
 unfold q0f;split
 ·rename_i h;split
  ·have:=h.rng.cap;exact ⟨by simp;omega,fun x hx=>by rw[List.eq_of_mem_replicate hx];exact ⟨ser0_w,ser0_m⟩⟩
  ·exact x1m
 ·exact x1m
theorem newSt_ok {c:Conf} (h:(q0f c).2=0):StaOk (q0f c).1∧t0o (q0f c).1=[]:=by
 unfold q0f at h ⊢;by_cases h1:OkC c
 case neg=>rw[if_neg h1] at h;cases h
 rw[if_pos h1] at h ⊢;by_cases h2:(sizR c).2=0
 case neg=>rw[if_neg h2] at h;exact absurd h h2
 rw[if_pos h2];have hcap:=h1.rng.cap;have all:∀(i:Nat) x,(List.replicate c.2.2.2.1.toNat ser0)[i]? = some x→x=ser0:=fun i x hx=>List.eq_of_mem_replicate (List.mem_of_getElem? hx)
 refine ⟨⟨⟨h1,by simp;omega⟩,⟨⟨by simp,by simp⟩,.inl rfl,by simp⟩,fun i x hx => .inl (all i x hx)⟩,?_⟩;unfold t0o;rw[List.filter_eq_nil_iff];intro i hi hl;obtain ⟨y,hy⟩:=l1i (List.mem_range.1 hi);rw[z0l hy] at hl;exact (of_decide_eq_true hl).1 (all i y hy)
theorem g0y {l:List Slo} {a b:Int} (h:b0e l a) (hab:a≤b):b0e l b:=fun s hs hc=>by
 have:=h s hs hc;omega
theorem o1o {l:List Slo} {b i:Int} {x:Cel} (h:b0e l b) (hi:i<b):b0e (tput l i x) b:=by
 intro s hs hc;rcases List.mem_or_eq_of_mem_set hs with k | k
 ·exact h s k hc
 ·rw[k];exact hi
theorem h1j {a b w:Int} (hw:1≤w) (hab:a≤b) (h:a / w≠b / w):a / w<b / w:=by
 have:a / w≤b / w:=Int.ediv_le_ediv (by omega) hab;omega
theorem nb_upw {c:Conf} (hc:OkC c) {s:Trs} {T U:Int} (hTU:T≤U) (h0:b0e s.1 (U / c.2.1.1)) (h1:b0e s.2.1 (T / c.2.1.2.1)) (h2:b0e s.2.2 (T / c.2.1.2.2)) :
  b0e (upw c s (T / c.2.1.1) (U / c.2.1.1)).1 (U / c.2.1.1)∧b0e (upw c s (T / c.2.1.1) (U / c.2.1.1)).2.1 (U / c.2.1.2.1)∧b0e (upw c s (T / c.2.1.1) (U / c.2.1.1)).2.2 (U / c.2.1.2.2):=by
 have hr:=hc.rng;have q1:=(edvm (t:=T) hr.w0.1 hr.w1.1 hc.m1).1;have q1u:=(edvm (t:=U) hr.w0.1 hr.w1.1 hc.m1).1;have q2:=(edvm (t:=T) hr.w0.1 hr.w2.1 hc.m02).1;have q2u:=(edvm (t:=U) hr.w0.1 hr.w2.1 hc.m02).1;have m1:T / c.2.1.2.1≤U / c.2.1.2.1:=Int.ediv_le_ediv (by have:=hr.w1;omega) hTU;have m2:T / c.2.1.2.2≤U / c.2.1.2.2:=Int.ediv_le_ediv (by have:=hr.w2;omega) hTU;have u1:b0e (up1 c s (T / c.2.1.1) (U / c.2.1.1)).1 (U / c.2.1.1)∧b0e (up1 c s (T / c.2.1.1) (U / c.2.1.1)).2.1 (U / c.2.1.2.1)∧b0e (up1 c s (T / c.2.1.1) (U / c.2.1.1)).2.2 (T / c.2.1.2.2):=by
  unfold up1;rw[q1,q1u];split
  ·exact ⟨h0,g0y h1 m1,h2⟩
  ·rename_i hne;split
   ·exact ⟨h0,o1o (g0y h1 m1) (by omega),h2⟩
   ·exact ⟨h0,g0y h1 m1,h2⟩
 unfold upw;generalize up1 c s (T / c.2.1.1) (U / c.2.1.1)=v at u1;unfold up2;rw[q2,q2u];split
 ·exact ⟨u1.1,u1.2.1,g0y u1.2.2 m2⟩
 ·rename_i hne;split
  ·exact ⟨u1.1,u1.2.1,o1o (g0y u1.2.2 m2) (by omega)⟩
  ·exact ⟨u1.1,u1.2.1,g0y u1.2.2 m2⟩
theorem t1w {r:Rw} {room:Int} {e:Ev} (h:RawOk r room) (he:EvOk e) (ha:After r.2.2 e) (hl:¬((r.2.2.length:Int)=room∧r.1=70368744177664)):RawOk (g0w r room e) room∧(g0w r room e).2.2.getLast? = some e:=by
 have hf:Foll (r.2.2++[e]):=by
  refine d0a.2 ⟨h.f,⟨by simp[he],by simp⟩,fun x hx y hy => ?_⟩;simp at hy;subst hy;have hn:r.2.2≠[]:=List.ne_nil_of_mem hx;have hg:=List.getLast?_eq_some_getLast hn;have:=ha _ hg;rcases List.eq_nil_or_concat r.2.2 with k | ⟨p,z,k⟩
  ·exact absurd k hn
  ·rw[List.concat_eq_append] at k;have hz:r.2.2.getLast hn=z:=by simp[k]
   rw[hz] at this;rw[k] at hx;rcases List.mem_append.1 hx with q | q
   ·have hf:=h.f;rw[k] at hf;have:=(d0a.1 hf).2.2 x q z (by simp);omega
   ·simp at q;rw[q];exact this
 unfold g0w;by_cases h1:(r.2.2.length:Int)<room
 ·rw[if_pos h1];refine ⟨⟨h.m0,h.m1,by simp;omega,h.l0,h.l1,hf,h.z,fun k => ?_⟩,by simp⟩;have:=(h.p k).1;omega
 ·rw[if_neg h1];have hlen:=h.len;have hlen':(r.2.2.length:Int)=room:=by omega
  have m0:=h.m0;cases hc:r.2.2 with
  | nil=>rw[hc] at hlen';simp at hlen';omega
  | cons a t =>
   rw[hc] at hf hlen';have hfa:=a2g.1 hf;simp only[List.drop_succ_cons,List.drop_zero,List.headD_cons];refine ⟨⟨h.m0,h.m1,by simp at hlen' ⊢;omega,by have:=h.l0;simp only;omega,?_,hfa.2.2,fun k => ?_,fun _=>⟨by simp at hlen' ⊢;omega,hfa.1.t0,fun x hx => ?_⟩⟩,by simp⟩
   ·have:=h.l1;have:r.1≠70368744177664:=fun k=>hl ⟨by rw[hc];exact hlen',k⟩
    simp only;omega
   ·have:=h.l0;simp only at k;omega
   ·exact hfa.2.1 x (List.mem_of_mem_head? hx)
theorem mrg_fits {a:Cel} {e:Ev} {w i:Int} (h:FitsP a w i) (he:EvOk e) (hlt:a.2.2.1.1<e.1) (hi:e.1 / w=i):FitsP (mrg a (d0j e)) w i:=by
 have hm:=o1p h.n (n0h he);refine ⟨mrg_N h.n (n0h he) hlt,h.w0,h.w1,?_,?_⟩
 ·rw[hm];exact h.f
 ·rw[hm];exact hi
theorem t0c {c:Conf} {s t:Ser} {e:Ev} (h:SerOk c s) (hp:putE c s e=(t,0)):SerOk c t∧EvOk e∧s.2.1<e.1∧t.2.1=e.1∧t.1=s.1:=by
 have hr:=h.fold.cok.rng;unfold putE at hp;by_cases h1:SerOk c s∧EvOk e
 case neg=>rw[if_neg h1] at hp;cases hp
 rw[if_pos h1] at hp;have he:=h1.2;by_cases h2:e.1≤s.2.1
 ·rw[if_pos h2] at hp;cases hp
 rw[if_neg h2] at hp;by_cases h3:(turned c s (e.1 / c.2.1.1)).2≠0
 ·rw[if_pos h3] at hp;exact absurd (congrArg Prod.snd hp) h3
 rw[if_neg h3] at hp;by_cases h4:(k0h s.2.2.1 c.1 e).2≠0
 ·rw[if_pos h4] at hp;exact absurd (congrArg Prod.snd hp) h4
 rw[if_neg h4] at hp;by_cases h5:(mrgE (turned c s (e.1 / c.2.1.1)).1.2.2 (d0j e)).2≠0
 ·rw[if_pos h5] at hp;exact absurd (congrArg Prod.snd hp) h5
 rw[if_neg h5] at hp;have hp:=(Prod.ext_iff.1 hp).1;simp only at hp;subst hp;refine ⟨?_,he,by omega,rfl,rfl⟩;have h3:(turned c s (e.1 / c.2.1.1)).2=0:=Decidable.byContradiction h3;have h4:(k0h s.2.2.1 c.1 e).2=0:=Decidable.byContradiction h4;have h5:(mrgE (turned c s (e.1 / c.2.1.1)).1.2.2 (d0j e)).2=0:=Decidable.byContradiction h5;have e0:0≤e.1:=he.t0;have hraw:RawOk (k0h s.2.2.1 c.1 e).1 c.1∧(k0h s.2.2.1 c.1 e).1.2.2.getLast? = some e:=by
  unfold k0h at h4 ⊢;rw[if_pos ⟨h.raw,he⟩] at h4 ⊢;by_cases k1:After s.2.2.1.2.2 e
  case neg=>rw[if_neg k1] at h4;cases h4
  rw[if_pos k1] at h4 ⊢;by_cases k2:(s.2.2.1.2.2.length:Int)=c.1∧s.2.2.1.1=70368744177664
  ·rw[if_pos k2] at h4;cases h4
  rw[if_neg k2] at h4 ⊢;exact t1w h.raw he k1 k2
 have key:FoldOk c (turned c s (e.1 / c.2.1.1)).1.1∧b0e (turned c s (e.1 / c.2.1.1)).1.1.1 (e.1 / c.2.1.1)∧b0e (turned c s (e.1 / c.2.1.1)).1.1.2.1 (e.1 / c.2.1.2.1)∧b0e (turned c s (e.1 / c.2.1.1)).1.1.2.2 (e.1 / c.2.1.2.2) ∧
   FitsP (mrgE (turned c s (e.1 / c.2.1.1)).1.2.2 (d0j e)).1 c.2.1.1 (e.1 / c.2.1.1)∧(mrgE (turned c s (e.1 / c.2.1.1)).1.2.2 (d0j e)).1.2.2.1.1=e.1:=by
  have fresh1:FitsP (d0j e) c.2.1.1 (e.1 / c.2.1.1):=⟨n0h he,hr.w0.1,hr.w0.2,rfl,rfl⟩;have z1:mrgE s0.2 (d0j e)=(d0j e,0):=mrgE_z0 (n0h he).ok;rcases h.st with ⟨l1,hf⟩ | ⟨l1,hd⟩
  ·have ht:turned c s (e.1 / c.2.1.1)=((s.2.2.2.1,s.2.2.2.2),0):=by
    unfold turned;rw[if_neg (fun k:p1x s _=>k.1 hf.opn)]
   rw[ht];simp only;rw[hf.opn,z1];exact ⟨h.fold,g0y hf.b0 (Int.ediv_nonneg e0 (by have:=hr.w0;omega)),g0y hf.b1 (Int.ediv_nonneg e0 (by have:=hr.w1;omega)),g0y hf.b2 (Int.ediv_nonneg e0 (by have:=hr.w2;omega)),fresh1,rfl⟩
  ·have hT:s.2.1≤e.1:=by omega
   have ho:s.2.2.2.2.1=s.2.1 / c.2.1.1:=by rw[←hd.fit.l,hd.ol]
   by_cases hts:p1x s (e.1 / c.2.1.1)
   ·have hlt:s.2.1 / c.2.1.1<e.1 / c.2.1.1:=h1j hr.w0.1 hT (by rw[←ho];exact hts.2);have hcl:w0p c s.2.2.2.1 s.2.2.2.2 (e.1 / c.2.1.1)=(upw c (tput s.2.2.2.1.1 s.2.2.2.2.1 s.2.2.2.2.2,s.2.2.2.1.2) (s.2.1 / c.2.1.1) (e.1 / c.2.1.1),0):=by
     unfold w0p;rw[if_pos h.fold,if_neg hts.1,if_pos hd.fit,if_neg hts.2,if_pos ⟨by omega,a2t he hr.w0.1⟩,ho]
    have ht:turned c s (e.1 / c.2.1.1)=((upw c (tput s.2.2.2.1.1 s.2.2.2.2.1 s.2.2.2.2.2,s.2.2.2.1.2) (s.2.1 / c.2.1.1) (e.1 / c.2.1.1),s0),0):=by
     unfold turned;rw[if_pos hts,hcl,if_pos rfl]
    rw[ht];simp only;rw[z1];obtain ⟨n0,n1,n2⟩:=nb_upw (s:=(tput s.2.2.2.1.1 s.2.2.2.2.1 s.2.2.2.2.2,s.2.2.2.1.2)) h.fold.cok hT (o1o (g0y hd.b0 (by omega)) (by omega)) hd.b1 hd.b2;exact ⟨upw_ok (z0t h.fold hd.fit) _ _,n0,n1,n2,fresh1,rfl⟩
   ·have ht:turned c s (e.1 / c.2.1.1)=((s.2.2.2.1,s.2.2.2.2),0):=by
     unfold turned;rw[if_neg hts]
    have hop:s.2.2.2.2≠s0:=fun k=>by have:=hd.fit.n.n1;rw[k] at this;simp[s0,z0] at this
    have hw:s.2.2.2.2.1=e.1 / c.2.1.1:=Decidable.byContradiction fun k=>hts ⟨hop,k⟩
    rw[ht] at h5 ⊢;simp only at h5 ⊢;obtain ⟨k1,k2,k3,k4,k5⟩:=o1q h5;rw[k4];have hfit:=hd.fit;rw[hw] at hfit;have hm:=o1p hd.fit.n (n0h he);exact ⟨h.fold,g0y hd.b0 (by omega),g0y hd.b1 (Int.ediv_le_ediv (by have:=hr.w1;omega) hT),g0y hd.b2 (Int.ediv_le_ediv (by have:=hr.w2;omega) hT),
     mrg_fits hfit he (by have:=hd.ol;omega) rfl,by rw[hm];rfl⟩
 obtain ⟨k1,k2,k3,k4,k5,k6⟩:=key;exact ⟨k1,h.lab,hraw.1,.inr ⟨by show e.1 ≠ -1;omega,⟨e,hraw.2,rfl⟩,k6,k5,k2,k3,k4⟩⟩
def setS (s:Sta) (i:Nat) (y:Ser):Sta:=(s.1,(s.2.1,(s.2.2.1,s.2.2.2.set i y)))
noncomputable def xOf (s:Sta) (l:List Lab) (w:Int×(Bool×Int)):Ser:=if w.2.1=true then (newV s.1 l).1 else (s.2.2.2[w.1.toNat]?).getD ser0
noncomputable def k0c (s:Sta) (l:List Lab) (e:Ev):Sta×Int :=
 if (d0s s l e).2.2≠0 then (sta0,(d0s s l e).2.2)
 else if (putE s.1 (xOf s l (d0s s l e)) e).2≠0 then (sta0,(putE s.1 (xOf s l (d0s s l e)) e).2)
 else (setS s (d0s s l e).1.toNat (putE s.1 (xOf s l (d0s s l e)) e).1,0)
structure Goes (s:Sta) (l:List Lab) (e:Ev):Prop where
 st:StaOk s
 lab:LabOk l
 ev:EvOk e
 lo:mk s≤e.1
 hi:e.1<mk s+s.1.2.1.1
inductive PlaceAt (s:Sta) (l:List Lab) (e:Ev):Nat→Ser→Bool→Prop
 | found {i:Nat} {x:Ser} (hf:q0g s l=some i) (hx:s.2.2.2[i]? = some x) (hl:x.1=l) (hlv:LvX s x) (ht:x.2.1<e.1):PlaceAt s l e i x false
 | room {i:Nat} (hf:q0g s l=none) (hs:e.2.2.2=false) (hr:r0k s=some i):PlaceAt s l e i (l,(-1,(r0w,(emp s.1,s0)))) true
theorem o1n {c:Conf} {l:List Lab} (h:OkC c) (hl:LabOk l):newV c l=((l,(-1,(r0w,(emp c,s0)))),0):=by
 unfold newV;rw[if_pos h,if_pos hl]
theorem r1p {s:Sta} {l:List Lab} {e:Ev} (h:(d0s s l e).2.2=0):Goes s l e∧∃i x b,PlaceAt s l e i x b∧(d0s s l e).1.toNat=i∧xOf s l (d0s s l e)=x∧d0s s l e=((i:Int),(b,0)):=by
 unfold d0s at h ⊢;by_cases h1:StaOk s
 case neg=>rw[if_pos h1] at h;cases h
 rw[if_neg (fun k=>k h1)] at h ⊢;by_cases h2:LabOk l
 case neg=>rw[if_pos h2] at h;cases h
 rw[if_neg (fun k=>k h2)] at h ⊢;by_cases h3:EvOk e
 case neg=>rw[if_pos h3] at h;cases h
 rw[if_neg (fun k=>k h3)] at h ⊢;by_cases h4:e.1<mk s∨mk s+s.1.2.1.1≤e.1
 ·rw[if_pos h4] at h;cases h
 rw[if_neg h4] at h ⊢;refine ⟨⟨h1,h2,h3,by omega,by omega⟩,?_⟩;cases hf:q0g s l with
 | some i =>
  rw[hf] at h;simp only at h ⊢;obtain ⟨x,hx,k1,k2,k3⟩:=p0x.1 hf;rw[hx] at h ⊢;simp only[Option.getD_some] at h ⊢;by_cases h5:e.1≤x.2.1
  ·rw[if_pos h5] at h;cases h
  rw[if_neg h5];exact ⟨i,x,false,.found hf hx k1 k2 (by omega),rfl,by unfold xOf;simp[hx],rfl⟩
 | none =>
  rw[hf] at h;simp only at h ⊢;cases h5:e.2.2.2 with
  | true=>rw[h5,if_pos rfl] at h;cases h
  | false =>
   rw[h5,if_neg (by simp)] at h;rw[if_neg (by simp)];cases hr:r0k s with
   | none=>rw[hr] at h;cases h
   | some i =>
    simp only;exact ⟨i,_,true,.room hf h5 hr,rfl,by unfold xOf;rw[if_pos rfl,o1n h1.whole.1 h2],rfl⟩
theorem x0o {s:Sta} {l:List Lab} {e:Ev} (h:Goes s l e) {i:Nat} {x:Ser} {b:Bool} (hp:PlaceAt s l e i x b):SerOk s.1 x∧x.1=l∧i<s.2.2.2.length∧x.2.1<e.1:=by
 cases hp with
 | found hf hx hl hlv ht =>
  rcases h.st.right _ _ hx with k | k
  ·exact absurd k hlv.1
  ·exact ⟨k.1,hl,(List.getElem?_eq_some_iff.1 hx).1,ht⟩
 | room hf hs hr =>
  obtain ⟨y,hy,_⟩:=c1w.1 hr;exact ⟨y0x (f1v h.st.whole.1 h.lab),rfl,(List.getElem?_eq_some_iff.1 hy).1,by have:=h.ev.t0;show (-1:Int)<e.1;omega⟩
theorem x0g {s t:Sta} {l:List Lab} {e:Ev} (h:k0c s l e=(t,0)):Goes s l e∧∃i x b y,PlaceAt s l e i x b∧putE s.1 x e=(y,0)∧t=setS s i y∧d0s s l e=((i:Int),(b,0)):=by
 unfold k0c at h;by_cases h1:(d0s s l e).2.2=0
 case neg=>rw[if_pos h1] at h;exact absurd (congrArg Prod.snd h) h1
 rw[if_neg (fun k=>k h1)] at h;obtain ⟨hg,i,x,b,k1,k2,k3,k4⟩:=r1p h1;rw[k2,k3] at h;by_cases h2:(putE s.1 x e).2=0
 case neg=>rw[if_pos h2] at h;exact absurd (congrArg Prod.snd h) h2
 rw[if_neg (fun k=>k h2)] at h;exact ⟨hg,i,x,b,_,k1,Prod.ext rfl h2,(congrArg Prod.fst h).symm,k4⟩
theorem x0l (s:Sta) (i:Nat) (y:Ser) (j:Nat):(setS s i y).2.2.2[j]? = if i=j then (if i<s.2.2.2.length then some y else none) else s.2.2.2[j]? := by
 unfold setS;simp only[List.getElem?_set]
theorem n1d {s t:Sta} {l:List Lab} {e:Ev} (h:k0c s l e=(t,0)):StaOk t:=by
 obtain ⟨hg,i,x,b,y,hp,hput,rfl,_⟩:=x0g h;obtain ⟨p1,p2,p3,p4⟩:=x0o hg hp;obtain ⟨q1,q2,q3,q4,q5⟩:=t0c p1 hput;have hst:=hg.st;refine ⟨⟨hst.whole.1,by simpa [setS] using hst.whole.2⟩,hst.clock,fun j z hz => ?_⟩;rw[x0l] at hz;by_cases hij:i=j
 ·subst hij;rw[if_pos rfl,if_pos p3] at hz;cases hz;refine .inr ⟨q1,by rw[q4];exact hg.ev.t0,by rw[q4];exact hg.hi,?_⟩;rintro ⟨_,k,hk,w,hw,hlw,hwl⟩;rw[x0l,if_neg (by omega)] at hw;rw[q5,p2] at hwl;cases hp with
  | found hf hx hl hlv ht =>
   obtain ⟨_,_,_,_,first⟩:=p0x.1 hf;exact first k hk w hw ⟨hwl,hlw⟩
  | room hf hs hr=>exact v0l.1 hf w (List.mem_of_getElem? hw) ⟨hwl,hlw⟩
 ·rw[if_neg hij] at hz;rcases hst.right j z hz with k | ⟨k1,k2,k3,k4⟩
  ·exact .inl k
  ·refine .inr ⟨k1,k2,k3,?_⟩;rintro ⟨hlz,k,hk,w,hw,hlw,hwl⟩;rw[x0l] at hw;by_cases hik:i=k
   ·subst hik;rw[if_pos rfl,if_pos p3] at hw;cases hw;rw[q5,p2] at hwl;cases hp with
    | found hf hx hl hlv ht=>exact k4 ⟨hlz,i,hk,x,hx,hlv,hl.trans hwl⟩
    | room hf hs hr=>exact v0l.1 hf z (List.mem_of_getElem? hz) ⟨hwl.symm,hlz⟩
   ·rw[if_neg hik] at hw;exact k4 ⟨hlz,k,hk,w,hw,hlw,hwl⟩
noncomputable def u1b (s:Sta):Int×Int:=if StaOk s then (mk s,if 35184372088832<mk s+s.1.2.1.1 then 35184372088832 else mk s+s.1.2.1.1) else (0,0)
theorem markV_ok {s:Sta} (h:StaOk s):markV s=mk s∧IntKind.wrap .i64 (mk s+s.1.2.1.1)=mk s+s.1.2.1.1:=by
 have hr:=h.whole.1.rng.w0;have ht:=h.clock.1.2;obtain ⟨m1,m2,m3,m4⟩:=x0q h.clock.1 hr;exact ⟨if_pos ⟨h.whole,h.clock.1⟩,w64 (by omega) (by omega)⟩
theorem t1j (n:Nat) {s:Sta} (hw:StaW s):u0v (n+15) s=some (u1b s):=by
 rw[f1k,o0d n hw,obs,tfn,tfd,stt_mark (n+9) s];unfold u1b;by_cases h:StaOk s
 case neg=>rw[if_neg h,if_neg h,if_neg (show ¬((2:Int)=0) by decide)]
 obtain ⟨e1,e2⟩:=markV_ok h;rw[if_pos h,if_pos h,if_pos rfl,obs,e1,e2]
theorem q1y {s:Sta} {e:Ev} (h:StaOk s) (he:EvOk e):(e.1<(u1b s).1∨(u1b s).2≤e.1)↔(e.1<mk s∨mk s+s.1.2.1.1≤e.1):=by
 have:=he.t1;unfold u1b;rw[if_pos h];simp only;split<;>omega
theorem v1h {s:Sta} (h:Whole s) {l:List Lab} {i:Nat} (hf:q0g s l=some i):v1j s l=((i:Int),0):=by
 unfold v1j;rw[if_pos h,hf]
theorem v1i {s:Sta} (h:Whole s) {l:List Lab} (hf:q0g s l=none):v1j s l=(0,3):=by
 unfold v1j;rw[if_pos h,hf]
theorem t1n {s:Sta} (h:Whole s) {i:Nat} (hf:r0k s=some i):t1p s=((i:Int),0):=by
 unfold t1p;rw[if_pos h,hf]
theorem t1o {s:Sta} (h:Whole s) (hf:r0k s=none):t1p s=(0,7):=by
 unfold t1p;rw[if_pos h,hf]
theorem m1j {s:Sta} {l:List Lab} {e:Ev} (h:StaOk s) (h1:LabOk l) (h2:EvOk e) (h3:¬(e.1<mk s∨mk s+s.1.2.1.1≤e.1)) :
  d0s s l e=match q0g s l with
   | some i=>if e.1≤((s.2.2.2[i]?).getD ser0).2.1 then (0,(false,9)) else ((i:Int),(false,0))
   | none=>if e.2.2.2=true then (0,(false,3)) else match r0k s with | some i=>((i:Int),(true,0)) | none=>(0,(false,7)):=by
 unfold d0s;rw[if_neg (fun k=>k h),if_neg (fun k=>k h1),if_neg (fun k=>k h2),if_neg h3]
 all_goals (cases q0g s l<;>first | rfl | (cases r0k s<;>rfl))
theorem n1s (n:Nat) {s:Sta} (hw:StaW s) (l:List Lab) {e:Ev} (he:EvW e):r0j (n+16) s l e=some (d0s s l e):=by
 rw[b1b,o0d (n+1) hw,obs,tfn,tfd,r0n _ l,e0q _ he,t1j n hw,stt_find (n+5) hw l,stt_room (n+5) hw];by_cases h:StaOk s
 case neg =>
  rw[if_neg h,if_neg (show ¬((2:Int)=0) by decide)];unfold d0s;rw[if_pos h]
 rw[if_pos h,if_pos rfl,obs,tfn,tfd];by_cases h1:LabOk l
 case neg =>
  rw[if_neg h1,if_neg (show ¬((8:Int)=0) by decide)];unfold d0s;rw[if_neg (fun k=>k h),if_pos h1]
 rw[if_pos h1,if_pos rfl,obs,tfn,tfd];by_cases h2:EvOk e
 case neg =>
  rw[if_neg h2,if_neg (show ¬((2:Int)=0) by decide)];unfold d0s;rw[if_neg (fun k=>k h),if_neg (fun k=>k h1),if_pos h2]
 rw[if_pos h2,if_pos rfl,obs,obs,tfd,tfd];by_cases h3:e.1<mk s∨mk s+s.1.2.1.1≤e.1
 ·have ht:d0s s l e=(0,(false,9)):=by
   unfold d0s;rw[if_neg (fun k=>k h),if_neg (fun k=>k h1),if_neg (fun k=>k h2),if_pos h3]
  rw[ht];rcases (q1y h h2).2 h3 with q | q
  ·rw[if_pos q]
  ·by_cases q':e.1<(u1b s).1
   ·rw[if_pos q']
   ·rw[if_neg q',if_pos q]
 have h3':=mt (q1y h h2).1 h3;rw[if_neg (fun k=>h3' (.inl k)),if_neg (fun k=>h3' (.inr k)),m1j h h1 h2 h3,tfd];cases hf:q0g s l with
 | some i =>
  obtain ⟨x,hx,_⟩:=p0x.1 hf;rw[v1h h.whole hf,if_pos rfl,i1j hx,obs,tfd];simp only[hx,Option.getD_some];by_cases h4:e.1≤x.2.1
  ·rw[if_pos h4,if_pos h4]
  ·rw[if_neg h4,if_neg h4];rfl
 | none =>
  rw[v1i h.whole hf,if_neg (show ¬((3:Int)=0) by decide),show (decide (((0:Int),(3:Int)).2=0))=false from rfl,tff];cases hs:e.2.2.2 with
  | true=>rw[tft];simp
  | false =>
   rw[tff,obs];simp only[Bool.false_eq_true,if_false];cases hr:r0k s with
   | some i=>rw[t1n h.whole hr];rfl
   | none=>rw[t1o h.whole hr];rfl
theorem w1n {s:Sta} {l:List Lab} {e:Ev} (h:(d0s s l e).2.2≠0):k0c s l e=(sta0,(d0s s l e).2.2):=by
 unfold k0c;rw[if_pos h]
theorem b2o (n:Nat) (s:List Ser) (h:s.length≤1000000):j0r (n+1) s=some s:=by
 rw[t0a,decide_eq_true (show (0+s.length)*264≤140737488355328 by omega)];simp only[tft,List.nil_append];by_cases h0:s.length=0
 ·rw[decide_eq_true h0,tft,List.length_eq_zero_iff.1 h0,l1w]
 ·rw[decide_eq_false h0,tff]
theorem place_w {s:Sta} (hw:StaW s) {l:List Lab} {e:Ev} (hg:Goes s l e) {i:Nat} {x:Ser} {b:Bool} (hp:PlaceAt s l e i x b):SerW x:=by
 cases hp with
 | found hf hx hl hlv ht=>exact (hw.at hx).1
 | room hf hs hr=>exact q1o (f1v hg.st.whole.1 hg.lab)
theorem w1i {s:Sta} {l:List Lab} {e:Ev} {i:Nat} {x:Ser} {b:Bool} (hp:(d0s s l e).1.toNat=i) (hx:xOf s l (d0s s l e)=x) (h:(d0s s l e).2.2=0) :
  k0c s l e=if (putE s.1 x e).2=0 then (setS s i (putE s.1 x e).1,0) else (sta0,(putE s.1 x e).2):=by
 unfold k0c;rw[if_neg (fun k=>k h),hp,hx];by_cases h1:(putE s.1 x e).2=0
 ·rw[if_neg (fun k=>k h1),if_pos h1]
 ·rw[if_pos h1,if_neg h1]
theorem set_tail {s:Sta} {i:Nat} (hi:i<s.2.2.2.length) (y:Ser) :
  (a0a (at? s.2.2.2 (i:Int)) fun r4=>a0a ((s.2.2.2)[(Int.toNat (i:Int))]?) fun r5=>some ((s.1,(s.2.1,(s.2.2.1,(List.set s.2.2.2 (Int.toNat (i:Int)) y)))),(0:Int)))=some (setS s i y,0):=by
 obtain ⟨z,hz⟩:=l1i hi;rw[i1j hz,obs,Int.toNat_natCast,hz,obs];rfl
theorem w1j (n:Nat) {s:Sta} (hw:StaW s) (l:List Lab) {e:Ev} (he:EvW e):x0z (n+24) s l e=some (k0c s l e):=by
 rw[i1n,n1s (n+7) hw l he,obs,tfn,tfd];by_cases h:(d0s s l e).2.2=0
 case neg=>rw[if_neg h,w1n h];rfl
 obtain ⟨hg,i,x,b,hp,k1,k2,hv⟩:=r1p h;obtain ⟨p1,p2,p3,p4⟩:=x0o hg hp;rw[if_pos h,w1i (b:=b) k1 k2 h,hv,a1q];have hx:(tif b (a0a (l0g (n+22) s.1 l) fun r0=>some r0) (a0a (at? s.2.2.2 (i:Int)) fun r1=>some (r1,(0:Int))))=some (x,0):=by
  cases hp with
  | found hf hx hl hlv ht=>rw[tff,i1j hx,obs]
  | room hf hs hr=>rw[tft,c1q (n+15),o1n hg.st.whole.1 hg.lab,obs]
 simp only;rw[hx,obs,tfn,tfd,if_pos rfl];simp only;rw[c1p n s.1 (place_w hw hg hp) he,obs,tfn,tfd];by_cases h1:(putE s.1 x e).2=0
 case neg=>rw[if_neg h1,if_neg h1];rfl
 rw[if_pos h1,if_pos h1,b2o (n+22) _ (by have:=hg.st.whole.len;omega),obs,set_tail p3]
theorem q1m {c:Conf} {s t:Ser} {e:Ev} (h:SerOk c s) (hp:putE c s e=(t,0)):SerW t∧SerM t:=by
 obtain ⟨q1,q2,q3,q4,q5⟩:=t0c h hp;have hc:=q1.fold.cok.rng;refine ⟨⟨?_,fun x hx=>EvW.of (q1.raw.f.ok x hx),q1.fold.w,?_⟩,?_⟩
 ·have:=q2.t0;have:=q2.t1;rw[q4];unfold I64;omega
 ·rcases q1.st with ⟨_,k⟩ | ⟨_,k⟩
  ·rw[k.opn];exact y0p
  ·have:=k.fit.i0;exact ⟨by unfold I64;omega,.of k.fit.n.ok⟩
 ·have l1:=q1.lab.n1;have l2:=q1.raw.len;have l3:=q1.raw.m1;have:=q1.fold.lens;exact ⟨by omega,by omega,by omega,by omega,by omega⟩
theorem write_w {s t:Sta} (hw:StaW s) {l:List Lab} {e:Ev} {v:Int} (h:k0c s l e=(t,v)):StaW t:=by
 by_cases hv:v=0
 ·subst hv;obtain ⟨hg,i,x,b,y,hp,hput,rfl,_⟩:=x0g h;obtain ⟨p1,p2,p3,p4⟩:=x0o hg hp;have hy:=q1m p1 hput;refine ⟨by simpa [setS] using hw.len,fun z hz => ?_⟩;rcases List.mem_or_eq_of_mem_set hz with k | k
  ·exact hw.ser z k
  ·rw[k];exact hy
 ·have:t=sta0:=by
   unfold k0c at h;split at h
   ·exact (congrArg Prod.fst h).symm
   ·split at h
    ·exact (congrArg Prod.fst h).symm
    ·exact absurd (congrArg Prod.snd h).symm hv
  rw[this];exact x1m
theorem writeV_w {s:Sta} (hw:StaW s) (l:List Lab) (e:Ev):StaW (k0c s l e).1:=write_w hw (v:=(k0c s l e).2) rfl
end Go.Proofs.YtkajechaanmplaaGreatDoor

namespace Go.Plim
open Go.Flat
set_option linter.unusedVariables false
def uvB (n:Nat):List UInt8:=if n<128 then [UInt8.ofNat n] else UInt8.ofNat (n % 128+128)::uvB (n / 128)
termination_by n
decreasing_by omega
theorem k0z {n:Nat} (h:n<128):uvB n=[UInt8.ofNat n]:=by unfold uvB;rw[if_pos h]
theorem s0e {n:Nat} (h:¬n<128):uvB n=UInt8.ofNat (n % 128+128)::uvB (n / 128):=by rw[uvB];rw[if_neg h]
end Go.Plim

namespace Go.Plim
open Go.Flat
set_option linter.unusedVariables false
theorem y1r:∀c:Fin 256,orI .u8 (c.val:Int) 128=(c.val:Int) % 128+128:=by decide +kernel
theorem or128 (v:Int):orI .u8 (IntKind.wrap .u8 v) 128=v % 128+128:=by
 rw[y0a];have h1:=Int.emod_nonneg v (show (256:Int)≠0 by decide);have h2:=Int.emod_lt_of_pos v (show (0:Int)<256 by decide);have:=y1r ⟨(v % 256).toNat,by omega⟩;simp only at this;rw[show (((v % 256).toNat:Nat):Int)=v % 256 by omega] at this;rw[this];omega
theorem shr7 {v:Int} (h:0≤v):shrI .u64 v 7=v / 128:=by
 show v.fdiv (2^(7:Int).toNat)=_;rw[Int.fdiv_eq_ediv_of_nonneg _ (by decide)];rfl
def uvI (v:Int):List Int:=c0d (uvB v.toNat)
theorem w1p {v:Int} (h0:0≤v) (h:v<128):uvI v=[v]:=by
 unfold uvI;rw[k0z (by omega)];simp[c0d];omega
theorem q1d {v:Int} (h0:0≤v) (h:¬v<128):uvI v=(v % 128+128)::uvI (v / 128):=by
 unfold uvI;rw[s0e (by omega)];have e:(v / 128).toNat=v.toNat / 128:=by omega
 rw[e];simp[c0d];omega
end Go.Plim

namespace Go.Proofs.YtkajechaanmplaaGreatDoor
open Go.Flat Go.Plim
set_option linter.unusedVariables false
set_option linter.unusedSimpArgs false
theorem fuel_sw {d f:Nat} (h:d<f):∃g,f=g+1:=⟨f-1,by omega⟩
theorem uint_l (n:Nat):∀(m f:Nat) (w:List Int) (v:Int),v.toNat≤m→0≤v→m<f→w.length+(uvI v).length≤140737488355328 →
  ∃w' v',d0r n f (w,v,())=some (.inl (w',(v',())))∧w'++[v']=w++uvI v∧0≤v'∧v'<128:=by
 intro m;induction m using Nat.strongRecOn with
 | _ m ih =>
  intro f w v hm h0 hf hl;obtain ⟨f,rfl⟩:=fuel_sw hf;rw[n0j,tfd];by_cases h:v<128
  ·rw[if_neg (by omega)];exact ⟨w,v,rfl,by rw[w1p h0 h],h0,h⟩
  ·rw[q1d h0 h] at hl;simp only[List.length_cons] at hl;rw[if_pos (by omega),decide_eq_true (show (w.length+1)*1≤140737488355328 by omega),tft,or128,shr7 h0];obtain ⟨w',v',e1,e2,e3,e4⟩:=ih (v / 128).toNat (by omega) f (w++[v % 128+128]) (v / 128) (Nat.le_refl _) (by omega) (by omega) (by simp only[List.length_append,List.length_singleton];omega);exact ⟨w',v',e1,by rw[e2,q1d h0 h];simp,e3,e4⟩
theorem uint_val (n:Nat) {v:Int} (h0:0≤v) (h1:v≤18446744073709551615) {w:List Int} (hl:w.length+(uvI v).length≤140737488355328):a0o (n+1) w v=some (w++uvI v):=by
 obtain ⟨w',v',e1,e2,e3,e4⟩:=uint_l n v.toNat a0b w v (Nat.le_refl _) h0 (by unfold a0b;omega) hl;have hlen:w'.length+1≤140737488355328:=by
  have:=congrArg List.length e2;simp only[List.length_append,List.length_singleton] at this;omega
 rw[q0h,e1,obs,b0g,decide_eq_true (show (w'.length+1)*1≤140737488355328 by omega),tft,y0a,Int.emod_eq_of_lt e3 (by omega),e2]
theorem j0e (a b:List UInt8):c0d (a++b)=c0d a++c0d b:=by simp[c0d]
theorem e0i (a:List UInt8):(c0d a).length=a.length:=by simp[c0d]
theorem w1q (n:Nat):uvI (n:Int)=c0d (uvB n):=by unfold uvI;rw[Int.toNat_natCast]
theorem raw_val (n:Nat) {w:List Int} {s:List UInt8} (h:w.length+s.length≤140737488355328):i0c (n+1) w s=some (w++c0d s):=by
 rw[r0s,List.length_map,decide_eq_true (show (w.length+s.length)*1≤140737488355328 by omega),tft];rfl
theorem y1n (n:Nat) (w:List Int):f0n (n+1) w=some (toB w,w):=by rw[r0t];rfl
theorem s1c:∀c:Fin 256,(andI .u8 (c.val:Int) 128=0↔c.val<128)∧n0o .u8 (c.val:Int) 128=((c.val % 128:Nat):Int):=by decide +kernel
theorem h0w {x:Nat} (h:x<18446744073709551616):(BitVec.ofInt 64 (x:Int)).toNat=x:=by
 rw[BitVec.ofInt_natCast,BitVec.toNat_ofNat];exact Nat.mod_eq_of_lt (by simpa using h)
theorem or_nat {x y:Nat} (hx:x<18446744073709551616) (hy:y<18446744073709551616):orI .u64 (x:Int) (y:Int)=((x ||| y:Nat):Int):=by
 have:x ||| y<2^64:=Nat.or_lt_two_pow (by omega) (by omega)
 show IntKind.wrap .u64 (((BitVec.ofInt 64 (x:Int) ||| BitVec.ofInt 64 (y:Int)).toNat:Nat):Int)=_;rw[BitVec.toNat_or,h0w hx,h0w hy,wu64 (by omega) (by omega)]
theorem y1p {a b i:Nat} (hi:i≤9) (ha:a<128^i) (hb:a+b*128^i<18446744073709551616) (h128:b<128):orI .u64 (a:Int) (shlI .u64 (IntKind.wrap .u64 (b:Int)) ((7*i:Nat):Int))=((a+b*128^i:Nat):Int):=by
 have e:(128:Nat)^i=2^(7*i):=by rw[Nat.pow_mul]
 have e1:shlI .u64 (IntKind.wrap .u64 (b:Int)) ((7*i:Nat):Int)=((b*128^i:Nat):Int):=by
  unfold shlI;rw[wu64 (x:=(b:Int)) (by omega) (by omega),Int.toNat_natCast,show min (7*i) (IntKind.u64).bits=7*i by show min (7*i) 64=_;omega,show (b:Int)*2^(7*i)=((b*128^i:Nat):Int) by rw[e];push_cast;rfl];exact wu64 (by omega) (by omega)
 rw[e1,or_nat (by omega) (by omega)];congr 1;rw[Nat.or_comm,Nat.mul_comm,e];rw[e] at ha;rw[←Nat.two_pow_add_eq_or_of_lt ha,Nat.mul_comm];omega
theorem y1g:∀i:Fin 10,(128:Nat)^i.val≤9223372036854775808:=by decide
theorem pow_nine {i:Nat} (h:i≤9):(128:Nat)^i≤9223372036854775808:=y1g ⟨i,by omega⟩
theorem q1e (c:Nat) (h:c<256):((UInt8.ofNat c).toNat:Nat)=c:=by simp;omega
theorem ten_min2 (k:Nat):(if (10:Int)<((k:Nat):Int) then (10:Int) else ((k:Nat):Int))=((min 10 k:Nat):Int):=by split<;>omega
theorem m1k (n:Nat) (V:Nat) (hV:V<18446744073709551616) (t:List UInt8) (r:List UInt8) (m:Nat) (hm:m=min 10 r.length):∀(d i a u f:Nat) (pre:List UInt8),i+d=10→r=pre++(uvB u++t)→pre.length=i→a<128^i→V=a+u*128^i→(0<i→0<u)→d<f →
  c0o n f ((r,false),((a:Nat):Int),((m:Nat):Int),((i:Nat):Int),())=some (.inr ((V:Int),(t,false))):=by
 intro d;induction d with
 | zero =>
  intro i a u f pre hid hr hp ha hVu hu hf;exfalso;have hu1:0<u:=hu (by omega);have e:i=10:=by omega
  subst e;have:(128:Nat)^10=1180591620717411303424:=by decide
  rw[this] at hVu;have:=Nat.le_mul_of_pos_left 1180591620717411303424 hu1;omega
 | succ d ih =>
  intro i a u f pre hid hr hp ha hVu hu hf;obtain ⟨f,rfl⟩:∃g,f=g+1:=⟨f-1,by omega⟩;have hi9:i≤9:=by omega
  have hpw:=pow_nine hi9;have hpp:0<(128:Nat)^i:=Nat.pow_pos (by omega);have hub:0<(uvB u).length:=by
   by_cases h:u<128
   ·rw[k0z h];simp
   ·rw[s0e h];simp
  have hrl:r.length=i+(uvB u).length+t.length:=by rw[hr];simp;omega
  have c3:¬((7:Int)*(i:Int)<0):=by omega
  have hw7:IntKind.wrap .i64 ((7:Int)*((i:Nat):Int))=((7*i:Nat):Int):=by rw[w64 (by omega) (by omega)];push_cast;rfl
  have hw1:IntKind.wrap .i64 (((i:Nat):Int)+1)=((i+1:Nat):Int):=by rw[w64 (by omega) (by omega)];push_cast;rfl
  rw[n0k,decide_eq_true (show ((i:Nat):Int)<((m:Nat):Int) by omega),tft];by_cases h:u<128
  ·have hat:at? r ((i:Nat):Int)=some (UInt8.ofNat u):=b0z (pre:=pre) (rest:=t) (by rw[hr,k0z h];rfl) (by omega);have hb:=s1c ⟨u,by omega⟩;dsimp only at hb;have hlt:a+u*128^i<18446744073709551616:=by omega
   have ho:=y1p hi9 ha hlt h;have hnot:¬(i=9∧1<u):=by
    rintro ⟨e,h1⟩;subst e;have e9:(128:Nat)^9=9223372036854775808:=by decide
    rw[e9] at hlt;have:=Nat.mul_le_mul_right 9223372036854775808 (show 2≤u by omega);omega
   have hd:List.drop (i+1) r=t:=by rw[hr,k0z h,←List.append_assoc];exact List.drop_left' (by simp;omega)
   dsimp only;rw[hat,obs,q1e u (by omega),hb.2,Nat.mod_eq_of_lt h,hw7,ho,hw1,Int.toNat_natCast,List.take_length,hd,decide_eq_true (show andI .u8 (u:Int) 128=0 from hb.1.2 h)];simp only[tfd,Bool.not_true,tff];rw[if_neg (by omega)];have fin:(if ((u:Nat):Int)=0 then if (0:Int)<((i:Nat):Int) then some (.inl ((r,false),())) else if (0:Int)≤((i+1:Nat):Int) then if i+1≤r.length then some (.inr (((a+u*128^i:Nat):Int),(t,false))) else none else none
     else if (0:Int)≤((i+1:Nat):Int) then if i+1≤r.length then some (.inr (((a+u*128^i:Nat):Int),(t,false))) else none else none:Option (((List UInt8×Bool)×Unit) ⊕ (Int×(List UInt8×Bool))))=some (.inr ((V:Int),(t,false))):=by
    have hA:(if (0:Int)≤((i+1:Nat):Int) then (if i+1≤r.length then (some (.inr (((a+u*128^i:Nat):Int),(t,false))):Option (((List UInt8×Bool)×Unit) ⊕ (Int×(List UInt8×Bool)))) else none) else none)=some (.inr ((V:Int),(t,false))):=by
     rw[if_pos (show (0:Int)≤((i+1:Nat):Int) by omega),if_pos (show i+1≤r.length by omega),←hVu]
    rw[hA];by_cases h0:((u:Nat):Int)=0
    ·rw[if_pos h0,if_neg (fun k=>by have:=hu (by omega);omega)]
    ·rw[if_neg h0]
   by_cases h9:((i:Nat):Int)=9
   ·rw[if_pos h9,if_neg (fun k=>hnot ⟨by omega,by omega⟩)];exact fin
   ·rw[if_neg h9];exact fin
  ·have hmod:u % 128+128<256:=by omega
   have hat:at? r ((i:Nat):Int)=some (UInt8.ofNat (u % 128+128)):=b0z (pre:=pre) (rest:=uvB (u / 128)++t) (by rw[hr,s0e h];simp) (by omega);have hb:=s1c ⟨u % 128+128,hmod⟩;dsimp only at hb;rw[show (u % 128+128) % 128=u % 128 by omega] at hb;have hdm:u=128*(u / 128)+u % 128:=(Nat.div_add_mod u 128).symm;have hsplit:u*128^i=u % 128*128^i+u / 128*128^(i+1):=by
    rw[Nat.pow_succ]
    conv=>lhs;rw[hdm]
    rw[Nat.add_mul,Nat.add_comm,Nat.mul_comm 128 (u / 128),Nat.mul_assoc,Nat.mul_comm 128 (128^i)]
   have hlt:a+u % 128*128^i<18446744073709551616:=by omega
   have ho:=y1p hi9 ha hlt (by omega);have h9:¬((i:Nat):Int)=9:=by
    intro e;have e:i=9:=by omega
    subst e;have e9:(128:Nat)^9=9223372036854775808:=by decide
    rw[e9] at hVu;have:=Nat.mul_le_mul_right 9223372036854775808 (show 128≤u by omega);omega
   dsimp only;rw[hat,obs,q1e _ hmod,hb.2,hw7,ho,hw1,decide_eq_false (show ¬andI .u8 ((u % 128+128:Nat):Int) 128=0 from fun k=>by have:=hb.1.1 k;omega)];simp only[tfd,Bool.not_false,tft];rw[if_neg (by omega),if_neg h9];refine ih (i+1) (a+u % 128*128^i) (u / 128) f (pre++[UInt8.ofNat (u % 128+128)]) (by omega) (by rw[hr,s0e h];simp) (by simp;omega) ?_ (by rw[Nat.add_assoc,←hsplit];exact hVu) (fun _=>by omega) (by omega);rw[Nat.pow_succ,Nat.mul_comm _ 128];have:u % 128*128^i≤127*128^i:=Nat.mul_le_mul_right _ (by omega);omega
theorem j0h (n:Nat) {V:Nat} (hV:V<18446744073709551616) (t:List UInt8):b0r (n+2) (uvB V++t,false)=some ((V:Int),(t,false)):=by
 rw[q0j,ten_min2];have:=m1k (n+1) V hV t (uvB V++t) (min 10 (uvB V++t).length) rfl 10 0 0 V a0b [] rfl rfl rfl (by simp) (by simp) (fun k=>absurd k (by omega)) (by unfold a0b;omega);dsimp only;rw[show ((0:Int))=(((0:Nat):Nat):Int) from rfl];rw[this,obs,o0i]
def zz (d:Int):Nat:=if 0≤d then (2*d).toNat else (-2*d-1).toNat
theorem w1e {d:Int} (h0 : -9223372036854775808≤d) (h1:d≤9223372036854775807):zz d<18446744073709551616:=by unfold zz;split<;>omega
theorem w1f {x y:Nat} (hx:x<18446744073709551616) (hy:y<18446744073709551616):xorI .u64 (x:Int) (y:Int)=((x ^^^ y:Nat):Int):=by
 have:x ^^^ y<2^64:=Nat.xor_lt_two_pow (by omega) (by omega);show IntKind.wrap .u64 (((BitVec.ofInt 64 (x:Int) ^^^ BitVec.ofInt 64 (y:Int)).toNat:Nat):Int)=_;rw[BitVec.toNat_xor,h0w hx,h0w hy,wu64 (by omega) (by omega)]
theorem q1a {x:Nat} (hx:x<18446744073709551616):x ^^^ 18446744073709551615=18446744073709551615-x:=by
 have h:=congrArg BitVec.toNat (BitVec.xor_allOnes (x:=BitVec.ofNat 64 x));rw[BitVec.toNat_xor,BitVec.toNat_not,BitVec.toNat_allOnes,BitVec.toNat_ofNat,Nat.mod_eq_of_lt (by simpa using hx)] at h
 simpa using h
theorem zz_write {d:Int} (h0 : -9223372036854775808≤d) (h1:d≤9223372036854775807):xorI .u64 (shlI .u64 (IntKind.wrap .u64 d) 1) (IntKind.wrap .u64 (shrI .i64 d 63))=((zz d:Nat):Int):=by
 have e63:shrI .i64 d 63=if 0≤d then 0 else -1:=by
  unfold shrI;rw[show min (Int.toNat 63) (IntKind.i64).bits=63 from rfl,Int.fdiv_eq_ediv_of_nonneg _ (by decide)];split
  ·exact Int.ediv_eq_zero_of_lt (by omega) (by omega)
  ·omega
 have es:shlI .u64 (IntKind.wrap .u64 d) 1=IntKind.wrap .u64 (IntKind.wrap .u64 d*2):=rfl;rw[e63,es];unfold zz;by_cases h:0≤d
 ·rw[if_pos h,if_pos h,wu64 (x:=d) (by omega) (by omega),wu64 (x:=d*2) (by omega) (by omega),wu64 (x:=0) (by decide) (by decide)];have:=w1f (x:=(2*d).toNat) (y:=0) (by omega) (by decide);rw[Nat.xor_zero] at this;rw[show d*2=(((2*d).toNat:Nat):Int) by omega];exact this
 ·rw[if_neg h,if_neg h,show IntKind.wrap .u64 (-1)=((18446744073709551615:Nat):Int) by decide,IntKind.wrap_u64 d,IntKind.wrap_u64];have e:d % 18446744073709551616*2 % 18446744073709551616=(((18446744073709551616+2*d).toNat:Nat):Int):=by omega
  rw[e,w1f (by omega) (by decide),q1a (by omega)];congr 1;omega
theorem c2l {x y:Nat} (hx:x<18446744073709551616) (hy:y<18446744073709551616):andI .u64 (x:Int) (y:Int)=((x &&& y:Nat):Int):=by
 have:x &&& y<2^64:=Nat.and_lt_two_pow _ (by omega);show IntKind.wrap .u64 (((BitVec.ofInt 64 (x:Int) &&& BitVec.ofInt 64 (y:Int)).toNat:Nat):Int)=_;rw[BitVec.toNat_and,h0w hx,h0w hy,wu64 (by omega) (by omega)]
theorem and_one {x:Nat} (hx:x<18446744073709551616):andI .u64 (x:Int) (1:Int)=((x % 2:Nat):Int):=by
 have:=c2l hx (y:=1) (by decide);rw[Nat.and_one_is_mod] at this;exact this
theorem p1w {x:Nat} (hx:x<18446744073709551616):andI .u64 (x:Int) (2:Int)=((2*(x / 2 % 2):Nat):Int):=by
 have:=c2l hx (y:=2) (by decide);have e:x &&& 2=2*(x / 2 % 2):=by
  have h1:(x &&& 2) / 2=x / 2 &&& 1:=Nat.and_div_two;rw[Nat.and_one_is_mod] at h1;have h2:(x &&& 2).testBit 0=false:=by rw[Nat.testBit_and];simp
  rw[Nat.testBit_zero] at h2;have h2:=of_decide_eq_false h2;omega
 rw[e] at this;exact this
theorem y1q {k f:Nat} (hk:4*k+f<18446744073709551616) (hf:f<4):orI .u64 ((4*k:Nat):Int) (f:Int)=((4*k+f:Nat):Int):=by
 rw[or_nat (by omega) (by omega)];congr 1;exact (Nat.two_pow_add_eq_or_of_lt (i:=2) (by simpa using hf) k).symm
theorem zz_read {d:Int} (h0 : -9223372036854775808≤d) (h1:d≤9223372036854775807):xorI .i64 (IntKind.wrap .i64 (shrI .u64 ((zz d:Nat):Int) 1)) (IntKind.wrap .i64 ((0:Int)-(IntKind.wrap .i64 (andI .u64 ((zz d:Nat):Int) 1))))=d:=by
 have hz:=w1e h0 h1;rw[and_one hz];have es:shrI .u64 ((zz d:Nat):Int) 1=((zz d / 2:Nat):Int):=by
  unfold shrI;rw[show min (Int.toNat 1) (IntKind.u64).bits=1 from rfl,Int.fdiv_eq_ediv_of_nonneg _ (by decide)];omega
 rw[es,w64 (x:=((zz d / 2:Nat):Int)) (by omega) (by omega),w64 (x:=((zz d % 2:Nat):Int)) (by omega) (by omega),w64 (x:=(0:Int)-((zz d % 2:Nat):Int)) (by omega) (by omega)];have hx:∀m:Nat,m<9223372036854775808→xorI .i64 (m:Int) (-1) = -(m:Int)-1:=by
  intro m hm;show IntKind.wrap .i64 (((BitVec.ofInt 64 (m:Int) ^^^ BitVec.ofInt 64 (-1)).toNat:Nat):Int)=_;rw[BitVec.toNat_xor,h0w (by omega),show (BitVec.ofInt 64 (-1)).toNat=18446744073709551615 from rfl,q1a (by omega),IntKind.wrap_i64];omega
 have h0':∀m:Nat,m<9223372036854775808→xorI .i64 (m:Int) 0=(m:Int):=by
  intro m hm;show IntKind.wrap .i64 (((BitVec.ofInt 64 (m:Int) ^^^ BitVec.ofInt 64 0).toNat:Nat):Int)=_;rw[BitVec.toNat_xor,h0w (by omega),show (BitVec.ofInt 64 0).toNat=0 from rfl,Nat.xor_zero,w64 (by omega) (by omega)]
 unfold zz at *
 by_cases h:0≤d
 ·rw[if_pos h] at hz ⊢;rw[show (2*d).toNat % 2=0 by omega,show (2*d).toNat / 2=d.toNat by omega];have:=h0' d.toNat (by omega);rw[show (0:Int)-((0:Nat):Int)=0 from rfl,this];omega
 ·rw[if_neg h] at hz ⊢;rw[show (-2*d-1).toNat % 2=1 by omega,show (-2*d-1).toNat / 2=(-d-1).toNat by omega];have:=hx (-d-1).toNat (by omega);rw[show (0:Int)-((1:Nat):Int) = -1 from rfl,this];omega
theorem uvB_len:∀(k n:Nat),n<128^(k+1)→(uvB n).length≤k+1:=by
 intro k;induction k with
 | zero=>intro n h;rw[k0z (by simpa using h)];simp
 | succ k ih =>
  intro n h;by_cases h1:n<128
  ·rw[k0z h1];simp
  ·rw[s0e h1];have:=ih (n / 128) (by rw[Nat.div_lt_iff_lt_mul (by decide),←Nat.pow_succ];exact h);simp only[List.length_cons];omega
theorem i0a {n:Nat} (h:n<18446744073709551616):(uvB n).length≤10:=uvB_len 9 n (Nat.lt_of_lt_of_le h (by decide))
theorem y0f (n:Nat) {v:Nat} (hv:v<18446744073709551616) {w:List Int} (hl:w.length≤10000000):a0o (n+1) w (v:Int)=some (w++c0d (uvB v)):=by
 have h1:=i0a hv;have:=uint_val n (v:=(v:Int)) (by omega) (by omega) (w:=w) (by rw[w1q,e0i];omega)
 rwa [w1q] at this
theorem int_w (n:Nat) {d:Int} (h0 : -9223372036854775808≤d) (h1:d≤9223372036854775807) {w:List Int} (hl:w.length≤10000000):d0f (n+2) w d=some (w++c0d (uvB (zz d))):=by
 rw[r0u,zz_write h0 h1,y0f n (w1e h0 h1) hl,obs]
theorem r1m (n:Nat) {d:Int} (h0 : -9223372036854775808≤d) (h1:d≤9223372036854775807) (t:List UInt8):i0d (n+3) (uvB (zz d)++t,false)=some (d,(t,false)):=by
 rw[r0v,j0h n (w1e h0 h1),obs];dsimp only;rw[zz_read h0 h1]
def difD (v:Int) (e:Ev):Int:=IntKind.wrap .i64 (IntKind.wrap .u64 (e.2.1-v))
theorem h1l (v:Int) (e:Ev) : -9223372036854775808≤difD v e∧difD v e≤9223372036854775807:=by
 unfold difD;rw[IntKind.wrap_i64];omega
def a2l (e:Ev):Nat:=(if e.2.2.2=true then 1 else 0)+(if 0<e.2.2.1 then 2 else 0)
def evD (t v:Int) (e:Ev):List UInt8 :=
 uvB (4*(e.1-t).toNat+a2l e)++((if e.2.2.2=true then [] else uvB (zz (difD v e)))++(if 0<e.2.2.1 then uvB (e.1-e.2.2.1).toNat else []))
def r0m (v:Int) (e:Ev):Int×Int:=(e.1,if e.2.2.2=true then v else e.2.1)
theorem a2u (t v:Int) {e:Ev} (ht:0≤t) (he:EvOk e):(evD t v e).length≤30:=by
 have h1:=he.t1;have h0:=he.t0;have c0:=he.c0;have a:=i0a (n:=4*(e.1-t).toNat+a2l e) (by unfold a2l;split<;>split<;>omega);have hd:=h1l v e;have b:=i0a (w1e hd.1 hd.2);have c:=i0a (n:=(e.1-e.2.2.1).toNat) (by omega);unfold evD;simp only[List.length_append];split<;>split<;>simp<;>omega
theorem m1d (n:Nat) {t v:Int} {e:Ev} (ht:0≤t) (hte:t≤e.1) (he:EvOk e) {w:List Int} (hw:w.length≤1000000):j0z (n+3) (t,v) w e=some (r0m v e,w++c0d (evD t v e)):=by
 have h1:=he.t1;have h0:=he.t0;have c0:=he.c0;have c1:=he.c1;have hd:=h1l v e;have hk:IntKind.wrap .u64 ((4:Int)*(IntKind.wrap .u64 (IntKind.wrap .i64 (e.1-t))))=((4*(e.1-t).toNat:Nat):Int):=by
  rw[w64 (by omega) (by omega),wu64 (x:=e.1-t) (by omega) (by omega),wu64 (by omega) (by omega)];omega
 have hC:IntKind.wrap .u64 (IntKind.wrap .i64 (e.1-e.2.2.1))=(((e.1-e.2.2.1).toNat:Nat):Int):=by
  rw[w64 (by omega) (by omega),wu64 (by omega) (by omega)];omega
 have lz:=i0a (w1e hd.1 hd.2);have o1:orI .u64 ((4*(e.1-t).toNat:Nat):Int) (1:Int)=((4*(e.1-t).toNat+1:Nat):Int):=y1q (k:=(e.1-t).toNat) (f:=1) (by omega) (by decide);have o2:orI .u64 ((4*(e.1-t).toNat:Nat):Int) (2:Int)=((4*(e.1-t).toNat+2:Nat):Int):=y1q (k:=(e.1-t).toNat) (f:=2) (by omega) (by decide);rw[t0y];unfold evD r0m a2l;dsimp only;rw[hk,hC];cases hs:e.2.2.2 with
 | true =>
  have hc:¬0<e.2.2.1:=by have:=(he.st hs).2;omega
  rw[tft,decide_eq_false hc,tff,o1,y0f (n+1) (by omega) (by omega),obs,Bool.not_true,tff,tff];simp[hc]
 | false =>
  rw[tff];by_cases hc:0<e.2.2.1
  ·have lf:=i0a (n:=4*(e.1-t).toNat+2) (by omega);rw[decide_eq_true hc,tft,o2,y0f (n+1) (by omega) (by omega),obs,Bool.not_false,tft];have:=int_w n (w:=w++c0d (uvB (4*(e.1-t).toNat+2))) hd.1 hd.2 (by rw[List.length_append,e0i];omega);unfold difD at this;rw[this,obs,tft,y0f (n+1) (by omega) (by
    unfold difD at lz
    rw[List.length_append,List.length_append,e0i,e0i];omega),obs]
   simp[hc,j0e,difD]
  ·have lf:=i0a (n:=4*(e.1-t).toNat) (by omega);rw[decide_eq_false hc,tff,y0f (n+1) (by omega) (by omega),obs,Bool.not_false,tft];have:=int_w n (w:=w++c0d (uvB (4*(e.1-t).toNat))) hd.1 hd.2 (by rw[List.length_append,e0i];omega);unfold difD at this;rw[this,obs,tff];simp[hc,j0e,difD]
theorem t1r (n:Nat) {t v:Int} {e:Ev} (ht:0≤t) (hte:t≤e.1) (hv:0≤v∧v≤18446744073709551615) (he:EvOk e) (r:List UInt8):k0y (n+4) (t,v) (evD t v e++r,false)=some (e,(r0m v e,(r,false))):=by
 have h1:=he.t1;have h0:=he.t0;have c0:=he.c0;have c1:=he.c1;have v0:=he.v0;have v1:=he.v1;have hd:=h1l v e;have hV:IntKind.wrap .u64 (v+IntKind.wrap .u64 (difD v e))=e.2.1:=by
  unfold difD;rw[IntKind.wrap_u64,IntKind.wrap_i64,IntKind.wrap_u64,IntKind.wrap_u64];omega
 have hT:∀f:Nat,f<4→IntKind.wrap .i64 (t+(IntKind.wrap .i64 (IntKind.wrap .u64 (Int.tdiv ((4*(e.1-t).toNat+f:Nat):Int) (4:Int)))))=e.1:=by
  intro f hf;rw[Int.tdiv_eq_ediv_of_nonneg (by omega),show ((4*(e.1-t).toNat+f:Nat):Int) / 4=e.1-t by omega,wu64 (by omega) (by omega),w64 (x:=e.1-t) (by omega) (by omega),w64 (by omega) (by omega)];omega
 have hC:IntKind.wrap .i64 (e.1-IntKind.wrap .i64 (((e.1-e.2.2.1).toNat:Nat):Int))=e.2.2.1:=by
  rw[w64 (x:=(((e.1-e.2.2.1).toNat:Nat):Int)) (by omega) (by omega),w64 (by omega) (by omega)];omega
 obtain ⟨T,V,C,S⟩:=e;dsimp only at *
 unfold evD r0m a2l;dsimp only;rw[v0o];cases S with
 | true =>
  have hst:=he.st rfl;dsimp only at hst;obtain ⟨hV0,hC0⟩:=hst;subst hV0 hC0;simp only[if_true,List.nil_append,List.append_nil];rw[show (if (0:Int)<0 then 2 else 0:Nat)=0 from rfl,show (if (0:Int)<0 then uvB (T-0).toNat else [])=[] from rfl,List.append_nil,Nat.add_zero,j0h (n+1) (by omega),obs];dsimp only;rw[and_one (by omega),p1w (by omega),show (4*(T-t).toNat+1) % 2=1 by omega,show 2*((4*(T-t).toNat+1) / 2 % 2)=0 by omega,hT 1 (by decide)];rfl
 | false =>
  simp only[Bool.false_eq_true,if_false];by_cases hc:0<C
  ·rw[if_pos hc,if_pos hc,Nat.zero_add,List.append_assoc,List.append_assoc,j0h (n+1) (by omega),obs];dsimp only;rw[and_one (by omega),p1w (by omega),show (4*(T-t).toNat+2) % 2=0 by omega,show 2*((4*(T-t).toNat+2) / 2 % 2)=2 by omega,hT 2 (by decide),r1m n hd.1 hd.2];rw[show (!!decide ((((0:Nat):Nat):Int)=0))=true from rfl,tft,obs,show (!decide ((((2:Nat):Nat):Int)=0))=true from rfl,tft];dsimp only;rw[j0h (n+1) (by omega),obs];dsimp only;rw[hV,hC];rfl
  ·have hC0:C=0:=by omega
   subst hC0;rw[if_neg hc,if_neg hc,show (0+0:Nat)=0 from rfl,List.append_nil,List.append_assoc,j0h (n+1) (by omega),obs];dsimp only;have hT0:=hT 0 (by decide);rw[and_one (by omega),p1w (by omega),show (4*(T-t).toNat+0) % 2=0 by omega,show 2*((4*(T-t).toNat+0) / 2 % 2)=0 by omega,hT0,r1m n hd.1 hd.2];rw[show (!!decide ((((0:Nat):Nat):Int)=0))=true from rfl,tft,obs,show (!decide ((((0:Nat):Nat):Int)=0))=false from rfl,tff];dsimp only;rw[hV]
def evsD:Int→Int→List Ev→List UInt8
 | _,_,[]=>[]
 | t,v,e::r=>evD t v e++evsD (r0m v e).1 (r0m v e).2 r
theorem nextD_v {v:Int} {e:Ev} (hv:0≤v∧v≤18446744073709551615) (he:EvOk e):0≤(r0m v e).2∧(r0m v e).2≤18446744073709551615:=by
 unfold r0m;dsimp only;split
 ·exact hv
 ·exact ⟨he.v0,he.v1⟩
theorem evsD_len:∀(l:List Ev) (t v:Int),0≤t→(∀e∈l,EvOk e)→(evsD t v l).length≤30*l.length:=by
 intro l;induction l with
 | nil=>intro t v _ _;simp[evsD]
 | cons e l ih =>
  intro t v ht h;have he:=h e (by simp);have a:=a2u t v ht he;have b:=ih (r0m v e).1 (r0m v e).2 he.t0 fun x hx=>h x (by simp[hx])
  rw[evsD,List.length_append,List.length_cons];omega
theorem check_l4 (n:Nat) {l:List Ev} (hw:∀e∈l,EvW e) (hok:∀e∈l,EvOk e) (hL:l.length≤1000000):∀(rest pre:List Ev) (f:Nat) (i:Int),l=pre++rest→i=pre.length→rest.length<f →
  h0p (n+1) f (l,l,(l.length:Int),i,())=some (.inl (l,())):=by
 intro rest;induction rest with
 | nil =>
  intro pre f i hl hi hf;obtain ⟨f,rfl⟩:∃g,f=g+1:=⟨f-1,by simp at hf;omega⟩;rw[l0t];simp only[tfd,if_neg (idxe hl hi rfl)]
 | cons x rest ih =>
  intro pre f i hl hi hf;obtain ⟨f,rfl⟩:∃g,f=g+1:=⟨f-1,by simp at hf;omega⟩;have hlen:=congrArg List.length hl;simp at hlen;have hx:x∈l:=by rw[hl];simp
  rw[l0t,decide_eq_true (idx hl hi rfl),tft,b0z hl hi,obs,e0q n (hw x hx),if_pos (hok x hx),obs,decide_eq_true rfl,Bool.not_true,tff,w64 (x:=i+1) (by omega) (by omega)];exact ih (pre++[x]) f (i+1) (idxl hl) (idxs hi) (by simp at hf;omega)
theorem b2r (n:Nat) {l:List Ev} (hw:∀e∈l,EvW e) (hok:∀e∈l,EvOk e) (hp:l.Pairwise fun a b=>a.1<b.1) (hL:l.length≤1000000):∀(rest pre:List Ev) (p:Ev) (f:Nat) (i:Int),l=pre++p::rest→i=pre.length+1→rest.length<f →
  g0h (n+3) f (l,i,())=some (.inl ()):=by
 intro rest;induction rest with
 | nil =>
  intro pre p f i hl hi hf;obtain ⟨f,rfl⟩:∃g,f=g+1:=⟨f-1,by simp at hf;omega⟩;have hlen:=congrArg List.length hl;simp at hlen;rw[g0g,decide_eq_false (by omega),tff]
 | cons x rest ih =>
  intro pre p f i hl hi hf;obtain ⟨f,rfl⟩:∃g,f=g+1:=⟨f-1,by simp at hf;omega⟩;have hlen:=congrArg List.length hl;simp at hlen;have hl2:l=(pre++[p])++x::rest:=by rw[hl];simp
  have hpm:p∈l:=by rw[hl];simp
  have hxm:x∈l:=by rw[hl];simp
  have hlt:p.1<x.1:=by
   rw[hl] at hp;exact (List.pairwise_cons.1 (List.pairwise_append.1 hp).2.1).1 x (by simp)
  rw[g0g,decide_eq_true (by omega),tft,w64 (x:=i-1) (by omega) (by omega),b0z hl (show i-1=(pre.length:Int) by omega),obs,b0z hl2 (show i=((pre++[p]).length:Int) by simp;omega),obs,
   k0k n (hw p hpm) (hw x hxm),obs,decide_eq_true ⟨hok p hpm,hok x hxm,hlt⟩,Bool.not_true,tff,w64 (x:=i+1) (by omega) (by omega)]
  exact ih (pre++[p]) x f (i+1) hl2 (by simp;omega) (by simp at hf;omega)
theorem b1r (n:Nat) {l:List Ev} (hw:∀e∈l,EvW e) (hok:∀e∈l,EvOk e) (hp:l.Pairwise fun a b=>a.1<b.1) (hL:l.length≤4096):r0r (n+4) l=some 0:=by
 rw[b1s,decide_eq_false (by omega),tff,check_l4 (n+2) hw hok (by omega) l [] a0b 0 rfl rfl (by unfold a0b;omega),obs,b0g];dsimp only;cases l with
 | nil =>
  obtain ⟨g,hg⟩:∃g,a0b=g+1:=⟨a0b-1,by unfold a0b;omega⟩;rw[hg,g0g,decide_eq_false (by simp),tff,obs,b0g]
 | cons p r =>
  rw[b2r n hw hok hp (by omega) r [] p a0b 1 rfl (by simp) (by simp at hL;unfold a0b;omega),obs,b0g]
theorem bytes_l8 (n:Nat) {l:List Ev} (hok:∀e∈l,EvOk e) (hL:l.length≤4096):∀(rest pre:List Ev) (f:Nat) (i:Int) (w:List Int) (t v:Int),l=pre++rest→i=pre.length→rest.length<f→w.length≤100+30*pre.length→0≤t→(∀e∈rest,t≤e.1)→rest.Pairwise (fun a b=>a.1<b.1) →
  h0q (n+3) f (w,(t,v),l,(l.length:Int),i,())=some (.inl (w++c0d (evsD t v rest),())):=by
 intro rest;induction rest with
 | nil =>
  intro pre f i w t v hl hi hf hw ht hte hp;obtain ⟨f,rfl⟩:∃g,f=g+1:=⟨f-1,by simp at hf;omega⟩;rw[l0u];simp only[tfd,if_neg (idxe hl hi rfl)];simp[evsD,c0d]
 | cons x rest ih =>
  intro pre f i w t v hl hi hf hw ht hte hp;obtain ⟨f,rfl⟩:∃g,f=g+1:=⟨f-1,by simp at hf;omega⟩;have hlen:=congrArg List.length hl;simp at hlen;have hx:=hok x (by rw[hl];simp);have hl30:=a2u t v ht hx;rw[List.pairwise_cons] at hp;rw[l0u,decide_eq_true (idx hl hi rfl),tft,b0z hl hi,obs,m1d n ht (hte x (by simp)) hx (by omega),obs,w64 (x:=i+1) (by omega) (by omega)]
  have:=ih (pre++[x]) f (i+1) (w++c0d (evD t v x)) (r0m v x).1 (r0m v x).2 (idxl hl) (idxs hi) (by simp at hf;omega) (by rw[List.length_append,e0i,List.length_append,List.length_singleton];omega) hx.t0 (fun e he=>Int.le_of_lt (hp.1 e he)) hp.2;refine this.trans ?_;rw[evsD,j0e,List.append_assoc]
theorem z0z (n:Nat) {l:List Ev} (hw:∀e∈l,EvW e) (hok:∀e∈l,EvOk e) (hp:l.Pairwise fun a b=>a.1<b.1) (hL:l.length≤4096):h0a (n+5) l=some (uvB l.length++evsD 0 0 l,0):=by
 rw[b1t,b1r n hw hok hp hL,obs,decide_eq_true rfl,Bool.not_true,tff,wu64 (x:=((l.length:Nat):Int)) (by omega) (by omega),y0f (n+3) (by omega) (by simp),obs,List.nil_append];have h10:=i0a (n:=l.length) (by omega);have:=bytes_l8 (n+1) hok hL l [] a0b 0 (c0d (uvB l.length)) 0 0 rfl rfl (by unfold a0b;omega) (by rw[e0i];omega) (by decide) (fun e he=>(hok e he).t0) hp;rw[this,obs,b0g];dsimp only;rw[y1n,obs,←j0e,c1b]
theorem read_l5 (n:Nat) (s:List UInt8) {l:List Ev} (hok:∀e∈l,EvOk e) (hL:l.length≤4096):∀(rest pre:List Ev) (f:Nat) (t v:Int),l=pre++rest→rest.length<f→0≤t→(0≤v∧v≤18446744073709551615)→(∀e∈rest,t≤e.1)→rest.Pairwise (fun a b=>a.1<b.1) →
  i0y (n+4) f (s,(evsD t v rest,false),(t,v),pre,((rest.length:Nat):Int),())=some (.inl (s,(([],false),(l,())))):=by
 intro rest;induction rest with
 | nil =>
  intro pre f t v hl hf ht hv hte hp;obtain ⟨f,rfl⟩:∃g,f=g+1:=⟨f-1,by simp at hf;omega⟩;rw[n0v,decide_eq_false (by simp),tff,show pre=l by rw[hl,List.append_nil]];rfl
 | cons x rest ih =>
  intro pre f t v hl hf ht hv hte hp;obtain ⟨f,rfl⟩:∃g,f=g+1:=⟨f-1,by simp at hf;omega⟩;have hlen:=congrArg List.length hl;simp at hlen;have hx:=hok x (by rw[hl];simp);rw[List.pairwise_cons] at hp;rw[n0v,decide_eq_true (by simp),tft,f0p,obs,Bool.not_false,tft,decide_eq_true (by omega),tft,evsD,t1r n ht (hte x (by simp)) hv hx,obs,decide_eq_true (by omega),tft];dsimp only;rw[show IntKind.wrap .u64 ((((x::rest).length:Nat):Int)-1)=((rest.length:Nat):Int) by rw[List.length_cons,wu64 (by omega) (by omega)];omega]
  exact ih (pre++[x]) f (r0m v x).1 (r0m v x).2 (idxl hl) (by simp at hf;omega) hx.t0 (nextD_v hv hx) (fun e he=>Int.le_of_lt (hp.1 e he)) hp.2
theorem v1q (n:Nat) {l:List Ev} (hw:∀e∈l,EvW e) (hok:∀e∈l,EvOk e) (hp:l.Pairwise fun a b=>a.1<b.1) (hL:l.length≤4096):v0p (n+6) (uvB l.length++evsD 0 0 l)=some (l,0):=by
 rw[h1m,u0d,obs,j0h (n+3) (by omega),obs];dsimp only;rw[read_l5 (n+1) _ hok hL l [] a0b 0 0 rfl (by unfold a0b;omega) (by decide) ⟨by decide,by decide⟩ (fun e he=>(hok e he).t0) hp,obs,b0g];dsimp only;rw[z0z n hw hok hp hL,obs,f0p,obs,tff,decide_eq_true rfl,Bool.not_true,tff,beq_self_eq_true,Bool.not_true,tff]
noncomputable def tabE (a b:Option (El (tup (List.replicate 256 (.int .u32))))):Bool:=match a,b with | some x,some y=>decide (tupL 256 x=tupL 256 y) | _,_=>false
theorem x1b {a b:Option (El (tup (List.replicate 256 (.int .u32))))} (h:tabE a b=true):∃x y,a=some x∧b=some y∧tupL 256 x=tupL 256 y:=by
 cases a with
 | none=>cases h
 | some x =>
  cases b with
  | none=>cases h
  | some y=>exact ⟨x,y,rfl,rfl,of_decide_eq_true h⟩
set_option maxRecDepth 100000 in
theorem a1z (n:Nat):tabE (l0h (n+3)) (l0h 3)=true:=by kernel_rfl
noncomputable def x1w:List Int:=match l0h 3 with | some r=>tupL 256 r | none=>[]
theorem j1p (n:Nat):∃r,l0h (n+3)=some r∧x1w=tupL 256 r:=by
 obtain ⟨x,y,hx,hy,h⟩:=x1b (a1z n);refine ⟨x,hx,?_⟩;unfold x1w;rw[hy,h]
theorem x1v:x1w.length=256:=by
 obtain ⟨r,_,h⟩:=j1p 0;rw[h];exact tupL_len 256 r
theorem seal_u8 (x:Int):0≤IntKind.wrap .u8 x∧IntKind.wrap .u8 x≤255:=by rw[IntKind.wrap_u8];omega
noncomputable def sealP (t:List Int) (v x:Int):Int:=xorI .u32 (shrI .u32 v 8) ((t[(xorI .u8 (IntKind.wrap .u8 v) x).toNat]?).getD 0)
theorem n1p (n:Nat) {t:List Int} (ht:t.length=256) {L:List Int} (hL:L.length≤1000000000):∀(rest pre:List Int) (f:Nat) (i v:Int),L=pre++rest→i=pre.length→rest.length<f→j0t n f (t,v,L,(L.length:Int),i,())=some (.inl (rest.foldl (sealP t) v,())):=by
 intro rest;induction rest with
 | nil =>
  intro pre f i v hl hi hf;obtain ⟨f,rfl⟩:∃g,f=g+1:=⟨f-1,by simp at hf;omega⟩;rw[q0v];simp only[tfd,if_neg (idxe hl hi rfl)];rfl
 | cons x rest ih =>
  intro pre f i v hl hi hf;obtain ⟨f,rfl⟩:∃g,f=g+1:=⟨f-1,by simp at hf;omega⟩;have hlen:=congrArg List.length hl;simp at hlen;have IH:=ih (pre++[x]) f (i+1) (sealP t v x) (idxl hl) (idxs hi) (by simp at hf;omega);have hr:0≤xorI .u8 (IntKind.wrap .u8 v) x∧xorI .u8 (IntKind.wrap .u8 v) x≤255:=seal_u8 _;rw[q0v,decide_eq_true (idx hl hi rfl),tft,b0z hl hi,obs];rw[List.foldl_cons];unfold sealP at IH ⊢;generalize xorI .u8 (IntKind.wrap .u8 v) x=b at *
  rw[u0j,if_pos (by simp only[Bool.and_eq_true,decide_eq_true_eq];omega)];have hb:b.toNat<t.length:=by omega
  rw[List.getElem?_eq_getElem hb] at IH ⊢;rw[obs,w64 (x:=i+1) (by omega) (by omega)];exact IH
noncomputable def sealS (s:List UInt8):Int:=xorI .u32 ((c0d s).foldl (sealP x1w) 4294967295) 4294967295
theorem j1j (n:Nat) {s:List UInt8} (hs:s.length≤1000000000):f1h (n+4) s=some (sealS s):=by
 obtain ⟨r,h1,h2⟩:=j1p n;have hw:=n1p (n+3) x1v (L:=c0d s) (by rw[e0i];exact hs) (c0d s) [] a0b 0 4294967295 rfl rfl (by rw[e0i];unfold a0b;omega);rw[n1q,h1,obs,decide_eq_true (by decide),tft,←h2]
 change a0a (j0t (n+3) a0b (x1w,4294967295,c0d s,((c0d s).length:Int),0,())) _=_
 rw[hw,obs,b0g];rfl
noncomputable def t1i (s:List UInt8):List UInt8:=[0,1,2,3].map fun k:Int=>UInt8.ofNat (Int.toNat (IntKind.wrap .u8 (shrI .u32 (sealS s) (IntKind.wrap .i64 ((8:Int)*k)))))
theorem j1q (s:List UInt8):(t1i s).length=4:=rfl
theorem t0d (n:Nat) {s:List UInt8} (hs:s.length≤1000000000):t0e (n+5) s=some (t1i s):=by
 obtain ⟨g,hg⟩:∃g,a0b=g+1+1+1+1+1:=⟨a0b-5,by unfold a0b;omega⟩;have e0:IntKind.wrap .i64 ((0:Int)+1)=1:=by decide
 have e1:IntKind.wrap .i64 ((1:Int)+1)=2:=by decide
 have e2:IntKind.wrap .i64 ((2:Int)+1)=3:=by decide
 have e3:IntKind.wrap .i64 ((3:Int)+1)=4:=by decide
 rw[j1k,j1j n hs,obs,hg];unfold t1i;generalize sealS s=w;rw[e0p,decide_eq_true (by decide),tft,decide_eq_false (by decide),tff,decide_eq_true (by decide),tft,e0];rw[e0p,decide_eq_true (by decide),tft,decide_eq_false (by decide),tff,decide_eq_false (by decide),tff,decide_eq_true (by decide),tft,e1];rw[e0p,decide_eq_true (by decide),tft,decide_eq_false (by decide),tff,decide_eq_false (by decide),tff,decide_eq_false (by decide),tff,decide_eq_true (by decide),tft,e2]
 rw[e0p,decide_eq_true (by decide),tft,decide_eq_false (by decide),tff,decide_eq_false (by decide),tff,decide_eq_false (by decide),tff,decide_eq_false (by decide),tff,decide_eq_true (by decide),tft,e3];rw[e0p,decide_eq_false (by decide),tff,obs,b0g];rfl
theorem a2m (n:Nat) {k:Nat} (hk:k<256):g0j (n+1) [] (1:Int) ((k:Nat):Int)=some [((k:Nat):Int)]:=by
 obtain ⟨g,hg⟩:∃g,a0b=g+1+1:=⟨a0b-2,by unfold a0b;omega⟩;rw[o0y,decide_eq_false (by decide),tff,decide_eq_false (by decide),tff,show IntKind.wrap .i64 ((8:Int)*(IntKind.wrap .i64 ((1:Int)-(1:Int))))=0 by decide,hg,
  f0y,decide_eq_true (by decide),tft,decide_eq_false (by decide),tff,decide_eq_true (by decide),tft,show IntKind.wrap .i64 ((0:Int)-8) = -8 by decide,
  f0y,decide_eq_false (by decide),tff,obs,b0g]
 have es:shrI .u64 ((k:Nat):Int) 0=((k:Nat):Int):=by
  unfold shrI;rw[show min (Int.toNat 0) (IntKind.u64).bits=0 from rfl,Int.fdiv_eq_ediv_of_nonneg _ (by decide)];omega
 dsimp only;rw[es,wu8 (by omega) (by omega)];rfl
def c0i (k:Nat) (load:List UInt8):List UInt8:=UInt8.ofNat k::(uvB load.length++load)
theorem a2e (n:Nat) {k:Nat} (hk:k<256) {load:List UInt8} (hl:load.length≤1000000):p0p (n+6) ((k:Nat):Int) load=some (c0i k load++t1i (c0i k load),0):=by
 have h10:=i0a (n:=load.length) (by omega);have hfl:(c0i k load).length≤1000011:=by unfold c0i;simp only[List.length_cons,List.length_append];omega
 have h1:=t0d n (s:=c0i k load) (by omega);have h2:=j1q (c0i k load);have hb:c0d (c0i k load)=[((k:Nat):Int)]++c0d (uvB load.length)++c0d load:=by
  unfold c0i;rw[show UInt8.ofNat k::(uvB load.length++load)=[UInt8.ofNat k]++(uvB load.length++load) from rfl,j0e,j0e,←List.append_assoc];have hone:c0d [UInt8.ofNat k]=[((k:Nat):Int)]:=by simp only[c0d,List.map_cons,List.map_nil,q1e k hk]
  rw[hone]
 rw[f1i,decide_eq_false (by omega),tff,wu64 (x:=((k:Nat):Int)) (by omega) (by omega),a2m (n+4) hk,obs,q0i,wu64 (x:=((load.length:Nat):Int)) (by omega) (by omega),y0f (n+3) (by omega) (by simp),obs,
  raw_val (n+3) (by simp only[List.length_append,List.length_singleton,e0i];omega),obs,obs,←hb,y1n,obs]
 dsimp only;rw[c1b,h1,obs,decide_eq_true (by omega),tft]
theorem u1u (n:Nat) {load:List UInt8} (hl:load.length≤1000000) (r:List UInt8) (hr:r.length≤10000000):r0i (n+3) (uvB load.length++r)=some ((load.length:Int),(((uvB load.length).length:Int),0)):=by
 have h10:=i0a (n:=load.length) (by omega);rw[b1a,u0d,obs,j0h n (by omega),obs,f0p,obs];dsimp only;rw[Bool.not_false,tft,decide_eq_false (by omega),tff,obs,Bool.not_false,tft,q0k,obs];dsimp only;rw[w64 (x:=((load.length:Nat):Int)) (by omega) (by omega),List.length_append,w64 (by omega) (by omega)];congr 3;omega
theorem u1k (n:Nat) {k:Nat} (hk:k<256) {load:List UInt8} (hl:load.length≤1000000):t0f (n+7) ((k:Nat):Int) (c0i k load++t1i (c0i k load))=some (load,0):=by
 have h10:=i0a (n:=load.length) (by omega);have hfb:(c0i k load).length≤1000011:=by unfold c0i;simp only[List.length_cons,List.length_append];omega
 have h1:=t0d n (s:=c0i k load) (by omega);have h2:=j1q (c0i k load);generalize t1i (c0i k load)=m at *
 have hfl:(c0i k load++m).length=1+(uvB load.length).length+load.length+4:=by unfold c0i;simp only[List.length_cons,List.length_append];omega
 have hd1:List.drop 1 (List.take (c0i k load++m).length (c0i k load++m))=uvB load.length++(load++m):=by
  rw[List.take_length];unfold c0i;simp
 have e1:IntKind.wrap .i64 ((1:Int)+((uvB load.length).length:Int))=((1+(uvB load.length).length:Nat):Int):=by rw[w64 (by omega) (by omega)];push_cast;rfl
 have e2:IntKind.wrap .i64 (((1+(uvB load.length).length:Nat):Int)+(load.length:Int))=((1+(uvB load.length).length+load.length:Nat):Int):=by rw[w64 (by omega) (by omega)];push_cast;rfl
 have e3:IntKind.wrap .i64 (((1+(uvB load.length).length+load.length:Nat):Int)+4)=((1+(uvB load.length).length+load.length+4:Nat):Int):=by rw[w64 (by omega) (by omega)];push_cast;rfl
 have t1:List.drop 0 (List.take (1+(uvB load.length).length+load.length) (c0i k load++m))=c0i k load:=by
  rw[List.drop_zero];exact List.take_left' (by unfold c0i;simp;omega)
 have t2:List.drop (1+(uvB load.length).length+load.length) (List.take (1+(uvB load.length).length+load.length+4) (c0i k load++m))=m:=by
  rw[List.take_of_length_le (by omega)];exact List.drop_left' (by unfold c0i;simp;omega)
 have t3:List.drop (1+(uvB load.length).length) (List.take (1+(uvB load.length).length+load.length) (c0i k load++m))=load:=by
  rw[List.take_left' (by unfold c0i;simp;omega)];unfold c0i;rw[show 1+(uvB load.length).length=(UInt8.ofNat k::uvB load.length).length by simp;omega,show UInt8.ofNat k::(uvB load.length++load)=(UInt8.ofNat k::uvB load.length)++load from rfl];exact List.drop_left
 have t4:List.drop (1+(uvB load.length).length+load.length+4) (List.take (c0i k load++m).length (c0i k load++m))=[]:=by
  rw[List.take_length];exact List.drop_eq_nil_of_le (by omega)
 have hat:at? (c0i k load++m) (0:Int)=some (UInt8.ofNat k):=by unfold c0i;rfl
 rw[j1o,j1m,show ((c0i k load++m)==[])=false by unfold c0i;rfl,tff,decide_eq_true (by omega),tft,hd1,u1u (n+2) hl (load++m) (by rw[List.length_append];omega),obs];dsimp only;rw[decide_eq_true rfl,Bool.not_true,tff,e1,e2,e3,decide_eq_false (by rw[w64 (by omega) (by omega)];omega),tff,u0j,if_pos (by simp only[Bool.and_eq_true,decide_eq_true_eq];omega)];rw[Int.toNat_natCast,t1,h1,obs,decide_eq_true (by omega),tft,u0j,if_pos (by simp only[Bool.and_eq_true,decide_eq_true_eq];omega),Int.toNat_natCast,t2,beq_self_eq_true,Bool.not_true,tff,hat,obs,
  decide_eq_true (by omega),tft,u0j,if_pos (by simp only[Bool.and_eq_true,decide_eq_true_eq];omega),decide_eq_true (by omega),tft,decide_eq_true (by omega),tft,Int.toNat_natCast,t3,t4,q1e k hk,obs]
 dsimp only;rw[decide_eq_true rfl,Bool.not_true,tff,decide_eq_true rfl,Bool.not_true,tff];rfl
def Moves (s:Sta) (now:Int):Prop:=StaOk s∧s.2.1<now∧now<35184372088832
noncomputable instance (s now):Decidable (Moves s now):=Classical.propDecidable _
def w1x (s:Sta) (now:Int):Sta:=(s.1,(now,s.2.2))
noncomputable def tickV (s:Sta) (now:Int):Sta×Bool:=if Moves s now then (w1x s now,true) else (s,false)
theorem csc_tick (n:Nat) {s:Sta} (hw:StaW s) (now:Int):h1p (n+15) s now=some (tickV s now):=by
 rw[p1j,o0d n hw];unfold tickV;simp only[tfd,tfn,obs];by_cases h:Moves s now
 ·rw[if_neg (by have:=h.2.1;omega),if_neg (by have:=h.2.2;omega),if_pos h.1,if_pos rfl,if_pos h];rfl
 ·rw[if_neg h];by_cases h1:now≤s.2.1
  ·rw[if_pos h1]
  rw[if_neg h1];by_cases h2:35184372088832≤now
  ·rw[if_pos h2]
  rw[if_neg h2,if_neg (fun k:StaOk s=>h ⟨k,by omega,by omega⟩)];rfl
theorem tickS_w {s:Sta} (hw:StaW s) (now:Int):StaW (w1x s now):=⟨hw.len,hw.ser⟩
theorem tick_ok {s:Sta} {now:Int} (h:Moves s now):StaOk (w1x s now):=by
 obtain ⟨h,h1,h2⟩:=h;have t0:=h.clock.1.1;have hr:=h.whole.1.rng.w0;refine ⟨h.whole,⟨⟨by show 0≤now;omega,h2⟩,h.clock.2.1,by have:=h.clock.2.2;show s.2.2.1≤now;omega⟩,fun i x hx => ?_⟩;rcases h.right i x hx with k | ⟨k1,k2,k3,k4⟩
 ·exact .inl k
 ·refine .inr ⟨k1,k2,?_,k4⟩;have:mk s≤mk (w1x s now):=Int.mul_le_mul_of_nonneg_right (Int.ediv_le_ediv (by omega) (by show s.2.1≤now;omega)) (by omega);show x.2.1<mk (w1x s now)+s.1.2.1.1;omega
theorem old_none {now w m:Int} (h:OfP now w) (hm:1≤m∧m≤4096):(oldV now w m).2=0:=by
 unfold oldV;rw[if_pos ⟨h,hm.1,hm.2⟩]
structure Ends3 (c:Conf) (s:Ser):Prop where
 t0:s.2.1 = -1∨b0e s.2.2.2.1.1 (s.2.1 / c.2.1.1)∧CellN s.2.2.2.2.2∧s.2.2.2.2.2.2.1.1 / c.2.1.1=s.2.1 / c.2.1.1
 t1:s.2.1 = -1∨∃m,now1 c s=(m,0)∧b0e s.2.2.2.1.2.1 (s.2.1 / c.2.1.2.1)∧CellN m∧m.2.1.1 / c.2.1.2.1=s.2.1 / c.2.1.2.1
 t2:s.2.1 = -1∨∃m,now2 c s=(m,0)∧b0e s.2.2.2.1.2.2 (s.2.1 / c.2.1.2.2)∧CellN m∧m.2.1.1 / c.2.1.2.2=s.2.1 / c.2.1.2.2
noncomputable def p1f (s:Sta) (i:Nat):Bool:=match s.2.2.2[i]? with | some x=>b1u s.1 x.2.1 s.2.1 | none=>false
noncomputable def dueV (s:Sta):List Nat:=if StaOk s then (t0o s).filter (p1f s) else []
def c1c (s:Sta):Sta:=(s.1,(s.2.1,(s.2.1,s.2.2.2)))
theorem swept_lv {s:Sta} {x:Ser} (h:StaOk s):LvX (c1c s) x↔x≠ser0∧b1u s.1 x.2.1 s.2.1=false:=by
 have:=h.clock.1.1;constructor
 ·rintro ⟨h1,h2 | h2⟩
  ·exfalso;have h2:s.2.1 = -1:=h2;omega
  ·exact ⟨h1,h2⟩
 ·rintro ⟨h1,h2⟩;exact ⟨h1,.inr h2⟩
theorem old_mono {a b w m:Int} (ha:OfP a w) (hb:OfP b w) (hab:a≤b) (hm:1≤m∧m≤4096):(oldV a w m).1≤(oldV b w m).1:=by
 unfold oldV;rw[if_pos (show OfP a w∧1≤m∧m≤4096 from ⟨ha,hm.1,hm.2⟩),if_pos (show OfP b w∧1≤m∧m≤4096 from ⟨hb,hm.1,hm.2⟩)];have:a / w≤b / w:=Int.ediv_le_ediv (by have:=ha.2.2.1;omega) hab;simp only;split<;>split<;>omega
theorem z0q {t a b w m:Int} (ha:OfP a w) (hb:OfP b w) (hab:a≤b) (hm:1≤m∧m≤4096) (h:z0r t a w m=true):z0r t b w m=true:=by
 unfold z0r at *
 have h:=of_decide_eq_true h;have:=old_mono ha hb hab hm;exact decide_eq_true ⟨h.1,old_none hb hm,by omega⟩
theorem b2i {c:Conf} {t a b:Int} (ha:r0y a) (hb:r0y b) (hab:a≤b) (h:b1u c t a=true):b1u c t b=true:=by
 unfold b1u at *
 simp only[Bool.and_eq_true,decide_eq_true_eq] at h ⊢;obtain ⟨hc,h0,h1,h2⟩:=h;have hr:=hc.rng;exact ⟨hc,z0q ⟨ha.1,ha.2,hr.w0.1,hr.w0.2⟩ ⟨hb.1,hb.2,hr.w0.1,hr.w0.2⟩ hab hr.n0 h0,z0q ⟨ha.1,ha.2,hr.w1.1,hr.w1.2⟩ ⟨hb.1,hb.2,hr.w1.1,hr.w1.2⟩ hab hr.n1 h1,z0q ⟨ha.1,ha.2,hr.w2.1,hr.w2.2⟩ ⟨hb.1,hb.2,hr.w2.1,hr.w2.2⟩ hab hr.n2 h2⟩
theorem q1i {s:Sta} (h:StaOk s) {x:Ser} (hl:LvX (c1c s) x):LvX s x:=by
 obtain ⟨h1,h2⟩:=(swept_lv h).1 hl;refine ⟨h1,?_⟩;rcases h.clock.2.1 with k | k
 ·exact .inl k
 ·refine .inr ?_;cases hd:b1u s.1 x.2.1 s.2.2.1 with
  | false=>rfl
  | true=>rw[b2i k h.clock.1 h.clock.2.2 hd] at h2;cases h2
theorem swept_ok {s:Sta} (h:StaOk s):StaOk (c1c s):=by
 refine ⟨h.whole,⟨h.clock.1,.inr h.clock.1,Int.le_refl _⟩,fun i x hx => ?_⟩;rcases h.right i x hx with k | ⟨k1,k2,k3,k4⟩
 ·exact .inl k
 ·refine .inr ⟨k1,k2,k3,?_⟩;rintro ⟨q1,j,q2,y,q3,q4,q5⟩;exact k4 ⟨q1i h q1,j,q2,y,q3,q1i h q4,q5⟩
noncomputable def t0i (c:Conf):Ser→List Ev→Option Ser
 | x,[]=>some x
 | x,e::r=>if (putE c x e).2=0 then t0i c (putE c x e).1 r else none
theorem z0a (c:Conf):∀(es:List Ev) (x y z:Ser) (e:Ev),t0i c x es=some y→putE c y e=(z,0)→t0i c x (es++[e])=some z:=by
 intro es;induction es with
 | nil =>
  intro x y z e h1 h2;injection h1 with h1;subst h1;show (if (putE c x e).2=0 then t0i c (putE c x e).1 [] else none)=_;rw[h2];rfl
 | cons f es ih =>
  intro x y z e h1 h2;show (if (putE c x f).2=0 then t0i c (putE c x f).1 (es++[e]) else none)=_;have h1:(if (putE c x f).2=0 then t0i c (putE c x f).1 es else none)=some y:=h1;split at h1
  ·rename_i h;rw[if_pos h];exact ih _ _ _ _ h1 h2
  ·cases h1
noncomputable def fresh (c:Conf) (l:List Lab):Ser:=(l,(-1,(r0w,(emp c,s0))))
theorem o1a {r:Rw} {room:Int} {e:Ev} (h:(k0h r room e).2=0):(k0h r room e).1=g0w r room e:=by
 unfold k0h at h ⊢;split at h
 ·rename_i h1;rw[if_pos h1];split at h
  ·rename_i h2;rw[if_pos h2];split at h
   ·cases h
   ·rename_i h3;rw[if_neg h3]
  ·cases h
 ·cases h
theorem put_raw {c:Conf} {x y:Ser} {e:Ev} (h:putE c x e=(y,0)):y.2.2.1=g0w x.2.2.1 c.1 e:=by
 unfold putE at h;split at h
 case isFalse=>have:=congrArg Prod.snd h;cases this
 split at h
 ·have:=congrArg Prod.snd h;cases this
 split at h
 ·rename_i h1;exact absurd (congrArg Prod.snd h) h1
 split at h
 ·rename_i h1;exact absurd (congrArg Prod.snd h) h1
 rename_i h1;split at h
 ·rename_i h2;exact absurd (congrArg Prod.snd h) h2
 have:=congrArg Prod.fst h;dsimp only at this;rw[←this];exact o1a (Decidable.byContradiction fun k=>h1 k)
def Made (c:Conf) (x:Ser):Prop:=∃es:List Ev,es≠[]∧t0i c (fresh c x.1) es=some x∧(x.2.2.1.1=0→x.2.2.1.2.2=es)
theorem made_put {s t:Sta} {l:List Lab} {e:Ev} (hm:∀x∈s.2.2.2,x=ser0∨Made s.1 x) (h:k0c s l e=(t,0)):∀x∈t.2.2.2,x=ser0∨Made t.1 x:=by
 obtain ⟨hg,i,x,b,y,hp,hput,rfl,_⟩:=x0g h;obtain ⟨p1,p2,p3,p4⟩:=x0o hg hp;obtain ⟨q1,q2,q3,q4,q5⟩:=t0c p1 hput;have hr:=put_raw hput;have hroom:=hg.st.whole.1.rng.raw;intro z hz;obtain ⟨j,hj⟩:=List.mem_iff_getElem?.1 hz;rw[x0l] at hj;by_cases hij:i=j
 case neg =>
  rw[if_neg hij] at hj;exact hm z (List.mem_of_getElem? hj)
 rw[if_pos hij,if_pos p3] at hj;injection hj with hj;subst hj;refine .inr ?_;show Made s.1 y;cases hp with
 | found hf hx hl hlv ht =>
  rcases hm x (List.mem_of_getElem? hx) with k | ⟨es,k1,k2,k3⟩
  ·exact absurd k hlv.1
  ·refine ⟨es++[e],by simp,by rw[q5];exact z0a s.1 es _ _ _ _ k2 hput,fun h0 => ?_⟩;rw[hr] at h0 ⊢;unfold g0w at h0 ⊢;have hl0:=p1.raw.l0;split at h0
   ·rename_i h1;rw[if_pos h1];dsimp only at h0 ⊢;rw[k3 h0]
   ·dsimp only at h0;omega
 | room hf hs hr' =>
  refine ⟨[e],by simp,by rw[q5];exact z0a s.1 [] _ _ _ _ rfl hput,fun h0 => ?_⟩;rw[hr];unfold g0w;rw[if_pos (show (((r0w:Rw).2.2.length:Nat):Int)<s.1.1 by show ((0:Nat):Int)<_;omega)];rfl
theorem lvAt_iff {s:Sta} {i:Nat}:lvAt s i=true↔∃x,s.2.2.2[i]? = some x∧LvX s x:=by
 unfold lvAt;cases s.2.2.2[i]? with
 | none=>simp
 | some x=>simp
theorem chk_ok {α:Type} {s:Sta} (h:StaOk s) (x y:α):tif (decide ((if StaOk s then (0:Int) else 2)=0)) x y=x:=by rw[if_pos h];rfl
theorem chk_no {α:Type} {s:Sta} (h:¬StaOk s) (x y:α):tif (decide ((if StaOk s then (0:Int) else 2)=0)) x y=y:=by rw[if_neg h];rfl
theorem at_nn {α:Type} {l:List α} {i:Int} {x:α} (h0:0≤i) (h:l[i.toNat]? = some x):at? l i=some x:=by unfold at?;rw[decide_eq_true h0];exact h
section
variable {del:Int×Unit→Option Bool} {p:Int→Bool} {L:List Int} (hd:∀x∈L,del (x,())=some (p x))
include hd
theorem index_il (n:Nat) (l:List Int) (hL:l.length≤1000000):∀(rest pre:List Int) (f:Nat) (i len:Int),(∀x∈rest,x∈L)→l=pre++rest→i=pre.length→len=l.length→rest.length<f →
  (c0y n f (l,del,len,i,())=some (.inl ())∧∀x∈rest,p x=false) ∨
  (∃A x B,rest=A++x::B∧(∀y∈A,p y=false)∧p x=true∧c0y n f (l,del,len,i,())=some (.inr (i+A.length))):=by
 intro rest;induction rest with
 | nil =>
  intro pre f i len hm hl hi hn hf;obtain ⟨f,rfl⟩:∃g,f=g+1:=⟨f-1,by simp at hf;omega⟩;rw[g0p];exact .inl ⟨by simp only[tfd,if_neg (idxe hl hi hn)],by simp⟩
 | cons x rest ih =>
  intro pre f i len hm hl hi hn hf;obtain ⟨f,rfl⟩:∃g,f=g+1:=⟨f-1,by simp at hf;omega⟩;rw[g0p];simp only[tfd,if_pos (idx hl hi hn),b0z hl hi,obs,hd x (hm x (by simp)),idxw hl hi (show l.length≤1000000000000 by omega)];cases hp:p x with
  | true=>exact .inr ⟨[],x,rest,rfl,by simp,hp,by simp⟩
  | false =>
   rw[tff];rcases ih (pre++[x]) f (i+1) len (fun y hy=>hm y (by simp[hy])) (idxl hl) (idxs hi) hn (by simp at hf;omega) with ⟨h1,h2⟩ | ⟨A,y,B,h1,h2,h3,h4⟩
   ·exact .inl ⟨h1,by intro z hz;rcases List.mem_cons.1 hz with rfl | hz;exact hp;exact h2 z hz⟩
   ·refine .inr ⟨x::A,y,B,by rw[h1];rfl,?_,h3,by rw[h4,List.length_cons,show i+1+(A.length:Int)=i+((A.length+1:Nat):Int) by omega]⟩;intro z hz;rcases List.mem_cons.1 hz with rfl | hz
    ·exact hp
    ·exact h2 z hz
theorem b2h (n:Nat) (l0:List Int) (hL:l0.length≤1000000):∀(rest F G:List Int) (f:Nat) (i j:Int),(∀x∈rest,x∈L)→(F++(G++rest)).length=l0.length→G≠[]→i=F.length→j=F.length+G.length→rest.length<f →
  ∃G',c0l n f (F++(G++rest),del,i,j,())=some (.inl (F++rest.filter (fun x => !p x)++G',(F++rest.filter (fun x => !p x)).length,()))∧(F++rest.filter (fun x => !p x)++G').length=l0.length:=by
 intro rest;induction rest with
 | nil =>
  intro F G f i j hm hl hg hi hj hf;obtain ⟨f,rfl⟩:∃g,f=g+1:=⟨f-1,by simp at hf;omega⟩;rw[g0c];have:¬(j<((F++(G++[])).length:Int)):=by simp;omega
  simp only[tfd,if_neg this];exact ⟨G,by simp[hi],by simpa using hl⟩
 | cons x rest ih =>
  intro F G f i j hm hl hg hi hj hf;have hm':∀y∈rest,y∈L:=fun y hy=>hm y (by simp[hy])
  obtain ⟨f,rfl⟩:∃g,f=g+1:=⟨f-1,by simp at hf;omega⟩;rw[g0c];simp only[List.length_append,List.length_cons] at hl;have hlt:j<((F++(G++x::rest)).length:Int):=by simp;omega
  have hat:at? (F++(G++x::rest)) j=some x:=b0z (pre:=F++G) (rest:=rest) (by simp) (by simp;omega);have hget:(F++(G++x::rest))[j.toNat]? = some x:=by
   rw[show j.toNat=F.length+G.length by omega,List.getElem?_append_right (by omega),List.getElem?_append_right (by omega)];simp
  simp only[tfd,if_pos hlt,hat,hget,obs,hd x (hm x (by simp))];have wj:IntKind.wrap .i64 (j+1)=j+1:=by rw[w64 (by omega) (by omega)]
  have wi:IntKind.wrap .i64 (i+1)=i+1:=by rw[w64 (by omega) (by omega)]
  rw[wj,wi]
  match G,hg with
  | g::G,_ =>
  cases hp:p x with
  | false =>
   have hat':at? (F++(g::G++x::rest)) i=some g:=b0z (pre:=F) (rest:=G++x::rest) (by simp) hi;have hget':(F++(g::G++x::rest))[i.toNat]? = some g:=by
    rw[show i.toNat=F.length by omega];simp
   have hset:(F++(g::G++x::rest)).set i.toNat x=(F++[x])++((G++[x])++rest):=by
    rw[show i.toNat=F.length by omega,List.set_append_right _ _ (by omega)];simp
   simp only[Bool.not_false,tft,hat',hget',obs,hset];obtain ⟨G',h1,h2⟩:=ih (F++[x]) (G++[x]) f (i+1) (j+1) hm' (by simp at hl ⊢;omega) (by simp) (by simp;omega) (by simp at hj ⊢;omega) (by simp at hf;omega);refine ⟨G',?_,?_⟩
   ·rw[h1];simp[List.filter_cons,hp]
   ·rw[←h2];simp[List.filter_cons,hp]
  | true =>
   simp only[Bool.not_true,tff];obtain ⟨G',h1,h2⟩:=ih F (g::G++[x]) f i (j+1) hm' (by simp at hl ⊢;omega) (by simp) hi (by simp at hj ⊢;omega) (by simp at hf;omega);simp only[List.append_assoc,List.singleton_append] at h1;refine ⟨G',?_,?_⟩
   ·rw[h1];simp[List.filter_cons,hp]
   ·rw[←h2];simp[List.filter_cons,hp]
theorem v1r (n:Nat) (l:List Int) (hL:l.length≤1000000) (hm:∀x∈l,x∈L):g0t (n+2) l del=some (l.filter fun x => !p x):=by
 rw[q0e,r0h];rcases index_il hd n l hL l [] a0b 0 l.length hm rfl rfl rfl (by unfold a0b;omega) with ⟨h1,h2⟩ | ⟨A,x,B,h1,h2,h3,h4⟩
 ·rw[h1];simp only[obs,b0g,tfd,if_pos trivial];exact congrArg some (List.filter_eq_self.2 fun y hy=>by simp[h2 y hy]).symm
 ·rw[h4];have hl:l.length=A.length+(B.length+1):=by rw[h1];simp
  simp only[obs,o0i,tfd,Int.zero_add];rw[if_neg (by omega),w64 (x:=(A.length:Int)+1) (by omega) (by omega)];obtain ⟨G',g1,g2⟩:=b2h hd (n+1) l hL B A [x] a0b (A.length:Int) (A.length+1) (fun y hy=>hm y (by rw[h1];simp[hy])) (by rw[h1];simp) (by simp) rfl (by simp) (by unfold a0b;omega);rw[show A++([x]++B)=l by rw[h1];simp] at g1;rw[g1];have hF:A++B.filter (fun x => !p x)=l.filter fun x => !p x:=by
   rw[h1,List.filter_append,List.filter_cons];have:A.filter (fun x => !p x)=A:=List.filter_eq_self.2 fun y hy=>by simp[h2 y hy]
   simp[h3,this]
  rw[hF] at g2 ⊢;generalize (l.filter fun x => !p x)=F at *
  simp only[obs,b0g,u0k,tfd,Int.toNat_natCast];have hle:F.length≤(F++G').length:=by simp
  have k1:putRow (F++G') F.length (List.replicate ((F++G').length-F.length) (0:Int))=F++List.replicate ((F++G').length-F.length) (0:Int):=by
   unfold putRow;rw[List.drop_of_length_le (by simp)];simp
  rw[k1,if_pos (by omega),if_pos hle,if_pos (by omega),if_pos (by omega),if_pos (by simp;omega)];simp
end
theorem live_at {s:Sta} {z:Int} (h:z∈(t0o s).map Int.ofNat):0≤z∧∃y,s.2.2.2[z.toNat]? = some y∧LvX s y:=by
 obtain ⟨i,hi,rfl⟩:=List.mem_map.1 h;have h1:=(List.mem_filter.1 hi).2;obtain ⟨x,hx,hl⟩:=lvAt_iff.1 h1;exact ⟨Int.natCast_nonneg i,x,hx,hl⟩
theorem m1r (n:Nat) {s:Sta} {z:Int} {x:Ser} (h0:0≤z) (hx:s.2.2.2[z.toNat]? = some x):j0n (n+7) z s=some (!p1f s z.toNat):=by
 rw[a1u,at_nn h0 hx,obs,y0v n,obs];unfold p1f;rw[hx]
theorem due_list (s:Sta):((t0o s).map Int.ofNat).filter (fun z=>p1f s z.toNat)=((t0o s).filter (p1f s)).map Int.ofNat:=by
 rw[List.filter_map];rfl
theorem x1d (n:Nat) {s:Sta} (hw:StaW s):y0l (n+15) s=some ((dueV s).map Int.ofNat):=by
 rw[j1c,o0d n hw,obs,tfn];unfold dueV;by_cases h:StaOk s
 case neg=>rw[chk_no h,if_neg h];rfl
 have hd:∀z∈(t0o s).map Int.ofNat,(fun y2:Int×Unit=>j0n (n+14) y2.1 s) (z,())=some (!p1f s z.toNat):=fun z hz=>by
  obtain ⟨h0,y,hy,_⟩:=live_at hz;exact m1r (n+7) h0 hy
 have hL:((t0o s).map Int.ofNat).length≤1000000:=by have:=r1h s;have:=h.whole.len;simp;omega
 have e:k1r s=(t0o s).map Int.ofNat:=if_pos h.whole;rw[chk_ok h,q1j (n+6) hw,obs,e,v1r (del:=fun y2:Int×Unit=>j0n (n+14) y2.1 s) (p:=fun z => !p1f s z.toNat) hd (n+12) _ hL (fun _ hx=>hx),obs,if_pos h,←due_list];simp only[Bool.not_not]
noncomputable def doV (s:Sta):Sta×(Int×Int):=if StaOk s then (c1c s,(((dueV s).length:Int),0)) else (sta0,(0,2))
theorem sweep_do (n:Nat) {s:Sta} (hw:StaW s):e1u (n+16) s=some (doV s):=by
 rw[m1s,o0d (n+1) hw,obs,tfn];unfold doV;by_cases h:StaOk s
 case neg=>rw[chk_no h,if_neg h,if_neg h];rfl
 rw[chk_ok h,if_pos h,x1d n hw,obs,List.length_map];rfl
theorem sweptS_w {s:Sta} (hw:StaW s):StaW (c1c s):=⟨hw.len,hw.ser⟩
abbrev m1c:=Int×((List Lab×Ev)×Int)
theorem small_l4 (n:Nat) (acts:List m1c) (hL:acts.length≤9223372036854775807) (hw:∀x∈acts,x.2.1.1.length≤9223372036854775807):∀(rest pre:List m1c) (f:Nat) (ix len:Int),acts=pre++rest→ix=pre.length→len=acts.length→rest.length<f →
  e0e (n+1) f (acts,len,ix,())=some (.inl ())∨e0e (n+1) f (acts,len,ix,())=some (.inr false):=by
 intro rest;induction rest with
 | nil =>
  intro pre f ix len ha hi hl hf;obtain ⟨f,rfl⟩:∃g,f=g+1:=⟨f-1,by simp at hf;omega⟩;subst hi;subst hl;rw[List.append_nil] at ha;subst ha;rw[j0j,decide_eq_false (by omega),tff];exact .inl rfl
 | cons x r ih =>
  intro pre f ix len ha hi hl hf;obtain ⟨f,rfl⟩:∃g,f=g+1:=⟨f-1,by simp at hf;omega⟩;have hlen:acts.length=pre.length+(r.length+1):=by rw[ha];simp
  subst hi;subst hl;have hat:at? acts (pre.length:Int)=some x:=by
   rw[ha];exact b0z (pre:=pre) (rest:=r) rfl rfl
  rw[j0j,decide_eq_true (by omega),tft,hat,obs];rcases z1q n x.2.1.1 (hw x (by rw[ha];simp)) with h | h
  ·rw[h];exact .inr rfl
  ·rw[h,obs,show (decide ((1:Int)=0))=false from rfl,tff,w64 (by omega) (by omega)];exact ih (pre++[x]) f ((pre.length:Int)+1) (acts.length:Int) (by rw[ha];simp) (by simp) rfl (by simp at hf;omega)
theorem s1y (n:Nat) (acts:List m1c) (hL:acts.length≤9223372036854775807) (hw:∀x∈acts,x.2.1.1.length≤9223372036854775807):i0q (n+2) acts=some false∨(i0q (n+2) acts=some true∧acts.length≤40):=by
 rw[w0t,tfd];by_cases h:(40:Int)<((acts.length:Nat):Int)
 ·rw[if_pos h];exact .inl rfl
 rw[if_neg h];rcases small_l4 n acts hL hw acts [] a0b 0 _ rfl rfl rfl (by unfold a0b;omega) with e | e
 ·rw[e];exact .inr ⟨rfl,by omega⟩
 ·rw[e];exact .inl rfl
theorem fits11 (n:Nat) (c:Conf):p0f (n+8) c=some false∨(p0f (n+8) c=some true∧(q0f c).2=0):=by
 rw[e1l,x1f n,obs,tfd];by_cases h:(q0f c).2=0
 case neg=>rw[if_neg h];exact .inl rfl
 rw[if_pos h];simp only[tfd];by_cases h1:((((q0f c).1.2.2.2.length:Nat):Int))≤8
 case neg=>rw[if_neg h1];exact .inl rfl
 rw[if_pos h1];by_cases h2:c.1≤60
 case neg=>rw[if_neg h2];exact .inl rfl
 rw[if_pos h2];by_cases h3:c.2.2.1.1≤40
 case neg=>rw[if_neg h3];exact .inl rfl
 rw[if_pos h3];by_cases h4:c.2.2.1.2.1≤40
 case neg=>rw[if_neg h4];exact .inl rfl
 rw[if_pos h4];by_cases h5:c.2.2.1.2.2≤40
 ·rw[decide_eq_true h5];exact .inr ⟨rfl,h⟩
 ·rw[decide_eq_false h5];exact .inl rfl
theorem acts_wf {acts:List m1c} (ha:Wf (.slice j0i) acts):acts.length≤9223372036854775807∧(∀x∈acts,x.2.1.1.length≤9223372036854775807)∧∀x∈acts,EvW x.2.1.2 :=
 ⟨Nat.le_trans ha.1 (by decide),fun x hx=>Nat.le_trans (ha.2 x hx).2.1.1.1 (by decide),fun x hx=>ev_wf (ha.2 x hx).2.1.2⟩
structure Good (c:Conf) (s:Sta):Prop where
 w:StaW s
 ok:StaOk s
 cf:s.1=c
 m:∀x∈s.2.2.2,x=ser0∨Made c x
theorem good_act (n:Nat) {c:Conf} {s:Sta} (h:Good c s) (x:m1c) (hx:EvW x.2.1.2) (h3:¬x.1=3):∃t v,u0i (n+25) x s=some (t,v)∧Good c t:=by
 have hw:=h.w;have hs:=h.ok;rw[e1m,tfd];by_cases h0:x.1=0
 ·obtain ⟨u,w,huw⟩:∃u w,k0c s x.2.1.1 x.2.1.2=(u,w):=⟨_,_,rfl⟩;have hW:=writeV_w hw x.2.1.1 x.2.1.2;rw[if_pos h0,w1j n hw x.2.1.1 hx,obs,huw];rw[huw] at hW;dsimp only;by_cases k:w=0
  ·subst k;have hc:u.1=s.1:=by
    obtain ⟨_,i,z,b,y,_,_,e,_⟩:=x0g huw;rw[e];rfl
   refine ⟨u,0,rfl,hW,n1d huw,hc.trans h.cf,?_⟩;have:=made_put (s:=s) (t:=u) (fun z hz=>by rw[h.cf];exact h.m z hz) huw;rw[hc,h.cf] at this;exact this
  ·rw[decide_eq_false k,tff];exact ⟨s,w,rfl,h⟩
 rw[if_neg h0,tfd];by_cases h1:x.1=1
 ·rw[if_pos h1,csc_tick (n+9) hw,obs];refine ⟨_,_,rfl,?_⟩;unfold tickV;split
  ·rename_i hm;exact ⟨tickS_w hw _,tick_ok hm,h.cf,h.m⟩
  ·exact h
 rw[if_neg h1,tfd];by_cases h2:x.1=2
 ·rw[if_pos h2,sweep_do (n+8) hw,obs];have e:doV s=(c1c s,(((dueV s).length:Int),0)):=by unfold doV;rw[if_pos hs]
  rw[e];exact ⟨_,_,rfl,sweptS_w hw,swept_ok hs,h.cf,h.m⟩
 rw[if_neg h2,tfd,if_neg h3];exact ⟨_,_,rfl,h⟩
theorem good_new {c:Conf} (h:(q0f c).2=0):Good c (q0f c).1:=by
 have hok:=(newSt_ok h).1;have e:(q0f c).1=(c,(0,(-1,List.replicate c.2.2.2.1.toNat ser0))):=by
  unfold q0f at h ⊢;split
  ·rename_i h1;rw[if_pos h1] at h;split
   ·rfl
   ·rename_i h2;rw[if_neg h2] at h;exact absurd h h2
  ·rename_i h1;rw[if_neg h1] at h;cases h
 refine ⟨newSt_w c,hok,by rw[e],fun x hx => ?_⟩;rw[e] at hx;exact .inl (List.mem_replicate.1 hx).2
theorem y1l (n:Nat) {c:Conf} {acts:List m1c} (hL:acts.length≤1000000) (he:∀x∈acts,EvW x.2.1.2):∀(rest pre:List m1c) (f:Nat) (s:Sta) (i:Int),acts=pre++rest→i=pre.length→rest.length<f→Good c s →
  ∃t,e0f (n+25) f (c,s,acts,(acts.length:Int),i,())=some (.inl (c,(t,())))∧Good c t:=by
 intro rest;induction rest with
 | nil =>
  intro pre f s i hl hi hf hg;obtain ⟨f,rfl⟩:∃g,f=g+1:=⟨f-1,by simp at hf;omega⟩;refine ⟨s,?_,hg⟩;rw[j0k];simp only[tfd,if_neg (idxe hl hi rfl)]
 | cons x rest ih =>
  intro pre f s i hl hi hf hg;obtain ⟨f,rfl⟩:∃g,f=g+1:=⟨f-1,by simp at hf;omega⟩;have hlen:=congrArg List.length hl;simp at hlen;rw[j0k,decide_eq_true (idx hl hi rfl),tft,b0z hl hi,obs,tfn,tfd,w64 (x:=i+1) (by omega) (by omega)];by_cases h3:x.1=3
  ·rw[if_pos h3];exact ih (pre++[x]) f s (i+1) (idxl hl) (idxs hi) (by simp at hf;omega) hg
  ·rw[if_neg h3];obtain ⟨t,v,e1,e2⟩:=good_act n hg x (he x (by rw[hl];simp)) h3;rw[e1,obs];exact ih (pre++[x]) f t (i+1) (idxl hl) (idxs hi) (by simp at hf;omega) e2
theorem t1z (n:Nat) {c:Conf} (s:Sta) (x:Ser) (s60:List Int) (s61 s62:Int) {L:List Ev} (hL:L.length≤1000000) (hw:∀e∈L,EvW e):∀(rest pre:List Ev) (f:Nat) (y z:Ser) (i:Int),L=pre++rest→i=pre.length→rest.length<f→SerOk c y→SerW y→t0i c y rest=some z →
  e0v (n+23) f (c,s,x,y,s60,s61,s62,L,(L.length:Int),i,())=some (.inl (c,(s,(x,(z,(s60,(s61,(s62,())))))))):=by
 intro rest;induction rest with
 | nil =>
  intro pre f y z i hl hi hf hy hyw hp;obtain ⟨f,rfl⟩:∃g,f=g+1:=⟨f-1,by simp at hf;omega⟩;have hp:y=z:=Option.some.inj hp;rw[←hp];rw[i0h];simp only[tfd,if_neg (idxe hl hi rfl)]
 | cons e rest ih =>
  intro pre f y z i hl hi hf hy hyw hp;obtain ⟨f,rfl⟩:∃g,f=g+1:=⟨f-1,by simp at hf;omega⟩;have hlen:=congrArg List.length hl;simp at hlen;have hp:(if (putE c y e).2=0 then t0i c (putE c y e).1 rest else none)=some z:=hp;rw[i0h,decide_eq_true (idx hl hi rfl),tft,b0z hl hi,obs,c1p n c hyw (hw e (by rw[hl];simp)),obs,tfn,tfd,w64 (x:=i+1) (by omega) (by omega)];by_cases h0:(putE c y e).2=0
  ·rw[if_pos h0] at hp;rw[if_pos h0];have hq:putE c y e=((putE c y e).1,0):=Prod.ext rfl h0;exact ih (pre++[e]) f _ z (i+1) (idxl hl) (idxs hi) (by simp at hf;omega) (t0c hy hq).1 (q1m hy hq).1 hp
  ·rw[if_neg h0] at hp;cases hp
end Go.Proofs.YtkajechaanmplaaGreatDoor
namespace Go.Proofs.YtkajechaanmplaaGreatDoor
open Go.Flat
theorem ob {α β:Type} {o:Option α} {x:α} {f:α→Option β} {r:Option β} (h:o=some x) (k:f x=r):a0a o f=r:=by rw[h];exact k
theorem tt {α:Type} {b:Bool} {x y r:α} (h:b=true) (k:x=r):tif b x y=r:=by rw[h];exact k
end Go.Proofs.YtkajechaanmplaaGreatDoor
