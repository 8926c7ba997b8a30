/-
 Plain proofs about the functions of this seat, part 2 of 3.
-/
import Derived.Test.YtagnkfbpgkckiaaGreatQ1
import Derived.Test.YtagnkfbpgkckiaaGreatTr
import Derived.Test.YtagnkfbpgkckiaaGreatFlatM4
namespace Go.Proofs.YtagnkfbpgkckiaaGreat
open Go.Flat Go.Plim
set_option linter.unusedVariables false
set_option linter.unusedSimpArgs false
structure TrsW (s:Trs):Prop where
 a:∀x∈s.1,SloW x
 b:∀x∈s.2.1,SloW x
 c:∀x∈s.2.2,SloW x
theorem FoldOk.w {c:Conf} {s:Trs} (h:FoldOk c s):TrsW s:=⟨t0v h.t0,t0v h.t1,t0v h.t2⟩
theorem p0v (n:Nat) (c:Conf):d0l (n+3) c=some (if OkC c then 0 else 2):=by
 by_cases h:OkC c
 ·rw[if_pos h,z0f n h]
 ·rw[if_neg h,z1s n h]
theorem y0x (n:Nat) (c:Conf) {s:Trs} (hw:TrsW s):y0y (n+8) c s=some (if FoldOk c s then (some (c,s),0) else (none,2)):=by
 rw[s1m,p0v (n+4),t0t n _ _ hw.a,t0t n _ _ hw.b,t0t n _ _ hw.c];simp only[obs,tfn,tfd];by_cases h0:OkC c
 case neg=>rw[if_neg (mt (z02 _).1 h0),if_neg h0,if_neg (fun k:FoldOk c s=>h0 k.cok)]
 rw[if_pos ((z02 _).2 h0)];by_cases h1:(s.1.length:Int)=c.2.2.1.1
 case neg=>rw[if_neg h1,if_neg (fun k:FoldOk c s=>h1 k.n0)]
 rw[if_pos h1];by_cases h2:TierOk s.1 c.2.1.1
 case neg=>rw[if_neg (mt (z02 _).1 h2),if_neg (fun k:FoldOk c s=>h2 k.t0)]
 rw[if_pos ((z02 _).2 h2)];by_cases h3:(s.2.1.length:Int)=c.2.2.1.2.1
 case neg=>rw[if_neg h3,if_neg (fun k:FoldOk c s=>h3 k.n1)]
 rw[if_pos h3];by_cases h4:TierOk s.2.1 c.2.1.2.1
 case neg=>rw[if_neg (mt (z02 _).1 h4),if_neg (fun k:FoldOk c s=>h4 k.t1)]
 rw[if_pos ((z02 _).2 h4)];by_cases h5:(s.2.2.length:Int)=c.2.2.1.2.2
 case neg=>rw[if_neg h5,if_neg (fun k:FoldOk c s=>h5 k.n2)]
 rw[if_pos h5];by_cases h6:TierOk s.2.2 c.2.1.2.2
 case neg=>rw[if_neg (mt (z02 _).1 h6),if_neg (fun k:FoldOk c s=>h6 k.t2)]
 rw[if_pos ((z02 _).2 h6),if_pos (⟨h0,h1,h3,h5,h2,h4,h6⟩:FoldOk c s)]
theorem d2c (n:Nat) (c:Conf) {s:Trs} (hw:TrsW s):a1w (n+9) c s=some (if FoldOk c s then 0 else 2):=by
 rw[n1o,y0x n c hw];by_cases h:FoldOk c s
 ·rw[if_pos h,if_pos h];rfl
 ·rw[if_neg h,if_neg h];rfl
noncomputable def emp (c:Conf):Trs:=if OkC c then (List.replicate c.2.2.1.1.toNat s0,(List.replicate c.2.2.1.2.1.toNat s0,List.replicate c.2.2.1.2.2.toNat s0)) else ([],([],[]))
theorem d2a (n:Nat) (c:Conf):a1u (n+4) c=some (emp c):=by
 rw[n1m,p0v n];simp only[obs,tfn,tfd,tier_new];unfold emp;by_cases h:OkC c
 ·have h0:=h.rng.n0;have h1:=h.rng.n1;have h2:=h.rng.n2;rw[if_pos ((z02 _).2 h),if_pos h,if_pos h0,if_pos h1,if_pos h2]
 ·rw[if_neg (mt (z02 _).1 h),if_neg h]
theorem quo_top {w:Int} (hw:1≤w):IntKind.wrap .i64 (Int.tdiv 35184372088831 w)=35184372088831 / w:=by
 have:0≤(35184372088831:Int) / w:=Int.ediv_nonneg (by decide) (by omega);have:(35184372088831:Int) / w≤35184372088831:=Int.ediv_le_self _ (by decide);rw[z0n (by decide),w64 (by omega) (by omega)]
theorem begins_0 (n:Nat) (c:Conf) (s:Trs) (h:1≤c.2.1.1) (i:Int):r0l (n+1) (c,s) 0 i=some (decide (j0i c.2.1.1 i),(c,s)):=by
 rw[c1s];simp only[tfd,if_neg (show ¬(c.2.1.1=0) by omega),quo_top h];by_cases h0:(0:Int)≤i
 ·rw[if_pos h0];refine congrArg (fun b=>some (b,(c,s))) (decide_eq_decide.2 ⟨fun k=>⟨h0,k⟩,fun k=>k.2⟩)
 ·rw[if_neg h0,decide_eq_false (fun k:j0i c.2.1.1 i=>h0 k.1)]
theorem allE_okc (l:List Cel):∀c,d0r c→d0r (allE c l).1:=by
 induction l with
 | nil=>intro c h;exact h
 | cons x l ih =>
  intro c h;simp only[allE];split
  ·rename_i k;exact ih _ (w1d k).2.2.2.2
  ·exact h2a
theorem p1t (l:List Slo) (i k:Int):d0r (p1u l i k).1:=by
 unfold p1u;split
 ·exact h2a
 ·exact allE_okc _ _ h2a
theorem j1z {a b i:Int} (ha:1≤a∧a≤1099511627776) (hb:1≤b∧b≤1099511627776) (hm:b % a=0) (h:j0i b i) :
  IntKind.wrap .i64 (i*(b / a))=i*(b / a)∧IntKind.wrap .i64 ((IntKind.wrap .i64 (i+1))*(b / a))=(i+1)*(b / a):=by
 obtain ⟨h1,h2,h3,h4,h5,h6⟩:=c2k ha hb hm h;have:=t1o hb.1 h;have:=h.1;rw[w64 (x:=i+1) (by omega) (by omega),h6,w64 (by omega) (by omega),w64 (by omega) (by omega)];exact ⟨rfl,rfl⟩
theorem c2z (n:Nat) {c:Conf} {s:Trs} (h:FoldOk c s) {i:Int} (hb:j0i c.2.1.2.1 i):i0b (n+19) (c,s) 1 i=some ((mk1 c s i).1,((mk1 c s i).2,(c,s))):=by
 have hr:=h.cok.rng;obtain ⟨e1,e2⟩:=j1z hr.w0 hr.w1 h.cok.m1 hb;rw[i1p];simp only[tfd,if_neg (show ¬(c.2.1.1=0) by have:=hr.w0;omega),q1y hr.w1 hr.w0.1,e1,e2,p1n n h.t0,obs];rfl
theorem c2y (n:Nat) {c:Conf} {s:Trs} (h:FoldOk c s) {i:Int} (hb:j0i c.2.1.2.2 i):i0b (n+19) (c,s) 2 i=some ((mk2 c s i).1,((mk2 c s i).2,(c,s))):=by
 have hr:=h.cok.rng;obtain ⟨e1,e2⟩:=j1z hr.w1 hr.w2 h.cok.m2 hb;rw[i1o];simp only[tfd,if_neg (show ¬(c.2.1.2.1=0) by have:=hr.w1;omega),q1y hr.w2 hr.w1.1,e1,e2,p1n n h.t1,obs];rfl
theorem i2r (n:Nat) {c:Conf} {s:Trs} (h:FoldOk c s) (i:Int) {x:Cel} (hx:CelW x):g0d (n+9) (c,s) 0 i x=some (if FitsP x c.2.1.1 i then (0,(c,(tput s.1 i x,s.2))) else (2,(c,s))):=by
 rw[n1t,l1i n _ _ (t0v h.t0) hx];simp only[obs,tfd];by_cases hf:FitsP x c.2.1.1 i
 ·rw[if_pos (And.intro h.t0 hf),if_pos hf];rfl
 ·have hn:¬(TierOk s.1 c.2.1.1∧FitsP x c.2.1.1 i):=fun k=>hf k.2
  rw[if_neg hn,if_neg hf];rfl
theorem i2q (n:Nat) {c:Conf} {s:Trs} (h:FoldOk c s) (i:Int) {x:Cel} (hx:CelW x):g0d (n+9) (c,s) 1 i x=some (if FitsP x c.2.1.2.1 i then (0,(c,(s.1,(tput s.2.1 i x,s.2.2)))) else (2,(c,s))):=by
 rw[n1s,l1i n _ _ (t0v h.t1) hx];simp only[obs,tfd];by_cases hf:FitsP x c.2.1.2.1 i
 ·rw[if_pos (And.intro h.t1 hf),if_pos hf];rfl
 ·have hn:¬(TierOk s.2.1 c.2.1.2.1∧FitsP x c.2.1.2.1 i):=fun k=>hf k.2
  rw[if_neg hn,if_neg hf];rfl
theorem i2p (n:Nat) {c:Conf} {s:Trs} (h:FoldOk c s) (i:Int) {x:Cel} (hx:CelW x):g0d (n+9) (c,s) 2 i x=some (if FitsP x c.2.1.2.2 i then (0,(c,(s.1,(s.2.1,tput s.2.2 i x)))) else (2,(c,s))):=by
 rw[n1r,l1i n _ _ (t0v h.t2) hx];simp only[obs,tfd];by_cases hf:FitsP x c.2.1.2.2 i
 ·rw[if_pos (And.intro h.t2 hf),if_pos hf];rfl
 ·have hn:¬(TierOk s.2.2 c.2.1.2.2∧FitsP x c.2.1.2.2 i):=fun k=>hf k.2
  rw[if_neg hn,if_neg hf];rfl
theorem u0f {a w i j:Int} (ha:1≤a) (hw:1≤w) (h0:0≤i) (hij:i≤j) (hj:j0i a j) :
  IntKind.wrap .i64 (Int.tdiv (IntKind.wrap .i64 (i*a)) w)=i*a / w∧j0i w (i*a / w):=by
 have hm:=hj.mul ha;have h1:0≤i*a:=Int.mul_nonneg h0 (by omega);have h2:i*a≤j*a:=Int.mul_le_mul_of_nonneg_right hij (by omega);have h3:0≤i*a / w:=Int.ediv_nonneg h1 (by omega);have h4:i*a / w≤i*a:=Int.ediv_le_self _ h1;rw[w64 (x:=i*a) (by omega) (by omega),z0n h1,w64 (by omega) (by omega)];exact ⟨rfl,k1j hw ⟨h1,by omega⟩⟩
theorem f2j (n:Nat) {c:Conf} {s:Trs} (h:FoldOk c s) {i j:Int} (h0:0≤i) (hij:i≤j) (hj:j0i c.2.1.1 j) :
  (tif (decide (IntKind.wrap .i64 (Int.tdiv (IntKind.wrap .i64 (i*c.2.1.1)) c.2.1.2.2)=IntKind.wrap .i64 (Int.tdiv (IntKind.wrap .i64 (j*c.2.1.1)) c.2.1.2.2))) (some (c,s))
   (a0a (i0b (n+19) (c,s) (2:Int) (IntKind.wrap .i64 (Int.tdiv (IntKind.wrap .i64 (i*c.2.1.1)) c.2.1.2.2))) fun r0 =>
    tif (decide (r0.2.1=(0:Int))) (tif (decide ((0:Int)<r0.1.1)) (a0a (g0d (n+19) r0.2.2 (2:Int) (IntKind.wrap .i64 (Int.tdiv (IntKind.wrap .i64 (i*c.2.1.1)) c.2.1.2.2)) r0.1) fun r1=>some r1.2) (some r0.2.2)) (some r0.2.2)))=some (c,up2 c s i j):=by
 have hr:=h.cok.rng;have hjj:0≤j:=hj.1;obtain ⟨e1,b1⟩:=u0f hr.w0.1 hr.w2.1 h0 hij hj;obtain ⟨e2,_⟩:=u0f hr.w0.1 hr.w2.1 hjj (Int.le_refl j) hj;rw[e1,e2,c2y n h b1];simp only[obs,tfd];unfold up2;by_cases c1:i*c.2.1.1 / c.2.1.2.2=j*c.2.1.1 / c.2.1.2.2
 ·rw[if_pos c1,if_pos c1]
 rw[if_neg c1,if_neg c1];generalize i*c.2.1.1 / c.2.1.2.2=a at *
 have hok:d0r (mk2 c s a).1:=p1t _ _ _;by_cases c2:(mk2 c s a).2=0
 ·rw[if_pos c2];by_cases c3:0<(mk2 c s a).1.1
  ·rw[if_pos c3,i2p (n+10) h a (CelW.of hok)];by_cases c4:FitsP (mk2 c s a).1 c.2.1.2.2 a
   ·rw[if_pos c4,if_pos (And.intro c2 c4)];rfl
   ·rw[if_neg c4,if_neg (fun k=>c4 k.2)];rfl
  ·rw[if_neg c3,if_neg (fun k=>c3 (by have:=k.2.n.n1;omega))]
 ·rw[if_neg c2,if_neg (fun k=>c2 k.1)]
theorem fold_up (n:Nat) {c:Conf} {s:Trs} (h:FoldOk c s) {i j:Int} (h0:0≤i) (hij:i≤j) (hj:j0i c.2.1.1 j):n1q (n+20) (c,s) i j=some (c,upw c s i j):=by
 have hr:=h.cok.rng;have hjj:0≤j:=hj.1;obtain ⟨e1,b1⟩:=u0f hr.w0.1 hr.w1.1 h0 hij hj;obtain ⟨e2,_⟩:=u0f hr.w0.1 hr.w1.1 hjj (Int.le_refl j) hj;have z1:¬(c.2.1.2.1=0):=by have:=hr.w1;omega
 have z2:¬(c.2.1.2.2=0):=by have:=hr.w2;omega
 rw[d2i];simp only[e1,e2,decide_eq_false z1,decide_eq_false z2,tff,c2z n h b1,obs,f2j n h h0 hij hj];unfold upw;simp only[tfd];by_cases c1:i*c.2.1.1 / c.2.1.2.1=j*c.2.1.1 / c.2.1.2.1
 ·have:up1 c s i j=s:=by unfold up1;rw[if_pos c1]
  rw[if_pos c1,this]
 rw[if_neg c1];have e3:up1 c s i j=if (mk1 c s (i*c.2.1.1 / c.2.1.2.1)).2=0∧FitsP (mk1 c s (i*c.2.1.1 / c.2.1.2.1)).1 c.2.1.2.1 (i*c.2.1.1 / c.2.1.2.1) then (s.1,(tput s.2.1 (i*c.2.1.1 / c.2.1.2.1) (mk1 c s (i*c.2.1.1 / c.2.1.2.1)).1,s.2.2)) else s:=by
  unfold up1;rw[if_neg c1]
 have hk:=up1_ok h i j;rw[e3] at hk ⊢;generalize i*c.2.1.1 / c.2.1.2.1=a at *
 have hok:d0r (mk1 c s a).1:=p1t _ _ _;by_cases c2:(mk1 c s a).2=0
 ·rw[if_pos c2];by_cases c3:0<(mk1 c s a).1.1
  ·rw[if_pos c3,i2q (n+10) h a (CelW.of hok)];by_cases c4:FitsP (mk1 c s a).1 c.2.1.2.1 a
   ·rw[if_pos (And.intro c2 c4)] at hk ⊢;rw[if_pos c4];have:=f2j n hk h0 hij hj;simp only[obs,if_neg z2];simp only[tfd] at this ⊢;exact this
   ·have hn1:¬((mk1 c s a).2=0∧FitsP (mk1 c s a).1 c.2.1.2.1 a):=fun k=>c4 k.2
    rw[if_neg hn1] at hk ⊢;rw[if_neg c4];have:=f2j n hk h0 hij hj;simp only[obs,if_neg z2];simp only[tfd] at this ⊢;exact this
  ·rw[if_neg c3,if_neg (fun k=>c3 (by have:=k.2.n.n1;omega))]
 ·rw[if_neg c2,if_neg (fun k=>c2 k.1)]
noncomputable def c1e (c:Conf) (s:Trs) (was:Slo) (j:Int):Trs×Int :=
 if FoldOk c s then
  (if was=s0 then (s,0)
   else if FitsP was.2 c.2.1.1 was.1 then
    (if was.1=j then (s,0) else if was.1≤j∧j0i c.2.1.1 j then (upw c (tput s.1 was.1 was.2,s.2) was.1 j,0) else (([],([],[])),1))
   else (([],([],[])),2))
 else (([],([],[])),2)
theorem f1v {c:Conf} {s:Trs} (h:FoldOk c s) {i:Int} {x:Cel} (hf:FitsP x c.2.1.1 i):FoldOk c (tput s.1 i x,s.2) :=
 ⟨h.cok,by simpa [tput] using h.n0,h.n1,h.n2,l1g h.t0 hf,h.t1,h.t2⟩
theorem d2b (n:Nat) (c:Conf) {s:Trs} (hw:TrsW s) {was:Slo} (hx:SloW was) (j:Int):a1v (n+21) c s was j=some (c1e c s was j):=by
 rw[n1n,y0x (n+12) c hw];unfold c1e;by_cases h:FoldOk c s
 case neg=>rw[if_neg h,if_neg h];rfl
 have hr:=h.cok.rng;rw[if_pos h,if_pos h];simp only[obs,u0g,decide_true,Bool.not_true,tff,f2s,tfn,tfd,if_true,w0z (n+14) hx.c];by_cases c1:was=s0
 ·rw[if_pos c1,if_pos c1,if_pos c1]
 rw[if_neg c1,if_neg c1,if_neg c1];by_cases c2:FitsP was.2 c.2.1.1 was.1
 case neg=>rw[if_neg c2,if_neg c2]
 rw[if_pos c2,if_pos c2];by_cases c3:was.1=j
 ·rw[if_pos c3,if_pos c3]
 rw[if_neg c3,if_neg c3];by_cases c4:j<was.1
 ·rw[if_pos c4,if_neg (fun q=>by omega)]
 rw[if_neg c4,begins_0 (n+19) c s hr.w0.1 j];simp only[obs,tfn,tfd];by_cases hb:j0i c.2.1.1 j
 ·have hi:=c2.i0;rw[if_pos hb,if_pos ⟨by omega,hb⟩,i2r (n+11) h was.1 hx.c,if_pos c2];simp only[obs,if_true,fold_up n (f1v h c2) hi.1 (show was.1≤j by omega) hb]
 ·rw[if_neg hb,if_neg (fun q=>hb q.2)]
theorem FoldOk.lens {c:Conf} {s:Trs} (h:FoldOk c s):s.1.length≤1000000∧s.2.1.length≤1000000∧s.2.2.length≤1000000:=by
 have:=h.t0.l1;have:=h.t1.l1;have:=h.t2.l1;omega
theorem trs_wf {s:Trs} (h:Wf (.wrap (.pair (.slice a0d) (.pair (.slice a0d) (.slice a0d)))) s):TrsW s:=by
 obtain ⟨h1,h2,h3⟩:=h;exact ⟨v1b h1,v1b h2,v1b h3⟩
abbrev Ser:=List Lab×(Int×(Rw×(Trs×Slo)))
structure SerW (s:Ser):Prop where
 last:I64 s.2.1
 raw:RawW s.2.2.1
 trs:TrsW s.2.2.2.1
 opn:SloW s.2.2.2.2
def b0l (l:List Slo) (i:Int):Prop:=∀s∈l,0<s.2.1→s.1<i
noncomputable instance (l i):Decidable (b0l l i):=Classical.propDecidable _
structure Fresh (s:Ser):Prop where
 raw:s.2.2.1.2.2=[]
 opn:s.2.2.2.2=s0
 b0:b0l s.2.2.2.1.1 0
 b1:b0l s.2.2.2.1.2.1 0
 b2:b0l s.2.2.2.1.2.2 0
structure EndsP (c:Conf) (s:Ser):Prop where
 last:∃e,s.2.2.1.2.2.getLast? = some e∧e.1=s.2.1
 ol:s.2.2.2.2.2.2.2.1.1=s.2.1
 fit:FitsP s.2.2.2.2.2 c.2.1.1 s.2.2.2.2.1
 b0:b0l s.2.2.2.1.1 (s.2.1 / c.2.1.1)
 b1:b0l s.2.2.2.1.2.1 (s.2.1 / c.2.1.2.1)
 b2:b0l s.2.2.2.1.2.2 (s.2.1 / c.2.1.2.2)
structure SerOk (c:Conf) (s:Ser):Prop where
 fold:FoldOk c s.2.2.2.1
 lab:LabOk s.1
 raw:RawOk s.2.2.1 c.1
 st:(s.2.1 = -1∧Fresh s)∨(s.2.1 ≠ -1∧EndsP c s)
noncomputable instance (s):Decidable (Fresh s):=Classical.propDecidable _
noncomputable instance (c s):Decidable (EndsP c s):=Classical.propDecidable _
noncomputable instance (c s):Decidable (SerOk c s):=Classical.propDecidable _
theorem o1i (n:Nat) {del:a0c×Unit→Option Bool} {p:Slo→Bool} (hd:∀x,del (x,())=some (p x)) (l:List Slo) (hL:l.length≤1000000):h0p (n+2) l del=some (l.any p):=by
 rw[q0l,l0i];rcases i2i hd n l hL l [] a0b 0 l.length rfl rfl rfl (by unfold a0b;omega) with ⟨h1,h2⟩ | ⟨A,x,B,h1,h2,h3,h4⟩
 ·rw[h1];have:l.any p=false:=by rw[List.any_eq_false];intro x hx;simp[h2 x hx]
  rw[this];rfl
 ·rw[h4];have:l.any p=true:=List.any_eq_true.2 ⟨x,by rw[h1];simp,h3⟩;simp only[obs,m0t,this,Int.zero_add];rw[decide_eq_true (by omega)]
theorem d0u (n:Nat) (l:List Slo) (i:Int) (hL:l.length≤1000000):e0h (n+3) l i=some (!decide (b0l l i)):=by
 rw[c1p,o1i (p:=fun s=>decide (0<s.2.1∧i≤s.1)) n (fun x=>by
  show m0s (n+1+1) x i=_;rw[x0v]
  by_cases h1:0<x.2.1<;>by_cases h2:i≤x.1<;>simp[h1,h2]) l hL]
 simp only[obs];refine congrArg some ?_;by_cases h:b0l l i
 ·rw[decide_eq_true h];rw[List.any_eq_false.2]
  ·rfl
  ·intro x hx k;have:=of_decide_eq_true k;have:=h x hx this.1;omega
 ·rw[decide_eq_false h];have:∃x∈l,0<x.2.1∧i≤x.1:=Classical.byContradiction fun k=>h fun x hx hc=>by
   rcases Int.lt_or_le x.1 i with q | q
   ·exact q
   ·exact absurd ⟨x,hx,hc,q⟩ k
  obtain ⟨x,hx,hq⟩:=this;rw[List.any_eq_true.2 ⟨x,hx,decide_eq_true hq⟩];rfl
theorem c2r (n:Nat) (c:Conf) {s:Ser} (hf:FoldOk c s.2.2.2.1):e1g (n+4) (c,s)=some (decide (Fresh s)):=by
 obtain ⟨l0,l1,l2⟩:=hf.lens;rw[q1b,f2s,d0u n _ _ l0,d0u n _ _ l1,d0u n _ _ l2];simp only[obs,Bool.not_not,tfd];by_cases h1:(s.2.2.1.2.2.length:Int)=0
 case neg=>rw[if_neg h1,decide_eq_false (fun k:Fresh s=>h1 (by rw[k.raw];rfl))]
 rw[if_pos h1];by_cases h2:s.2.2.2.2=s0
 case neg=>rw[if_neg h2,decide_eq_false (fun k:Fresh s=>h2 k.opn)]
 rw[if_pos h2];by_cases h3:b0l s.2.2.2.1.1 0
 case neg=>rw[if_neg h3,decide_eq_false (fun k:Fresh s=>h3 k.b0)]
 rw[if_pos h3];by_cases h4:b0l s.2.2.2.1.2.1 0
 case neg=>rw[if_neg h4,decide_eq_false (fun k:Fresh s=>h4 k.b1)]
 rw[if_pos h4];refine congrArg some (decide_eq_decide.2 ⟨fun k=>⟨List.length_eq_zero_iff.1 (by omega),h2,h3,h4,k⟩,fun k=>k.b2⟩)
theorem h2t {c:Conf} {s:Ser} (hr:RawOk s.2.2.1 c.1) {e:Ev} (he:s.2.2.1.2.2.getLast? = some e):EvOk e:=hr.f.ok e (List.mem_of_getLast? he)
theorem i2f (n:Nat) (c:Conf) {s:Ser} (hf:FoldOk c s.2.2.2.1) (hr:RawOk s.2.2.1 c.1) (hw:SerW s):d1c (n+7) (c,s)=some (decide (EndsP c s)):=by
 obtain ⟨l0,l1,l2⟩:=hf.lens;have hg:=hf.cok.rng;have hlen:=hr.len;have hm1:=hr.m1;rw[u1y,y1j (n+5) s.2.2.1 (by omega)];cases hl:s.2.2.1.2.2.getLast? with
 | none =>
  simp only[obs];rw[show (decide ((3:Int)=0))=false from rfl,tff,decide_eq_false];intro k;obtain ⟨e,he,_⟩:=k.last;rw[hl] at he;cases he
 | some e =>
  have heo:=h2t hr hl;simp only[obs,decide_true,tft,tfd,if_true];by_cases h1:e.1=s.2.1
  case neg =>
   rw[if_neg h1,decide_eq_false];intro k;obtain ⟨e',he,hq⟩:=k.last;rw[hl] at he;injection he with he;subst he;exact h1 hq
  rw[if_pos h1];by_cases h2:s.2.2.2.2.2.2.2.1.1=s.2.1
  case neg=>rw[if_neg h2,decide_eq_false (fun k:EndsP c s=>h2 k.ol)]
  have q0:=y1l heo hg.w0.1;have q1:=y1l heo hg.w1.1;have q2:=y1l heo hg.w2.1;rw[h1] at q0 q1 q2;rw[if_pos h2,w0z n hw.opn.c];simp only[obs,tfd,q0,q1,q2,d0u (n+3) _ _ l0,d0u (n+3) _ _ l1,d0u (n+3) _ _ l2,Bool.not_not,if_neg (show ¬(c.2.1.1=0) by have:=hg.w0;omega),if_neg (show ¬(c.2.1.2.1=0) by have:=hg.w1;omega),if_neg (show ¬(c.2.1.2.2=0) by have:=hg.w2;omega)];by_cases h3:FitsP s.2.2.2.2.2 c.2.1.1 s.2.2.2.2.1
  case neg=>rw[if_neg h3,decide_eq_false (fun k:EndsP c s=>h3 k.fit)]
  rw[if_pos h3];by_cases h4:b0l s.2.2.2.1.1 (s.2.1 / c.2.1.1)
  case neg=>rw[if_neg h4,decide_eq_false (fun k:EndsP c s=>h4 k.b0)]
  rw[if_pos h4];by_cases h5:b0l s.2.2.2.1.2.1 (s.2.1 / c.2.1.2.1)
  case neg=>rw[if_neg h5,decide_eq_false (fun k:EndsP c s=>h5 k.b1)]
  rw[if_pos h5];refine congrArg some (decide_eq_decide.2 ⟨fun k=>⟨⟨e,hl,h1⟩,h2,h3,h4,h5,k⟩,fun k=>k.b2⟩)
theorem z08 (p:Prop) [Decidable p]:((if p then (0:Int) else 8)=0)↔p:=by by_cases h:p<;>simp[h]
theorem s0q (n:Nat) (c:Conf) {s:Ser} (hw:SerW s):q0q (n+10) c s=some (if SerOk c s then (some (c,s),0) else (none,2)):=by
 rw[h1g,d2c n c hw.trs,j0x (n+3),q1p (n+4) _ _ hw.raw];simp only[obs,tfn,tfd];by_cases h1:FoldOk c s.2.2.2.1
 case neg=>rw[if_neg (mt (z02 _).1 h1),if_neg (fun k:SerOk c s=>h1 k.fold)]
 by_cases h2:LabOk s.1
 case neg=>rw[if_pos ((z02 _).2 h1),if_neg (mt (z08 _).1 h2),if_neg (fun k:SerOk c s=>h2 k.lab)]
 by_cases h3:RawOk s.2.2.1 c.1
 case neg=>rw[if_pos ((z02 _).2 h1),if_pos ((z08 _).2 h2),if_neg (mt (z02 _).1 h3),if_neg (fun k:SerOk c s=>h3 k.raw)]
 rw[if_pos ((z02 _).2 h1),if_pos ((z08 _).2 h2),if_pos ((z02 _).2 h3),c2r (n+5) c h1,i2f (n+2) c h1 h3 hw];simp only[obs,tfd];by_cases h4:s.2.1 = -1
 ·rw[if_pos h4];by_cases h5:Fresh s
  ·rw[if_pos h5,if_pos (⟨h1,h2,h3,.inl ⟨h4,h5⟩⟩:SerOk c s)]
  ·rw[if_neg h5,if_pos h4,if_neg (fun k:SerOk c s=>by
    rcases k.st with q | q
    ·exact h5 q.2
    ·exact q.1 h4)]
 ·rw[if_neg h4,if_neg h4];by_cases h5:EndsP c s
  ·rw[if_pos h5,if_pos (⟨h1,h2,h3,.inr ⟨h4,h5⟩⟩:SerOk c s)]
  ·rw[if_neg h5,if_neg (fun k:SerOk c s=>by
    rcases k.st with q | q
    ·exact h4 q.1
    ·exact h5 q.2)]
theorem b1w {l:List Slo} {w:Int} (h:TierOk l w) (i:Int):b0l l i↔∀s∈tall l,s.1<i:=by
 constructor
 ·intro k s hs;have:=(tall_N h hs).n1;exact k s (u0h.1 hs).1 (by omega)
 ·intro k s hs hc;exact k s (u0h.2 ⟨hs,fun e=>by rw[e] at hc;simp[s0,z0] at hc⟩)
theorem f1e {l:List Slo} {w:Int} (h:TierOk l w):b0l l 0↔tall l=[]:=by
 rw[b1w h];constructor
 ·intro k;by_cases e:tall l=[]
  ·exact e
  ·obtain ⟨s,hs⟩:=List.exists_mem_of_ne_nil _ e;have:=(o0z h hs).1.i0;have:=k s hs;omega
 ·intro e s hs;rw[e] at hs;cases hs
theorem nn {α:Type} {a b:α} (h:a=b):¬(a≠b):=fun k=>k h
def ser0:Ser:=([],(0,(r0w,(([],([],[])),s0))))
def x1o (s:Ser) (i:Int):Prop:=s.2.2.2.2≠s0∧s.2.2.2.2.1≠i
noncomputable instance (s i):Decidable (x1o s i):=Classical.propDecidable _
noncomputable def turned (c:Conf) (s:Ser) (i:Int):(Trs×Slo)×Int :=
 if x1o s i then (if (c1e c s.2.2.2.1 s.2.2.2.2 i).2=0 then (((c1e c s.2.2.2.1 s.2.2.2.2 i).1,s0),0) else ((s.2.2.2.1,s.2.2.2.2),(c1e c s.2.2.2.1 s.2.2.2.2 i).2)) else ((s.2.2.2.1,s.2.2.2.2),0)
noncomputable def putE (c:Conf) (s:Ser) (e:Ev):Ser×Int :=
 if SerOk c s∧EvOk e then
  (if e.1≤s.2.1 then (ser0,9)
   else if (turned c s (e.1 / c.2.1.1)).2≠0 then (ser0,(turned c s (e.1 / c.2.1.1)).2)
   else if (s0s s.2.2.1 c.1 e).2≠0 then (ser0,(s0s s.2.2.1 c.1 e).2)
   else if (mrgE (turned c s (e.1 / c.2.1.1)).1.2.2 (e0l e)).2≠0 then (ser0,(mrgE (turned c s (e.1 / c.2.1.1)).1.2.2 (e0l e)).2)
   else ((s.1,(e.1,((s0s s.2.2.1 c.1 e).1,((turned c s (e.1 / c.2.1.1)).1.1,(e.1 / c.2.1.1,(mrgE (turned c s (e.1 / c.2.1.1)).1.2.2 (e0l e)).1))))),0))
 else (ser0,2)
theorem r1n {c:Conf} {s:Ser} (h:SerOk c s):s.2.2.2.2.2.1=0↔s.2.2.2.2=s0:=by
 constructor
 ·intro k;rcases h.st with q | q
  ·exact q.2.opn
  ·have:=q.2.fit.n.n1;omega
 ·intro k;rw[k];rfl
theorem turned_w {c:Conf} {s:Ser} (hw:SerW s) (i:Int):SloW (turned c s i).1.2:=by
 unfold turned;split
 ·split
  ·exact z0s
  ·exact hw.opn
 ·exact hw.opn
theorem i2e (n:Nat) (c:Conf) {s:Ser} (h:SerOk c s) (hw:SerW s) (i:Int):l1w (n+22) (c,s) i=some ((turned c s i).2,(c,(s.1,(s.2.1,(s.2.2.1,(turned c s i).1))))):=by
 rw[u1x];simp only[tfd,d2b n c hw.trs hw.opn i,obs];unfold turned;by_cases h1:s.2.2.2.2.1=i
 ·rw[if_pos h1,if_neg (fun k:x1o s i=>k.2 h1)]
 rw[if_neg h1];by_cases h2:s.2.2.2.2.2.1=0
 ·rw[if_pos h2,if_neg (fun k:x1o s i=>k.1 ((r1n h).1 h2))]
 have ht:x1o s i:=⟨fun k=>h2 ((r1n h).2 k),h1⟩;rw[if_neg h2,if_pos ht];by_cases h3:(c1e c s.2.2.2.1 s.2.2.2.2 i).2=0
 ·rw[if_pos h3,if_pos h3,h3];rfl
 ·rw[if_neg h3,if_neg h3]
theorem b2g (n:Nat) (c:Conf) {s:Ser} (hw:SerW s) {e:Ev} (he:EvW e):a1a (n+23) c s e=some (putE c s e):=by
 rw[m1b,s0q (n+12) c hw,i0i _ he];unfold putE;by_cases h1:SerOk c s
 case neg=>rw[if_neg h1,if_neg (fun k:SerOk c s∧EvOk e=>h1 k.1)];rfl
 rw[if_pos h1];have hg:=h1.fold.cok.rng;simp only[obs,u0g,decide_true,Bool.not_true,tff,tfn,tfd];by_cases h2:EvOk e
 case neg=>rw[if_neg (mt (z02 _).1 h2),if_neg (fun k:SerOk c s∧EvOk e=>h2 k.2)];rfl
 rw[if_pos ((z02 _).2 h2),if_pos (And.intro h1 h2)];by_cases h3:e.1≤s.2.1
 ·rw[if_pos h3,if_pos h3];rfl
 rw[if_neg h3,if_neg h3,if_neg (show ¬(c.2.1.1=0) by have:=hg.w0;omega),y1l h2 hg.w0.1,i2e n c h1 hw];generalize ht:turned c s (e.1 / c.2.1.1)=t;have htw:=turned_w (c:=c) hw (e.1 / c.2.1.1);rw[ht] at htw;simp only[obs];by_cases h4:t.2=0
 case neg=>rw[if_neg h4,if_pos h4];rfl
 rw[if_pos h4,if_neg (nn h4),a2s,raw_put (n+15) c.1 hw.raw he,cell_add (n+14) htw.c he,if_pos h2];simp only[obs,tfn,tfd];by_cases h5:(s0s s.2.2.1 c.1 e).2=0
 case neg =>
  rw[if_neg h5,if_pos h5];simp only[obs];rw[if_neg h5];rfl
 rw[if_pos h5,if_neg (nn h5)];simp only[obs];by_cases h6:(mrgE t.1.2.2 (e0l e)).2=0
 ·rw[if_pos h6,if_neg (nn h6)];simp only[if_true]
 ·rw[if_neg h6,if_pos h6];rfl
end Go.Proofs.YtagnkfbpgkckiaaGreat

namespace Go.Plim
set_option linter.unusedVariables false
def below (w:Int) (l:List Ev) (t:Int):List Ev:=l.filter fun e=>decide (e.1 / w<t / w)
structure EndsAt (l:List Ev) (t:Int):Prop where
 foll:Foll l
 le:∀e∈l,e.1≤t
 last:∃e∈l,e.1=t
theorem EndsAt.wle {l:List Ev} {t:Int} (h:EndsAt l t) {w:Int} (hw:1≤w):∀e∈l,e.1 / w≤t / w:=fun e he=>Int.ediv_le_ediv (by omega) (h.le e he)
theorem d2n {l:List Ev} {t:Int} (h:EndsAt l t) {w:Int} (hw:1≤w):l=below w l t++win w l (t / w):=by
 have key:∀(m:List Ev),(∀e∈m,e.1 / w≤t / w)→m.Pairwise (fun a b=>a.1 / w≤b.1 / w)→m=below w m t++win w m (t / w):=by
  intro m;induction m with
  | nil=>intro _ _;rfl
  | cons x m ih =>
   intro h1 h2;rw[List.pairwise_cons] at h2;have ih':=ih (fun e he=>h1 e (by simp[he])) h2.2;have hx:=h1 x (by simp);unfold below win at *
   by_cases c:x.1 / w<t / w
   ·rw[List.filter_cons_of_pos (by simpa using c),List.filter_cons_of_neg (by simp;omega),List.cons_append,←ih']
   ·have e0:m.filter (fun e=>decide (e.1 / w<t / w))=[]:=by
     rw[List.filter_eq_nil_iff];intro y hy;have:=h2.1 y hy;simp;omega
    rw[List.filter_cons_of_neg (by simpa using c),List.filter_cons_of_pos (by simp;omega),e0,List.nil_append];rw[e0,List.nil_append] at ih';rw[←ih']
 exact key l (h.wle hw) (foll_wd hw h.foll)
theorem e2v (t:List Slo) (i:Int) (a b:Cel):tput (tput t i a) i b=tput t i b:=by
 unfold tput;rw[List.length_set,List.set_set]
theorem l1n {t:List Slo} {w a:Int} {l:List Ev} (h:TierInv t w l):∀(n:Nat) (B:List Ev),B.length=n+1→Foll (l++B)→(∀e∈B,e.1 / w=a) →
  FitsP (cellOf (win w (l++B) a)) w a∧TierInv (tput t a (cellOf (win w (l++B) a))) w (l++B):=by
 intro n;induction n with
 | zero =>
  intro B hB hf ha
  match B,hB with
  | [e],_ =>
   have he:=ha e (by simp);have:=d1x h hf;rw[he] at this;rw[win_snoc,if_pos he];exact this
 | succ n ih =>
  intro B hB hf ha;rcases List.eq_nil_or_concat B with rfl | ⟨B',e,rfl⟩
  ·cases hB
  rw[List.concat_eq_append] at *
  have he:=ha e (by simp);have hf':Foll (l++B'++[e]):=by rw[List.append_assoc];exact hf
  obtain ⟨h1,h2⟩:=ih B' (by simp at hB;exact hB) (d0y.1 hf').1 (fun x hx=>ha x (by simp[hx]));have:=d1x h2 hf';rw[he,e2v,List.append_assoc] at this;rw[←List.append_assoc,win_snoc,if_pos he];rw[List.append_assoc];exact this
theorem l1m {s:List Slo} {w:Int} {l:List Ev} {t:Int} (he:EndsAt l t) (h:TierInv s w (below w l t)):FitsP (cellOf (win w l (t / w))) w (t / w)∧TierInv (tput s (t / w) (cellOf (win w l (t / w)))) w l:=by
 have hw:=h.ok.w0;have hs:=d2n he hw;obtain ⟨e,hel,het⟩:=he.last;have hne:win w l (t / w)≠[]:=fun k=>by
  have:e∈win w l (t / w):=a1m.2 ⟨hel,by rw[het]⟩;rw[k] at this;cases this
 have hlen:(win w l (t / w)).length=((win w l (t / w)).length-1)+1:=by have:=List.length_pos_iff.2 hne;omega
 have:=l1n h _ (win w l (t / w)) hlen (by rw[←hs];exact he.foll) (fun x hx=>(a1m.1 hx).2);rw[←hs] at this;exact this
theorem edvm {t a b:Int} (ha:1≤a) (hb:1≤b) (hm:b % a=0):t / a*a / b=t / b∧t / a / (b / a)=t / b:=by
 have e:a*(b / a)=b:=by have:=Int.mul_ediv_add_emod b a;omega
 have h1:t / a / (b / a)=t / b:=by rw[Int.ediv_ediv_of_nonneg (by omega),e]
 refine ⟨?_,h1⟩;rw[←h1]
 conv=>lhs;rw[←e,Int.mul_comm (t / a) a]
 exact Int.mul_ediv_mul_of_pos _ _ (by omega)
end Go.Plim
namespace Go.Proofs.YtagnkfbpgkckiaaGreat
open Go.Flat Go.Plim
structure FInv (c:Conf) (s:Trs) (l:List Ev) (t:Int):Prop where
 ok:FoldOk c s
 i0:TierInv s.1 c.2.1.1 (below c.2.1.1 l t)
 i1:TierInv s.2.1 c.2.1.2.1 (below c.2.1.2.1 l t)
 i2:TierInv s.2.2 c.2.1.2.2 (below c.2.1.2.2 l t)
theorem OkC.m02 {c:Conf} (h:OkC c):c.2.1.2.2 % c.2.1.1=0:=by
 have h1:=Int.dvd_of_emod_eq_zero h.m1;have h2:=Int.dvd_of_emod_eq_zero h.m2;exact Int.emod_eq_zero_of_dvd (Int.dvd_trans h1 h2)
end Go.Proofs.YtagnkfbpgkckiaaGreat
namespace Go.Proofs.YtagnkfbpgkckiaaGreat
open Go.Flat Go.Plim
set_option linter.unusedVariables false
set_option linter.unusedSimpArgs false
noncomputable def now1 (c:Conf) (s:Ser):Cel×Int:=mrgE (p1u s.2.2.2.1.1 (s.2.1 / c.2.1.2.1*(c.2.1.2.1 / c.2.1.1)) (s.2.1 / c.2.1.1)).1 s.2.2.2.2.2
noncomputable def now2 (c:Conf) (s:Ser):Cel×Int :=
 if (now1 c s).2≠0 then (z0,(now1 c s).2) else mrgE (p1u s.2.2.2.1.2.1 (s.2.1 / c.2.1.2.2*(c.2.1.2.2 / c.2.1.2.1)) (s.2.1 / c.2.1.2.1)).1 (now1 c s).1
theorem b2j {c:Conf} {s:Ser} (h:SerOk c s) (hn:¬(s.2.1 = -1)):EndsP c s∧∃e,EvOk e∧e.1=s.2.1:=by
 rcases h.st with q | q
 ·exact absurd q.1 hn
 ·obtain ⟨e,he,h1⟩:=q.2.last;exact ⟨q.2,e,h2t h.raw he,h1⟩
structure At (c:Conf) (s:Ser):Prop where
 l0:0≤s.2.1
 l1:s.2.1<35184372088832
theorem serOk_at {c:Conf} {s:Ser} (h:SerOk c s) (hn:¬(s.2.1 = -1)):0≤s.2.1∧s.2.1<35184372088832:=by
 obtain ⟨_,e,he,h1⟩:=b2j h hn;rw[←h1];exact ⟨he.t0,he.t1⟩
theorem a2t (n f:Nat) (s:Trs):e0i n (f+1) (s,(3:Int),())=some (.inl ()):=by
 rw[j0c,show (decide ((3:Int)<3))=false from rfl,tff]
theorem a2u (n f:Nat) (s:Trs):e0i n (f+2) (s,(2:Int),())=some (if (40:Int)<s.2.2.length then .inr 0 else .inl ()):=by
 rw[j0c,show (decide ((2:Int)<3))=true from rfl,tft,show (decide ((2:Int)=0))=false from rfl,tff,show (decide ((2:Int)=1))=false from rfl,tff,show (decide ((2:Int)=2))=true from rfl,tft];rw[show IntKind.wrap .i64 ((2:Int)+1)=3 from rfl,a2t];simp only[tfd];split<;>rfl
theorem a2v (n f:Nat) (s:Trs):e0i n (f+3) (s,(1:Int),())=some (if (40:Int)<s.2.1.length∨(40:Int)<s.2.2.length then .inr 0 else .inl ()):=by
 rw[j0c,show (decide ((1:Int)<3))=true from rfl,tft,show (decide ((1:Int)=0))=false from rfl,tff,show (decide ((1:Int)=1))=true from rfl,tft];rw[show IntKind.wrap .i64 ((1:Int)+1)=2 from rfl,a2u];simp only[tfd];by_cases h:(40:Int)<s.2.1.length
 ·rw[if_pos h,if_pos (.inl h)]
 ·rw[if_neg h];by_cases h':(40:Int)<s.2.2.length
  ·rw[if_pos h',if_pos (.inr h')]
  ·rw[if_neg h',if_neg (fun k=>k.elim h h')]
theorem a2w (n f:Nat) (s:Trs):e0i n (f+4) (s,(0:Int),())=some (if (40:Int)<s.1.length∨(40:Int)<s.2.1.length∨(40:Int)<s.2.2.length then .inr 0 else .inl ()):=by
 rw[j0c,show (decide ((0:Int)<3))=true from rfl,tft,show (decide ((0:Int)=0))=true from rfl,tft];rw[show IntKind.wrap .i64 ((0:Int)+1)=1 from rfl,a2v];simp only[tfd];by_cases h:(40:Int)<s.1.length
 ·rw[if_pos h,if_pos (.inl h)]
 ·rw[if_neg h];by_cases h':(40:Int)<s.2.1.length∨(40:Int)<s.2.2.length
  ·rw[if_pos h',if_pos (.inr h')]
  ·rw[if_neg h',if_neg (fun k=>k.elim h h')]
def b1k (s:Trs):Prop:=s.1.length≤40∧s.2.1.length≤40∧s.2.2.length≤40
instance (s:Trs):Decidable (b1k s):=by unfold b1k;infer_instance
theorem h2y (n:Nat) (s:Trs):f1q (n+1) s=some (if b1k s then 1 else 0):=by
 rw[r1z,show a0b=(2^70-4)+4 from by decide,a2w];by_cases h:b1k s
 ·rw[if_pos h,if_neg (by unfold b1k at h;omega)];rfl
 ·rw[if_neg h,if_pos (by unfold b1k at h;omega)];rfl
theorem r05_same_l (n:Nat) (l:List Lab) (hL:l.length≤1000000):∀(rest pre:List Lab) (f:Nat) (ix len:Int),l=pre++rest→ix=pre.length→len=l.length→rest.length<f→w0a n f (l,l,len,ix,())=some (.inl ()):=by
 intro rest;induction rest with
 | nil =>
  intro pre f ix len hl hi hn hf;obtain ⟨f,rfl⟩:∃g,f=g+1:=⟨f-1,by simp at hf;omega⟩;rw[v0i];simp only[tfd,if_neg (idxe hl hi hn)]
 | cons x rest ih =>
  intro pre f ix len hl hi hn hf;obtain ⟨f,rfl⟩:∃g,f=g+1:=⟨f-1,by simp at hf;omega⟩;rw[v0i];simp only[tfd,if_pos (idx hl hi hn),c0g hl hi,obs,labEq,decide_true,Bool.not_true,tff,idxw hl hi (by omega)];exact ih (pre++[x]) f (ix+1) len (idxl hl) (idxs hi) hn (by simp at hf;omega)
structure SerL (s:Ser):Prop where
 l:s.1.length≤1000000
 r:s.2.2.1.2.2.length≤1000000
 a:s.2.2.2.1.1.length≤1000000
 b:s.2.2.2.1.2.1.length≤1000000
 d:s.2.2.2.1.2.2.length≤1000000
theorem b1o (n:Nat) (c:Conf) {s:Ser} (hw:SerW s):n0t (n+11) c s=some (if SerOk c s then 0 else 2):=by
 rw[e1p,s0q n c hw];by_cases h:SerOk c s
 ·rw[if_pos h,if_pos h];rfl
 ·rw[if_neg h,if_neg h];rfl
theorem f2p (n:Nat) (l:List Lab) (hL:l.length≤9223372036854775807):∀(rest pre:List Lab) (f:Nat) (ix len:Int),l=pre++rest→ix=pre.length→len=l.length→rest.length<f →
  k0u n f (l,len,ix,())=some (.inl ())∨k0u n f (l,len,ix,())=some (.inr 0):=by
 intro rest;induction rest with
 | nil =>
  intro pre f ix len hl hi hn hf;obtain ⟨f,rfl⟩:∃g,f=g+1:=⟨f-1,by simp at hf;omega⟩;left;rw[t0c];simp only[tfd,if_neg (idxe hl hi hn)]
 | cons x rest ih =>
  intro pre f ix len hl hi hn hf;obtain ⟨f,rfl⟩:∃g,f=g+1:=⟨f-1,by simp at hf;omega⟩;have hlen:=congrArg List.length hl;simp at hlen;rw[t0c];simp only[tfd,if_pos (idx hl hi hn),c0g hl hi,obs];rw[w64 (x:=ix+1) (by omega) (by omega)];by_cases h1:ix=40
  ·right;rw[if_pos h1]
  rw[if_neg h1];by_cases h2:(1000:Int)<x.1.length
  ·right;rw[if_pos h2]
  rw[if_neg h2];by_cases h3:(1000:Int)<x.2.length
  ·right;rw[if_pos h3]
  rw[if_neg h3];exact ih (pre++[x]) f (ix+1) len (idxl hl) (idxs hi) hn (by simp at hf;omega)
theorem s1a (n:Nat) (l:List Lab) (hL:l.length≤9223372036854775807):t0d (n+1) l=some 0∨t0d (n+1) l=some 1:=by
 rw[s1b];rcases f2p n l hL l [] a0b 0 _ rfl rfl rfl (by unfold a0b;omega) with h | h
 ·right;rw[h];rfl
 ·left;rw[h];rfl
theorem h2w (n:Nat) (s:Ser) (hL:s.1.length≤9223372036854775807):y0p (n+2) s=some 0∨y0p (n+2) s=some 1:=by
 rw[r1y];rcases s1a n s.1 hL with h | h
 ·left;rw[h];rfl
 ·rw[h];simp only[obs,tfd,if_neg (show ¬((1:Int)=0) by omega)];by_cases h1:(60:Int)<s.2.2.1.2.2.length
  ·left;rw[if_pos h1]
  rw[if_neg h1,h2y];simp only[obs];split
  ·right;rfl
  ·left;rfl
theorem ser_wf {s:Ser} (h:Wf a0n s):SerW s:=by
 obtain ⟨h1,h2,h3,h4,h5⟩:=h;refine ⟨h2,?_,trs_wf h4,slo_wf h5⟩;intro e he;exact ev_wf (h3.2.2.2 e he)
theorem w0l (n:Nat) (a b:List Lab) (hL:a.length≤9223372036854775807):∀(ra rb pa pb:List Lab) (f:Nat) (ix len:Int),a=pa++ra→b=pb++rb→pa.length=pb.length→ra.length=rb.length→ix=pa.length→len=a.length→ra.length<f →
  g0u n f (a,b,len,ix,())=some (if ra=rb then .inl () else .inr false):=by
 intro ra;induction ra with
 | nil =>
  intro rb pa pb f ix len ha hb hp hr hi hn hf;obtain ⟨f,rfl⟩:∃g,f=g+1:=⟨f-1,by simp at hf;omega⟩;have e:rb=[]:=List.length_eq_zero_iff.1 (by simpa using hr.symm);subst e;rw[l0j,decide_eq_false (idxe ha hi hn),tff,if_pos rfl]
 | cons x ra ih =>
  intro rb pa pb f ix len ha hb hp hr hi hn hf;obtain ⟨f,rfl⟩:∃g,f=g+1:=⟨f-1,by simp at hf;omega⟩;cases rb with
  | nil=>simp at hr
  | cons y rb =>
   have hlen:=congrArg List.length ha;simp at hlen;rw[l0j,decide_eq_true (idx ha hi hn),tft,c0g ha hi,c0g hb (by omega)];simp only[obs,labEq];rw[w64 (x:=ix+1) (by omega) (by omega)];by_cases h:x=y
   ·subst h;simp only[decide_true,Bool.not_true,tff];rw[ih rb (pa++[x]) (pb++[x]) f (ix+1) len (idxl ha) (idxl hb) (by simp;omega) (by simpa using hr) (idxs hi) hn (by simp at hf;omega)];simp
   ·rw[if_neg (by simp[h])];simp only[decide_eq_false h,Bool.not_false,tft]
theorem p0t (n:Nat) (a b:List Lab) (hL:a.length≤9223372036854775807):o0p (n+1) a b=some (decide (a=b)):=by
 rw[z0u];by_cases h:a.length=b.length
 ·rw[decide_eq_true (show ((a.length:Nat):Int)=(b.length:Nat) by omega)];simp only[Bool.not_true,tff];rw[w0l n a b hL a b [] [] a0b 0 _ rfl rfl rfl h rfl rfl (by unfold a0b;omega)];by_cases h':a=b
  ·rw[if_pos h',decide_eq_true h'];rfl
  ·rw[if_neg h',decide_eq_false h'];rfl
 ·rw[decide_eq_false (show ¬((a.length:Nat):Int)=(b.length:Nat) by omega),decide_eq_false (fun k:a=b=>h (by rw[k]))];rfl
theorem w0m (n:Nat) (a b:List Ev) (hL:a.length≤9223372036854775807):∀(ra rb pa pb:List Ev) (f:Nat) (ix len:Int),a=pa++ra→b=pb++rb→pa.length=pb.length→ra.length=rb.length→ix=pa.length→len=a.length→ra.length<f →
  g0v n f (a,b,len,ix,())=some (if ra=rb then .inl () else .inr false):=by
 intro ra;induction ra with
 | nil =>
  intro rb pa pb f ix len ha hb hp hr hi hn hf;obtain ⟨f,rfl⟩:∃g,f=g+1:=⟨f-1,by simp at hf;omega⟩;have e:rb=[]:=List.length_eq_zero_iff.1 (by simpa using hr.symm);subst e;rw[l0k,decide_eq_false (idxe ha hi hn),tff,if_pos rfl]
 | cons x ra ih =>
  intro rb pa pb f ix len ha hb hp hr hi hn hf;obtain ⟨f,rfl⟩:∃g,f=g+1:=⟨f-1,by simp at hf;omega⟩;cases rb with
  | nil=>simp at hr
  | cons y rb =>
   have hlen:=congrArg List.length ha;simp at hlen;rw[l0k,decide_eq_true (idx ha hi hn),tft,c0g ha hi,c0g hb (by omega)];simp only[obs,evEq];rw[w64 (x:=ix+1) (by omega) (by omega)];by_cases h:x=y
   ·subst h;simp only[decide_true,Bool.not_true,tff];rw[ih rb (pa++[x]) (pb++[x]) f (ix+1) len (idxl ha) (idxl hb) (by simp;omega) (by simpa using hr) (idxs hi) hn (by simp at hf;omega)];simp
   ·rw[if_neg (by simp[h])];simp only[decide_eq_false h,Bool.not_false,tft]
theorem a1z (n:Nat) (a b:List Ev) (hL:a.length≤9223372036854775807):o0q (n+1) a b=some (decide (a=b)):=by
 rw[z0v];by_cases h:a.length=b.length
 ·rw[decide_eq_true (show ((a.length:Nat):Int)=(b.length:Nat) by omega)];simp only[Bool.not_true,tff];rw[w0m n a b hL a b [] [] a0b 0 _ rfl rfl rfl h rfl rfl (by unfold a0b;omega)];by_cases h':a=b
  ·rw[if_pos h',decide_eq_true h'];rfl
  ·rw[if_neg h',decide_eq_false h'];rfl
 ·rw[decide_eq_false (show ¬((a.length:Nat):Int)=(b.length:Nat) by omega),decide_eq_false (fun k:a=b=>h (by rw[k]))];rfl
theorem z0a (n:Nat) (a b:List Slo) (hL:a.length≤9223372036854775807):∀(ra rb pa pb:List Slo) (f:Nat) (ix len:Int),a=pa++ra→b=pb++rb→pa.length=pb.length→ra.length=rb.length→ix=pa.length→len=a.length→ra.length<f →
  i0d n f (a,b,len,ix,())=some (if ra=rb then .inl () else .inr false):=by
 intro ra;induction ra with
 | nil =>
  intro rb pa pb f ix len ha hb hp hr hi hn hf;obtain ⟨f,rfl⟩:∃g,f=g+1:=⟨f-1,by simp at hf;omega⟩;have e:rb=[]:=List.length_eq_zero_iff.1 (by simpa using hr.symm);subst e;rw[m0p,decide_eq_false (idxe ha hi hn),tff,if_pos rfl]
 | cons x ra ih =>
  intro rb pa pb f ix len ha hb hp hr hi hn hf;obtain ⟨f,rfl⟩:∃g,f=g+1:=⟨f-1,by simp at hf;omega⟩;cases rb with
  | nil=>simp at hr
  | cons y rb =>
   have hlen:=congrArg List.length ha;simp at hlen;rw[m0p,decide_eq_true (idx ha hi hn),tft,c0g ha hi,c0g hb (by omega)];simp only[obs,sloEq];rw[w64 (x:=ix+1) (by omega) (by omega)];by_cases h:x=y
   ·subst h;simp only[decide_true,Bool.not_true,tff];rw[ih rb (pa++[x]) (pb++[x]) f (ix+1) len (idxl ha) (idxl hb) (by simp;omega) (by simpa using hr) (idxs hi) hn (by simp at hf;omega)];simp
   ·rw[if_neg (by simp[h])];simp only[decide_eq_false h,Bool.not_false,tft]
theorem l0c (n:Nat) (a b:List Slo) (hL:a.length≤9223372036854775807):i0y (n+1) a b=some (decide (a=b)):=by
 rw[c1m];by_cases h:a.length=b.length
 ·rw[decide_eq_true (show ((a.length:Nat):Int)=(b.length:Nat) by omega)];simp only[Bool.not_true,tff];rw[z0a n a b hL a b [] [] a0b 0 _ rfl rfl rfl h rfl rfl (by unfold a0b;omega)];by_cases h':a=b
  ·rw[if_pos h',decide_eq_true h'];rfl
  ·rw[if_neg h',decide_eq_false h'];rfl
 ·rw[decide_eq_false (show ¬((a.length:Nat):Int)=(b.length:Nat) by omega),decide_eq_false (fun k:a=b=>h (by rw[k]))];rfl
noncomputable instance decSer (a b:Ser):Decidable (a=b):=Classical.propDecidable _
structure SerM (s:Ser):Prop where
 l:s.1.length≤9223372036854775807
 r:s.2.2.1.2.2.length≤9223372036854775807
 a:s.2.2.2.1.1.length≤9223372036854775807
 b:s.2.2.2.1.2.1.length≤9223372036854775807
 d:s.2.2.2.1.2.2.length≤9223372036854775807
theorem v0w (n:Nat) (a b:Ser) (h:SerM a):d0w (n+3) a b=some (decide (a=b)):=by
 rw[h1h,y0m,v1n,p0t n _ _ h.l,a1z n _ _ h.r,l0c (n+1) _ _ h.a,l0c (n+1) _ _ h.b,l0c (n+1) _ _ h.d];obtain ⟨a1,a2,⟨r1,r2,r3⟩,⟨t1,t2,t3⟩,a5⟩:=a;obtain ⟨b1,b2,⟨q1,q2,q3⟩,⟨u1,u2,u3⟩,b5⟩:=b;simp only[obs,sloEq,tfd];by_cases h1:a1=b1
 case neg=>simp[h1]
 by_cases h2:a2=b2
 case neg=>simp[h1,h2]
 by_cases h3:r1=q1
 case neg=>simp[h1,h2,h3]
 by_cases h4:r2=q2
 case neg=>simp[h1,h2,h3,h4]
 by_cases h5:r3=q3
 case neg=>simp[h1,h2,h3,h4,h5]
 by_cases h6:t1=u1
 case neg=>simp[h1,h2,h3,h4,h5,h6]
 by_cases h7:t2=u2
 case neg=>simp[h1,h2,h3,h4,h5,h6,h7]
 by_cases h8:t3=u3
 case neg=>simp[h1,h2,h3,h4,h5,h6,h7,h8]
 by_cases h9:a5=b5
 case neg=>simp[h1,h2,h3,h4,h5,h6,h7,h8,h9]
 simp[h1,h2,h3,h4,h5,h6,h7,h8,h9]
def oldV (now w m:Int):Int×Int:=if OfP now w∧1≤m∧m≤4096 then (if 0<now / w+1-m then now / w+1-m else 0,0) else (0,1)
theorem e2n (n:Nat) (now w m:Int):d1r (n+4) now w m=some (oldV now w m):=by
 rw[p1i,wi_of n now w,p1g];unfold oldV;by_cases h:OfP now w
 case neg=>rw[if_neg h,if_neg (fun k=>h k.1)];rfl
 rw[if_pos h];have hq:=r1a h;simp only[obs,decide_true,Bool.not_true,tff];by_cases h1:1≤m
 case neg=>simp[h,h1]
 by_cases h2:m≤4096
 case neg=>simp[h,h1,h2]
 rw[w64 (x:=now / w+1) (by omega) (by omega),w64 (x:=now / w+1-m) (by omega) (by omega)];simp[h,h1,h2]
noncomputable def a1t (t now w m:Int):Bool:=decide (OfP t w∧(oldV now w m).2=0∧t / w<(oldV now w m).1)
theorem t1w (n:Nat) (t now w m:Int):d1s (n+5) t now w m=some (a1t t now w m):=by
 rw[a2i,wi_of (n+1) t w,e2n n now w m];unfold a1t;simp only[obs,tfd];by_cases h:OfP t w
 case neg=>rw[if_neg h,if_neg (by simp),decide_eq_false (fun k=>h k.1)]
 rw[if_pos h,if_pos rfl];by_cases h1:(oldV now w m).2=0
 ·rw[if_pos h1];exact congrArg some (decide_eq_decide.2 ⟨fun k=>⟨h,h1,k⟩,fun k=>k.2.2⟩)
 ·rw[if_neg h1,decide_eq_false (fun k=>h1 k.2.1)]
noncomputable def g1b (c:Conf) (last now:Int):Bool :=
 decide (OkC c)&&(a1t last now c.2.1.1 c.2.2.1.1&&(a1t last now c.2.1.2.1 c.2.2.1.2.1&&a1t last now c.2.1.2.2 c.2.2.1.2.2))
theorem e1o (n:Nat) (c:Conf) (last now:Int):q0r (n+6) c last now=some (g1b c last now):=by
 rw[h1j,p0v (n+2) c,t1w n,t1w n,t1w n];unfold g1b;by_cases h:OkC c
 case neg=>rw[if_neg h,decide_eq_false h];rfl
 rw[if_pos h,decide_eq_true h];simp only[obs,decide_true,tft,Bool.true_and];cases a1t last now c.2.1.1 c.2.2.1.1<;>cases a1t last now c.2.1.2.1 c.2.2.1.2.1<;>cases a1t last now c.2.1.2.2 c.2.2.1.2.2<;>rfl
noncomputable def newV (c:Conf) (l:List Lab):Ser×Int :=
 if OkC c then (if LabOk l then ((l,(-1,(r0w,(emp c,s0)))),0) else (ser0,8)) else (ser0,2)
theorem x1d (n:Nat) (l:List Lab) (h:l.length≤1000000):o0s (n+1) l=some l:=by
 rw[z0w,decide_eq_true (show (0+l.length)*32≤140737488355328 by omega)];simp only[tft,List.nil_append];by_cases h0:l.length=0
 ·rw[decide_eq_true h0,tft,List.length_eq_zero_iff.1 h0,t1m]
 ·rw[decide_eq_false h0,tff]
theorem b2h (n:Nat) (c:Conf) (l:List Lab):u0c (n+7) c l=some (newV c l):=by
 rw[m1c,p0v (n+3) c,j0x n l];unfold newV;by_cases h:OkC c
 case neg=>rw[if_neg h,if_neg h];rfl
 rw[if_pos h,if_pos h];simp only[obs,decide_true,Bool.not_true,tff];by_cases h1:LabOk l
 case neg=>rw[if_neg h1,if_neg h1];rfl
 rw[if_pos h1,if_pos h1,x1d (n+5) l (by have:=h1.n1;omega),d2a (n+2) c];rfl
abbrev Sta:=Conf×(Int×(Int×List Ser))
structure StaW (s:Sta):Prop where
 len:s.2.2.2.length≤9223372036854775807
 ser:∀x∈s.2.2.2,SerW x∧SerM x
def Whole (s:Sta):Prop:=OkC s.1∧(s.2.2.2.length:Int)=s.1.2.2.2.1
noncomputable instance (s):Decidable (Whole s):=Classical.propDecidable _
def LvX (s:Sta) (x:Ser):Prop:=x≠ser0∧(s.2.2.1 = -1∨g1b s.1 x.2.1 s.2.2.1=false)
noncomputable instance (s x):Decidable (LvX s x):=Classical.propDecidable _
def u0v (t:Int):Prop:=0≤t∧t<35184372088832
instance (t):Decidable (u0v t):=by unfold u0v;infer_instance
def Clock (s:Sta):Prop:=u0v s.2.1∧(s.2.2.1 = -1∨u0v s.2.2.1)∧s.2.2.1≤s.2.1
instance (s):Decidable (Clock s):=by unfold Clock;infer_instance
def mk (s:Sta):Int:=s.2.1 / s.1.2.1.1*s.1.2.1.1
def Twin (s:Sta) (i:Nat) (x:Ser):Prop:=LvX s x∧∃k,k<i∧∃y,s.2.2.2[k]? = some y∧LvX s y∧y.1=x.1
noncomputable instance (s i x):Decidable (Twin s i x):=Classical.propDecidable _
def s0c (s:Sta) (i:Nat) (x:Ser):Prop:=x=ser0∨(SerOk s.1 x∧0≤x.2.1∧x.2.1<mk s+s.1.2.1.1∧¬Twin s i x)
noncomputable instance (s i x):Decidable (s0c s i x):=Classical.propDecidable _
structure StaOk (s:Sta):Prop where
 whole:Whole s
 clock:Clock s
 right:∀(i:Nat) x,s.2.2.2[i]? = some x→s0c s i x
noncomputable instance (s):Decidable (StaOk s):=Classical.propDecidable _
theorem Whole.len {s:Sta} (h:Whole s):s.2.2.2.length≤65536:=by
 have:=h.1.rng.cap;have:=h.2;omega
theorem c1x {α:Type} {l:List α} {i:Nat} {x:α} (h:l[i]? = some x):at? l (i:Int)=some x:=by
 unfold at?;rw[decide_eq_true (show (0:Int)≤(i:Int) by omega),Int.toNat_natCast];exact h
theorem StaW.at {s:Sta} (h:StaW s) {i:Nat} {x:Ser} (hx:s.2.2.2[i]? = some x):SerW x∧SerM x:=h.ser x (List.mem_of_getElem? hx)
theorem f2w:SerM ser0:=⟨by simp[ser0],by simp[ser0,r0w],by simp[ser0],by simp[ser0],by simp[ser0]⟩
theorem y1b (n:Nat) {x:Ser} (h:SerM x):x0i (n+4) x=some (decide (x=ser0)):=by
 have:=v0w n x ser0 h;rw[p1z];have e:d0w (n+3) x ([],((0:Int),(((0:Int),((0:Int),[])),(([],([],[])),((0:Int),z0)))))=some (decide (x=ser0)):=this
 change a0a (d0w (n+3) x ([],((0:Int),(((0:Int),((0:Int),[])),(([],([],[])),((0:Int),z0)))))) _=_
 rw[e];rfl
theorem x0j (n:Nat) {s:Sta} {i:Nat} {x:Ser} (hx:s.2.2.2[i]? = some x) (hm:SerM x):e0p (n+7) s (i:Int)=some (decide (LvX s x)):=by
 rw[z0q,c1x hx,obs,y1b (n+2) hm,obs,tfn,tfd,e1o n];by_cases h:x=ser0
 ·rw[if_pos h,decide_eq_false (fun k:LvX s x=>k.1 h)]
 rw[if_neg h,tfd];by_cases h1:s.2.2.1 = -1
 ·rw[if_pos h1,decide_eq_true (show LvX s x from ⟨h,.inl h1⟩)]
 ·rw[if_neg h1];cases hd:g1b s.1 x.2.1 s.2.2.1
  ·rw[decide_eq_true (show LvX s x from ⟨h,.inr hd⟩)];rfl
  ·rw[decide_eq_false (fun k:LvX s x=>by rcases k.2 with k | k;exact h1 k;rw[hd] at k;cases k)];rfl
theorem place_l (n:Nat) (is:(Int×Unit)→Option Bool) (p:Nat→Bool) (L:Nat) (hL:L≤1000000) (his:∀k:Nat,k<L→is ((k:Int),())=some (p k)):∀(d k f:Nat),k+d=L→d<f →
  (∃m:Nat,k≤m∧m<L∧p m=true∧(∀j,k≤j→j<m→p j=false)∧c0x n f (is,(L:Int),(k:Int),())=some (.inr (m:Int))) ∨
  ((∀j,k≤j→j<L→p j=false)∧c0x n f (is,(L:Int),(k:Int),())=some (.inl ())):=by
 intro d;induction d with
 | zero =>
  intro k f hk hf;obtain ⟨f,rfl⟩:∃g,f=g+1:=⟨f-1,by omega⟩;refine .inr ⟨fun j h1 h2=>by omega,?_⟩;rw[l0h,decide_eq_false (by omega),tff]
 | succ d ih =>
  intro k f hk hf;obtain ⟨f,rfl⟩:∃g,f=g+1:=⟨f-1,by omega⟩;rw[l0h,decide_eq_true (by omega),tft,his k (by omega),obs];cases hp:p k
  ·rw[tff,w64 (by omega) (by omega),show ((k:Int)+1)=((k+1:Nat):Int) by omega];rcases ih (k+1) f (by omega) (by omega) with ⟨m,h1,h2,h3,h4,h5⟩ | ⟨h1,h2⟩
   ·exact .inl ⟨m,by omega,h2,h3,fun j q1 q2=>by
     rcases Nat.lt_or_ge k j with q | q
     ·exact h4 j (by omega) q2
     ·rw[show j=k by omega];exact hp,h5⟩
   ·exact .inr ⟨fun j q1 q2=>by
     rcases Nat.lt_or_ge k j with q | q
     ·exact h1 j (by omega) q2
     ·rw[show j=k by omega];exact hp,h2⟩
  ·rw[tft];exact .inl ⟨k,Nat.le_refl _,by omega,hp,fun j q1 q2=>by omega,rfl⟩
theorem y0z (n:Nat) (s:Sta) (is:(Int×Unit)→Option Bool) (p:Nat→Bool) (hL:s.2.2.2.length≤1000000) (his:∀k:Nat,k<s.2.2.2.length→is ((k:Int),())=some (p k)) :
  (∃m:Nat,m<s.2.2.2.length∧p m=true∧(∀j,j<m→p j=false)∧e0o (n+1) s is=some (m:Int)) ∨
  ((∀j,j<s.2.2.2.length→p j=false)∧e0o (n+1) s is=some (-1)):=by
 rw[z0p];rcases place_l n is p _ hL his s.2.2.2.length 0 a0b (by omega) (by unfold a0b;omega) with ⟨m,h1,h2,h3,h4,h5⟩ | ⟨h1,h2⟩
 ·refine .inl ⟨m,h2,h3,fun j q=>h4 j (by omega) q,?_⟩;have h5':c0x n a0b (is,(s.2.2.2.length:Int),(0:Int),())=some (.inr (m:Int)):=h5;rw[h5'];rfl
 ·refine .inr ⟨fun j q=>h1 j (by omega) q,?_⟩;have h2':c0x n a0b (is,(s.2.2.2.length:Int),(0:Int),())=some (.inl ()):=h2;rw[h2'];rfl
theorem k1a (n:Nat) (a b:List Lab) (h:a.length≤9223372036854775807):p0k (n+2) a b=some (decide (a=b)):=by
 rw[y0m,p0t n a b h];rfl
def IsTw (s:Sta) (i k:Nat) (x:Ser):Prop:=k=i∨∃y,s.2.2.2[k]? = some y∧LvX s y∧y.1=x.1
noncomputable instance (s i k x):Decidable (IsTw s i k x):=Classical.propDecidable _
theorem st_twin (n:Nat) {s:Sta} (hw:StaW s) (hL:s.2.2.2.length≤1000000) {i:Nat} {x:Ser} (hx:s.2.2.2[i]? = some x):q0h (n+9) s (i:Int)=some (decide (Twin s i x)):=by
 have hil:i<s.2.2.2.length:=(List.getElem?_eq_some_iff.1 hx).1;have hm:=(hw.at hx).2;rw[c1k];have his:∀k:Nat,k<s.2.2.2.length→(fun y0:Int×Unit=>g0g (n+8) y0.1 (i:Int) s) ((k:Int),())=some (decide (IsTw s i k x)):=by
  intro k hk;have hy:s.2.2.2[k]? = some s.2.2.2[k]:=List.getElem?_eq_getElem hk;generalize s.2.2.2[k]=y at hy;have hmy:=(hw.at hy).2;show g0g (n+8) (k:Int) (i:Int) s=_;rw[x0g,tfd,x0j n hy hmy,obs,c1x hy,obs,c1x hx,obs,k1a (n+5) _ _ hmy.l,obs,tfd];by_cases h1:k=i
  ·rw[if_pos (by rw[h1]),decide_eq_true (show IsTw s i k x from .inl h1)]
  rw[if_neg (by omega)];by_cases h2:LvX s y
  ·rw[if_pos h2];refine congrArg some (decide_eq_decide.2 ⟨fun h3 => .inr ⟨y,hy,h2,h3⟩,fun h3 => ?_⟩);rcases h3 with h3 | ⟨z,z1,z2,z3⟩
   ·exact absurd h3 h1
   ·rw[hy] at z1;cases z1;exact z3
  ·rw[if_neg h2,decide_eq_false];rintro (h3 | ⟨z,z1,z2,z3⟩)
   ·exact h1 h3
   ·rw[hy] at z1;cases z1;exact h2 z2
 rcases y0z (n+7) s (fun y0:Int×Unit=>g0g (n+8) y0.1 (i:Int) s) (fun k=>decide (IsTw s i k x)) hL his with ⟨m,h1,h2,h3,h4⟩ | ⟨h1,h2⟩
 ·rw[h4,obs,tfd,x0j (n+1) hx hm];have h2:=of_decide_eq_true h2;have hmi:m≤i:=by
   rcases Nat.lt_or_ge i m with q | q
   ·have:=of_decide_eq_false (h3 i q);exact absurd (.inl rfl) this
   ·exact q
  by_cases q:m<i
  ·rw[if_pos (by omega),obs];refine congrArg some (decide_eq_decide.2 ⟨fun k=>⟨k,m,q,?_⟩,fun k=>k.1⟩);exact h2.resolve_left (by omega)
  ·rw[if_neg (by omega),decide_eq_false];rintro ⟨k1,k,k2,k3⟩;exact of_decide_eq_false (h3 k (by omega)) (.inr k3)
 ·exact absurd (.inl rfl) (of_decide_eq_false (h1 i hil))
theorem y0k {s:Sta} (h:u0v s.2.1) (hw:1≤s.1.2.1.1∧s.1.2.1.1≤1099511627776):0≤mk s∧mk s≤s.2.1∧s.2.1<mk s+s.1.2.1.1∧s.2.1-s.2.1 % s.1.2.1.1=mk s:=by
 have e:=Int.mul_ediv_add_emod s.2.1 s.1.2.1.1;have e1:=Int.emod_nonneg s.2.1 (show s.1.2.1.1≠0 by omega);have e2:=Int.emod_lt_of_pos s.2.1 (show 0<s.1.2.1.1 by omega);rw[Int.mul_comm] at e;have e3:0≤mk s:=Int.mul_nonneg (Int.ediv_nonneg h.1 (by omega)) (by omega);unfold mk at *
 exact ⟨e3,by omega,by omega,by omega⟩
theorem f2n (n:Nat) {s:Sta} (h:u0v s.2.1) (hw:1≤s.1.2.1.1∧s.1.2.1.1≤1099511627776):l0p (n+1) s=some (mk s):=by
 have:=y0k h hw;have:=h.1;have:=h.2;rw[c1l,tfd,if_neg (by omega),o0k h.1,w64 (by omega) (by omega),(y0k h hw).2.2.2]
theorem st_right (n:Nat) {s:Sta} (hw:StaW s) (hh:Whole s) (ht:u0v s.2.1) {i:Nat} {x:Ser} (hx:s.2.2.2[i]? = some x):o0l (n+12) s (i:Int)=some (decide (s0c s i x)):=by
 have hm:=hw.at hx;have hr:=hh.1.rng;have hL:=hh.len;have hmk:=y0k ht hr.w0;have ht1:=ht.1;have ht2:=ht.2;have hw0:=hr.w0;obtain ⟨m1,m2,m3,m4⟩:=hmk;rw[z0o,c1x hx,obs,y1b (n+7) hm.2,obs,tfd,b1o n s.1 hm.1,obs,f2n (n+10) ht hr.w0,obs,w64 (by omega) (by omega),st_twin (n+2) hw (by omega) hx,obs];simp only[tfd];by_cases h0:x=ser0
 ·rw[if_pos h0,decide_eq_true (show s0c s i x from .inl h0)]
 rw[if_neg h0];by_cases h1:SerOk s.1 x
 case neg=>rw[if_neg h1,if_neg (by decide),decide_eq_false (fun q:s0c s i x=>by rcases q with k | k;exact h0 k;exact h1 k.1)]
 rw[if_pos h1,if_pos rfl];by_cases h2:0≤x.2.1
 case neg=>rw[if_neg h2,decide_eq_false (fun q:s0c s i x=>by rcases q with k | k;exact h0 k;exact h2 k.2.1)]
 rw[if_pos h2];by_cases h3:x.2.1<mk s+s.1.2.1.1
 case neg=>rw[if_neg h3,decide_eq_false (fun q:s0c s i x=>by rcases q with k | k;exact h0 k;exact h3 k.2.2.1)]
 rw[if_pos h3];by_cases h4:Twin s i x
 ·rw[decide_eq_true h4,decide_eq_false (fun q:s0c s i x=>by rcases q with k | k;exact h0 k;exact k.2.2.2 h4)];rfl
 ·rw[decide_eq_false h4,decide_eq_true (show s0c s i x from .inr ⟨h1,h2,h3,h4⟩)];rfl
def sta0:Sta:=(((0:Int),(((0:Int),((0:Int),(0:Int))),(((0:Int),((0:Int),(0:Int))),((0:Int),(0:Int))))),((0:Int),((0:Int),[])))
theorem e1f (n:Nat) (s:Sta):q0i (n+4) s=some (if Whole s then (s,0) else (sta0,2)):=by
 rw[u1p,p0v n s.1,obs,tfn,tfd,tfn,tfd];by_cases h:OkC s.1
 case neg=>rw[if_neg h,if_neg (show ¬((2:Int)=0) by decide),if_neg (fun k:Whole s=>h k.1)];rfl
 rw[if_pos h,if_pos rfl];by_cases h1:(s.2.2.2.length:Int)=s.1.2.2.2.1
 ·rw[if_pos h1,if_pos (show Whole s from ⟨h,h1⟩)]
 ·rw[if_neg h1,if_neg (fun k:Whole s=>h1 k.2)];rfl
theorem u1w (n:Nat) (t:Int):x0h (n+1) t=some (decide (u0v t)):=by
 rw[u1o,tfd];by_cases h:0≤t
 ·rw[if_pos h];exact congrArg some (decide_eq_decide.2 ⟨fun k=>⟨h,k⟩,fun k=>k.2⟩)
 ·rw[if_neg h,decide_eq_false (fun k:u0v t=>h k.1)]
theorem st_clock (n:Nat) (s:Sta):o0m (n+2) s=some (decide (Clock s)):=by
 rw[z0r,u1w n,u1w n,obs,obs];simp only[tfd];by_cases h:u0v s.2.1
 case neg=>rw[if_neg h,decide_eq_false (fun k:Clock s=>h k.1)]
 rw[if_pos h];by_cases h1:s.2.2.1 = -1
 ·rw[if_pos h1];exact congrArg some (decide_eq_decide.2 ⟨fun k=>⟨h,.inl h1,k⟩,fun k=>k.2.2⟩)
 rw[if_neg h1];by_cases h2:u0v s.2.2.1
 ·rw[if_pos h2];exact congrArg some (decide_eq_decide.2 ⟨fun k=>⟨h,.inr h2,k⟩,fun k=>k.2.2⟩)
 ·rw[if_neg h2,decide_eq_false (fun k:Clock s=>by rcases k.2.1 with q | q;exact h1 q;exact h2 q)]
def Wrong (s:Sta) (k:Nat):Prop:=∃x,s.2.2.2[k]? = some x∧¬s0c s k x
noncomputable instance (s k):Decidable (Wrong s k):=Classical.propDecidable _
theorem k0n (n:Nat) {s:Sta} (hw:StaW s):h0x (n+14) s=some (if StaOk s then 0 else 2):=by
 rw[q1a,e1f (n+9) s,obs,tfn,tfd];by_cases h:Whole s
 case neg=>rw[if_neg h,if_neg (show ¬((sta0,(2:Int)).2=0) by decide),if_neg (fun k:StaOk s=>h k.whole)]
 rw[if_pos h,if_pos rfl,st_clock (n+11) s,obs,tfn,tfd];by_cases h1:Clock s
 case neg=>rw[if_neg h1,if_neg (fun k:StaOk s=>h1 k.clock)]
 rw[if_pos h1];have hL:=h.len;have his:∀k:Nat,k<s.2.2.2.length→(fun y2:Int×Unit=>f0k (n+13) y2.1 s) ((k:Int),())=some (decide (Wrong s k)):=by
  intro k hk;have hy:s.2.2.2[k]? = some s.2.2.2[k]:=List.getElem?_eq_getElem hk;generalize s.2.2.2[k]=y at hy;show f0k (n+13) (k:Int) s=_;rw[h1e,st_right n hw h h1.1 hy,obs];by_cases q:s0c s k y
  ·rw[decide_eq_true q,decide_eq_false (fun z:Wrong s k=>by obtain ⟨x,x1,x2⟩:=z;rw[hy] at x1;cases x1;exact x2 q)];rfl
  ·rw[decide_eq_false q,decide_eq_true (show Wrong s k from ⟨y,hy,q⟩)];rfl
 rcases y0z (n+12) s (fun y2:Int×Unit=>f0k (n+13) y2.1 s) (fun k=>decide (Wrong s k)) (by omega) his with ⟨m,q1,q2,q3,q4⟩ | ⟨q1,q2⟩
 ·rw[show (fun y2:Int×Unit=>f0k (n+13) y2.1 (s,(0:Int)).1)=fun y2:Int×Unit=>f0k (n+13) y2.1 s from rfl];obtain ⟨x,x1,x2⟩:=of_decide_eq_true q2;rw[q4,obs,tfd,if_pos (by omega),if_neg (fun k:StaOk s=>x2 (k.right m x x1))]
 ·rw[show (fun y2:Int×Unit=>f0k (n+13) y2.1 (s,(0:Int)).1)=fun y2:Int×Unit=>f0k (n+13) y2.1 s from rfl];rw[q2,obs,tfd,if_neg (by decide),if_pos];refine ⟨h,h1,fun i x hx => ?_⟩;have:=of_decide_eq_false (q1 i (List.getElem?_eq_some_iff.1 hx).1);exact Decidable.byContradiction fun k=>this ⟨x,hx,k⟩
theorem confEq (a b:Conf):((decide (a.1=b.1))&&((decide (a.2.1.1=b.2.1.1))&&((decide (a.2.1.2.1=b.2.1.2.1))&&((decide (a.2.1.2.2=b.2.1.2.2))&&((decide (a.2.2.1.1=b.2.2.1.1))&&((decide (a.2.2.1.2.1=b.2.2.1.2.1))&&((decide (a.2.2.1.2.2=b.2.2.1.2.2))&&((decide (a.2.2.2.1=b.2.2.2.1))&&(decide (a.2.2.2.2=b.2.2.2.2))))))))))=decide (a=b):=by
 rw[Bool.eq_iff_iff];simp[Prod.ext_iff,and_assoc]
theorem a2x (n:Nat) (l:List Ser) (hL:l.length≤1000000) (hm:∀x∈l,SerM x):∀(rest pre:List Ser) (f:Nat) (ix len:Int),l=pre++rest→ix=pre.length→len=l.length→rest.length<f →
  k0t (n+2) f (l,len,ix,())=some (.inl ())∨k0t (n+2) f (l,len,ix,())=some (.inr 0):=by
 intro rest;induction rest with
 | nil =>
  intro pre f ix len hl hi hn hf;obtain ⟨f,rfl⟩:∃g,f=g+1:=⟨f-1,by simp at hf;omega⟩;left;rw[t0b];simp only[tfd,if_neg (idxe hl hi hn)]
 | cons x rest ih =>
  intro pre f ix len hl hi hn hf;obtain ⟨f,rfl⟩:∃g,f=g+1:=⟨f-1,by simp at hf;omega⟩;have hx:SerM x:=hm x (by rw[hl];simp);rw[t0b];simp only[tfd,if_pos (idx hl hi hn),c0g hl hi,obs,idxw hl hi (show l.length≤1000000000000 by omega)];rcases h2w n x hx.l with h | h
  ·rw[h];right;rfl
  ·rw[h];simp only[obs,if_neg (show ¬((1:Int)=0) by decide)];exact ih (pre++[x]) f (ix+1) len (idxl hl) (idxs hi) hn (by simp at hf;omega)
theorem h2v (n:Nat) {s:Sta} (hw:StaW s):y0o (n+3) s=some 0∨(y0o (n+3) s=some 1∧s.2.2.2.length≤8):=by
 rw[r1x];simp only[tfd];by_cases h:(8:Int)<(s.2.2.2.length:Int)
 ·rw[if_pos h];exact .inl rfl
 ·rw[if_neg h];rcases a2x n s.2.2.2 (by omega) (fun x hx=>(hw.ser x hx).2) s.2.2.2 [] a0b 0 _ rfl rfl rfl (by unfold a0b;omega) with h1 | h1
  ·rw[h1];exact .inr ⟨rfl,by omega⟩
  ·rw[h1];exact .inl rfl
theorem ser_m' {s:Ser} (h:Wf a0n s):SerM s:=by
 obtain ⟨h1,h2,h3,⟨h4,h5,h6⟩,h7⟩:=h;have e1:=h1.1;have e3:=h3.2.2.1;have e4:=h4.1;have e5:=h5.1;have e6:=h6.1;simp only[maxLen] at e1 e3 e4 e5 e6;exact ⟨e1,e3,e4,e5,e6⟩
theorem sta_wf {s:Sta} (h:Wf a0t s):StaW s:=by
 obtain ⟨h1,h2,h3,h4⟩:=h;have e:=h4.1;simp only[maxLen] at e;exact ⟨e,fun x hx=>⟨ser_wf (h4.2 x hx),ser_m' (h4.2 x hx)⟩⟩
end Go.Proofs.YtagnkfbpgkckiaaGreat
namespace Go.Proofs.YtagnkfbpgkckiaaGreat
open Go.Flat Go.Plim
set_option linter.unusedVariables false
def p1b (c:Conf) (s:Trs) (o:Slo) (l:List Ev):Prop :=
 (l=[]∧o=s0∧∀t,FInv c s [] t)∨∃t,EndsAt l t∧FInv c s l t∧o=(t / c.2.1.1,cellOf (win c.2.1.1 l (t / c.2.1.1)))
theorem emp_inv {c:Conf} (h:OkC c):p1b c (emp c) s0 []:=by
 have hr:=h.rng;have n0:=hr.n0;have n1:=hr.n1;have n2:=hr.n2;refine .inl ⟨rfl,rfl,fun t => ?_⟩;have e:emp c=(List.replicate c.2.2.1.1.toNat s0,(List.replicate c.2.2.1.2.1.toNat s0,List.replicate c.2.2.1.2.2.toNat s0)):=if_pos h;have i0:TierInv (List.replicate c.2.2.1.1.toNat s0) c.2.1.1 []:=v0t (by omega) (by omega) hr.w0.1 hr.w0.2;have i1:TierInv (List.replicate c.2.2.1.2.1.toNat s0) c.2.1.2.1 []:=v0t (by omega) (by omega) hr.w1.1 hr.w1.2;have i2:TierInv (List.replicate c.2.2.1.2.2.toNat s0) c.2.1.2.2 []:=v0t (by omega) (by omega) hr.w2.1 hr.w2.2;rw[e]
 exact ⟨⟨h,by simp;omega,by simp;omega,by simp;omega,i0.ok,i1.ok,i2.ok⟩,i0,i1,i2⟩
theorem p1b.fold {c:Conf} {s:Trs} {o:Slo} {l:List Ev} (h:p1b c s o l):FoldOk c s:=by
 rcases h with ⟨_,_,h⟩ | ⟨t,_,h,_⟩
 ·exact (h 0).ok
 ·exact h.ok
theorem j2a {e:Ev} (h:EvOk e) {w:Int} (hw:1≤w):j0i w (e.1 / w):=k1j hw ⟨h.t0,by have:=h.t1;omega⟩
def Turn (o:Slo) (i:Int):Prop:=0<o.2.1∧o.1≠i
end Go.Proofs.YtagnkfbpgkckiaaGreat
namespace Go.Proofs.YtagnkfbpgkckiaaGreat
open Go.Flat Go.Plim
set_option linter.unusedVariables false
set_option linter.unusedSimpArgs false
def c1q (room:Int) (l:List Ev):Rw :=
 (if (l.length:Int)≤room then 0 else (l.length:Int)-room,(if (l.length:Int)≤room then 0 else ((l[l.length-room.toNat-1]?).getD e0).1,l.drop (l.length-room.toNat)))
theorem g2j {room:Int} (h:1≤room) (l:List Ev):((c1q room l).2.2.length:Int)=if (l.length:Int)≤room then (l.length:Int) else room:=by
 simp only[c1q,List.length_drop];split<;>omega
theorem b2v {room:Int} (h:1≤room) (l:List Ev):(c1q room l).2.2.getLast? = l.getLast? := by
 simp only[c1q,List.getLast?_drop];by_cases h0:l=[]
 ·subst h0;simp
 ·have:0<l.length:=List.length_pos_iff.2 h0;rw[if_neg (by omega)]
theorem rawOf_ok {room:Int} (h:1≤room∧room≤4096) {l:List Ev} (hl:Foll l) (hL:l.length≤1000000):RawOk (c1q room l) room:=by
 have hlen:=g2j h.1 l;refine ⟨h.1,h.2,by rw[hlen];split<;>omega,?_,?_,?_,?_,?_⟩
 ·simp only[c1q];split<;>omega
 ·simp only[c1q];split<;>omega
 ·exact hl.sub (List.drop_sublist _ _)
 ·simp only[c1q];intro k;split
  ·rfl
  ·rename_i h1;rw[if_neg h1] at k;omega
 ·intro k;simp only[c1q] at k hlen ⊢;by_cases h1:(l.length:Int)≤room
  ·rw[if_pos h1] at k;exact absurd rfl k
  rw[if_neg h1] at hlen ⊢;obtain ⟨d,hd⟩:∃d,l.length-room.toNat=d+1:=⟨l.length-room.toNat-1,by omega⟩;rw[hd,show d+1-1=d by omega];have hdl:d<l.length:=by omega
  have hdl':d+1<l.length:=by omega
  rw[List.getElem?_eq_getElem hdl];refine ⟨by rw[←hlen,hd],((hl.ok _ (List.getElem_mem hdl)).t0),fun x hx => ?_⟩;rw[List.head?_drop,List.getElem?_eq_getElem hdl'] at hx;have:=List.pairwise_iff_getElem.1 hl.inc d (d+1) hdl hdl' (by omega);simp at hx;rw[←hx];exact this
structure SerInv (c:Conf) (s:Ser) (l:List Ev):Prop where
 lab:LabOk s.1
 len:l.length≤1000000
 raw:s.2.2.1=c1q c.1 l
 opn:p1b c s.2.2.2.1 s.2.2.2.2 l
 last:(l=[]∧s.2.1 = -1)∨EndsAt l s.2.1
theorem SerInv.foll {c:Conf} {s:Ser} {l:List Ev} (h:SerInv c s l):Foll l:=by
 rcases h.last with ⟨rfl,_⟩ | h
 ·exact Foll.nil
 ·exact h.foll
theorem o0f {l:List Ev} {t:Int} (h:EndsAt l t):∃e,l.getLast? = some e∧e.1=t:=by
 obtain ⟨x,hx,hxt⟩:=h.last;rcases List.eq_nil_or_concat l with rfl | ⟨p,y,rfl⟩
 ·cases hx
 rw[List.concat_eq_append] at *
 have h1:=h.le y (by simp);refine ⟨y,by simp,?_⟩;rcases List.mem_append.1 hx with q | q
 ·have:=(d0y.1 h.foll).2.2 x q y (by simp);omega
 ·simp at q;rw[←q];exact hxt
theorem j2m {l:List Ev} {t u:Int} (h:EndsAt l t) (k:EndsAt l u):t=u:=by
 obtain ⟨e,h1,h2⟩:=o0f h;obtain ⟨e',k1,k2⟩:=o0f k;rw[h1] at k1;simp at k1;rw[←h2,←k2,k1]
theorem j2n {l:List Ev} {t:Int} (h:EndsAt l t):l≠[]:=by
 obtain ⟨x,hx,_⟩:=h.last;exact List.ne_nil_of_mem hx
theorem SerInv.at_ {c:Conf} {s:Ser} {l:List Ev} (h:SerInv c s l) (hl:l≠[]):EndsAt l s.2.1∧FInv c s.2.2.2.1 l s.2.1∧s.2.2.2.2=(s.2.1 / c.2.1.1,cellOf (win c.2.1.1 l (s.2.1 / c.2.1.1))):=by
 have he:=h.last.resolve_left fun k=>hl k.1
 rcases h.opn with k | ⟨t,k1,k2,k3⟩
 ·exact absurd k.1 hl
 ·have:=j2m he k1;subst this;exact ⟨he,k2,k3⟩
theorem d1z {t:List Slo} {w:Int} (h:TierInv t w []):tall t=[]:=by
 cases hc:tall t with
 | nil=>rfl
 | cons x r =>
  have hx:x∈tall t:=by rw[hc];simp
  have h1:=h.cells x hx;have:=(o0z h.ok hx).1.n.n1;rw[h1] at this;simp[win,cellOf,z0] at this
theorem t0p {t:List Slo} {w u:Int} {l:List Ev} (h:TierInv t w (below w l u)) (hl:Foll l):b0l t (u / w):=by
 rw[b1w h.ok];intro x hx;have h1:=h.cells x hx;have hn:=(o0z h.ok hx).1.n;have hne:win w (below w l u) x.1≠[]:=fun k=>by
  rw[k] at h1;exact hn.ne h1
 obtain ⟨e,he⟩:=List.exists_mem_of_ne_nil _ hne;obtain ⟨k1,k2⟩:=a1m.1 he;have:=of_decide_eq_true (List.mem_filter.1 k1).2;omega
theorem t1j {w T:Int} {l:List Ev} (he:EndsAt l T):(cellOf (win w l (T / w))).2.2.1.1=T:=by
 obtain ⟨x,hx,hxt⟩:=he.last;have hm:x∈win w l (T / w):=a1m.2 ⟨hx,by rw[hxt]⟩;have hw:=k1w (w:=w) he.foll (T / w);have hh:=z1t hw (List.ne_nil_of_mem hm);have ew:EndsAt (win w l (T / w)) T:=⟨hw,fun y hy=>he.le y (a1m.1 hy).1,x,hm,hxt⟩;obtain ⟨e,k1,k2⟩:=o0f ew;have:=hh.last;rw[k1] at this;simp at this;rw[←this,k2]
theorem q1f {c:Conf} {s:Ser} {l:List Ev} (h:SerInv c s l):SerOk c s:=by
 have hf:=h.opn.fold;have hr:=hf.cok.rng;have hraw:RawOk s.2.2.1 c.1:=by rw[h.raw];exact rawOf_ok hr.raw h.foll h.len
 refine ⟨hf,h.lab,hraw,?_⟩;by_cases hl:l=[]
 ·subst hl;refine .inl ?_;have hlast:=h.last.resolve_right fun k=>j2n k rfl
  rcases h.opn with ⟨_,k1,k2⟩ | ⟨t,k1,_⟩
  ·have:=k2 0;exact ⟨hlast.2,by rw[h.raw];simp[c1q],k1,(f1e this.ok.t0).2 (d1z this.i0),(f1e this.ok.t1).2 (d1z this.i1),(f1e this.ok.t2).2 (d1z this.i2)⟩
  ·exact absurd rfl (j2n k1)
 ·obtain ⟨he,hi,ho⟩:=h.at_ hl;obtain ⟨x,hx,hxt⟩:=he.last;have:=(he.foll.ok x hx).t0;refine .inr ⟨by omega,?_,?_,?_,t0p hi.i0 he.foll,t0p hi.i1 he.foll,t0p hi.i2 he.foll⟩
  ·rw[h.raw,b2v hr.raw.1];exact o0f he
  ·rw[ho];exact t1j he
  ·rw[ho];exact (l1m he hi.i0).1
theorem serInv_w {c:Conf} {s:Ser} {l:List Ev} (h:SerInv c s l):SerW s:=by
 have hok:=q1f h;refine ⟨?_,fun e he=>EvW.of (hok.raw.f.ok e he),hok.fold.w,?_⟩
 ·by_cases hn:s.2.1 = -1
  ·rw[hn];unfold I64;omega
  ·have:=serOk_at hok hn;unfold I64;omega
 ·rcases h.opn with ⟨_,k,_⟩ | ⟨t,he,hi,ho⟩
  ·rw[k];exact z0s
  ·obtain ⟨x,hx,hxt⟩:=he.last;have hxo:=he.foll.ok x hx;have:=r1b hxo hi.ok.cok.rng.w0.1;rw[hxt] at this;rw[ho];exact ⟨by unfold I64;simp only;omega,.of (k2e (k1w he.foll _))⟩
theorem h2e {c:Conf} {l:List Lab} (h:OkC c) (hl:LabOk l):SerInv c (l,(-1,(r0w,(emp c,s0)))) [] :=
 ⟨hl,by simp,by have:=h.rng.raw;simp[c1q,r0w];omega,emp_inv h,.inl ⟨rfl,rfl⟩⟩
noncomputable def r0k (s:Sta) (l:List Lab):Option Nat:=s.2.2.2.findIdx? fun x=>decide (x.1=l∧LvX s x)
noncomputable def v0y (s:Sta):Option Nat:=s.2.2.2.findIdx? fun x=>decide (¬LvX s x)
noncomputable def lvAt (s:Sta) (i:Nat):Bool:=match s.2.2.2[i]? with | some x=>decide (LvX s x) | none=>false
noncomputable def f1i (s:Sta):List Nat:=(List.range s.2.2.2.length).filter (lvAt s)
theorem i0q {s:Sta} {l:List Lab} {i:Nat}:r0k s l=some i↔∃x,s.2.2.2[i]? = some x∧x.1=l∧LvX s x∧∀j,j<i→∀y,s.2.2.2[j]? = some y→¬(y.1=l∧LvX s y):=by
 unfold r0k;rw[List.findIdx?_eq_some_iff_getElem];constructor
 ·rintro ⟨h,h1,h2⟩;have h1:=of_decide_eq_true h1;refine ⟨_,List.getElem?_eq_getElem h,h1.1,h1.2,fun j hj y hy => ?_⟩;obtain ⟨hjl,e⟩:=List.getElem?_eq_some_iff.1 hy;have:=h2 j hj;rw[e] at this
  simpa using this
 ·rintro ⟨x,hx,h1,h2,h3⟩;obtain ⟨hl,e⟩:=List.getElem?_eq_some_iff.1 hx;refine ⟨hl,by rw[e];exact decide_eq_true ⟨h1,h2⟩,fun j hj => ?_⟩;have:=h3 j hj _ (List.getElem?_eq_getElem (by omega))
  simpa using this
theorem p0r {s:Sta} {l:List Lab}:r0k s l=none↔∀x∈s.2.2.2,¬(x.1=l∧LvX s x):=by
 unfold r0k;rw[List.findIdx?_eq_none_iff];simp
theorem a1c {s:Sta} {i:Nat}:v0y s=some i↔∃x,s.2.2.2[i]? = some x∧¬LvX s x∧∀j,j<i→∀y,s.2.2.2[j]? = some y→LvX s y:=by
 unfold v0y;rw[List.findIdx?_eq_some_iff_getElem];constructor
 ·rintro ⟨h,h1,h2⟩;refine ⟨_,List.getElem?_eq_getElem h,of_decide_eq_true h1,fun j hj y hy => ?_⟩;obtain ⟨hjl,e⟩:=List.getElem?_eq_some_iff.1 hy;have:=h2 j hj;rw[e] at this
  simpa using this
 ·rintro ⟨x,hx,h1,h3⟩;obtain ⟨hl,e⟩:=List.getElem?_eq_some_iff.1 hx;refine ⟨hl,by rw[e];exact decide_eq_true h1,fun j hj => ?_⟩;have:=h3 j hj _ (List.getElem?_eq_getElem (by omega))
  simpa using this
theorem b2o {s:Sta}:v0y s=none↔∀x∈s.2.2.2,LvX s x:=by
 unfold v0y;rw[List.findIdx?_eq_none_iff];simp
theorem h2j {s:Sta} {i:Nat} {x:Ser} (h:s.2.2.2[i]? = some x):lvAt s i=decide (LvX s x):=by
 unfold lvAt;rw[h]
theorem live_len (s:Sta):(f1i s).length≤s.2.2.2.length:=by
 have:=List.length_filter_le (lvAt s) (List.range s.2.2.2.length)
 simpa [f1i] using this
noncomputable def e0w (s:Sta) (l:List Lab) (e:Ev):Int×(Bool×Int) :=
 if ¬StaOk s then (0,(false,2)) else if ¬LabOk l then (0,(false,8)) else if ¬EvOk e then (0,(false,2)) else
 if e.1<mk s∨mk s+s.1.2.1.1≤e.1 then (0,(false,9)) else
 match r0k s l with
 | some i=>if e.1≤((s.2.2.2[i]?).getD ser0).2.1 then (0,(false,9)) else ((i:Int),(false,0))
 | none=>if e.2.2.2=true then (0,(false,3)) else match v0y s with | some i=>((i:Int),(true,0)) | none=>(0,(false,7))
end Go.Proofs.YtagnkfbpgkckiaaGreat
namespace Go.Proofs.YtagnkfbpgkckiaaGreat
open Go.Flat
theorem pow_le (k:Nat) (hk:k≤7):(256:Int)^k≤72057594037927936:=by
 match k,hk with
 | 0,_ | 1,_ | 2,_ | 3,_ | 4,_ | 5,_ | 6,_ | 7,_=>decide
theorem two_pow8 (k:Nat):(2:Int)^(8*k)=256^k:=by rw[Int.pow_mul];rfl
theorem e2i (n:Nat) (x:Int):∀(k f:Nat) (w:List Int),k≤8→k<f→w.length+k≤1000000 →
  e0m n f (w,x,8*((k:Int)-1),())=some (.inl (w++beI k x,())):=by
 intro k;induction k with
 | zero =>
  intro f w _ hf _;obtain ⟨f,rfl⟩:∃g,f=g+1:=⟨f-1,by omega⟩;rw[i0s];simp[tfd,beI]
 | succ k ih =>
  intro f w hk hf hl;obtain ⟨f,rfl⟩:∃g,f=g+1:=⟨f-1,by omega⟩;rw[i0s];have h1:(0:Int)≤8*(((k+1:Nat):Int)-1):=by omega
  have h2:¬(8*(((k+1:Nat):Int)-1)<(0:Int)):=by omega
  have h3:(w.length+1)*1≤140737488355328:=by omega
  simp only[tfd,if_pos h1,if_neg h2,if_pos h3];have e1:IntKind.wrap .i64 (8*(((k+1:Nat):Int)-1)-8)=8*((k:Int)-1):=by rw[w64 (by omega) (by omega)];omega
  have e2:IntKind.wrap .u8 (shrI .u64 x (8*(((k+1:Nat):Int)-1)))=x / 256^k % 256:=by
   rw[v0o];congr 1;have:min (8*(((k+1:Nat):Int)-1)).toNat IntKind.u64.bits=8*k:=by
    have:(8*(((k+1:Nat):Int)-1)).toNat=8*k:=by omega
    rw[this];show min (8*k) 64=8*k;omega
   simp only[shrI,this,two_pow8];exact Int.fdiv_eq_ediv_of_nonneg _ (Int.le_of_lt (Int.pow_pos (by decide)))
  rw[e1,e2,ih f _ (by omega) (by omega) (by simp;omega)];simp[beI]
theorem b0v (n:Nat) (w:List Int) (k:Nat) (width x:Int) (hw:width=k) (hk:1≤k) (hk':k≤8) (hl:w.length+k≤1000000) :
  a0r (n+1) w width x=some (w++beI k x):=by
 subst hw;rw[t0l];have h1:¬((k:Int)<1):=by omega
 have h2:¬((8:Int)<k):=by omega
 have e:IntKind.wrap .i64 (8*IntKind.wrap .i64 ((k:Int)-1))=8*((k:Int)-1):=by
  rw[w64 (x:=(k:Int)-1) (by omega) (by omega),w64 (by omega) (by omega)]
 simp only[tfd,if_neg h1,if_neg h2,e];rw[e2i n x k a0b w hk' (by unfold a0b;omega) hl];rfl
theorem or_shl (v b:Int) (hv:0≤v) (hv':v<72057594037927936) (hb:0≤b) (hb':b≤255):orI .u64 (shlI .u64 v 8) (IntKind.wrap .u64 b)=v*256+b:=by
 obtain ⟨a,rfl⟩:=Int.eq_ofNat_of_zero_le hv;obtain ⟨c,rfl⟩:=Int.eq_ofNat_of_zero_le hb;have e1:shlI .u64 (a:Int) 8=((a*256:Nat):Int):=by
  show IntKind.wrap .u64 ((a:Int)*2^(min 8 64))=_;have:(2:Int)^(min 8 64)=256:=by decide
  rw[this,wu64 (by omega) (by omega)];omega
 rw[e1,wu64 (by omega) (by omega)];unfold orI;have e2:(BitVec.ofInt IntKind.u64.bits ((a*256:Nat):Int) ||| BitVec.ofInt IntKind.u64.bits (c:Int)).toNat=a*256+c:=by
  show (BitVec.ofInt 64 ((a*256:Nat):Int) ||| BitVec.ofInt 64 (c:Int)).toNat=_;rw[BitVec.toNat_or,BitVec.ofInt_natCast,BitVec.ofInt_natCast,BitVec.toNat_ofNat,BitVec.toNat_ofNat,Nat.mod_eq_of_lt (by omega),Nat.mod_eq_of_lt (by omega)];have:=Nat.two_pow_add_eq_or_of_lt (i:=8) (b:=c) (by omega) a;rw[Nat.mul_comm a 256];exact this.symm
 rw[e2,wu64 (by omega) (by omega)];omega
theorem l1p (l:List Int) (i:Nat) (h:i<l.length):valI (l.take (i+1))=valI (l.take i)*256+l[i]:=by
 rw[List.take_succ_eq_append_getElem h,valI,List.foldl_append];rfl
theorem g2g (n:Nat) (r:List UInt8×Bool) (l:List Int) (hl:l.length≤8) (hr:∀x∈l,0≤x∧x≤255):∀(m i f:Nat),m+i=l.length→m<f →
  c0i n f (r,valI (l.take i),l,(l.length:Int),(i:Int),())=some (.inl (r,valI l,())):=by
 intro m;induction m with
 | zero =>
  intro i f hi hf;obtain ⟨f,rfl⟩:∃g,f=g+1:=⟨f-1,by omega⟩;rw[i0t];have h1:¬((i:Int)<(l.length:Int)):=by omega
  simp only[tfd,if_neg h1];rw[List.take_of_length_le (by omega)]
 | succ m ih =>
  intro i f hi hf;obtain ⟨f,rfl⟩:∃g,f=g+1:=⟨f-1,by omega⟩;rw[i0t];have hlt:i<l.length:=by omega
  have h1:(i:Int)<(l.length:Int):=by omega
  have e1:at? l (i:Int)=some l[i]:=by simp[at?,hlt]
  have hb:=hr l[i] (List.getElem_mem hlt);have hv:=d1t (l:=l.take i) fun x hx=>hr x (List.mem_of_mem_take hx)
  rw[List.length_take_of_le (by omega)] at hv;have hp:=pow_le i (by omega);have e2:IntKind.wrap .i64 ((i:Int)+1)=((i+1:Nat):Int):=by rw[w64 (by omega) (by omega)];omega
  simp only[tfd,if_pos h1,e1,obs,e2];rw[or_shl _ _ hv.1 (by omega) hb.1 hb.2,←l1p l i hlt];exact ih (i+1) f (by omega) (by omega)
def rd (st:List UInt8×Bool) (k:Nat):Int×(List UInt8×Bool):=if st.2=true∨st.1.length<k then (0,([],true)) else (valI (c0s (st.1.take k)),(st.1.drop k,false))
theorem a0q (n:Nat) (st:List UInt8×Bool) (k:Nat) (width:Int) (hw:width=k) (hk:1≤k) (hk':k≤8):a0e (n+3) st width=some (rd st k):=by
 subst hw;rw[t0m,i0j];simp only[c0q];have h1:¬((k:Int)<1):=by omega
 have h2:¬((8:Int)<k):=by omega
 have h3:¬((k:Int)<0):=by omega
 have e0:(k:Int).toNat=k:=by omega
 have fin:∀(s:List UInt8) (q:List UInt8×Bool),s.length≤8 →
   (a0a (c0i (n+2) a0b (q,(0,(s.map fun y=>((y.toNat:Nat):Int)),(((s.map fun y=>((y.toNat:Nat):Int)).length:Nat):Int),0,()))) fun r5=>b0z (fun y6=>some (y6.2.1,y6.1)) (fun z7=>some z7) r5)=some (valI (c0s s),q):=by
  intro s q hs;have:=g2g (n+2) q (c0s s) (by rw[r0r];exact hs) (t0o s) s.length 0 a0b (by rw[r0r];omega) (by unfold a0b;omega);simp only[List.take_zero] at this;have hv0:valI []=0:=rfl;rw[hv0] at this;show a0a (c0i (n+2) a0b (q,0,c0s s,((c0s s).length:Int),((0:Nat):Int),())) _=_;rw[this];rfl
 simp only[tfd,if_neg h1,if_neg h2,if_neg h3];obtain ⟨s,b⟩:=st;cases b with
 | true =>
  simp only[tft,obs];have:=fin [] ([],true) (by simp);simp only[List.map_nil] at this;rw[show rd (s,true) k=(0,([],true)) by simp[rd]];exact this
 | false =>
  simp only[tff,obs];by_cases hlt:s.length<k
  ·have h4:(s.length:Int)<k:=by omega
   rw[if_pos h4];simp only[obs];have:=fin [] ([],true) (by simp);simp only[List.map_nil] at this;rw[show rd (s,false) k=(0,([],true)) by simp[rd,hlt]];exact this
  ·have h4:¬((s.length:Int)<k):=by omega
   have h5:(0:Int)≤k:=by omega
   have h6:(k:Int)≤(s.length:Int):=by omega
   have h7:k≤s.length:=by omega
   simp only[if_neg h4,v0s,tfd,if_pos h5,if_pos h6,e0,if_pos h7,obs];rw[show rd (s,false) k=(valI (c0s (s.take k)),(s.drop k,false)) by simp[rd,hlt]];rw[List.drop_zero,List.take_length];exact fin (s.take k) (s.drop k,false) (by simp;omega)
def bts (c:Conf):List Int :=
 beI 4 c.1++(beI 8 c.2.1.1++(beI 8 c.2.1.2.1++(beI 8 c.2.1.2.2++(beI 4 c.2.2.1.1++(beI 4 c.2.2.1.2.1++(beI 4 c.2.2.1.2.2++(beI 4 c.2.2.2.1++(beI 4 c.2.2.2.2++beI 8 0))))))))
theorem d2x (c:Conf):(bts c).length=56:=by simp[bts,c0j]
theorem bytes_ok (n:Nat) {c:Conf} (h:OkC c):b1b (n+4) c=some (toB (bts c)):=by
 rw[o1n,z0f n h];obtain ⟨⟨raw,cap,log,w0,w1,w2,n0,n1,n2⟩,_⟩:=h;simp only[obs,tfd,tfn];rw[if_pos trivial];rw[wu64 (x:=c.1) (by omega) (by omega),wu64 (x:=c.2.1.1) (by omega) (by omega),wu64 (x:=c.2.1.2.1) (by omega) (by omega),wu64 (x:=c.2.1.2.2) (by omega) (by omega),wu64 (x:=c.2.2.1.1) (by omega) (by omega),
  wu64 (x:=c.2.2.1.2.1) (by omega) (by omega),wu64 (x:=c.2.2.1.2.2) (by omega) (by omega),wu64 (x:=c.2.2.2.1) (by omega) (by omega),wu64 (x:=c.2.2.2.2) (by omega) (by omega)]
 rw[b0v _ _ 4 4 _ rfl (by omega) (by omega) (by simp)];simp only[obs];rw[b0v _ _ 8 8 _ rfl (by omega) (by omega) (by simp[c0j])];simp only[obs];rw[b0v _ _ 8 8 _ rfl (by omega) (by omega) (by simp[c0j])];simp only[obs];rw[b0v _ _ 8 8 _ rfl (by omega) (by omega) (by simp[c0j])];simp only[obs];rw[b0v _ _ 4 4 _ rfl (by omega) (by omega) (by simp[c0j])];simp only[obs];rw[b0v _ _ 4 4 _ rfl (by omega) (by omega) (by simp[c0j])];simp only[obs]
 rw[b0v _ _ 4 4 _ rfl (by omega) (by omega) (by simp[c0j])];simp only[obs];rw[b0v _ _ 4 4 _ rfl (by omega) (by omega) (by simp[c0j])];simp only[obs];rw[b0v _ _ 4 4 _ rfl (by omega) (by omega) (by simp[c0j])];simp only[obs];rw[b0v _ _ 8 8 _ rfl (by omega) (by omega) (by simp[c0j])];simp only[obs];rw[n0m];simp only[obs,List.nil_append,List.append_assoc];rfl
theorem a1e (k:Nat) (v:Int) (t:List UInt8):rd (toB (beI k v)++t,false) k=(v % 256^k,(t,false)):=by
 have hl:(toB (beI k v)).length=k:=by rw[g0q,c0j]
 unfold rd;rw[if_neg (by simp[hl])];have h1:(toB (beI k v)++t).take k=toB (beI k v):=by rw[List.take_append_of_le_length (by omega),List.take_of_length_le (by omega)]
 have h2:(toB (beI k v)++t).drop k=t:=by rw[List.drop_append_of_le_length (by omega),List.drop_of_length_le (by omega)];rfl
 rw[h1,h2,k1n (k2u v k),val_be]
theorem rd_good {st:List UInt8×Bool} {k:Nat} (h:(rd st k).2.2=false):st.2=false∧st.1=toB (beI k (rd st k).1)++(rd st k).2.1∧0≤(rd st k).1∧(rd st k).1<256^k:=by
 unfold rd at h ⊢;split at h
 ·cases h
 ·rename_i hn;rw[if_neg hn];simp only[not_or,Nat.not_lt,Bool.not_eq_true] at hn;have hl:(c0s (st.1.take k)).length=k:=by rw[r0r,List.length_take];omega
  have hv:=d1t (t0o (st.1.take k));rw[hl] at hv;refine ⟨hn.1,?_,hv⟩;dsimp only;rw[k2t (t0o _) hl,t0s,List.take_append_drop]
theorem y1i (st:List UInt8×Bool) (k:Nat):0≤(rd st k).1∧(rd st k).1<256^k:=by
 cases h:(rd st k).2.2 with
 | false=>exact (rd_good h).2.2
 | true =>
  unfold rd at h ⊢;split
  ·exact ⟨by simp,Int.pow_pos (by decide)⟩
  ·rename_i hn;rw[if_neg hn] at h;cases h
def q0 (s:List UInt8):=rd (s,false) 4
def q1 (s:List UInt8):=rd (q0 s).2 8
def q2 (s:List UInt8):=rd (q1 s).2 8
def q3 (s:List UInt8):=rd (q2 s).2 8
def q4 (s:List UInt8):=rd (q3 s).2 4
def q5 (s:List UInt8):=rd (q4 s).2 4
def q6 (s:List UInt8):=rd (q5 s).2 4
def q7 (s:List UInt8):=rd (q6 s).2 4
def q8 (s:List UInt8):=rd (q7 s).2 4
def q9 (s:List UInt8):=rd (q8 s).2 8
def cfg (s:List UInt8):Conf:=(IntKind.wrap .i64 (q0 s).1,((IntKind.wrap .i64 (q1 s).1,(IntKind.wrap .i64 (q2 s).1,IntKind.wrap .i64 (q3 s).1)),((IntKind.wrap .i64 (q4 s).1,(IntKind.wrap .i64 (q5 s).1,IntKind.wrap .i64 (q6 s).1)),(IntKind.wrap .i64 (q7 s).1,IntKind.wrap .i64 (q8 s).1))))
def cfg0:Conf:=(0,((0,(0,0)),((0,(0,0)),(0,0))))
structure Full (s:List UInt8):Prop where
 z:(q9 s).1=0
 good:(q9 s).2.2=false
 left:(q9 s).2.1=[]
theorem k2d {c:Conf} (hr:Rng c):cfg (toB (bts c))=c∧Full (toB (bts c)):=by
 obtain ⟨raw,cap,log,w0,w1,w2,n0,n1,n2⟩:=hr;have p4:(256:Int)^4=4294967296:=by decide
 have p8:(256:Int)^8=18446744073709551616:=by decide
 have e:toB (bts c)=toB (beI 4 c.1)++(toB (beI 8 c.2.1.1)++(toB (beI 8 c.2.1.2.1)++(toB (beI 8 c.2.1.2.2)++(toB (beI 4 c.2.2.1.1)++(toB (beI 4 c.2.2.1.2.1)++(toB (beI 4 c.2.2.1.2.2)++(toB (beI 4 c.2.2.2.1)++(toB (beI 4 c.2.2.2.2)++(toB (beI 8 0)++[]))))))))):=by
  simp only[bts,a2m,List.append_nil]
 rw[e];generalize hs:toB (beI 4 c.1)++_=s;have a0:q0 s=(c.1,(toB (beI 8 c.2.1.1)++(toB (beI 8 c.2.1.2.1)++(toB (beI 8 c.2.1.2.2)++(toB (beI 4 c.2.2.1.1)++(toB (beI 4 c.2.2.1.2.1)++(toB (beI 4 c.2.2.1.2.2)++(toB (beI 4 c.2.2.2.1)++(toB (beI 4 c.2.2.2.2)++(toB (beI 8 0)++[])))))))),false)):=by
  unfold q0;rw[←hs,a1e,p4,Int.emod_eq_of_lt (by omega) (by omega)]
 have a1:q1 s=(c.2.1.1,(toB (beI 8 c.2.1.2.1)++(toB (beI 8 c.2.1.2.2)++(toB (beI 4 c.2.2.1.1)++(toB (beI 4 c.2.2.1.2.1)++(toB (beI 4 c.2.2.1.2.2)++(toB (beI 4 c.2.2.2.1)++(toB (beI 4 c.2.2.2.2)++(toB (beI 8 0)++[]))))))),false)):=by
  unfold q1;rw[a0,a1e,p8,Int.emod_eq_of_lt (by omega) (by omega)]
 have a2:q2 s=(c.2.1.2.1,(toB (beI 8 c.2.1.2.2)++(toB (beI 4 c.2.2.1.1)++(toB (beI 4 c.2.2.1.2.1)++(toB (beI 4 c.2.2.1.2.2)++(toB (beI 4 c.2.2.2.1)++(toB (beI 4 c.2.2.2.2)++(toB (beI 8 0)++[])))))),false)):=by
  unfold q2;rw[a1,a1e,p8,Int.emod_eq_of_lt (by omega) (by omega)]
 have a3:q3 s=(c.2.1.2.2,(toB (beI 4 c.2.2.1.1)++(toB (beI 4 c.2.2.1.2.1)++(toB (beI 4 c.2.2.1.2.2)++(toB (beI 4 c.2.2.2.1)++(toB (beI 4 c.2.2.2.2)++(toB (beI 8 0)++[]))))),false)):=by
  unfold q3;rw[a2,a1e,p8,Int.emod_eq_of_lt (by omega) (by omega)]
 have a4:q4 s=(c.2.2.1.1,(toB (beI 4 c.2.2.1.2.1)++(toB (beI 4 c.2.2.1.2.2)++(toB (beI 4 c.2.2.2.1)++(toB (beI 4 c.2.2.2.2)++(toB (beI 8 0)++[])))),false)):=by
  unfold q4;rw[a3,a1e,p4,Int.emod_eq_of_lt (by omega) (by omega)]
 have a5:q5 s=(c.2.2.1.2.1,(toB (beI 4 c.2.2.1.2.2)++(toB (beI 4 c.2.2.2.1)++(toB (beI 4 c.2.2.2.2)++(toB (beI 8 0)++[]))),false)):=by
  unfold q5;rw[a4,a1e,p4,Int.emod_eq_of_lt (by omega) (by omega)]
 have a6:q6 s=(c.2.2.1.2.2,(toB (beI 4 c.2.2.2.1)++(toB (beI 4 c.2.2.2.2)++(toB (beI 8 0)++[])),false)):=by
  unfold q6;rw[a5,a1e,p4,Int.emod_eq_of_lt (by omega) (by omega)]
 have a7:q7 s=(c.2.2.2.1,(toB (beI 4 c.2.2.2.2)++(toB (beI 8 0)++[]),false)):=by
  unfold q7;rw[a6,a1e,p4,Int.emod_eq_of_lt (by omega) (by omega)]
 have a8:q8 s=(c.2.2.2.2,(toB (beI 8 0)++[],false)):=by
  unfold q8;rw[a7,a1e,p4,Int.emod_eq_of_lt (by omega) (by omega)]
 have a9:q9 s=(0,([],false)):=by
  unfold q9;rw[a8,a1e,p8];rfl
 refine ⟨?_,by rw[a9],by rw[a9],by rw[a9]⟩;unfold cfg;rw[a0,a1,a2,a3,a4,a5,a6,a7,a8];dsimp only;rw[w64 (x:=c.1) (by omega) (by omega),w64 (x:=c.2.1.1) (by omega) (by omega),w64 (x:=c.2.1.2.1) (by omega) (by omega),w64 (x:=c.2.1.2.2) (by omega) (by omega),w64 (x:=c.2.2.1.1) (by omega) (by omega),
  w64 (x:=c.2.2.1.2.1) (by omega) (by omega),w64 (x:=c.2.2.1.2.2) (by omega) (by omega),w64 (x:=c.2.2.2.1) (by omega) (by omega),w64 (x:=c.2.2.2.2) (by omega) (by omega)]
theorem q1l (n:Nat) (s:List UInt8):t0k (n+4) s =
  (if (q9 s).1=0 then tif (q9 s).2.2 (some (cfg0,4)) (if (0:Int)<(((q9 s).2.1.length:Nat):Int) then some (cfg0,4) else
   a0a (d0l (n+3) (cfg s)) fun r13=>if r13=0 then some (cfg s,0) else some (cfg0,4)) else some (cfg0,4)):=by
 rw[s1z,e0n];simp only[obs];rw[a0q n _ 4 4 rfl (by omega) (by omega)];simp only[obs];rw[a0q n _ 8 8 rfl (by omega) (by omega)];simp only[obs];rw[a0q n _ 8 8 rfl (by omega) (by omega)];simp only[obs];rw[a0q n _ 8 8 rfl (by omega) (by omega)];simp only[obs];rw[a0q n _ 4 4 rfl (by omega) (by omega)];simp only[obs];rw[a0q n _ 4 4 rfl (by omega) (by omega)];simp only[obs];rw[a0q n _ 4 4 rfl (by omega) (by omega)];simp only[obs];rw[a0q n _ 4 4 rfl (by omega) (by omega)];simp only[obs]
 rw[a0q n _ 4 4 rfl (by omega) (by omega)];simp only[obs];rw[a0q n _ 8 8 rfl (by omega) (by omega)];simp only[obs,d0a,h0u,tfd,tfn];rfl
theorem read_yes (n:Nat) {s:List UInt8} (h:OkC (cfg s)) (hf:Full s):t0k (n+4) s=some (cfg s,0):=by
 rw[q1l,if_pos hf.z,hf.good,hf.left,z0f n h];rfl
theorem read_no (n:Nat) {s:List UInt8} (h:¬(OkC (cfg s)∧Full s)):t0k (n+4) s=some (cfg0,4):=by
 rw[q1l];by_cases h1:(q9 s).1=0
 case neg=>rw[if_neg h1]
 rw[if_pos h1];cases h2:(q9 s).2.2 with
 | true=>rfl
 | false =>
  simp only[tff];by_cases h3:(q9 s).2.1=[]
  ·rw[h3];have hno:¬OkC (cfg s):=fun hc=>h ⟨hc,h1,h2,h3⟩
   rw[z1s n hno];rfl
  ·rw[if_pos];have:0<(q9 s).2.1.length:=List.length_pos_iff.2 h3;omega
def idxC (c:Conf):Int:=prt c.2.2.2.2 120
def hom (c:Conf):Int:=1+idxC c+c.2.2.2.2
theorem p1a (n:Nat) {c:Conf} (h:OkC c):i0r (n+4) c=some (plc c)∧q1w (n+4) c=some (plc c):=by
 rw[o1m,q1v,z0f n h,q1t n h,e1u (n+1) h.rng,y0b (n+1) h.rng];simp only[obs,tfd,tfn];rw[if_pos trivial];exact ⟨rfl,rfl⟩
end Go.Proofs.YtagnkfbpgkckiaaGreat
namespace Go.Proofs.YtagnkfbpgkckiaaGreat
open Go.Flat
set_option linter.unusedVariables false
set_option linter.unusedSimpArgs false
end Go.Proofs.YtagnkfbpgkckiaaGreat
namespace Go.Proofs.YtagnkfbpgkckiaaGreat
open Go.Flat Go.Plim
set_option linter.unusedVariables false
set_option linter.unusedSimpArgs false
theorem z1l {l:List Ser} {k:Nat} (h:k<l.length):∃y,l[k]? = some y:=⟨l[k],List.getElem?_eq_getElem h⟩
noncomputable def s1p (s:Sta) (l:List Lab):Int×Int:=if Whole s then (match r0k s l with | some i=>((i:Int),0) | none=>(0,3)) else (0,2)
noncomputable def b2r (s:Sta):Int×Int:=if Whole s then (match v0y s with | some i=>((i:Int),0) | none=>(0,7)) else (0,2)
noncomputable def liveR (s:Sta):List Int:=if Whole s then (f1i s).map Int.ofNat else []
def IsF (s:Sta) (l:List Lab) (k:Nat):Prop:=∃y,s.2.2.2[k]? = some y∧y.1=l∧LvX s y
noncomputable instance (s l k):Decidable (IsF s l k):=Classical.propDecidable _
def IsR (s:Sta) (k:Nat):Prop:=∃y,s.2.2.2[k]? = some y∧¬LvX s y
noncomputable instance (s k):Decidable (IsR s k):=Classical.propDecidable _
theorem d2f {s:Sta} {l:List Lab} {m:Nat} (h:IsF s l m) (hn:∀j,j<m→¬IsF s l j):r0k s l=some m:=by
 obtain ⟨y,h1,h2,h3⟩:=h;exact i0q.2 ⟨y,h1,h2,h3,fun j hj z hz k=>hn j hj ⟨z,hz,k.1,k.2⟩⟩
theorem find_no {s:Sta} {l:List Lab} (hn:∀j,j<s.2.2.2.length→¬IsF s l j):r0k s l=none:=by
 refine p0r.2 fun x hx k => ?_
 obtain ⟨i,hi,e⟩:=List.getElem_of_mem hx;exact hn i hi ⟨x,by rw[List.getElem?_eq_getElem hi,e],k.1,k.2⟩
theorem b2n {s:Sta} {m:Nat} (h:IsR s m) (hn:∀j,j<m→¬IsR s j):v0y s=some m:=by
 obtain ⟨y,h1,h2⟩:=h;exact a1c.2 ⟨y,h1,h2,fun j hj z hz=>Decidable.byContradiction fun k=>hn j hj ⟨z,hz,k⟩⟩
theorem room_no {s:Sta} (hn:∀j,j<s.2.2.2.length→¬IsR s j):v0y s=none:=by
 refine b2o.2 fun x hx=>Decidable.byContradiction fun k => ?_
 obtain ⟨i,hi,e⟩:=List.getElem_of_mem hx;exact hn i hi ⟨x,by rw[List.getElem?_eq_getElem hi,e],k⟩
theorem x1z (n:Nat) {s:Sta} (hw:StaW s) (l:List Lab):t0w (n+10) s l=some (s1p s l):=by
 rw[u1u,e1f (n+5) s,obs,tfn,tfd];unfold s1p;by_cases h:Whole s
 case neg=>rw[if_neg h,if_neg h,if_neg (show ¬((sta0,(2:Int)).2=0) by decide)]
 rw[if_pos h,if_pos h,if_pos rfl];have his:∀k:Nat,k<s.2.2.2.length→(fun y1:Int×Unit=>g0t (n+9) y1.1 s l s) ((k:Int),())=some (decide (IsF s l k)):=by
  intro k hk;obtain ⟨y,hy⟩:=z1l hk;have hm:=(hw.at hy).2;show g0t (n+9) (k:Int) s l s=_;rw[l1v,c1x hy,obs,k1a (n+6) _ _ hm.l,obs,tfd,x0j (n+1) hy hm,obs];by_cases h1:y.1=l
  ·rw[if_pos h1];refine congrArg some (decide_eq_decide.2 ⟨fun k=>⟨y,hy,h1,k⟩,fun ⟨z,z1,z2,z3⟩ => ?_⟩);rw[hy] at z1;cases z1;exact z3
  ·rw[if_neg h1,decide_eq_false (fun q:IsF s l k=>by obtain ⟨z,z1,z2,z3⟩:=q;rw[hy] at z1;cases z1;exact h1 z2)]
 rcases y0z (n+8) s (fun y1:Int×Unit=>g0t (n+9) y1.1 s l s) (fun k=>decide (IsF s l k)) (by have:=h.len;omega) his with ⟨m,q1,q2,q3,q4⟩ | ⟨q1,q2⟩
 ·rw[show (fun y1:Int×Unit=>g0t (n+9) y1.1 s l (s,(0:Int)).1)=fun y1:Int×Unit=>g0t (n+9) y1.1 s l s from rfl,q4,obs,tfd,if_neg (by omega),d2f (of_decide_eq_true q2) (fun j hj=>of_decide_eq_false (q3 j hj))]
 ·rw[show (fun y1:Int×Unit=>g0t (n+9) y1.1 s l (s,(0:Int)).1)=fun y1:Int×Unit=>g0t (n+9) y1.1 s l s from rfl,q2,obs,tfd,if_pos (by decide),find_no (fun j hj=>of_decide_eq_false (q1 j hj))]
theorem stt_room (n:Nat) {s:Sta} (hw:StaW s):d1b (n+10) s=some (b2r s):=by
 rw[u1r,e1f (n+5) s,obs,tfn,tfd];unfold b2r;by_cases h:Whole s
 case neg=>rw[if_neg h,if_neg h,if_neg (show ¬((sta0,(2:Int)).2=0) by decide)]
 rw[if_pos h,if_pos h,if_pos rfl];have his:∀k:Nat,k<s.2.2.2.length→(fun y1:Int×Unit=>g0s (n+9) y1.1 s) ((k:Int),())=some (decide (IsR s k)):=by
  intro k hk;obtain ⟨y,hy⟩:=z1l hk;have hm:=(hw.at hy).2;show g0s (n+9) (k:Int) s=_;rw[l1s,x0j (n+1) hy hm,obs];by_cases h1:LvX s y
  ·rw[decide_eq_true h1,decide_eq_false (fun q:IsR s k=>by obtain ⟨z,z1,z2⟩:=q;rw[hy] at z1;cases z1;exact z2 h1)];rfl
  ·rw[decide_eq_false h1,decide_eq_true (show IsR s k from ⟨y,hy,h1⟩)];rfl
 rcases y0z (n+8) s (fun y1:Int×Unit=>g0s (n+9) y1.1 s) (fun k=>decide (IsR s k)) (by have:=h.len;omega) his with ⟨m,q1,q2,q3,q4⟩ | ⟨q1,q2⟩
 ·rw[show (fun y1:Int×Unit=>g0s (n+9) y1.1 (s,(0:Int)).1)=fun y1:Int×Unit=>g0s (n+9) y1.1 s from rfl,q4,obs,tfd,if_neg (by omega),b2n (of_decide_eq_true q2) (fun j hj=>of_decide_eq_false (q3 j hj))]
 ·rw[show (fun y1:Int×Unit=>g0s (n+9) y1.1 (s,(0:Int)).1)=fun y1:Int×Unit=>g0s (n+9) y1.1 s from rfl,q2,obs,tfd,if_pos (by decide),room_no (fun j hj=>of_decide_eq_false (q1 j hj))]
theorem lvAt_el {s:Sta} {k:Nat} {y:Ser} (h:s.2.2.2[k]? = some y):decide (LvX s y)=lvAt s k:=(h2j h).symm
theorem a2r (n:Nat) {s:Sta} (hw:StaW s) (hL:s.2.2.2.length≤1000000):∀(d k f:Nat) (out:List Int),k+d=s.2.2.2.length→d<f→out.length≤k →
  j0p (n+7) f (s,out,(s.2.2.2.length:Int),(k:Int),())=some (.inl (out++((List.range' k d).filter (lvAt s)).map Int.ofNat,())):=by
 intro d;induction d with
 | zero =>
  intro k f out hk hf ho;obtain ⟨f,rfl⟩:∃g,f=g+1:=⟨f-1,by omega⟩;rw[u0y,decide_eq_false (by omega),tff];simp
 | succ d ih =>
  intro k f out hk hf ho;obtain ⟨f,rfl⟩:∃g,f=g+1:=⟨f-1,by omega⟩;obtain ⟨y,hy⟩:=z1l (l:=s.2.2.2) (k:=k) (by omega);rw[u0y,decide_eq_true (by omega),tft,x0j n hy (hw.at hy).2,obs,lvAt_el hy,w64 (by omega) (by omega),show ((k:Int)+1)=((k+1:Nat):Int) by omega,List.range'_succ];cases h:lvAt s k
  ·rw[tff,ih (k+1) f out (by omega) (by omega) (by omega),List.filter_cons_of_neg (by simp[h])]
  ·rw[tft,decide_eq_true (by omega),tft,ih (k+1) f _ (by omega) (by omega) (by simp;omega),List.filter_cons_of_pos h];simp
theorem stt_live (n:Nat) {s:Sta} (hw:StaW s):l1u (n+8) s=some (liveR s):=by
 rw[u1t,e1f (n+3) s,obs,tfn,tfd];unfold liveR;by_cases h:Whole s
 case neg=>rw[if_neg h,if_neg h,if_neg (show ¬((sta0,(2:Int)).2=0) by decide)]
 rw[if_pos h,if_pos h,if_pos rfl];have hL:=h.len;have e:j0p (n+7) a0b (s,([]:List Int),(s.2.2.2.length:Int),(0:Int),())=_:=a2r n hw (by omega) s.2.2.2.length 0 a0b [] (by omega) (by unfold a0b;omega) (by simp);simp only;rw[e,obs,b0a];unfold f1i;rw[List.range_eq_range'];rfl
noncomputable def markV (s:Sta):Int:=if Whole s∧u0v s.2.1 then mk s else 0
theorem stt_mark (n:Nat) (s:Sta):l1t (n+5) s=some (markV s):=by
 rw[u1s,e1f n s,obs,tfn,tfd,u1w (n+3),obs,tfn,tfd];unfold markV;by_cases h:Whole s
 case neg=>rw[if_neg h,if_neg (show ¬((sta0,(2:Int)).2=0) by decide),if_neg (fun k=>h k.1)]
 rw[if_pos h,if_pos rfl];by_cases h1:u0v s.2.1
 case neg=>rw[if_neg h1,if_neg (fun k=>h1 k.2)]
 rw[if_pos h1,if_pos ⟨h,h1⟩,f2n (n+3) h1 h.1.rng.w0];rfl
theorem j2j (n:Nat) (a b:List Ser) (hL:a.length≤9223372036854775807) (eq:Ser×(Ser×Unit)→Option Bool) (he:∀x∈a,∀y,eq (x,(y,()))=some (decide (x=y))):∀(ra rb pa pb:List Ser) (f:Nat) (ix len:Int),a=pa++ra→b=pb++rb→pa.length=pb.length→ra.length=rb.length→ix=pa.length→len=a.length→ra.length<f →
  b0j n f (b,eq,a,len,ix,())=some (if ra=rb then .inl () else .inr false):=by
 intro ra;induction ra with
 | nil =>
  intro rb pa pb f ix len ha hb hp hr hi hn hf;obtain ⟨f,rfl⟩:∃g,f=g+1:=⟨f-1,by simp at hf;omega⟩;have:rb=[]:=List.length_eq_zero_iff.1 (by simpa using hr.symm);subst this;rw[c0h,decide_eq_false (idxe ha hi hn),tff,if_pos rfl]
 | cons x ra ih =>
  intro rb pa pb f ix len ha hb hp hr hi hn hf;obtain ⟨f,rfl⟩:∃g,f=g+1:=⟨f-1,by simp at hf;omega⟩;cases rb with
  | nil=>simp at hr
  | cons y rb =>
   have hlen:=congrArg List.length ha;simp at hlen;rw[c0h,decide_eq_true (idx ha hi hn),tft,c0g ha hi,obs,c0g hb (by rw[hi,hp]),obs,he x (by rw[ha];simp) y,obs,tfn,tfd,w64 (by omega) (by omega)];by_cases h:x=y
   ·subst h;rw[if_pos rfl,ih rb (pa++[x]) (pb++[x]) f (ix+1) len (idxl ha) (idxl hb) (by simp[hp]) (by simpa using hr) (idxs hi) hn (by simp at hf;omega)];by_cases h2:ra=rb
    ·rw[if_pos h2,if_pos (by rw[h2])]
    ·rw[if_neg h2,if_neg (by intro k;injection k with _ k;exact h2 k)]
   ·rw[if_neg h,if_neg (by intro k;injection k with k _;exact h k)]
theorem stt_same (n:Nat) {a:Sta} (ha:StaW a) (b:Sta):l1r (n+5) a b=some (decide (a=b)):=by
 have he:∀x∈a.2.2.2,∀y,(fun y0:Ser×(Ser×Unit)=>d0w (n+4) y0.1 y0.2.1) (x,(y,()))=some (decide (x=y)):=fun x hx y=>v0w (n+1) x y (ha.ser x hx).2
 rw[u1q,confEq,tfd,tfd,tfd,f0q,tfn,tfd];obtain ⟨a1,a2,a3,a4⟩:=a;obtain ⟨b1,b2,b3,b4⟩:=b;simp only at ha he ⊢;by_cases h1:a1=b1
 case neg=>rw[if_neg h1,decide_eq_false (fun k=>h1 (congrArg Prod.fst k))]
 rw[if_pos h1];by_cases h2:a2=b2
 case neg=>rw[if_neg h2,decide_eq_false (fun k=>h2 (congrArg (fun z=>z.2.1) k))]
 rw[if_pos h2];by_cases h3:a3=b3
 case neg=>rw[if_neg h3,decide_eq_false (fun k=>h3 (congrArg (fun z=>z.2.2.1) k))]
 rw[if_pos h3];by_cases h4:(a4.length:Int)=b4.length
 case neg=>rw[if_neg h4,obs,decide_eq_false (fun k=>h4 (congrArg (fun z=>((z.2.2.2.length:Nat):Int)) k))]
 rw[if_pos h4,j2j (n+3) a4 b4 ha.len (fun y0:Ser×(Ser×Unit)=>d0w (n+4) y0.1 y0.2.1) he a4 b4 [] [] a0b 0 _ rfl rfl rfl (by omega) rfl rfl (by have:=ha.len;simp only at this;unfold a0b;omega)];by_cases h5:a4=b4
 ·rw[if_pos h5,decide_eq_true (by rw[h1,h2,h3,h5])];rfl
 ·rw[if_neg h5,decide_eq_false (fun k=>h5 (congrArg (fun z=>z.2.2.2) k))];rfl
theorem sta0_w:StaW sta0:=⟨by simp[sta0],by simp[sta0]⟩
theorem f2v:SerW ser0:=by
 refine ⟨?_,?_,⟨?_,?_,?_⟩,z0s⟩
 ·unfold I64;simp[ser0]
 ·intro e he;simp[ser0,r0w] at he
 ·intro x hx;simp[ser0] at hx
 ·intro x hx;simp[ser0] at hx
 ·intro x hx;simp[ser0] at hx
theorem j0w {l:List Slo} {a b:Int} (h:b0l l a) (hab:a≤b):b0l l b:=fun s hs hc=>by
 have:=h s hs hc;omega
theorem w1b {l:List Slo} {b i:Int} {x:Cel} (h:b0l l b) (hi:i<b):b0l (tput l i x) b:=by
 intro s hs hc;rcases List.mem_or_eq_of_mem_set hs with k | k
 ·exact h s k hc
 ·rw[k];exact hi
theorem o1e {a b w:Int} (hw:1≤w) (hab:a≤b) (h:a / w≠b / w):a / w<b / w:=by
 have:a / w≤b / w:=Int.ediv_le_ediv (by omega) hab;omega
theorem nb_upw {c:Conf} (hc:OkC c) {s:Trs} {T U:Int} (hTU:T≤U) (h0:b0l s.1 (U / c.2.1.1)) (h1:b0l s.2.1 (T / c.2.1.2.1)) (h2:b0l s.2.2 (T / c.2.1.2.2)) :
  b0l (upw c s (T / c.2.1.1) (U / c.2.1.1)).1 (U / c.2.1.1)∧b0l (upw c s (T / c.2.1.1) (U / c.2.1.1)).2.1 (U / c.2.1.2.1)∧b0l (upw c s (T / c.2.1.1) (U / c.2.1.1)).2.2 (U / c.2.1.2.2):=by
 have hr:=hc.rng;have q1:=(edvm (t:=T) hr.w0.1 hr.w1.1 hc.m1).1;have q1u:=(edvm (t:=U) hr.w0.1 hr.w1.1 hc.m1).1;have q2:=(edvm (t:=T) hr.w0.1 hr.w2.1 hc.m02).1;have q2u:=(edvm (t:=U) hr.w0.1 hr.w2.1 hc.m02).1;have m1:T / c.2.1.2.1≤U / c.2.1.2.1:=Int.ediv_le_ediv (by have:=hr.w1;omega) hTU;have m2:T / c.2.1.2.2≤U / c.2.1.2.2:=Int.ediv_le_ediv (by have:=hr.w2;omega) hTU;have u1:b0l (up1 c s (T / c.2.1.1) (U / c.2.1.1)).1 (U / c.2.1.1)∧b0l (up1 c s (T / c.2.1.1) (U / c.2.1.1)).2.1 (U / c.2.1.2.1)∧b0l (up1 c s (T / c.2.1.1) (U / c.2.1.1)).2.2 (T / c.2.1.2.2):=by
  unfold up1;rw[q1,q1u];split
  ·exact ⟨h0,j0w h1 m1,h2⟩
  ·rename_i hne;split
   ·exact ⟨h0,w1b (j0w h1 m1) (by omega),h2⟩
   ·exact ⟨h0,j0w h1 m1,h2⟩
 unfold upw;generalize up1 c s (T / c.2.1.1) (U / c.2.1.1)=v at u1;unfold up2;rw[q2,q2u];split
 ·exact ⟨u1.1,u1.2.1,j0w u1.2.2 m2⟩
 ·rename_i hne;split
  ·exact ⟨u1.1,u1.2.1,w1b (j0w u1.2.2 m2) (by omega)⟩
  ·exact ⟨u1.1,u1.2.1,j0w u1.2.2 m2⟩
theorem b2w {r:Rw} {room:Int} {e:Ev} (h:RawOk r room) (he:EvOk e) (ha:After r.2.2 e) (hl:¬((r.2.2.length:Int)=room∧r.1=70368744177664)):RawOk (q0w r room e) room∧(q0w r room e).2.2.getLast? = some e:=by
 have hf:Foll (r.2.2++[e]):=by
  refine d0y.2 ⟨h.f,⟨by simp[he],by simp⟩,fun x hx y hy => ?_⟩;simp at hy;subst hy;have hn:r.2.2≠[]:=List.ne_nil_of_mem hx;have hg:=List.getLast?_eq_some_getLast hn;have:=ha _ hg;rcases List.eq_nil_or_concat r.2.2 with k | ⟨p,z,k⟩
  ·exact absurd k hn
  ·rw[List.concat_eq_append] at k;have hz:r.2.2.getLast hn=z:=by simp[k]
   rw[hz] at this;rw[k] at hx;rcases List.mem_append.1 hx with q | q
   ·have hf:=h.f;rw[k] at hf;have:=(d0y.1 hf).2.2 x q z (by simp);omega
   ·simp at q;rw[q];exact this
 unfold q0w;by_cases h1:(r.2.2.length:Int)<room
 ·rw[if_pos h1];refine ⟨⟨h.m0,h.m1,by simp;omega,h.l0,h.l1,hf,h.z,fun k => ?_⟩,by simp⟩;have:=(h.p k).1;omega
 ·rw[if_neg h1];have hlen:=h.len;have hlen':(r.2.2.length:Int)=room:=by omega
  have m0:=h.m0;cases hc:r.2.2 with
  | nil=>rw[hc] at hlen';simp at hlen';omega
  | cons a t =>
   rw[hc] at hf hlen';have hfa:=i2o.1 hf;simp only[List.drop_succ_cons,List.drop_zero,List.headD_cons];refine ⟨⟨h.m0,h.m1,by simp at hlen' ⊢;omega,by have:=h.l0;simp only;omega,?_,hfa.2.2,fun k => ?_,fun _=>⟨by simp at hlen' ⊢;omega,hfa.1.t0,fun x hx => ?_⟩⟩,by simp⟩
   ·have:=h.l1;have:r.1≠70368744177664:=fun k=>hl ⟨by rw[hc];exact hlen',k⟩
    simp only;omega
   ·have:=h.l0;simp only at k;omega
   ·exact hfa.2.1 x (List.mem_of_mem_head? hx)
theorem mrg_fits {a:Cel} {e:Ev} {w i:Int} (h:FitsP a w i) (he:EvOk e) (hlt:a.2.2.1.1<e.1) (hi:e.1 / w=i):FitsP (mrg a (e0l e)) w i:=by
 have hm:=w1c h.n (r0n he);refine ⟨mrg_N h.n (r0n he) hlt,h.w0,h.w1,?_,?_⟩
 ·rw[hm];exact h.f
 ·rw[hm];exact hi
theorem x0w {c:Conf} {s t:Ser} {e:Ev} (h:SerOk c s) (hp:putE c s e=(t,0)):SerOk c t∧EvOk e∧s.2.1<e.1∧t.2.1=e.1∧t.1=s.1:=by
 have hr:=h.fold.cok.rng;unfold putE at hp;by_cases h1:SerOk c s∧EvOk e
 case neg=>rw[if_neg h1] at hp;cases hp
 rw[if_pos h1] at hp;have he:=h1.2;by_cases h2:e.1≤s.2.1
 ·rw[if_pos h2] at hp;cases hp
 rw[if_neg h2] at hp;by_cases h3:(turned c s (e.1 / c.2.1.1)).2≠0
 ·rw[if_pos h3] at hp;exact absurd (congrArg Prod.snd hp) h3
 rw[if_neg h3] at hp;by_cases h4:(s0s s.2.2.1 c.1 e).2≠0
 ·rw[if_pos h4] at hp;exact absurd (congrArg Prod.snd hp) h4
 rw[if_neg h4] at hp;by_cases h5:(mrgE (turned c s (e.1 / c.2.1.1)).1.2.2 (e0l e)).2≠0
 ·rw[if_pos h5] at hp;exact absurd (congrArg Prod.snd hp) h5
 rw[if_neg h5] at hp;have hp:=(Prod.ext_iff.1 hp).1;simp only at hp;subst hp;refine ⟨?_,he,by omega,rfl,rfl⟩;have h3:(turned c s (e.1 / c.2.1.1)).2=0:=Decidable.byContradiction h3;have h4:(s0s s.2.2.1 c.1 e).2=0:=Decidable.byContradiction h4;have h5:(mrgE (turned c s (e.1 / c.2.1.1)).1.2.2 (e0l e)).2=0:=Decidable.byContradiction h5;have e0:0≤e.1:=he.t0;have hraw:RawOk (s0s s.2.2.1 c.1 e).1 c.1∧(s0s s.2.2.1 c.1 e).1.2.2.getLast? = some e:=by
  unfold s0s at h4 ⊢;rw[if_pos ⟨h.raw,he⟩] at h4 ⊢;by_cases k1:After s.2.2.1.2.2 e
  case neg=>rw[if_neg k1] at h4;cases h4
  rw[if_pos k1] at h4 ⊢;by_cases k2:(s.2.2.1.2.2.length:Int)=c.1∧s.2.2.1.1=70368744177664
  ·rw[if_pos k2] at h4;cases h4
  rw[if_neg k2] at h4 ⊢;exact b2w h.raw he k1 k2
 have key:FoldOk c (turned c s (e.1 / c.2.1.1)).1.1∧b0l (turned c s (e.1 / c.2.1.1)).1.1.1 (e.1 / c.2.1.1)∧b0l (turned c s (e.1 / c.2.1.1)).1.1.2.1 (e.1 / c.2.1.2.1)∧b0l (turned c s (e.1 / c.2.1.1)).1.1.2.2 (e.1 / c.2.1.2.2) ∧
   FitsP (mrgE (turned c s (e.1 / c.2.1.1)).1.2.2 (e0l e)).1 c.2.1.1 (e.1 / c.2.1.1)∧(mrgE (turned c s (e.1 / c.2.1.1)).1.2.2 (e0l e)).1.2.2.1.1=e.1:=by
  have fresh1:FitsP (e0l e) c.2.1.1 (e.1 / c.2.1.1):=⟨r0n he,hr.w0.1,hr.w0.2,rfl,rfl⟩;have z1:mrgE s0.2 (e0l e)=(e0l e,0):=mrgE_z0 (r0n he).ok;rcases h.st with ⟨l1,hf⟩ | ⟨l1,hd⟩
  ·have ht:turned c s (e.1 / c.2.1.1)=((s.2.2.2.1,s.2.2.2.2),0):=by
    unfold turned;rw[if_neg (fun k:x1o s _=>k.1 hf.opn)]
   rw[ht];simp only;rw[hf.opn,z1];exact ⟨h.fold,j0w hf.b0 (Int.ediv_nonneg e0 (by have:=hr.w0;omega)),j0w hf.b1 (Int.ediv_nonneg e0 (by have:=hr.w1;omega)),j0w hf.b2 (Int.ediv_nonneg e0 (by have:=hr.w2;omega)),fresh1,rfl⟩
  ·have hT:s.2.1≤e.1:=by omega
   have ho:s.2.2.2.2.1=s.2.1 / c.2.1.1:=by rw[←hd.fit.l,hd.ol]
   by_cases hts:x1o s (e.1 / c.2.1.1)
   ·have hlt:s.2.1 / c.2.1.1<e.1 / c.2.1.1:=o1e hr.w0.1 hT (by rw[←ho];exact hts.2);have hcl:c1e c s.2.2.2.1 s.2.2.2.2 (e.1 / c.2.1.1)=(upw c (tput s.2.2.2.1.1 s.2.2.2.2.1 s.2.2.2.2.2,s.2.2.2.1.2) (s.2.1 / c.2.1.1) (e.1 / c.2.1.1),0):=by
     unfold c1e;rw[if_pos h.fold,if_neg hts.1,if_pos hd.fit,if_neg hts.2,if_pos ⟨by omega,j2a he hr.w0.1⟩,ho]
    have ht:turned c s (e.1 / c.2.1.1)=((upw c (tput s.2.2.2.1.1 s.2.2.2.2.1 s.2.2.2.2.2,s.2.2.2.1.2) (s.2.1 / c.2.1.1) (e.1 / c.2.1.1),s0),0):=by
     unfold turned;rw[if_pos hts,hcl,if_pos rfl]
    rw[ht];simp only;rw[z1];obtain ⟨n0,n1,n2⟩:=nb_upw (s:=(tput s.2.2.2.1.1 s.2.2.2.2.1 s.2.2.2.2.2,s.2.2.2.1.2)) h.fold.cok hT (w1b (j0w hd.b0 (by omega)) (by omega)) hd.b1 hd.b2;exact ⟨upw_ok (f1v h.fold hd.fit) _ _,n0,n1,n2,fresh1,rfl⟩
   ·have ht:turned c s (e.1 / c.2.1.1)=((s.2.2.2.1,s.2.2.2.2),0):=by
     unfold turned;rw[if_neg hts]
    have hop:s.2.2.2.2≠s0:=fun k=>by have:=hd.fit.n.n1;rw[k] at this;simp[s0,z0] at this
    have hw:s.2.2.2.2.1=e.1 / c.2.1.1:=Decidable.byContradiction fun k=>hts ⟨hop,k⟩
    rw[ht] at h5 ⊢;simp only at h5 ⊢;obtain ⟨k1,k2,k3,k4,k5⟩:=w1d h5;rw[k4];have hfit:=hd.fit;rw[hw] at hfit;have hm:=w1c hd.fit.n (r0n he);exact ⟨h.fold,j0w hd.b0 (by omega),j0w hd.b1 (Int.ediv_le_ediv (by have:=hr.w1;omega) hT),j0w hd.b2 (Int.ediv_le_ediv (by have:=hr.w2;omega) hT),
     mrg_fits hfit he (by have:=hd.ol;omega) rfl,by rw[hm];rfl⟩
 obtain ⟨k1,k2,k3,k4,k5,k6⟩:=key;exact ⟨k1,h.lab,hraw.1,.inr ⟨by show e.1 ≠ -1;omega,⟨e,hraw.2,rfl⟩,k6,k5,k2,k3,k4⟩⟩
def setS (s:Sta) (i:Nat) (y:Ser):Sta:=(s.1,(s.2.1,(s.2.2.1,s.2.2.2.set i y)))
noncomputable def xOf (s:Sta) (l:List Lab) (w:Int×(Bool×Int)):Ser:=if w.2.1=true then (newV s.1 l).1 else (s.2.2.2[w.1.toNat]?).getD ser0
noncomputable def h0v (s:Sta) (l:List Lab) (e:Ev):Sta×Int :=
 if (e0w s l e).2.2≠0 then (sta0,(e0w s l e).2.2)
 else if (putE s.1 (xOf s l (e0w s l e)) e).2≠0 then (sta0,(putE s.1 (xOf s l (e0w s l e)) e).2)
 else (setS s (e0w s l e).1.toNat (putE s.1 (xOf s l (e0w s l e)) e).1,0)
structure Goes (s:Sta) (l:List Lab) (e:Ev):Prop where
 st:StaOk s
 lab:LabOk l
 ev:EvOk e
 lo:mk s≤e.1
 hi:e.1<mk s+s.1.2.1.1
inductive PlaceAt (s:Sta) (l:List Lab) (e:Ev):Nat→Ser→Bool→Prop
 | found {i:Nat} {x:Ser} (hf:r0k s l=some i) (hx:s.2.2.2[i]? = some x) (hl:x.1=l) (hlv:LvX s x) (ht:x.2.1<e.1):PlaceAt s l e i x false
 | room {i:Nat} (hf:r0k s l=none) (hs:e.2.2.2=false) (hr:v0y s=some i):PlaceAt s l e i (l,(-1,(r0w,(emp s.1,s0)))) true
theorem h2d {c:Conf} {l:List Lab} (h:OkC c) (hl:LabOk l):newV c l=((l,(-1,(r0w,(emp c,s0)))),0):=by
 unfold newV;rw[if_pos h,if_pos hl]
theorem z1d {s:Sta} {l:List Lab} {e:Ev} (h:(e0w s l e).2.2=0):Goes s l e∧∃i x b,PlaceAt s l e i x b∧(e0w s l e).1.toNat=i∧xOf s l (e0w s l e)=x∧e0w s l e=((i:Int),(b,0)):=by
 unfold e0w at h ⊢;by_cases h1:StaOk s
 case neg=>rw[if_pos h1] at h;cases h
 rw[if_neg (fun k=>k h1)] at h ⊢;by_cases h2:LabOk l
 case neg=>rw[if_pos h2] at h;cases h
 rw[if_neg (fun k=>k h2)] at h ⊢;by_cases h3:EvOk e
 case neg=>rw[if_pos h3] at h;cases h
 rw[if_neg (fun k=>k h3)] at h ⊢;by_cases h4:e.1<mk s∨mk s+s.1.2.1.1≤e.1
 ·rw[if_pos h4] at h;cases h
 rw[if_neg h4] at h ⊢;refine ⟨⟨h1,h2,h3,by omega,by omega⟩,?_⟩;cases hf:r0k s l with
 | some i =>
  rw[hf] at h;simp only at h ⊢;obtain ⟨x,hx,k1,k2,k3⟩:=i0q.1 hf;rw[hx] at h ⊢;simp only[Option.getD_some] at h ⊢;by_cases h5:e.1≤x.2.1
  ·rw[if_pos h5] at h;cases h
  rw[if_neg h5];exact ⟨i,x,false,.found hf hx k1 k2 (by omega),rfl,by unfold xOf;simp[hx],rfl⟩
 | none =>
  rw[hf] at h;simp only at h ⊢;cases h5:e.2.2.2 with
  | true=>rw[h5,if_pos rfl] at h;cases h
  | false =>
   rw[h5,if_neg (by simp)] at h;rw[if_neg (by simp)];cases hr:v0y s with
   | none=>rw[hr] at h;cases h
   | some i =>
    simp only;exact ⟨i,_,true,.room hf h5 hr,rfl,by unfold xOf;rw[if_pos rfl,h2d h1.whole.1 h2],rfl⟩
theorem y0d {s:Sta} {l:List Lab} {e:Ev} (h:Goes s l e) {i:Nat} {x:Ser} {b:Bool} (hp:PlaceAt s l e i x b):SerOk s.1 x∧x.1=l∧i<s.2.2.2.length∧x.2.1<e.1:=by
 cases hp with
 | found hf hx hl hlv ht =>
  rcases h.st.right _ _ hx with k | k
  ·exact absurd k hlv.1
  ·exact ⟨k.1,hl,(List.getElem?_eq_some_iff.1 hx).1,ht⟩
 | room hf hs hr =>
  obtain ⟨y,hy,_⟩:=a1c.1 hr;exact ⟨q1f (h2e h.st.whole.1 h.lab),rfl,(List.getElem?_eq_some_iff.1 hy).1,by have:=h.ev.t0;show (-1:Int)<e.1;omega⟩
theorem c1y {s t:Sta} {l:List Lab} {e:Ev} (h:h0v s l e=(t,0)):Goes s l e∧∃i x b y,PlaceAt s l e i x b∧putE s.1 x e=(y,0)∧t=setS s i y∧e0w s l e=((i:Int),(b,0)):=by
 unfold h0v at h;by_cases h1:(e0w s l e).2.2=0
 case neg=>rw[if_pos h1] at h;exact absurd (congrArg Prod.snd h) h1
 rw[if_neg (fun k=>k h1)] at h;obtain ⟨hg,i,x,b,k1,k2,k3,k4⟩:=z1d h1;rw[k2,k3] at h;by_cases h2:(putE s.1 x e).2=0
 case neg=>rw[if_pos h2] at h;exact absurd (congrArg Prod.snd h) h2
 rw[if_neg (fun k=>k h2)] at h;exact ⟨hg,i,x,b,_,k1,Prod.ext rfl h2,(congrArg Prod.fst h).symm,k4⟩
theorem q0p (s:Sta) (i:Nat) (y:Ser) (j:Nat):(setS s i y).2.2.2[j]? = if i=j then (if i<s.2.2.2.length then some y else none) else s.2.2.2[j]? := by
 unfold setS;simp only[List.getElem?_set]
theorem r1t {s:Sta} (h:StaOk s) {y:Ser} (hn:y≠ser0) (h1:mk s≤y.2.1) (h2:y.2.1<35184372088832):LvX s y:=by
 refine ⟨hn,?_⟩;rcases h.clock.2.1 with k | k
 ·exact .inl k
 ·refine .inr ?_;have hr:=h.whole.1.rng;have hc:=h.clock.2.2;obtain ⟨m1,m2,m3,m4⟩:=y0k h.clock.1 hr.w0;have e1:s.2.2.1 / s.1.2.1.1≤y.2.1 / s.1.2.1.1:=by
   have a1:s.2.1 / s.1.2.1.1≤y.2.1 / s.1.2.1.1:=by
    rw[Int.le_ediv_iff_mul_le (by omega)];exact h1
   have a2:s.2.2.1 / s.1.2.1.1≤s.2.1 / s.1.2.1.1:=Int.ediv_le_ediv (by omega) hc;omega
  unfold g1b;have g:a1t y.2.1 s.2.2.1 s.1.2.1.1 s.1.2.2.1.1=false:=by
   unfold a1t oldV;have n0:=hr.n0;have:=Int.ediv_nonneg k.1 (show 0≤s.1.2.1.1 by omega);rw[if_pos ⟨⟨k.1,k.2,hr.w0.1,hr.w0.2⟩,n0.1,n0.2⟩];refine decide_eq_false fun q => ?_
   have q:=q.2.2;simp only at q;split at q<;>omega
  rw[g];simp
theorem u1v {s t:Sta} {l:List Lab} {e:Ev} (h:h0v s l e=(t,0)):StaOk t:=by
 obtain ⟨hg,i,x,b,y,hp,hput,rfl,_⟩:=c1y h;obtain ⟨p1,p2,p3,p4⟩:=y0d hg hp;obtain ⟨q1,q2,q3,q4,q5⟩:=x0w p1 hput;have hst:=hg.st;refine ⟨⟨hst.whole.1,by simpa [setS] using hst.whole.2⟩,hst.clock,fun j z hz => ?_⟩;rw[q0p] at hz;by_cases hij:i=j
 ·subst hij;rw[if_pos rfl,if_pos p3] at hz;cases hz;refine .inr ⟨q1,by rw[q4];exact hg.ev.t0,by rw[q4];exact hg.hi,?_⟩;rintro ⟨_,k,hk,w,hw,hlw,hwl⟩;rw[q0p,if_neg (by omega)] at hw;rw[q5,p2] at hwl;cases hp with
  | found hf hx hl hlv ht =>
   obtain ⟨_,_,_,_,first⟩:=i0q.1 hf;exact first k hk w hw ⟨hwl,hlw⟩
  | room hf hs hr=>exact p0r.1 hf w (List.mem_of_getElem? hw) ⟨hwl,hlw⟩
 ·rw[if_neg hij] at hz;rcases hst.right j z hz with k | ⟨k1,k2,k3,k4⟩
  ·exact .inl k
  ·refine .inr ⟨k1,k2,k3,?_⟩;rintro ⟨hlz,k,hk,w,hw,hlw,hwl⟩;rw[q0p] at hw;by_cases hik:i=k
   ·subst hik;rw[if_pos rfl,if_pos p3] at hw;cases hw;rw[q5,p2] at hwl;cases hp with
    | found hf hx hl hlv ht=>exact k4 ⟨hlz,i,hk,x,hx,hlv,hl.trans hwl⟩
    | room hf hs hr=>exact p0r.1 hf z (List.mem_of_getElem? hz) ⟨hwl.symm,hlz⟩
   ·rw[if_neg hik] at hw;exact k4 ⟨hlz,k,hk,w,hw,hlw,hwl⟩
noncomputable def c2b (s:Sta):Int×Int:=if StaOk s then (mk s,if 35184372088832<mk s+s.1.2.1.1 then 35184372088832 else mk s+s.1.2.1.1) else (0,0)
theorem markV_ok {s:Sta} (h:StaOk s):markV s=mk s∧IntKind.wrap .i64 (mk s+s.1.2.1.1)=mk s+s.1.2.1.1:=by
 have hr:=h.whole.1.rng.w0;have ht:=h.clock.1.2;obtain ⟨m1,m2,m3,m4⟩:=y0k h.clock.1 hr;exact ⟨if_pos ⟨h.whole,h.clock.1⟩,w64 (by omega) (by omega)⟩
theorem b2l (n:Nat) {s:Sta} (hw:StaW s):a1b (n+15) s=some (c2b s):=by
 rw[m1e,k0n n hw,obs,tfn,tfd,stt_mark (n+9) s];unfold c2b;by_cases h:StaOk s
 case neg=>rw[if_neg h,if_neg h,if_neg (show ¬((2:Int)=0) by decide)]
 obtain ⟨e1,e2⟩:=markV_ok h;rw[if_pos h,if_pos h,if_pos rfl,obs,e1,e2]
theorem y1s {s:Sta} {e:Ev} (h:StaOk s) (he:EvOk e):(e.1<(c2b s).1∨(c2b s).2≤e.1)↔(e.1<mk s∨mk s+s.1.2.1.1≤e.1):=by
 have:=he.t1;unfold c2b;rw[if_pos h];simp only;split<;>omega
theorem d2g {s:Sta} (h:Whole s) {l:List Lab} {i:Nat} (hf:r0k s l=some i):s1p s l=((i:Int),0):=by
 unfold s1p;rw[if_pos h,hf]
theorem d2h {s:Sta} (h:Whole s) {l:List Lab} (hf:r0k s l=none):s1p s l=(0,3):=by
 unfold s1p;rw[if_pos h,hf]
theorem b2p {s:Sta} (h:Whole s) {i:Nat} (hf:v0y s=some i):b2r s=((i:Int),0):=by
 unfold b2r;rw[if_pos h,hf]
theorem b2q {s:Sta} (h:Whole s) (hf:v0y s=none):b2r s=(0,7):=by
 unfold b2r;rw[if_pos h,hf]
theorem t1x {s:Sta} {l:List Lab} {e:Ev} (h:StaOk s) (h1:LabOk l) (h2:EvOk e) (h3:¬(e.1<mk s∨mk s+s.1.2.1.1≤e.1)) :
  e0w s l e=match r0k s l with
   | some i=>if e.1≤((s.2.2.2[i]?).getD ser0).2.1 then (0,(false,9)) else ((i:Int),(false,0))
   | none=>if e.2.2.2=true then (0,(false,3)) else match v0y s with | some i=>((i:Int),(true,0)) | none=>(0,(false,7)):=by
 unfold e0w;rw[if_neg (fun k=>k h),if_neg (fun k=>k h1),if_neg (fun k=>k h2),if_neg h3]
 all_goals (cases r0k s l<;>first | rfl | (cases v0y s<;>rfl))
theorem v1f (n:Nat) {s:Sta} (hw:StaW s) (l:List Lab) {e:Ev} (he:EvW e):v0x (n+16) s l e=some (e0w s l e):=by
 rw[h1l,k0n (n+1) hw,obs,tfn,tfd,j0x _ l,i0i _ he,b2l n hw,x1z (n+5) hw l,stt_room (n+5) hw];by_cases h:StaOk s
 case neg =>
  rw[if_neg h,if_neg (show ¬((2:Int)=0) by decide)];unfold e0w;rw[if_pos h]
 rw[if_pos h,if_pos rfl,obs,tfn,tfd];by_cases h1:LabOk l
 case neg =>
  rw[if_neg h1,if_neg (show ¬((8:Int)=0) by decide)];unfold e0w;rw[if_neg (fun k=>k h),if_pos h1]
 rw[if_pos h1,if_pos rfl,obs,tfn,tfd];by_cases h2:EvOk e
 case neg =>
  rw[if_neg h2,if_neg (show ¬((2:Int)=0) by decide)];unfold e0w;rw[if_neg (fun k=>k h),if_neg (fun k=>k h1),if_pos h2]
 rw[if_pos h2,if_pos rfl,obs,obs,tfd,tfd];by_cases h3:e.1<mk s∨mk s+s.1.2.1.1≤e.1
 ·have ht:e0w s l e=(0,(false,9)):=by
   unfold e0w;rw[if_neg (fun k=>k h),if_neg (fun k=>k h1),if_neg (fun k=>k h2),if_pos h3]
  rw[ht];rcases (y1s h h2).2 h3 with q | q
  ·rw[if_pos q]
  ·by_cases q':e.1<(c2b s).1
   ·rw[if_pos q']
   ·rw[if_neg q',if_pos q]
 have h3':=mt (y1s h h2).1 h3;rw[if_neg (fun k=>h3' (.inl k)),if_neg (fun k=>h3' (.inr k)),t1x h h1 h2 h3,tfd];cases hf:r0k s l with
 | some i =>
  obtain ⟨x,hx,_⟩:=i0q.1 hf;rw[d2g h.whole hf,if_pos rfl,c1x hx,obs,tfd];simp only[hx,Option.getD_some];by_cases h4:e.1≤x.2.1
  ·rw[if_pos h4,if_pos h4]
  ·rw[if_neg h4,if_neg h4];rfl
 | none =>
  rw[d2h h.whole hf,if_neg (show ¬((3:Int)=0) by decide),show (decide (((0:Int),(3:Int)).2=0))=false from rfl,tff];cases hs:e.2.2.2 with
  | true=>rw[tft];simp
  | false =>
   rw[tff,obs];simp only[Bool.false_eq_true,if_false];cases hr:v0y s with
   | some i=>rw[b2p h.whole hr];rfl
   | none=>rw[b2q h.whole hr];rfl
theorem e2p {s:Sta} {l:List Lab} {e:Ev} (h:(e0w s l e).2.2≠0):h0v s l e=(sta0,(e0w s l e).2.2):=by
 unfold h0v;rw[if_pos h]
theorem j2x (n:Nat) (s:List Ser) (h:s.length≤1000000):m0q (n+1) s=some s:=by
 rw[x0t,decide_eq_true (show (0+s.length)*264≤140737488355328 by omega)];simp only[tft,List.nil_append];by_cases h0:s.length=0
 ·rw[decide_eq_true h0,tft,List.length_eq_zero_iff.1 h0,t1m]
 ·rw[decide_eq_false h0,tff]
theorem place_w {s:Sta} (hw:StaW s) {l:List Lab} {e:Ev} (hg:Goes s l e) {i:Nat} {x:Ser} {b:Bool} (hp:PlaceAt s l e i x b):SerW x:=by
 cases hp with
 | found hf hx hl hlv ht=>exact (hw.at hx).1
 | room hf hs hr=>exact serInv_w (h2e hg.st.whole.1 hg.lab)
theorem e2j {s:Sta} {l:List Lab} {e:Ev} {i:Nat} {x:Ser} {b:Bool} (hp:(e0w s l e).1.toNat=i) (hx:xOf s l (e0w s l e)=x) (h:(e0w s l e).2.2=0) :
  h0v s l e=if (putE s.1 x e).2=0 then (setS s i (putE s.1 x e).1,0) else (sta0,(putE s.1 x e).2):=by
 unfold h0v;rw[if_neg (fun k=>k h),hp,hx];by_cases h1:(putE s.1 x e).2=0
 ·rw[if_neg (fun k=>k h1),if_pos h1]
 ·rw[if_pos h1,if_neg h1]
theorem set_tail {s:Sta} {i:Nat} (hi:i<s.2.2.2.length) (y:Ser) :
  (a0a (at? s.2.2.2 (i:Int)) fun r4=>a0a ((s.2.2.2)[(Int.toNat (i:Int))]?) fun r5=>some ((s.1,(s.2.1,(s.2.2.1,(List.set s.2.2.2 (Int.toNat (i:Int)) y)))),(0:Int)))=some (setS s i y,0):=by
 obtain ⟨z,hz⟩:=z1l hi;rw[c1x hz,obs,Int.toNat_natCast,hz,obs];rfl
theorem e2k (n:Nat) {s:Sta} (hw:StaW s) (l:List Lab) {e:Ev} (he:EvW e):o0x (n+24) s l e=some (h0v s l e):=by
 rw[p1d,v1f (n+7) hw l he,obs,tfn,tfd];by_cases h:(e0w s l e).2.2=0
 case neg=>rw[if_neg h,e2p h];rfl
 obtain ⟨hg,i,x,b,hp,k1,k2,hv⟩:=z1d h;obtain ⟨p1,p2,p3,p4⟩:=y0d hg hp;rw[if_pos h,e2j (b:=b) k1 k2 h,hv,g1w];have hx:(tif b (a0a (u0c (n+22) s.1 l) fun r0=>some r0) (a0a (at? s.2.2.2 (i:Int)) fun r1=>some (r1,(0:Int))))=some (x,0):=by
  cases hp with
  | found hf hx hl hlv ht=>rw[tff,c1x hx,obs]
  | room hf hs hr=>rw[tft,b2h (n+15),h2d hg.st.whole.1 hg.lab,obs]
 simp only;rw[hx,obs,tfn,tfd,if_pos rfl];simp only;rw[b2g n s.1 (place_w hw hg hp) he,obs,tfn,tfd];by_cases h1:(putE s.1 x e).2=0
 case neg=>rw[if_neg h1,if_neg h1];rfl
 rw[if_pos h1,if_pos h1,j2x (n+22) _ (by have:=hg.st.whole.len;omega),obs,set_tail p3]
theorem serW_put {c:Conf} {s t:Ser} {e:Ev} (h:SerOk c s) (hp:putE c s e=(t,0)):SerW t∧SerM t:=by
 obtain ⟨q1,q2,q3,q4,q5⟩:=x0w h hp;have hc:=q1.fold.cok.rng;refine ⟨⟨?_,fun x hx=>EvW.of (q1.raw.f.ok x hx),q1.fold.w,?_⟩,?_⟩
 ·have:=q2.t0;have:=q2.t1;rw[q4];unfold I64;omega
 ·rcases q1.st with ⟨_,k⟩ | ⟨_,k⟩
  ·rw[k.opn];exact z0s
  ·have:=k.fit.i0;exact ⟨by unfold I64;omega,.of k.fit.n.ok⟩
 ·have l1:=q1.lab.n1;have l2:=q1.raw.len;have l3:=q1.raw.m1;have:=q1.fold.lens;exact ⟨by omega,by omega,by omega,by omega,by omega⟩
theorem write_w {s t:Sta} (hw:StaW s) {l:List Lab} {e:Ev} {v:Int} (h:h0v s l e=(t,v)):StaW t:=by
 by_cases hv:v=0
 ·subst hv;obtain ⟨hg,i,x,b,y,hp,hput,rfl,_⟩:=c1y h;obtain ⟨p1,p2,p3,p4⟩:=y0d hg hp;have hy:=serW_put p1 hput;refine ⟨by simpa [setS] using hw.len,fun z hz => ?_⟩;rcases List.mem_or_eq_of_mem_set hz with k | k
  ·exact hw.ser z k
  ·rw[k];exact hy
 ·have:t=sta0:=by
   unfold h0v at h;split at h
   ·exact (congrArg Prod.fst h).symm
   ·split at h
    ·exact (congrArg Prod.fst h).symm
    ·exact absurd (congrArg Prod.snd h).symm hv
  rw[this];exact sta0_w
theorem writeV_w {s:Sta} (hw:StaW s) (l:List Lab) (e:Ev):StaW (h0v s l e).1:=write_w hw (v:=(h0v s l e).2) rfl
end Go.Proofs.YtagnkfbpgkckiaaGreat

namespace Go.Plim
open Go.Flat
set_option linter.unusedVariables false
def uvB (n:Nat):List UInt8:=if n<128 then [UInt8.ofNat n] else UInt8.ofNat (n % 128+128)::uvB (n / 128)
termination_by n
decreasing_by omega
theorem w0v {n:Nat} (h:n<128):uvB n=[UInt8.ofNat n]:=by unfold uvB;rw[if_pos h]
theorem l1e {n:Nat} (h:¬n<128):uvB n=UInt8.ofNat (n % 128+128)::uvB (n / 128):=by rw[uvB];rw[if_neg h]
def txB (s:List UInt8):List UInt8:=uvB s.length++s
def labB (l:List (List UInt8×List UInt8)):List UInt8:=uvB l.length++l.flatMap fun x=>txB x.1++txB x.2
end Go.Plim

namespace Go.Plim
open Go.Flat
set_option linter.unusedVariables false
theorem g2r:∀c:Fin 256,orI .u8 (c.val:Int) 128=(c.val:Int) % 128+128:=by decide +kernel
theorem or128 (v:Int):orI .u8 (IntKind.wrap .u8 v) 128=v % 128+128:=by
 rw[v0o];have h1:=Int.emod_nonneg v (show (256:Int)≠0 by decide);have h2:=Int.emod_lt_of_pos v (show (0:Int)<256 by decide);have:=g2r ⟨(v % 256).toNat,by omega⟩;simp only at this;rw[show (((v % 256).toNat:Nat):Int)=v % 256 by omega] at this;rw[this];omega
theorem shr7 {v:Int} (h:0≤v):shrI .u64 v 7=v / 128:=by
 show v.fdiv (2^(7:Int).toNat)=_;rw[Int.fdiv_eq_ediv_of_nonneg _ (by decide)];rfl
def uvI (v:Int):List Int:=c0s (uvB v.toNat)
theorem p1j {v:Int} (h0:0≤v) (h:v<128):uvI v=[v]:=by
 unfold uvI;rw[w0v (by omega)];simp[c0s];omega
theorem l1d {v:Int} (h0:0≤v) (h:¬v<128):uvI v=(v % 128+128)::uvI (v / 128):=by
 unfold uvI;rw[l1e (by omega)];have e:(v / 128).toNat=v.toNat / 128:=by omega
 rw[e];simp[c0s];omega
end Go.Plim

namespace Go.Proofs.YtagnkfbpgkckiaaGreat
open Go.Flat Go.Plim
set_option linter.unusedVariables false
set_option linter.unusedSimpArgs false
theorem w0k {d f:Nat} (h:d<f):∃g,f=g+1:=⟨f-1,by omega⟩
theorem uint_l (n:Nat):∀(m f:Nat) (w:List Int) (v:Int),v.toNat≤m→0≤v→m<f→w.length+(uvI v).length≤140737488355328 →
  ∃w' v',e0v n f (w,v,())=some (.inl (w',(v',())))∧w'++[v']=w++uvI v∧0≤v'∧v'<128:=by
 intro m;induction m using Nat.strongRecOn with
 | _ m ih =>
  intro f w v hm h0 hf hl;obtain ⟨f,rfl⟩:=w0k hf;rw[r0p,tfd];by_cases h:v<128
  ·rw[if_neg (by omega)];exact ⟨w,v,rfl,by rw[p1j h0 h],h0,h⟩
  ·rw[l1d h0 h] at hl;simp only[List.length_cons] at hl;rw[if_pos (by omega),decide_eq_true (show (w.length+1)*1≤140737488355328 by omega),tft,or128,shr7 h0];obtain ⟨w',v',e1,e2,e3,e4⟩:=ih (v / 128).toNat (by omega) f (w++[v % 128+128]) (v / 128) (Nat.le_refl _) (by omega) (by omega) (by simp only[List.length_append,List.length_singleton];omega);exact ⟨w',v',e1,by rw[e2,l1d h0 h];simp,e3,e4⟩
theorem x1t (n:Nat) {v:Int} (h0:0≤v) (h1:v≤18446744073709551615) {w:List Int} (hl:w.length+(uvI v).length≤140737488355328):h0d (n+1) w v=some (w++uvI v):=by
 obtain ⟨w',v',e1,e2,e3,e4⟩:=uint_l n v.toNat a0b w v (Nat.le_refl _) h0 (by unfold a0b;omega) hl;have hlen:w'.length+1≤140737488355328:=by
  have:=congrArg List.length e2;simp only[List.length_append,List.length_singleton] at this;omega
 rw[u0s,e1,obs,b0a,decide_eq_true (show (w'.length+1)*1≤140737488355328 by omega),tft,v0o,Int.emod_eq_of_lt e3 (by omega),e2]
theorem t1z:∀(m:Nat) (v:Int),v.toNat≤m→0≤v→(uvI v).length≤v.toNat+1:=by
 intro m;induction m using Nat.strongRecOn with
 | _ m ih =>
  intro v hm h0;by_cases h:v<128
  ·rw[p1j h0 h];simp
  ·rw[l1d h0 h];have:=ih (v / 128).toNat (by omega) (v / 128) (Nat.le_refl _) (by omega);simp only[List.length_cons];omega
theorem b1e (a b:List UInt8):c0s (a++b)=c0s a++c0s b:=by simp[c0s]
theorem k0d (a:List UInt8):(c0s a).length=a.length:=by simp[c0s]
theorem t1y (n:Nat):uvI (n:Int)=c0s (uvB n):=by unfold uvI;rw[Int.toNat_natCast]
theorem e2u {s:List UInt8} (h:s.length≤256):(txB s).length≤1000:=by
 have:=t1z s.length (s.length:Int) (by simp) (by omega);rw[t1y,k0d] at this;unfold txB;rw[List.length_append];simp at this;omega
theorem m1h (n:Nat) {w:List Int} {s:List UInt8} (h:w.length+s.length≤140737488355328):e0f (n+1) w s=some (w++c0s s):=by
 rw[w0n,List.length_map,decide_eq_true (show (w.length+s.length)*1≤140737488355328 by omega),tft];rfl
theorem x1w (n:Nat) {w:List Int} {s:List UInt8} (hs:s.length≤256) (h:w.length≤1000000):h0e (n+2) w s=some (w++c0s (txB s)):=by
 have h1:=t1z s.length (s.length:Int) (by simp) (by omega);have h2:((s.length:Int)).toNat=s.length:=by simp
 rw[u0t,wu64 (by omega) (by omega),x1t n (by omega) (by omega) (by omega),obs,m1h n (by rw[List.length_append];omega),obs,List.append_assoc,t1y,←b1e];rfl
theorem f1b (n:Nat) (w:List Int):c0r (n+1) w=some (toB w,w):=by rw[n0m];rfl
theorem lab_len {l:List Lab} (h:LabOk l):∀x∈l,x.1.length≤256∧x.2.length≤256:=by
 have key:∀l:List Lab,∀x∈l,(x.1.length:Int)+x.2.length≤sumL l:=by
  intro l;induction l with
  | nil=>intro x hx;cases hx
  | cons y l ih =>
   intro x hx;rw[e1d];have:=f2f l;rcases List.mem_cons.1 hx with rfl | hx
   ·omega
   ·have:=ih x hx;omega
 intro x hx;have:=key l x hx;have:=h.t;omega
theorem bytes_l (n:Nat) {l:List Lab} (hl:LabOk l):∀(rest pre:List Lab) (f:Nat) (w:List Int) (ix len:Int),l=pre++rest→ix=pre.length→len=l.length→rest.length<f→w.length+2000*rest.length≤100000 →
  k0h (n+2) f (w,l,len,ix,())=some (.inl (w++c0s (rest.flatMap fun x=>txB x.1++txB x.2),())):=by
 intro rest;induction rest with
 | nil =>
  intro pre f w ix len ha hi hn hf hw;obtain ⟨f,rfl⟩:=w0k hf;rw[p0m,decide_eq_false (idxe ha hi hn),tff];simp[c0s]
 | cons x r ih =>
  intro pre f w ix len ha hi hn hf hw;obtain ⟨f,rfl⟩:=w0k hf;simp only[List.length_cons] at hw;obtain ⟨k1,k2⟩:=lab_len hl x (by rw[ha];simp);have t1:=e2u k1;have t2:=e2u k2;have hL:l.length≤1000000000000:=by have:=hl.n1;omega
  rw[p0m,decide_eq_true (idx ha hi hn),tft,c0g ha hi,obs,x1w n k1 (by omega),obs,x1w n k2 (by rw[List.length_append,k0d];omega),obs,idxw ha hi hL];rw[ih (pre++[x]) f _ (ix+1) len (idxl ha) (idxs hi) hn (by simp at hf;omega) (by simp only[List.length_append,k0d];omega)];simp only[List.flatMap_cons,b1e,List.append_assoc]
theorem w1f (n:Nat) (l:List Lab):w0d (n+7) l=some (if LabOk l then (labB l,0) else ([],8)):=by
 rw[i1b,j0x n l,obs,tfn,tfd];by_cases h:LabOk l
 case neg=>rw[if_neg h,if_neg h,if_neg (by decide)]
 rw[if_pos h,if_pos h,if_pos rfl];have hn:=h.n1;have h1:=t1z l.length (l.length:Int) (by simp) (by omega);have h2:((l.length:Int)).toNat=l.length:=by simp
 rw[wu64 (by omega) (by omega),x1t (n+5) (by omega) (by omega) (by simp only[List.length_nil];omega),obs,bytes_l (n+4) h l [] a0b _ 0 _ rfl rfl rfl (by unfold a0b;omega) (by simp only[List.nil_append];omega),obs,b0a,f1b (n+5),obs];rw[List.nil_append,t1y,←b1e,t0s];rfl
theorem wst (n:Nat) (b s:List UInt8) (hl:b.length+s.length≤100000000000000):a0m (n+1) b s=some ((s.length:Int),false,b++s):=by
 rw[k0p,g0m,tfd,if_pos (by omega)]
theorem lfu {k:Nat} (h:k≤1000000000000):a0b=(a0b-k-1)+k+1:=by unfold a0b;omega
theorem o1p:∀(l:List Lab) (p:Option (List UInt8)),chkL p l→∀x∈l,x.1.length≤64∧x.2.length≤128
 | [],_,_,x,hx=>by cases hx
 | y::l,p,h,x,hx=>by
  rcases List.mem_cons.1 hx with rfl | hx
  ·exact ⟨h.1.len,h.2.1⟩
  ·exact o1p l _ h.2.2.2 x hx
def padB (s:List UInt8) (k:Nat):List UInt8:=s++List.replicate (k-s.length) 0
theorem n0z (s:List UInt8) (k:Nat):(padB s k).length=max s.length k:=by unfold padB;simp;omega
def n8I (x:Int):List Int:=beI 8 (IntKind.wrap .u64 x)
def n8B (x:Int):List UInt8:=toB (n8I x)
theorem w0b (x:Int):(n8I x).length=8:=by simp[n8I,c0j]
theorem w0c (x:Int):(n8B x).length=8:=by simp[n8B,g0q,w0b]
theorem l1h (a b:List Int):toB (a++b)=toB a++toB b:=by simp[toB]
theorem h2f (x:Int):n8I (IntKind.wrap .i64 x)=n8I x:=by
 unfold n8I;congr 1;rw[IntKind.wrap_u64,IntKind.wrap_u64,IntKind.wrap_i64];omega
def v0c (e:Ev):List Int:=n8I e.1++(n8I e.2.1++(n8I e.2.2.1++[if e.2.2.2=true then 1 else 0]))
def s0n (e:Ev):List UInt8:=toB (v0c e)
theorem p0e (e:Ev):(v0c e).length=25:=by simp[v0c,w0b]
theorem b2e (e:Ev):(s0n e).length=25:=by simp[s0n,g0q,p0e]
def f0u (e:Ev):List UInt8:=padB (s0n e) 32
theorem m0d (e:Ev):(f0u e).length=32:=by rw[f0u,n0z,b2e];rfl
def sloI (s:Slo):List Int:=n8I s.1++(n8I s.2.1++(v0c s.2.2.1++(v0c s.2.2.2.1++(n8I s.2.2.2.2.1.1++(n8I s.2.2.2.2.1.2++(n8I s.2.2.2.2.2.1++(n8I s.2.2.2.2.2.2.1++n8I s.2.2.2.2.2.2.2)))))))
theorem y1c (s:Slo):(sloI s).length=106:=by simp[sloI,w0b,p0e]
def c0k (s:Slo):List UInt8:=padB (toB (sloI s)) 128
theorem e0y (s:Slo):(c0k s).length=128:=by rw[c0k,n0z,g0q,y1c];rfl
theorem num_l (n:Nat) (l:List Int) (hl:l.length≤1000):∀(rest pre:List Int) (f:Nat) (w:List Int) (i:Int),l=pre++rest→i=pre.length→w.length+8*rest.length≤100000 →
  o0d (n+1) (f+rest.length+1) (w,l,(l.length:Int),i,())=some (.inl (w++rest.flatMap n8I,())):=by
 intro rest;induction rest with
 | nil =>
  intro pre f w i h hi hw;rw[t0e];simp only[tfd,if_neg (idxe h hi rfl)];simp
 | cons a rest ih =>
  intro pre f w i h hi hw;have hlen:=congrArg List.length h;simp at hlen hw;rw[show f+(a::rest).length+1=(f+rest.length+1)+1 by simp;omega,t0e];simp only[tfd,if_pos (idx h hi rfl)];rw[c0g h hi,obs,b0v n w 8 8 _ rfl (by omega) (by omega) (by omega),obs,w64 (x:=i+1) (by omega) (by omega),ih (pre++[a]) f _ (i+1) (idxl h) (idxs hi) (by simp[c0j];omega)];simp[n8I]
theorem y0h (n:Nat) (w l:List Int) (hl:l.length≤1000) (hw:w.length+8*l.length≤100000):n0g (n+2) w l=some (w++l.flatMap n8I):=by
 rw[s1h];have:=num_l n l hl l [] (a0b-l.length-1) w 0 rfl rfl hw;rw[←lfu (by omega)] at this;rw[this,obs,b0a]
theorem e1l (n:Nat) (w:List Int) (e:Ev) (hw:w.length≤10000):n0e (n+3) w e=some (w++v0c e):=by
 rw[i1e,y0h n w _ (by simp) (by simp;omega),obs];have hl:(w++List.flatMap n8I [e.1,IntKind.wrap .i64 e.2.1,e.2.2.1]).length≤20000:=by simp[w0b];omega
 have e1:List.flatMap n8I [e.1,IntKind.wrap .i64 e.2.1,e.2.2.1]=n8I e.1++(n8I e.2.1++n8I e.2.2.1):=by
  simp[h2f]
 rw[e1] at hl ⊢;unfold v0c;cases h:e.2.2.2 with
 | true=>rw[tft,b0v (n+1) _ 1 1 1 rfl (by omega) (by omega) (by omega),obs,if_pos rfl,show beI 1 1=[1] from rfl];simp
 | false=>rw[tff,b0v (n+1) _ 1 1 0 rfl (by omega) (by omega) (by omega),obs,if_neg (by decide),show beI 1 0=[0] from rfl];simp
theorem rps_loop (n:Nat) (r:(List UInt8)) (m:Nat) (hm:m≤16777216):∀(f k:Nat),1≤k→k≤m→m-k≤f →
  f0m n (f+1) (List.replicate k r++List.replicate (m-k) [],(k:Int),())=some (.inl (List.replicate m r,())):=by
 intro f;induction f with
 | zero =>
  intro k h1 h2 h3;obtain rfl:k=m:=by omega
  rw[j0k];simp[tfd]
 | succ f ih =>
  intro k h1 h2 h3;rw[j0k];have hlen:(List.replicate k r++List.replicate (m-k) ([]:(List UInt8))).length=m:=by simp;omega
  rw[hlen];by_cases hk:k=m
  ·subst hk;simp[tfd]
  ·have c1:((k:Int)<(m:Int)):=by omega
   have c2:((0:Int)≤(k:Int)):=by omega
   have c3:(Int.toNat (k:Int)≤m):=by simp;omega
   have c4:(decide ((0:Int)≤(k:Int))&&decide ((k:Int)≤(m:Int)))=true:=by simp;omega
   have c5:(Int.toNat (k:Int)+(m-Int.toNat (k:Int))≤m):=by simp;omega
   rw[c4];simp only[v0r,decide_eq_true_eq,if_pos c1,if_pos c2,if_pos c3,if_pos c5,if_true];have e1:List.take (Int.toNat (k:Int)-0) (List.drop 0 (List.replicate k r++List.replicate (m-k) ([]:(List UInt8))))=List.replicate k r:=by simp
   rw[e1];have e2:List.take (m-Int.toNat (k:Int)) (List.replicate k r)=List.replicate (min (m-k) k) r:=by simp
   rw[e2];have e3:(k:Int)+((List.replicate (min (m-k) k) r).length:Int)=((k+min (m-k) k:Nat):Int):=by simp
   rw[e3,w64 (by omega) (by omega)];have e4:Go.Flat.putRow (List.replicate k r++List.replicate (m-k) ([]:(List UInt8))) (Int.toNat (k:Int)) (List.replicate (min (m-k) k) r)=List.replicate (k+min (m-k) k) r++List.replicate (m-(k+min (m-k) k)) []:=by
    unfold Go.Flat.putRow;rw[show Int.toNat (k:Int)=k by simp,List.take_left' (by simp),List.drop_append,List.drop_of_length_le (by simp),List.replicate_append_replicate];simp;omega
   rw[e4];exact ih (k+min (m-k) k) (by omega) (by omega) (by omega)
theorem v1k (n:Nat) (r:(List UInt8)) (m:Nat) (h1:1≤m) (h2:m≤16777216):l0b (n+3) [r] (m:Int)=some (List.replicate m r):=by
 rw[v0u];have c1:¬((m:Int)<0):=by omega
 have e1:(((List.length [r]:Nat)):Int)=1:=rfl;rw[e1,wu64 (x:=1) (by omega) (by omega),wu64 (x:=(m:Int)) (by omega) (by omega),r0z,mul64 n 1 (m:Int) (by omega) (by omega)];have e2:(1:Int)*(m:Int) / 18446744073709551616=0:=by omega
 have e3:(1:Int)*(m:Int) % 18446744073709551616=(m:Int):=by omega
 rw[e2,e3,obs,obs];have c2:¬((9223372036854775807:Int)<(m:Int)):=by omega
 have e4:IntKind.wrap .i64 (m:Int)=(m:Int):=w64 (by omega) (by omega);rw[e4];have c3:(decide ((0:Int)≤(m:Int))&&(decide ((m:Int)≤(m:Int))&&decide ((m:Int)*16≤(140737488355328:Int))))=true:=by simp;omega
 rw[c3];simp only[v0r,decide_eq_true_eq,if_neg c1,if_neg c2,if_true,Int.lt_irrefl,if_false,Int.toNat_natCast,List.length_replicate];have e5:List.take m [r]=[r]:=by
  cases m with
  | zero=>omega
  | succ m=>simp
 have e6:Go.Flat.putRow (List.replicate m ([]:(List UInt8))) 0 [r]=List.replicate 1 r++List.replicate (m-1) []:=by simp[Go.Flat.putRow]
 rw[e5,e6];have:=rps_loop (n+2) r m h2 (a0b-1) 1 (Nat.le_refl _) h1 (by unfold a0b;omega);rw[show a0b-1+1=a0b by unfold a0b;omega] at this;have e7:(((List.length [r]:Nat)):Int)=((1:Nat):Int):=rfl;rw[e7,this,obs,b0a]
theorem rpb_loop (n m:Nat) (hm:m≤100000):∀(f k:Nat),1≤k→k≤m→m-k≤f →
  d0i (n+1) (f+1) ((m:Int),(m:Int),List.replicate k (0:UInt8),())=some (.inl (List.replicate m 0,())):=by
 intro f;induction f with
 | zero =>
  intro k h1 h2 h3;obtain rfl:k=m:=by omega
  rw[k0o,e0b,obs];dsimp only;rw[List.length_replicate,tfd,if_neg (by omega)]
 | succ f ih =>
  intro k h1 h2 h3;rw[k0o,e0b,obs];dsimp only;rw[List.length_replicate,tfd];by_cases hk:k=m
  ·subst hk;rw[if_neg (by omega)]
  ·rw[if_pos (by omega),e0b,obs];dsimp only;rw[e0b,obs];dsimp only;rw[c0d,obs];dsimp only;rw[List.length_replicate,w64 (by omega) (by omega)];have e:(if (m:Int)<(if (k:Int)<(m:Int)-(k:Int) then (k:Int) else (m:Int)-(k:Int)) then (m:Int) else (if (k:Int)<(m:Int)-(k:Int) then (k:Int) else (m:Int)-(k:Int)))=((min k (m-k):Nat):Int):=by
    split<;>split<;>omega
   rw[e,Int.toNat_natCast];have c1:(decide ((0:Int)≤((min k (m-k):Nat):Int))&&decide (((min k (m-k):Nat):Int)≤((k:Nat):Int)))=true:=by
    rw[Bool.and_eq_true,decide_eq_true_eq,decide_eq_true_eq];omega
   have e2:List.drop 0 (List.take (min k (m-k)) (List.replicate k (0:UInt8)))=List.replicate (min k (m-k)) 0:=by
    rw[List.drop_zero,List.take_replicate];congr 1;omega
   rw[c1,tft,e2,wst n _ _ (by simp;omega),obs];dsimp only;rw[List.replicate_append_replicate];exact ih (k+min k (m-k)) (by omega) (by omega) (by omega)
theorem rep_val (n c:Nat) (hc:c≤8192):strings_Repeat (n+4) [0] (c:Int)=some (List.replicate c 0):=by
 rw[o0n,tfd];by_cases h0:(c:Int)=0
 ·obtain rfl:c=0:=by omega
  rw[if_pos h0];rfl
 rw[if_neg h0,tfd];by_cases h1:(c:Int)=1
 ·obtain rfl:c=1:=by omega
  rw[if_pos h1];rfl
 rw[if_neg h1,tfd,if_neg (by omega),wu64 (x:=(c:Int)) (by omega) (by omega),r0z,mul64 (n+1) 1 (c:Int) (by omega) (by omega)];have e2:(1:Int)*(c:Int) / 18446744073709551616=0:=by omega
 have e3:(1:Int)*(c:Int) % 18446744073709551616=(c:Int):=by omega
 rw[e2,e3,obs,obs];dsimp only;rw[tfd,if_neg (by omega),tfd,if_neg (by omega),w64 (x:=(c:Int)) (by omega) (by omega)];have hg:b0u (n+3) [] (c:Int)=some []:=by
  rw[i0u,s1j];rw[show (decide (([]:List UInt8).length=0)&&(decide ((0:Int)≤(c:Int))&&decide ((c:Int)≤70368744177664)))=true by
   rw[Bool.and_eq_true,Bool.and_eq_true,decide_eq_true_eq,decide_eq_true_eq,decide_eq_true_eq]
   exact ⟨rfl,by omega,by omega⟩,tft]
 rw[tfd,if_neg (by omega),hg,obs,wst (n+2) [] _ (by simp),obs];dsimp only;have:=rpb_loop (n+2) c (by omega) (a0b-1) 1 (Nat.le_refl _) (by omega) (by unfold a0b;omega);rw[show a0b-1+1=a0b by unfold a0b;omega] at this
 change a0a (d0i (n+3) a0b ((c:Int),(c:Int),List.replicate 1 (0:UInt8),())) _=_
 rw[this,obs,b0a];dsimp only;rw[c0d,obs]
def cutB {α:Type} (m:Nat) (f:α→List UInt8) (l:List α):List (List UInt8):=(d0b l.length m l).map fun p=>padB (p.flatMap f) 512
theorem o1g {α:Type} {m:Nat} {f:α→List UInt8} {l:List α}:(cutB m f l).length=(d0b l.length m l).length:=by simp[cutB]
theorem p0w {α:Type} {m:Nat} (hm:1≤m) (xs:List α):(d0b xs.length m xs).length≤xs.length:=by
 apply Nat.le_of_not_lt;intro h;have:=(m0f hm xs xs.length).1 h;have:xs.length*1≤xs.length*m:=Nat.mul_le_mul_left _ hm;omega
theorem g1g {α:Type} {m:Nat} (hm:1≤m) {xs:List α} {p:List α} (h:p∈d0b xs.length m xs):p.length≤m∧∀x∈p,x∈xs:=by
 obtain ⟨k,hk⟩:=List.getElem?_of_mem h;rw[g0p hm _ _ (Nat.le_refl _)] at hk;split at hk
 ·injection hk with hk;subst hk;exact ⟨by rw[List.length_take];omega,fun x hx=>List.mem_of_mem_drop (List.mem_of_mem_take hx)⟩
 ·cases hk
theorem d1j {α:Type} {w:Nat} {f:α→List UInt8}:∀l:List α,(∀x∈l,(f x).length=w)→(l.flatMap f).length=l.length*w
 | [],_=>by simp
 | x::l,h=>by
  rw[List.flatMap_cons,List.length_append,h x List.mem_cons_self,d1j l fun y hy=>h y (List.mem_cons_of_mem _ hy),List.length_cons,Nat.add_mul];omega
theorem s1n {α:Type} {w:Nat} {f:α→List UInt8}:∀(k:Nat) (l:List α),(∀x∈l,(f x).length=w)→(l.flatMap f).drop (k*w)=(l.drop k).flatMap f
 | 0,l,_=>by simp
 | k+1,[],_=>by simp
 | k+1,x::l,h=>by
  have hx:=h x List.mem_cons_self;rw[List.flatMap_cons,List.drop_succ_cons,←s1n k l fun y hy=>h y (List.mem_cons_of_mem _ hy),show (k+1)*w=(f x).length+k*w by rw[hx,Nat.add_mul];omega,List.drop_append,List.drop_eq_nil_of_le (by omega),List.nil_append,show (f x).length+k*w-(f x).length=k*w by omega]
theorem g1f {α:Type} (xs:List α) (m:Nat) (hm:1≤m) (hx:xs.length+m≤1000000000):i0p xs (m:Int)=some ((d0b xs.length m xs).map fun l=>(l,())):=by
 unfold i0p;rw[show (decide (1≤(m:Int))&&decide ((xs.length:Int)+(m:Int)≤4611686018427387904))=true by rw[Bool.and_eq_true,decide_eq_true_eq,decide_eq_true_eq];omega,tft,Int.toNat_natCast]
theorem s0v (n:Nat) (s:List UInt8) (k:Nat) (hs:s.length≤1000000000) (hk:k≤8000):g0j (n+5) s (k:Int)=some (padB s k):=by
 rw[s1g,w64 (by omega) (by omega)];have e:(if (k:Int)-((s.length:Nat):Int)<0 then (0:Int) else (k:Int)-((s.length:Nat):Int))=((k-s.length:Nat):Int):=by split<;>omega
 rw[e,rep_val n (k-s.length) (by omega),obs,tfd,if_pos (by simp;omega)];rfl
theorem s1r (n:Nat) (e:Ev):n0i (n+6) e=some (f0u e):=by
 have hl:=p0e e;rw[i1l,e1l (n+2) [] e (by simp),obs,f1b (n+4),obs,List.nil_append];dsimp only;rw[show ((32:Int))=((32:Nat):Int) from rfl,s0v n _ 32 (by rw[g0q];omega) (by omega),obs];rfl
theorem l1y (n:Nat) (s:Slo):i0o (n+6) s=some (c0k s):=by
 have e1:=p0e s.2.2.1;have e2:=p0e s.2.2.2.1;have hl:=y1c s;have h1:∀x y:Int,[x,y].flatMap n8I=n8I x++n8I y:=fun x y=>by simp
 have h5:∀a b x y z:Int,[IntKind.wrap .i64 a,IntKind.wrap .i64 b,x,y,z].flatMap n8I=n8I a++(n8I b++(n8I x++(n8I y++n8I z))):=fun a b x y z=>by simp[h2f]
 have l1:∀x y:Int,(n8I x++n8I y).length=16:=fun x y=>by simp[w0b]
 rw[n1h,y0h (n+3) [] _ (by simp) (by simp),obs,h1,List.nil_append,e1l (n+2) _ _ (by rw[l1];omega),obs,e1l (n+2) _ _ (by rw[List.length_append,l1];omega),obs,
  y0h (n+3) _ _ (by simp) (by rw[List.length_append,List.length_append,l1,e1,e2];simp),obs,h5,f1b (n+4),obs]
 dsimp only;have es:n8I s.1++n8I s.2.1++v0c s.2.2.1++v0c s.2.2.2.1++(n8I s.2.2.2.2.1.1++(n8I s.2.2.2.2.1.2++(n8I s.2.2.2.2.2.1++(n8I s.2.2.2.2.2.2.1++n8I s.2.2.2.2.2.2.2))))=sloI s:=by
  unfold sloI;simp only[List.append_assoc]
 rw[es,show ((128:Int))=((128:Nat):Int) from rfl,s0v n _ 128 (by rw[g0q];omega) (by omega),obs];rfl
theorem x1b (n:Nat) (g:Ev→List UInt8) (bytes:(Ev×Unit)→Option (List UInt8)) (hb:∀x,bytes (x,())=some (g x)) (hg:∀x,(g x).length≤512) (out:List (List UInt8)) (l:List Ev) (hl:l.length≤100000):∀(rest pre:List Ev) (f:Nat) (b:List UInt8) (i:Int),l=pre++rest→i=pre.length→b.length+512*rest.length≤1000000000 →
  g0b (n+1) (f+rest.length+1) (out,bytes,b,l,(l.length:Int),i,())=some (.inl (out,bytes,b++rest.flatMap g,())):=by
 intro rest;induction rest with
 | nil =>
  intro pre f b i h hi hw;rw[k0x];simp only[tfd,if_neg (idxe h hi rfl)];simp
 | cons a rest ih =>
  intro pre f b i h hi hw;have hlen:=congrArg List.length h;simp at hlen hw;have ha:=hg a;rw[show f+(a::rest).length+1=(f+rest.length+1)+1 by simp;omega,k0x];simp only[tfd,if_pos (idx h hi rfl)];rw[c0g h hi,obs,hb,obs,wst n b (g a) (by omega),obs];dsimp only;rw[w64 (x:=i+1) (by omega) (by omega),ih (pre++[a]) f _ (i+1) (idxl h) (idxs hi) (by simp;omega)];simp
theorem x1a (n:Nat) (g:Ev→List UInt8) (bytes:(Ev×Unit)→Option (List UInt8)) (hb:∀x,bytes (x,())=some (g x)) (hg:∀x,(g x).length≤512):∀(P:List (List Ev)) (out:List (List UInt8)),(∀p∈P,p.length≤1000)→out.length+P.length≤1000000 →
  e0k (n+5) (P.map fun p=>(p,())) (out,bytes,())=some (out++P.map (fun p=>padB (p.flatMap g) 512),bytes,()):=by
 intro P;induction P with
 | nil=>intro out _ _;rw[List.map_nil,s0g];simp
 | cons p P ih =>
  intro out hp ho;simp only[List.length_cons] at ho;have h1:=hp p List.mem_cons_self;have:=x1b (n+4) g bytes hb hg out p (by omega) p [] (a0b-p.length-1) [] 0 rfl rfl (by simp;omega);rw[←lfu (by omega)] at this;have hfl:(p.flatMap g).length≤1000000:=by
   have key:∀q:List Ev,(q.flatMap g).length≤512*q.length:=by
    intro q;induction q with
    | nil=>simp
    | cons x q ih=>have:=hg x;rw[List.flatMap_cons,List.length_append,List.length_cons];omega
   have:=key p;omega
  rw[List.map_cons,r0f];dsimp only;rw[this,obs,b0a];dsimp only;rw[c0d,obs,List.nil_append];dsimp only;rw[show ((512:Int))=((512:Nat):Int) from rfl,s0v n _ 512 (by omega) (by omega),obs,tfd,if_pos (by omega),obs,ih (out++[padB (p.flatMap g) 512]) (fun q hq=>hp q (List.mem_cons_of_mem _ hq)) (by simp;omega)];simp
theorem s1x (n:Nat) (g:Ev→List UInt8) (bytes:(Ev×Unit)→Option (List UInt8)) (hb:∀x,bytes (x,())=some (g x)) (hg:∀x,(g x).length≤512) (out:List (List UInt8)) (l:List Ev) (m:Nat) (hm:1≤m) (hm':m≤1000) (hl:l.length≤100000) (ho:out.length≤100000) :
  n0h (n+6) out l (m:Int) bytes=some (out++cutB m g l):=by
 have hc:=p0w hm l;rw[y0u,z0x,g1f l m hm (by omega),obs,x1a n g bytes hb hg _ out (fun p hp=>by have:=(g1g hm hp).1;omega) (by omega),obs];rfl
theorem d2q (n:Nat) (g:Slo→List UInt8) (bytes:(Slo×Unit)→Option (List UInt8)) (hb:∀x,bytes (x,())=some (g x)) (hg:∀x,(g x).length≤512) (out:List (List UInt8)) (l:List Slo) (hl:l.length≤100000):∀(rest pre:List Slo) (f:Nat) (b:List UInt8) (i:Int),l=pre++rest→i=pre.length→b.length+512*rest.length≤1000000000 →
  g0y (n+1) (f+rest.length+1) (out,bytes,b,l,(l.length:Int),i,())=some (.inl (out,bytes,b++rest.flatMap g,())):=by
 intro rest;induction rest with
 | nil =>
  intro pre f b i h hi hw;rw[l0m];simp only[tfd,if_neg (idxe h hi rfl)];simp
 | cons a rest ih =>
  intro pre f b i h hi hw;have hlen:=congrArg List.length h;simp at hlen hw;have ha:=hg a;rw[show f+(a::rest).length+1=(f+rest.length+1)+1 by simp;omega,l0m];simp only[tfd,if_pos (idx h hi rfl)];rw[c0g h hi,obs,hb,obs,wst n b (g a) (by omega),obs];dsimp only;rw[w64 (x:=i+1) (by omega) (by omega),ih (pre++[a]) f _ (i+1) (idxl h) (idxs hi) (by simp;omega)];simp
theorem d2p (n:Nat) (g:Slo→List UInt8) (bytes:(Slo×Unit)→Option (List UInt8)) (hb:∀x,bytes (x,())=some (g x)) (hg:∀x,(g x).length≤512):∀(P:List (List Slo)) (out:List (List UInt8)),(∀p∈P,p.length≤1000)→out.length+P.length≤1000000 →
  f0c (n+5) (P.map fun p=>(p,())) (out,bytes,())=some (out++P.map (fun p=>padB (p.flatMap g) 512),bytes,()):=by
 intro P;induction P with
 | nil=>intro out _ _;rw[List.map_nil,t0f];simp
 | cons p P ih =>
  intro out hp ho;simp only[List.length_cons] at ho;have h1:=hp p List.mem_cons_self;have:=d2q (n+4) g bytes hb hg out p (by omega) p [] (a0b-p.length-1) [] 0 rfl rfl (by simp;omega);rw[←lfu (by omega)] at this;have hfl:(p.flatMap g).length≤1000000:=by
   have key:∀q:List Slo,(q.flatMap g).length≤512*q.length:=by
    intro q;induction q with
    | nil=>simp
    | cons x q ih=>have:=hg x;rw[List.flatMap_cons,List.length_append,List.length_cons];omega
   have:=key p;omega
  rw[List.map_cons,s0f];dsimp only;rw[this,obs,b0a];dsimp only;rw[c0d,obs,List.nil_append];dsimp only;rw[show ((512:Int))=((512:Nat):Int) from rfl,s0v n _ 512 (by omega) (by omega),obs,tfd,if_pos (by omega),obs,ih (out++[padB (p.flatMap g) 512]) (fun q hq=>hp q (List.mem_cons_of_mem _ hq)) (by simp;omega)];simp
theorem w1z (n:Nat) (g:Slo→List UInt8) (bytes:(Slo×Unit)→Option (List UInt8)) (hb:∀x,bytes (x,())=some (g x)) (hg:∀x,(g x).length≤512) (out:List (List UInt8)) (l:List Slo) (m:Nat) (hm:1≤m) (hm':m≤1000) (hl:l.length≤100000) (ho:out.length≤100000) :
  i0a (n+6) out l (m:Int) bytes=some (out++cutB m g l):=by
 have hc:=p0w hm l;rw[a1s,c1o,g1f l m hm (by omega),obs,d2p n g bytes hb hg _ out (fun p hp=>by have:=(g1g hm hp).1;omega) (by omega),obs];rfl
def s0o (lost room:Nat):Nat→List Ev→List Ev→List Ev
 | _,[],out=>out
 | k,e::L,out=>s0o lost room (k+1) L (out.set ((lost+k) % room) e)
def j0n (r:Rw) (room:Int):List Ev:=s0o r.1.toNat room.toNat 0 r.2.2 (List.replicate room.toNat e0)
theorem j1m (lost room:Nat):∀(L:List Ev) (k:Nat) (out:List Ev),(s0o lost room k L out).length=out.length
 | [],_,_=>rfl
 | e::L,k,out=>by rw[s0o,j1m lost room L];simp
theorem round_l3 (n:Nat) (room:Int) (r:Rw) (h1:1≤room) (h2:room≤4096) (h3:0≤r.1) (h4:r.1≤70368744177664) (hL:r.2.2.length≤100000):∀(rest pre:List Ev) (f:Nat) (out:List Ev) (i:Int),r.2.2=pre++rest→i=pre.length→(out.length:Int)=room →
  k0i n (f+rest.length+1) (room,r,out,r.2.2,(r.2.2.length:Int),i,())=some (.inl (s0o r.1.toNat room.toNat pre.length rest out,())):=by
 intro rest;induction rest with
 | nil =>
  intro pre f out i h hi ho;rw[p0o];simp only[tfd,if_neg (idxe h hi rfl)];rfl
 | cons a rest ih =>
  intro pre f out i h hi ho;have hlen:=congrArg List.length h;simp at hlen;have hpos:Int.tmod (IntKind.wrap .i64 (r.1+i)) room=(((r.1.toNat+pre.length) % room.toNat:Nat):Int):=by
   rw[w64 (by omega) (by omega),Int.tmod_eq_emod_of_nonneg (by omega),Int.natCast_emod,hi,Int.natCast_add,Int.toNat_of_nonneg h3,Int.toNat_of_nonneg (by omega)]
  have hlt:(r.1.toNat+pre.length) % room.toNat<out.length:=by
   have:=Nat.mod_lt (r.1.toNat+pre.length) (show 0<room.toNat by omega);omega
  rw[show f+(a::rest).length+1=(f+rest.length+1)+1 by simp;omega,p0o];simp only[tfd,if_pos (idx h hi rfl)];rw[c0g h hi,obs,if_neg (by omega),hpos,Int.toNat_natCast,c1x (List.getElem?_eq_getElem hlt),obs,List.getElem?_eq_getElem hlt,obs,w64 (x:=i+1) (by omega) (by omega),
   ih (pre++[a]) f _ (i+1) (idxl h) (idxs hi) (by simpa using ho)]
  simp[s0o]
theorem g2a (n:Nat) {r:Rw} {room:Int} (h:RawOk r room):w0f (n+1) r room=some (j0n r room):=by
 have h1:=h.m0;have h2:=h.m1;have h3:=h.len;rw[i1f];have c1:(decide ((0:Int)≤room)&&(decide (room≤room)&&decide (room*(32:Int)≤(140737488355328:Int))))=true:=by
  rw[Bool.and_eq_true,Bool.and_eq_true,decide_eq_true_eq,decide_eq_true_eq,decide_eq_true_eq];omega
 have:=round_l3 n room r h1 h2 h.l0 h.l1 (by omega) r.2.2 [] (a0b-r.2.2.length-1) (List.replicate room.toNat e0) 0 rfl rfl (by simp;omega);rw[←lfu (by omega)] at this;rw[c1,tft];have e:List.replicate (Int.toNat room) ((0:Int),((0:Int),((0:Int),false)))=List.replicate room.toNat e0:=rfl;rw[e,this,obs,b0a];rfl
theorem z0l {n:Nat} (h:n<128):(uvB n).length=1:=by rw[w0v h];rfl
theorem u1a {n:Nat} (h:n<16384):(uvB n).length≤2:=by
 by_cases h1:n<128
 ·rw[z0l h1];omega
 ·rw[l1e h1,List.length_cons,z0l (by omega)];omega
theorem h2u:∀(l:List Lab),(∀x∈l,x.1.length≤64∧x.2.length≤128)→((l.flatMap fun x=>txB x.1++txB x.2).length:Int)≤3*(l.length:Int)+sumL l
 | [],_=>by simp[sumL]
 | x::l,h=>by
  have ih:=h2u l fun y hy=>h y (List.mem_cons_of_mem _ hy)
  obtain ⟨h1,h2⟩:=h x List.mem_cons_self;have e1:=z0l (n:=x.1.length) (by omega);have e2:=u1a (n:=x.2.length) (by omega);rw[e1d,List.flatMap_cons];simp only[txB,List.length_append,List.length_cons] at ih ⊢;omega
theorem f1m {l:List Lab} (h:LabOk l):(labB l).length≤320:=by
 have h1:=h2u l (o1p l none h.c);have h2:=h.n1;have h3:=h.t;have e1:=z0l (n:=l.length) (by omega);have h4:(labB l).length=1+(l.flatMap fun x=>txB x.1++txB x.2).length:=by unfold labB;rw[List.length_append,e1]
 omega
def p0q (x:Ser):List UInt8 :=
 toB (beI 2 ((labB x.1).length:Int))++(padB (labB x.1) 320++(n8B x.2.1++(n8B x.2.2.1.1++(n8B x.2.2.1.2.1++(toB (beI 2 (x.2.2.1.2.2.length:Int))++c0k x.2.2.2.2)))))
def d0t (x:Ser):List UInt8:=padB (p0q x) 512
def zsec:List UInt8:=List.replicate 512 0
noncomputable def c0f (c:Conf) (x:Ser):List (List UInt8) :=
 if x=ser0 then List.replicate (plc c).toNat zsec
 else d0t x::(cutB 16 f0u (j0n x.2.2.1 c.1)++(cutB 4 c0k x.2.2.2.1.1++(cutB 4 c0k x.2.2.2.1.2.1++cutB 4 c0k x.2.2.2.1.2.2)))
def f1g:List UInt8:=[112,108,105,109,115,111,108,108]
def e1c (s:Sta):List UInt8:=f1g++(toB (bts s.1)++(n8B s.2.1++n8B (s.2.2.1+1)))
def f0z (s:Sta):List UInt8:=padB (e1c s) 512
noncomputable def allB (s:Sta):List (List UInt8):=f0z s::s.2.2.2.flatMap (c0f s.1)
theorem o1y (x:Int):(toB (beI 2 x)).length=2:=by simp[g0q,c0j]
theorem k1g {x:Ser} (h:(labB x.1).length≤320):(p0q x).length=476:=by
 have e1:=n0z (labB x.1) 320;have e2:=e0y x.2.2.2.2;unfold p0q;simp only[List.length_append,o1y,w0c,e1,e2];omega
theorem a1y {x:Ser} (h:(labB x.1).length≤320):(d0t x).length=512:=by rw[d0t,n0z,k1g h];rfl
theorem v0q (c:Conf):(toB (bts c)).length=56:=by rw[g0q,d2x]
theorem j1a (s:Sta):(e1c s).length=80:=by
 unfold e1c f1g;simp only[List.length_append,v0q,w0c];rfl
theorem a2q (s:Sta):(f0z s).length=512:=by rw[f0z,n0z,j1a];rfl
theorem k1n (w:List Int) (h:∀x∈w,0≤x∧x≤255):c0s (toB w)=w:=by
 induction w with
 | nil=>rfl
 | cons a w ih =>
  have ha:=h a List.mem_cons_self;have e:c0s (toB (a::w))=(((UInt8.ofNat a.toNat).toNat:Nat):Int)::c0s (toB w):=rfl;rw[e,ih fun x hx=>h x (List.mem_cons_of_mem _ hx)];congr 1;simp;omega
theorem hd_val (n:Nat) {x:Ser} (hl:LabOk x.1) (hr:x.2.2.1.2.2.length≤4096):w0i (n+8) x=some (d0t x,0):=by
 have hlab:=f1m hl;have h2:∀v:Int,(beI 2 v).length=2:=fun v=>by simp[c0j]
 have e1:=n0z (labB x.1) 320;rw[i1h,w1f n x.1,if_pos hl,obs];dsimp only;rw[wu64 (by omega) (by omega),b0v (n+6) [] 2 2 _ rfl (by omega) (by omega) (by simp),obs,List.nil_append,
  show ((320:Int))=((320:Nat):Int) from rfl,s0v (n+2) _ 320 (by omega) (by omega),obs,m1h (n+6) (by rw[h2];omega),obs,
  y0h (n+5) _ _ (by simp) (by simp[h2,k0d];omega),obs,wu64 (by omega) (by omega),b0v (n+6) _ 2 2 _ rfl (by omega) (by omega) (by simp[h2,k0d,w0b];omega),obs,
  l1y (n+1),obs,m1h (n+6) (by simp[h2,k0d,w0b,e0y];omega),obs,f1b (n+6),obs]
 dsimp only;have e:toB (beI 2 ((labB x.1).length:Int)++c0s (padB (labB x.1) 320)++List.flatMap n8I [x.2.1,x.2.2.1.1,x.2.2.1.2.1]++beI 2 (x.2.2.1.2.2.length:Int)++c0s (c0k x.2.2.2.2))=p0q x:=by
  unfold p0q n8B;simp only[l1h,t0s,List.flatMap_cons,List.flatMap_nil,List.append_nil,List.append_assoc]
 rw[e,show ((512:Int))=((512:Nat):Int) from rfl,s0v (n+2) _ 512 (by rw[k1g hlab];omega) (by omega),obs];rfl
theorem j2o (n:Nat) {x:Ser} (h:SerM x):w0j (n+4) x=some (decide (x=ser0)):=by
 have:=v0w n x ser0 h;rw[i1i];have e:d0w (n+3) x ([],((0:Int),(((0:Int),((0:Int),[])),(([],([],[])),((0:Int),z0)))))=some (decide (x=ser0)):=this
 change a0a (d0w (n+3) x ([],((0:Int),(((0:Int),((0:Int),[])),(([],([],[])),((0:Int),z0)))))) _=_
 rw[e];rfl
theorem u1b {c:Conf} {x:Ser} (h:SerOk c x):x.2.2.2.1.1.length≤4096∧x.2.2.2.1.2.1.length≤4096∧x.2.2.2.1.2.2.length≤4096:=⟨h.fold.t0.l1,h.fold.t1.l1,h.fold.t2.l1⟩
theorem x0z {r:Rw} {room:Int} (h:RawOk r room):(j0n r room).length=room.toNat∧room.toNat≤4096:=⟨by unfold j0n;rw[j1m];simp,by have:=h.m1;omega⟩
theorem r1d (n:Nat) {c:Conf} {x:Ser} (hc:OkC c) (hw:SerW x) (hm:SerM x):r0h (n+12) c x=some (if x=ser0∨SerOk c x then (c0f c x,0) else ([],2)):=by
 have hr:=hc.rng;have hp:=j0b hr;rw[i1k,z0f (n+8) hc,obs,decide_eq_true (rfl:(0:Int)=0),Bool.not_true,tff,j2o (n+7) hm,obs,tfd];by_cases h0:x=ser0
 ·rw[if_pos h0,if_pos (.inl h0),show ((512:Int))=((512:Nat):Int) from rfl,s0v (n+6) [] 512 (by simp) (by omega),obs,(p1a (n+7) hc).1,obs,
   show plc c=(((plc c).toNat:Nat):Int) by omega,v1k (n+8) _ (plc c).toNat (by omega) (by omega),obs]
  unfold c0f;rw[if_pos h0];rfl
 rw[if_neg h0,b1o n c hw,obs];by_cases hs:SerOk c x
 ·have ht:=u1b hs;have hrd:=x0z hs.raw;have hln:=hs.raw.len;have hlab:=f1m hs.lab;have hch:∀ {α:Type} (m:Nat) (f:α→List UInt8) (l:List α),1≤m→l.length≤4096→(cutB m f l).length≤4096:=fun m f l hm hl=>by
   rw[o1g];have:=p0w hm l;omega
  rw[if_pos hs,if_pos (.inr hs),decide_eq_true (rfl:(0:Int)=0),Bool.not_true,tff,hd_val (n+3) hs.lab (by have:=hs.raw.m1;omega),obs,decide_eq_true (rfl:(0:Int)=0),Bool.not_true,tff,g2a (n+10) hs.raw,obs,
   show ((16:Int))=((16:Nat):Int) from rfl,s1x (n+5) f0u (fun y0=>n0i (n+11) y0.1) (fun e=>s1r (n+5) e) (fun e=>by rw[m0d];omega) _ _ 16 (by omega) (by omega) (by omega) (by simp),obs]
  have c1:=hch 16 f0u (j0n x.2.2.1 c.1) (by omega) (by omega);have c2:=hch 4 c0k x.2.2.2.1.1 (by omega) ht.1;have c3:=hch 4 c0k x.2.2.2.1.2.1 (by omega) ht.2.1;have c4:=hch 4 c0k x.2.2.2.1.2.2 (by omega) ht.2.2;have cv:=fun (out:List (List UInt8)) (l:List Slo) (h1:l.length≤4096) (h2:out.length≤100000)=>w1z (n+5) c0k (fun y0=>i0o (n+11) y0.1) (fun e=>l1y (n+5) e) (fun e=>by rw[e0y];omega) out l 4 (by omega) (by omega) (by omega) h2
  have hl:f0d (n+11) a0b ([d0t x]++cutB 16 f0u (j0n x.2.2.1 c.1),x.2.2.2.1,(0:Int),())=some (.inl (d0t x::(cutB 16 f0u (j0n x.2.2.1 c.1)++(cutB 4 c0k x.2.2.2.1.1++(cutB 4 c0k x.2.2.2.1.2.1++cutB 4 c0k x.2.2.2.1.2.2))),())):=by
   obtain ⟨f,hf⟩:∃f,a0b=f+4:=⟨a0b-4,by unfold a0b;omega⟩;rw[hf,g0c,tfd,if_pos (by omega),tfd,if_pos rfl,show ((4:Int))=((4:Nat):Int) from rfl,cv _ _ ht.1 (by simp;omega),obs,show IntKind.wrap .i64 ((0:Int)+1)=1 from by decide,
    g0c,tfd,if_pos (by omega),tfd,if_neg (by omega),tfd,if_pos rfl,show ((4:Int))=((4:Nat):Int) from rfl,cv _ _ ht.2.1 (by simp;omega),obs,show IntKind.wrap .i64 ((1:Int)+1)=2 from by decide,
    g0c,tfd,if_pos (by omega),tfd,if_neg (by omega),tfd,if_neg (by omega),tfd,if_pos rfl,show ((4:Int))=((4:Nat):Int) from rfl,cv _ _ ht.2.2 (by simp;omega),obs,show IntKind.wrap .i64 ((2:Int)+1)=3 from by decide,
    g0c,tfd,if_neg (by omega)]
   simp
  rw[hl,obs,b0a];unfold c0f;rw[if_neg h0]
 ·rw[if_neg hs,if_neg (by rintro (k | k);exact h0 k;exact hs k)];rfl
theorem p1y (n:Nat) {s:Sta} (hw:StaW s):r0g (n+15) s=some (if StaOk s then (f0z s,0) else ([],2)):=by
 rw[i1j,k0n n hw,obs];by_cases h:StaOk s
 ·have hc:=h.whole.1;have hb:=v0q s.1;have hk:=h.clock;rw[if_pos h,if_pos h,decide_eq_true (rfl:(0:Int)=0),Bool.not_true,tff,bytes_ok (n+10) hc,obs,tfd,if_pos (by omega),m1h (n+13) (by simp[hb]),obs,
   y0h (n+12) _ _ (by simp) (by simp[k0d,hb]),obs,f1b (n+13),obs]
  dsimp only;have hsw:IntKind.wrap .i64 (s.2.2.1+1)=s.2.2.1+1:=by
   obtain ⟨_,k,_⟩:=hk;rcases k with k | ⟨k1,k2⟩
   ·rw[k];decide
   ·exact w64 (by omega) (by omega)
  have e:toB ([]++c0s (f1g++toB (bts s.1))++List.flatMap n8I [s.2.1,IntKind.wrap .i64 (s.2.2.1+1)])=e1c s:=by
   rw[hsw];unfold e1c n8B;simp only[List.nil_append,l1h,t0s,List.flatMap_cons,List.flatMap_nil,List.append_nil,List.append_assoc]
  change a0a (g0j (n+14) (toB ([]++c0s (f1g++toB (bts s.1))++List.flatMap n8I [s.2.1,IntKind.wrap .i64 (s.2.2.1+1)])) 512) _=_
  rw[e,show ((512:Int))=((512:Nat):Int) from rfl,s0v (n+9) _ 512 (by rw[j1a];omega) (by omega),obs];rfl
 ·rw[if_neg h,if_neg h];rfl
theorem b2y {c:Conf} {x:Ser} (hc:OkC c) (h:x=ser0∨SerOk c x):(c0f c x).length≤100000:=by
 have hp:=j0b hc.rng;unfold c0f;split
 ·simp;omega
 ·rename_i h0;have hs:SerOk c x:=h.resolve_left h0;have ht:=u1b hs;have hrd:=x0z hs.raw;have hch:∀ {α:Type} (m:Nat) (f:α→List UInt8) (l:List α),1≤m→l.length≤4096→(cutB m f l).length≤4096:=fun m f l hm hl=>by
   rw[o1g];have:=p0w hm l;omega
  have c1:=hch 16 f0u (j0n x.2.2.1 c.1) (by omega) (by omega);have c2:=hch 4 c0k x.2.2.2.1.1 (by omega) ht.1;have c3:=hch 4 c0k x.2.2.2.1.2.1 (by omega) ht.2.1;have c4:=hch 4 c0k x.2.2.2.1.2.2 (by omega) ht.2.2;simp;omega
theorem p0f {s:Sta} {i:Nat} {x:Ser} (h:s0c s i x):x=ser0∨SerOk s.1 x:=by
 rcases h with h | h
 ·exact .inl h
 ·exact .inr h.1
theorem all_l4 (n:Nat) {s:Sta} (hw:StaW s) (hs:StaOk s):∀(rest pre:List Ser) (f:Nat) (out:List (List UInt8)) (i:Int),s.2.2.2=pre++rest→i=pre.length→out.length≤100000*pre.length+1 →
  o0e (n+12) (f+rest.length+1) (s,(0:Int),out,i,())=some (.inl ((0:Int),out++rest.flatMap (c0f s.1),())):=by
 have hL:=hs.whole.len;intro rest;induction rest with
 | nil =>
  intro pre f out i h hi ho;have hn:¬(i<((s.2.2.2.length:Nat):Int)):=by have:=congrArg List.length h;simp at this;omega
  rw[n0j,tfd,if_pos rfl,tfd,if_neg hn];simp
 | cons a rest ih =>
  intro pre f out i h hi ho;have hlen:=congrArg List.length h;simp at hlen;have hia:s.2.2.2[pre.length]? = some a:=by rw[h];simp
  have hr:=p0f (hs.right pre.length a hia);obtain ⟨w1,w2⟩:=hw.at hia;have hpl:=b2y hs.whole.1 hr;rw[show f+(a::rest).length+1=(f+rest.length+1)+1 by simp;omega,n0j,tfd,if_pos rfl,tfd,if_pos (by omega),c0g h hi,obs,r1d n hs.whole.1 w1 w2,if_pos hr,obs];dsimp only;rw[tfd,if_pos (by omega),w64 (x:=i+1) (by omega) (by omega)];rw[ih (pre++[a]) f _ (i+1) (idxl h) (idxs hi) (by simp;omega)];simp
theorem b1j (n:Nat) {s:Sta} (hw:StaW s):g0l (n+16) s=some (if StaOk s then (allB s,0) else ([],2)):=by
 rw[s1i,p1y n hw,obs];by_cases h:StaOk s
 ·have hL:=h.whole.len;rw[if_pos h,if_pos h];dsimp only;have:=all_l4 (n+3) hw h s.2.2.2 [] (a0b-s.2.2.2.length-1) [f0z s] 0 rfl rfl (by simp);rw[←lfu (by omega)] at this;rw[this,obs,b0a];rfl
 ·rw[if_neg h,if_neg h];obtain ⟨f,hf⟩:∃f,a0b=f+1:=⟨a0b-1,by unfold a0b;omega⟩;dsimp only;rw[hf,n0j,tfd,if_neg (by decide),obs,b0a];rfl
end Go.Proofs.YtagnkfbpgkckiaaGreat
