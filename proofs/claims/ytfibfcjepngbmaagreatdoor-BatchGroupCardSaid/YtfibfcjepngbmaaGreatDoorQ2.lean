/-
 Plain proofs about the functions of this seat, part 2 of 3.
-/
import Derived.Test.YtfibfcjepngbmaaGreatDoorQ1
import Derived.Test.YtfibfcjepngbmaaGreatDoorTr
import Derived.Test.YtfibfcjepngbmaaGreatDoorFlatM4
import Derived.KernelRfl
namespace Go.Proofs.YtfibfcjepngbmaaGreatDoor
open Go.Flat Go.Plim
set_option linter.unusedVariables false
set_option linter.unusedSimpArgs false
structure TrsW (s:Trs):Prop where
 a:∀x∈s.1,SloW x
 b:∀x∈s.2.1,SloW x
 c:∀x∈s.2.2,SloW x
theorem FoldOk.w {c:Conf} {s:Trs} (h:FoldOk c s):TrsW s:=⟨p0g h.t0,p0g h.t1,p0g h.t2⟩
theorem l0x (n:Nat) (c:Conf):f0k (n+3) c=some (if OkC c then 0 else 2):=by
 by_cases h:OkC c
 ·rw[if_pos h,check_ok n h]
 ·rw[if_neg h,check_no n h]
theorem t0e (n:Nat) (c:Conf) {s:Trs} (hw:TrsW s):t0f (n+8) c s=some (if FoldOk c s then (some (c,s),0) else (none,2)):=by
 rw[k1r,l0x (n+4),p0e n _ _ hw.a,p0e n _ _ hw.b,p0e n _ _ hw.c];simp only[obs,tfn,tfd];by_cases h0:OkC c
 case neg=>rw[if_neg (mt (z02 _).1 h0),if_neg h0,if_neg (fun k:FoldOk c s=>h0 k.cok)]
 rw[if_pos ((z02 _).2 h0)];by_cases h1:(s.1.length:Int)=c.2.2.1.1
 case neg=>rw[if_neg h1,if_neg (fun k:FoldOk c s=>h1 k.n0)]
 rw[if_pos h1];by_cases h2:TierOk s.1 c.2.1.1
 case neg=>rw[if_neg (mt (z02 _).1 h2),if_neg (fun k:FoldOk c s=>h2 k.t0)]
 rw[if_pos ((z02 _).2 h2)];by_cases h3:(s.2.1.length:Int)=c.2.2.1.2.1
 case neg=>rw[if_neg h3,if_neg (fun k:FoldOk c s=>h3 k.n1)]
 rw[if_pos h3];by_cases h4:TierOk s.2.1 c.2.1.2.1
 case neg=>rw[if_neg (mt (z02 _).1 h4),if_neg (fun k:FoldOk c s=>h4 k.t1)]
 rw[if_pos ((z02 _).2 h4)];by_cases h5:(s.2.2.length:Int)=c.2.2.1.2.2
 case neg=>rw[if_neg h5,if_neg (fun k:FoldOk c s=>h5 k.n2)]
 rw[if_pos h5];by_cases h6:TierOk s.2.2 c.2.1.2.2
 case neg=>rw[if_neg (mt (z02 _).1 h6),if_neg (fun k:FoldOk c s=>h6 k.t2)]
 rw[if_pos ((z02 _).2 h6),if_pos (⟨h0,h1,h3,h5,h2,h4,h6⟩:FoldOk c s)]
theorem u1r (n:Nat) (c:Conf) {s:Trs} (hw:TrsW s):u0u (n+9) c s=some (if FoldOk c s then 0 else 2):=by
 rw[g1f,t0e n c hw];by_cases h:FoldOk c s
 ·rw[if_pos h,if_pos h];rfl
 ·rw[if_neg h,if_neg h];rfl
noncomputable def emp (c:Conf):Trs:=if OkC c then (List.replicate c.2.2.1.1.toNat s0,(List.replicate c.2.2.1.2.1.toNat s0,List.replicate c.2.2.1.2.2.toNat s0)) else ([],([],[]))
theorem u1p (n:Nat) (c:Conf):u0s (n+4) c=some (emp c):=by
 rw[g1d,l0x n];simp only[obs,tfn,tfd,tier_new];unfold emp;by_cases h:OkC c
 ·have h0:=h.rng.n0;have h1:=h.rng.n1;have h2:=h.rng.n2;rw[if_pos ((z02 _).2 h),if_pos h,if_pos h0,if_pos h1,if_pos h2]
 ·rw[if_neg (mt (z02 _).1 h),if_neg h]
theorem quo_top {w:Int} (hw:1≤w):IntKind.wrap .i64 (Int.tdiv 35184372088831 w)=35184372088831 / w:=by
 have:0≤(35184372088831:Int) / w:=Int.ediv_nonneg (by decide) (by omega);have:(35184372088831:Int) / w≤35184372088831:=Int.ediv_le_self _ (by decide);rw[t0v (by decide),w64 (by omega) (by omega)]
theorem begins_0 (n:Nat) (c:Conf) (s:Trs) (h:1≤c.2.1.1) (i:Int):n0j (n+1) (c,s) 0 i=some (decide (g0q c.2.1.1 i),(c,s)):=by
 rw[w0j];simp only[tfd,if_neg (show ¬(c.2.1.1=0) by omega),quo_top h];by_cases h0:(0:Int)≤i
 ·rw[if_pos h0];refine congrArg (fun b=>some (b,(c,s))) (decide_eq_decide.2 ⟨fun k=>⟨h0,k⟩,fun k=>k.2⟩)
 ·rw[if_neg h0,decide_eq_false (fun k:g0q c.2.1.1 i=>h0 k.1)]
theorem allE_okc (l:List Cel):∀c,c0s c→c0s (allE c l).1:=by
 induction l with
 | nil=>intro c h;exact h
 | cons x l ih =>
  intro c h;simp only[allE];split
  ·rename_i k;exact ih _ (o1e k).2.2.2.2
  ·exact y1k
theorem i1r (l:List Slo) (i k:Int):c0s (s1d l i k).1:=by
 unfold s1d;split
 ·exact y1k
 ·exact allE_okc _ _ y1k
theorem c1m {a b i:Int} (ha:1≤a∧a≤1099511627776) (hb:1≤b∧b≤1099511627776) (hm:b % a=0) (h:g0q b i) :
  IntKind.wrap .i64 (i*(b / a))=i*(b / a)∧IntKind.wrap .i64 ((IntKind.wrap .i64 (i+1))*(b / a))=(i+1)*(b / a):=by
 obtain ⟨h1,h2,h3,h4,h5,h6⟩:=t1y ha hb hm h;have:=l1m hb.1 h;have:=h.1;rw[w64 (x:=i+1) (by omega) (by omega),h6,w64 (by omega) (by omega),w64 (by omega) (by omega)];exact ⟨rfl,rfl⟩
theorem u1o (n:Nat) {c:Conf} {s:Trs} (h:FoldOk c s) {i:Int} (hb:g0q c.2.1.2.1 i):f0q (n+19) (c,s) 1 i=some ((mk1 c s i).1,((mk1 c s i).2,(c,s))):=by
 have hr:=h.cok.rng;obtain ⟨e1,e2⟩:=c1m hr.w0 hr.w1 h.cok.m1 hb;rw[b1b];simp only[tfd,if_neg (show ¬(c.2.1.1=0) by have:=hr.w0;omega),t1j hr.w1 hr.w0.1,e1,e2,i1m n h.t0,obs];rfl
theorem u1n (n:Nat) {c:Conf} {s:Trs} (h:FoldOk c s) {i:Int} (hb:g0q c.2.1.2.2 i):f0q (n+19) (c,s) 2 i=some ((mk2 c s i).1,((mk2 c s i).2,(c,s))):=by
 have hr:=h.cok.rng;obtain ⟨e1,e2⟩:=c1m hr.w1 hr.w2 h.cok.m2 hb;rw[b1a];simp only[tfd,if_neg (show ¬(c.2.1.2.1=0) by have:=hr.w1;omega),t1j hr.w2 hr.w1.1,e1,e2,i1m n h.t1,obs];rfl
theorem a2d (n:Nat) {c:Conf} {s:Trs} (h:FoldOk c s) (i:Int) {x:Cel} (hx:CelW x):e0o (n+9) (c,s) 0 i x=some (if FitsP x c.2.1.1 i then (0,(c,(tput s.1 i x,s.2))) else (2,(c,s))):=by
 rw[g1l,d1t n _ _ (p0g h.t0) hx];simp only[obs,tfd];by_cases hf:FitsP x c.2.1.1 i
 ·rw[if_pos (And.intro h.t0 hf),if_pos hf];rfl
 ·have hn:¬(TierOk s.1 c.2.1.1∧FitsP x c.2.1.1 i):=fun k=>hf k.2
  rw[if_neg hn,if_neg hf];rfl
theorem a2c (n:Nat) {c:Conf} {s:Trs} (h:FoldOk c s) (i:Int) {x:Cel} (hx:CelW x):e0o (n+9) (c,s) 1 i x=some (if FitsP x c.2.1.2.1 i then (0,(c,(s.1,(tput s.2.1 i x,s.2.2)))) else (2,(c,s))):=by
 rw[g1j,d1t n _ _ (p0g h.t1) hx];simp only[obs,tfd];by_cases hf:FitsP x c.2.1.2.1 i
 ·rw[if_pos (And.intro h.t1 hf),if_pos hf];rfl
 ·have hn:¬(TierOk s.2.1 c.2.1.2.1∧FitsP x c.2.1.2.1 i):=fun k=>hf k.2
  rw[if_neg hn,if_neg hf];rfl
theorem a2b (n:Nat) {c:Conf} {s:Trs} (h:FoldOk c s) (i:Int) {x:Cel} (hx:CelW x):e0o (n+9) (c,s) 2 i x=some (if FitsP x c.2.1.2.2 i then (0,(c,(s.1,(s.2.1,tput s.2.2 i x)))) else (2,(c,s))):=by
 rw[g1i,d1t n _ _ (p0g h.t2) hx];simp only[obs,tfd];by_cases hf:FitsP x c.2.1.2.2 i
 ·rw[if_pos (And.intro h.t2 hf),if_pos hf];rfl
 ·have hn:¬(TierOk s.2.2 c.2.1.2.2∧FitsP x c.2.1.2.2 i):=fun k=>hf k.2
  rw[if_neg hn,if_neg hf];rfl
theorem p0r {a w i j:Int} (ha:1≤a) (hw:1≤w) (h0:0≤i) (hij:i≤j) (hj:g0q a j) :
  IntKind.wrap .i64 (Int.tdiv (IntKind.wrap .i64 (i*a)) w)=i*a / w∧g0q w (i*a / w):=by
 have hm:=hj.mul ha;have h1:0≤i*a:=Int.mul_nonneg h0 (by omega);have h2:i*a≤j*a:=Int.mul_le_mul_of_nonneg_right hij (by omega);have h3:0≤i*a / w:=Int.ediv_nonneg h1 (by omega);have h4:i*a / w≤i*a:=Int.ediv_le_self _ h1;rw[w64 (x:=i*a) (by omega) (by omega),t0v h1,w64 (by omega) (by omega)];exact ⟨rfl,c1z hw ⟨h1,by omega⟩⟩
theorem w1r (n:Nat) {c:Conf} {s:Trs} (h:FoldOk c s) {i j:Int} (h0:0≤i) (hij:i≤j) (hj:g0q c.2.1.1 j) :
  (tif (decide (IntKind.wrap .i64 (Int.tdiv (IntKind.wrap .i64 (i*c.2.1.1)) c.2.1.2.2)=IntKind.wrap .i64 (Int.tdiv (IntKind.wrap .i64 (j*c.2.1.1)) c.2.1.2.2))) (some (c,s))
   (a0a (f0q (n+19) (c,s) (2:Int) (IntKind.wrap .i64 (Int.tdiv (IntKind.wrap .i64 (i*c.2.1.1)) c.2.1.2.2))) fun r0 =>
    tif (decide (r0.2.1=(0:Int))) (tif (decide ((0:Int)<r0.1.1)) (a0a (e0o (n+19) r0.2.2 (2:Int) (IntKind.wrap .i64 (Int.tdiv (IntKind.wrap .i64 (i*c.2.1.1)) c.2.1.2.2)) r0.1) fun r1=>some r1.2) (some r0.2.2)) (some r0.2.2)))=some (c,up2 c s i j):=by
 have hr:=h.cok.rng;have hjj:0≤j:=hj.1;obtain ⟨e1,b1⟩:=p0r hr.w0.1 hr.w2.1 h0 hij hj;obtain ⟨e2,_⟩:=p0r hr.w0.1 hr.w2.1 hjj (Int.le_refl j) hj;rw[e1,e2,u1n n h b1];simp only[obs,tfd];unfold up2;by_cases c1:i*c.2.1.1 / c.2.1.2.2=j*c.2.1.1 / c.2.1.2.2
 ·rw[if_pos c1,if_pos c1]
 rw[if_neg c1,if_neg c1];generalize i*c.2.1.1 / c.2.1.2.2=a at *
 have hok:c0s (mk2 c s a).1:=i1r _ _ _;by_cases c2:(mk2 c s a).2=0
 ·rw[if_pos c2];by_cases c3:0<(mk2 c s a).1.1
  ·rw[if_pos c3,a2b (n+10) h a (CelW.of hok)];by_cases c4:FitsP (mk2 c s a).1 c.2.1.2.2 a
   ·rw[if_pos c4,if_pos (And.intro c2 c4)];rfl
   ·rw[if_neg c4,if_neg (fun k=>c4 k.2)];rfl
  ·rw[if_neg c3,if_neg (fun k=>c3 (by have:=k.2.n.n1;omega))]
 ·rw[if_neg c2,if_neg (fun k=>c2 k.1)]
theorem fold_up (n:Nat) {c:Conf} {s:Trs} (h:FoldOk c s) {i j:Int} (h0:0≤i) (hij:i≤j) (hj:g0q c.2.1.1 j):g1h (n+20) (c,s) i j=some (c,upw c s i j):=by
 have hr:=h.cok.rng;have hjj:0≤j:=hj.1;obtain ⟨e1,b1⟩:=p0r hr.w0.1 hr.w1.1 h0 hij hj;obtain ⟨e2,_⟩:=p0r hr.w0.1 hr.w1.1 hjj (Int.le_refl j) hj;have z1:¬(c.2.1.2.1=0):=by have:=hr.w1;omega
 have z2:¬(c.2.1.2.2=0):=by have:=hr.w2;omega
 rw[v1a];simp only[e1,e2,decide_eq_false z1,decide_eq_false z2,tff,u1o n h b1,obs,w1r n h h0 hij hj];unfold upw;simp only[tfd];by_cases c1:i*c.2.1.1 / c.2.1.2.1=j*c.2.1.1 / c.2.1.2.1
 ·have:up1 c s i j=s:=by unfold up1;rw[if_pos c1]
  rw[if_pos c1,this]
 rw[if_neg c1];have e3:up1 c s i j=if (mk1 c s (i*c.2.1.1 / c.2.1.2.1)).2=0∧FitsP (mk1 c s (i*c.2.1.1 / c.2.1.2.1)).1 c.2.1.2.1 (i*c.2.1.1 / c.2.1.2.1) then (s.1,(tput s.2.1 (i*c.2.1.1 / c.2.1.2.1) (mk1 c s (i*c.2.1.1 / c.2.1.2.1)).1,s.2.2)) else s:=by
  unfold up1;rw[if_neg c1]
 have hk:=up1_ok h i j;rw[e3] at hk ⊢;generalize i*c.2.1.1 / c.2.1.2.1=a at *
 have hok:c0s (mk1 c s a).1:=i1r _ _ _;by_cases c2:(mk1 c s a).2=0
 ·rw[if_pos c2];by_cases c3:0<(mk1 c s a).1.1
  ·rw[if_pos c3,a2c (n+10) h a (CelW.of hok)];by_cases c4:FitsP (mk1 c s a).1 c.2.1.2.1 a
   ·rw[if_pos (And.intro c2 c4)] at hk ⊢;rw[if_pos c4];have:=w1r n hk h0 hij hj;simp only[obs,if_neg z2];simp only[tfd] at this ⊢;exact this
   ·have hn1:¬((mk1 c s a).2=0∧FitsP (mk1 c s a).1 c.2.1.2.1 a):=fun k=>c4 k.2
    rw[if_neg hn1] at hk ⊢;rw[if_neg c4];have:=w1r n hk h0 hij hj;simp only[obs,if_neg z2];simp only[tfd] at this ⊢;exact this
  ·rw[if_neg c3,if_neg (fun k=>c3 (by have:=k.2.n.n1;omega))]
 ·rw[if_neg c2,if_neg (fun k=>c2 k.1)]
noncomputable def v0x (c:Conf) (s:Trs) (was:Slo) (j:Int):Trs×Int :=
 if FoldOk c s then
  (if was=s0 then (s,0)
   else if FitsP was.2 c.2.1.1 was.1 then
    (if was.1=j then (s,0) else if was.1≤j∧g0q c.2.1.1 j then (upw c (tput s.1 was.1 was.2,s.2) was.1 j,0) else (([],([],[])),1))
   else (([],([],[])),2))
 else (([],([],[])),2)
theorem y0s {c:Conf} {s:Trs} (h:FoldOk c s) {i:Int} {x:Cel} (hf:FitsP x c.2.1.1 i):FoldOk c (tput s.1 i x,s.2) :=
 ⟨h.cok,by simpa [tput] using h.n0,h.n1,h.n2,d1s h.t0 hf,h.t1,h.t2⟩
theorem u1q (n:Nat) (c:Conf) {s:Trs} (hw:TrsW s) {was:Slo} (hx:SloW was) (j:Int):u0t (n+21) c s was j=some (v0x c s was j):=by
 rw[g1e,t0e (n+12) c hw];unfold v0x;by_cases h:FoldOk c s
 case neg=>rw[if_neg h,if_neg h];rfl
 have hr:=h.cok.rng;rw[if_pos h,if_pos h];simp only[obs,p0s,decide_true,Bool.not_true,tff,x1d,tfn,tfd,if_true,r0u (n+14) hx.c];by_cases c1:was=s0
 ·rw[if_pos c1,if_pos c1,if_pos c1]
 rw[if_neg c1,if_neg c1,if_neg c1];by_cases c2:FitsP was.2 c.2.1.1 was.1
 case neg=>rw[if_neg c2,if_neg c2]
 rw[if_pos c2,if_pos c2];by_cases c3:was.1=j
 ·rw[if_pos c3,if_pos c3]
 rw[if_neg c3,if_neg c3];by_cases c4:j<was.1
 ·rw[if_pos c4,if_neg (fun q=>by omega)]
 rw[if_neg c4,begins_0 (n+19) c s hr.w0.1 j];simp only[obs,tfn,tfd];by_cases hb:g0q c.2.1.1 j
 ·have hi:=c2.i0;rw[if_pos hb,if_pos ⟨by omega,hb⟩,a2d (n+11) h was.1 hx.c,if_pos c2];simp only[obs,if_true,fold_up n (y0s h c2) hi.1 (show was.1≤j by omega) hb]
 ·rw[if_neg hb,if_neg (fun q=>hb q.2)]
theorem FoldOk.lens {c:Conf} {s:Trs} (h:FoldOk c s):s.1.length≤1000000∧s.2.1.length≤1000000∧s.2.2.length≤1000000:=by
 have:=h.t0.l1;have:=h.t1.l1;have:=h.t2.l1;omega
theorem trs_wf {s:Trs} (h:Wf (.wrap (.pair (.slice a0d) (.pair (.slice a0d) (.slice a0d)))) s):TrsW s:=by
 obtain ⟨h1,h2,h3⟩:=h;exact ⟨m1t h1,m1t h2,m1t h3⟩
abbrev Ser:=List Lab×(Int×(Rw×(Trs×Slo)))
structure SerW (s:Ser):Prop where
 last:I64 s.2.1
 raw:RawW s.2.2.1
 trs:TrsW s.2.2.2.1
 opn:SloW s.2.2.2.2
def b0f (l:List Slo) (i:Int):Prop:=∀s∈l,0<s.2.1→s.1<i
noncomputable instance (l i):Decidable (b0f l i):=Classical.propDecidable _
structure Fresh (s:Ser):Prop where
 raw:s.2.2.1.2.2=[]
 opn:s.2.2.2.2=s0
 b0:b0f s.2.2.2.1.1 0
 b1:b0f s.2.2.2.1.2.1 0
 b2:b0f s.2.2.2.1.2.2 0
structure EndsP (c:Conf) (s:Ser):Prop where
 last:∃e,s.2.2.1.2.2.getLast? = some e∧e.1=s.2.1
 ol:s.2.2.2.2.2.2.2.1.1=s.2.1
 fit:FitsP s.2.2.2.2.2 c.2.1.1 s.2.2.2.2.1
 b0:b0f s.2.2.2.1.1 (s.2.1 / c.2.1.1)
 b1:b0f s.2.2.2.1.2.1 (s.2.1 / c.2.1.2.1)
 b2:b0f s.2.2.2.1.2.2 (s.2.1 / c.2.1.2.2)
structure SerOk (c:Conf) (s:Ser):Prop where
 fold:FoldOk c s.2.2.2.1
 lab:LabOk s.1
 raw:RawOk s.2.2.1 c.1
 st:(s.2.1 = -1∧Fresh s)∨(s.2.1 ≠ -1∧EndsP c s)
noncomputable instance (s):Decidable (Fresh s):=Classical.propDecidable _
noncomputable instance (c s):Decidable (EndsP c s):=Classical.propDecidable _
noncomputable instance (c s):Decidable (SerOk c s):=Classical.propDecidable _
theorem h1g (n:Nat) {del:a0c×Unit→Option Bool} {p:Slo→Bool} (hd:∀x,del (x,())=some (p x)) (l:List Slo) (hL:l.length≤1000000):f0o (n+2) l del=some (l.any p):=by
 rw[m0q,i0m];rcases z1s hd n l hL l [] a0b 0 l.length rfl rfl rfl (by unfold a0b;omega) with ⟨h1,h2⟩ | ⟨A,x,B,h1,h2,h3,h4⟩
 ·rw[h1];have:l.any p=false:=by rw[List.any_eq_false];intro x hx;simp[h2 x hx]
  rw[this];rfl
 ·rw[h4];have:l.any p=true:=List.any_eq_true.2 ⟨x,by rw[h1];simp,h3⟩;simp only[obs,l0j,this,Int.zero_add];rw[decide_eq_true (by omega)]
theorem c0w (n:Nat) (l:List Slo) (i:Int) (hL:l.length≤1000000):d0i (n+3) l i=some (!decide (b0f l i)):=by
 rw[w0h,h1g (p:=fun s=>decide (0<s.2.1∧i≤s.1)) n (fun x=>by
  show j0u (n+1+1) x i=_;rw[s0n]
  by_cases h1:0<x.2.1<;>by_cases h2:i≤x.1<;>simp[h1,h2]) l hL]
 simp only[obs];refine congrArg some ?_;by_cases h:b0f l i
 ·rw[decide_eq_true h];rw[List.any_eq_false.2]
  ·rfl
  ·intro x hx k;have:=of_decide_eq_true k;have:=h x hx this.1;omega
 ·rw[decide_eq_false h];have:∃x∈l,0<x.2.1∧i≤x.1:=Classical.byContradiction fun k=>h fun x hx hc=>by
   rcases Int.lt_or_le x.1 i with q | q
   ·exact q
   ·exact absurd ⟨x,hx,hc,q⟩ k
  obtain ⟨x,hx,hq⟩:=this;rw[List.any_eq_true.2 ⟨x,hx,decide_eq_true hq⟩];rfl
theorem u1f (n:Nat) (c:Conf) {s:Ser} (hf:FoldOk c s.2.2.2.1):x0q (n+4) (c,s)=some (decide (Fresh s)):=by
 obtain ⟨l0,l1,l2⟩:=hf.lens;rw[i1w,x1d,c0w n _ _ l0,c0w n _ _ l1,c0w n _ _ l2];simp only[obs,Bool.not_not,tfd];by_cases h1:(s.2.2.1.2.2.length:Int)=0
 case neg=>rw[if_neg h1,decide_eq_false (fun k:Fresh s=>h1 (by rw[k.raw];rfl))]
 rw[if_pos h1];by_cases h2:s.2.2.2.2=s0
 case neg=>rw[if_neg h2,decide_eq_false (fun k:Fresh s=>h2 k.opn)]
 rw[if_pos h2];by_cases h3:b0f s.2.2.2.1.1 0
 case neg=>rw[if_neg h3,decide_eq_false (fun k:Fresh s=>h3 k.b0)]
 rw[if_pos h3];by_cases h4:b0f s.2.2.2.1.2.1 0
 case neg=>rw[if_neg h4,decide_eq_false (fun k:Fresh s=>h4 k.b1)]
 rw[if_pos h4];refine congrArg some (decide_eq_decide.2 ⟨fun k=>⟨List.length_eq_zero_iff.1 (by omega),h2,h3,h4,k⟩,fun k=>k.b2⟩)
theorem z1d {c:Conf} {s:Ser} (hr:RawOk s.2.2.1 c.1) {e:Ev} (he:s.2.2.1.2.2.getLast? = some e):EvOk e:=hr.f.ok e (List.mem_of_getLast? he)
theorem z1o (n:Nat) (c:Conf) {s:Ser} (hf:FoldOk c s.2.2.2.1) (hr:RawOk s.2.2.1 c.1) (hw:SerW s):w0p (n+7) (c,s)=some (decide (EndsP c s)):=by
 obtain ⟨l0,l1,l2⟩:=hf.lens;have hg:=hf.cok.rng;have hlen:=hr.len;have hm1:=hr.m1;rw[m1q,p1w (n+5) s.2.2.1 (by omega)];cases hl:s.2.2.1.2.2.getLast? with
 | none =>
  simp only[obs];rw[show (decide ((3:Int)=0))=false from rfl,tff,decide_eq_false];intro k;obtain ⟨e,he,_⟩:=k.last;rw[hl] at he;cases he
 | some e =>
  have heo:=z1d hr hl;simp only[obs,decide_true,tft,tfd,if_true];by_cases h1:e.1=s.2.1
  case neg =>
   rw[if_neg h1,decide_eq_false];intro k;obtain ⟨e',he,hq⟩:=k.last;rw[hl] at he;injection he with he;subst he;exact h1 hq
  rw[if_pos h1];by_cases h2:s.2.2.2.2.2.2.2.1.1=s.2.1
  case neg=>rw[if_neg h2,decide_eq_false (fun k:EndsP c s=>h2 k.ol)]
  have q0:=p1y heo hg.w0.1;have q1:=p1y heo hg.w1.1;have q2:=p1y heo hg.w2.1;rw[h1] at q0 q1 q2;rw[if_pos h2,r0u n hw.opn.c];simp only[obs,tfd,q0,q1,q2,c0w (n+3) _ _ l0,c0w (n+3) _ _ l1,c0w (n+3) _ _ l2,Bool.not_not,if_neg (show ¬(c.2.1.1=0) by have:=hg.w0;omega),if_neg (show ¬(c.2.1.2.1=0) by have:=hg.w1;omega),if_neg (show ¬(c.2.1.2.2=0) by have:=hg.w2;omega)];by_cases h3:FitsP s.2.2.2.2.2 c.2.1.1 s.2.2.2.2.1
  case neg=>rw[if_neg h3,decide_eq_false (fun k:EndsP c s=>h3 k.fit)]
  rw[if_pos h3];by_cases h4:b0f s.2.2.2.1.1 (s.2.1 / c.2.1.1)
  case neg=>rw[if_neg h4,decide_eq_false (fun k:EndsP c s=>h4 k.b0)]
  rw[if_pos h4];by_cases h5:b0f s.2.2.2.1.2.1 (s.2.1 / c.2.1.2.1)
  case neg=>rw[if_neg h5,decide_eq_false (fun k:EndsP c s=>h5 k.b1)]
  rw[if_pos h5];refine congrArg some (decide_eq_decide.2 ⟨fun k=>⟨⟨e,hl,h1⟩,h2,h3,h4,h5,k⟩,fun k=>k.b2⟩)
theorem z08 (p:Prop) [Decidable p]:((if p then (0:Int) else 8)=0)↔p:=by by_cases h:p<;>simp[h]
theorem o0d (n:Nat) (c:Conf) {s:Ser} (hw:SerW s):m0t (n+10) c s=some (if SerOk c s then (some (c,s),0) else (none,2)):=by
 rw[z0v,u1r n c hw.trs,n0h (n+3),j1h (n+4) _ _ hw.raw];simp only[obs,tfn,tfd];by_cases h1:FoldOk c s.2.2.2.1
 case neg=>rw[if_neg (mt (z02 _).1 h1),if_neg (fun k:SerOk c s=>h1 k.fold)]
 by_cases h2:LabOk s.1
 case neg=>rw[if_pos ((z02 _).2 h1),if_neg (mt (z08 _).1 h2),if_neg (fun k:SerOk c s=>h2 k.lab)]
 by_cases h3:RawOk s.2.2.1 c.1
 case neg=>rw[if_pos ((z02 _).2 h1),if_pos ((z08 _).2 h2),if_neg (mt (z02 _).1 h3),if_neg (fun k:SerOk c s=>h3 k.raw)]
 rw[if_pos ((z02 _).2 h1),if_pos ((z08 _).2 h2),if_pos ((z02 _).2 h3),u1f (n+5) c h1,z1o (n+2) c h1 h3 hw];simp only[obs,tfd];by_cases h4:s.2.1 = -1
 ·rw[if_pos h4];by_cases h5:Fresh s
  ·rw[if_pos h5,if_pos (⟨h1,h2,h3,.inl ⟨h4,h5⟩⟩:SerOk c s)]
  ·rw[if_neg h5,if_pos h4,if_neg (fun k:SerOk c s=>by
    rcases k.st with q | q
    ·exact h5 q.2
    ·exact q.1 h4)]
 ·rw[if_neg h4,if_neg h4];by_cases h5:EndsP c s
  ·rw[if_pos h5,if_pos (⟨h1,h2,h3,.inr ⟨h4,h5⟩⟩:SerOk c s)]
  ·rw[if_neg h5,if_neg (fun k:SerOk c s=>by
    rcases k.st with q | q
    ·exact h4 q.1
    ·exact h5 q.2)]
theorem v0r {l:List Slo} {w:Int} (h:TierOk l w) (i:Int):b0f l i↔∀s∈tall l,s.1<i:=by
 constructor
 ·intro k s hs;have:=(tall_N h hs).n1;exact k s (p0u.1 hs).1 (by omega)
 ·intro k s hs hc;exact k s (p0u.2 ⟨hs,fun e=>by rw[e] at hc;simp[s0,z0] at hc⟩)
theorem y0k {l:List Slo} {w:Int} (h:TierOk l w):b0f l 0↔tall l=[]:=by
 rw[v0r h];constructor
 ·intro k;by_cases e:tall l=[]
  ·exact e
  ·obtain ⟨s,hs⟩:=List.exists_mem_of_ne_nil _ e;have:=(l0d h hs).1.i0;have:=k s hs;omega
 ·intro e s hs;rw[e] at hs;cases hs
theorem nn {α:Type} {a b:α} (h:a=b):¬(a≠b):=fun k=>k h
def ser0:Ser:=([],(0,(r0w,(([],([],[])),s0))))
def p1j (s:Ser) (i:Int):Prop:=s.2.2.2.2≠s0∧s.2.2.2.2.1≠i
noncomputable instance (s i):Decidable (p1j s i):=Classical.propDecidable _
noncomputable def turned (c:Conf) (s:Ser) (i:Int):(Trs×Slo)×Int :=
 if p1j s i then (if (v0x c s.2.2.2.1 s.2.2.2.2 i).2=0 then (((v0x c s.2.2.2.1 s.2.2.2.2 i).1,s0),0) else ((s.2.2.2.1,s.2.2.2.2),(v0x c s.2.2.2.1 s.2.2.2.2 i).2)) else ((s.2.2.2.1,s.2.2.2.2),0)
noncomputable def putE (c:Conf) (s:Ser) (e:Ev):Ser×Int :=
 if SerOk c s∧EvOk e then
  (if e.1≤s.2.1 then (ser0,9)
   else if (turned c s (e.1 / c.2.1.1)).2≠0 then (ser0,(turned c s (e.1 / c.2.1.1)).2)
   else if (o0g s.2.2.1 c.1 e).2≠0 then (ser0,(o0g s.2.2.1 c.1 e).2)
   else if (mrgE (turned c s (e.1 / c.2.1.1)).1.2.2 (d0k e)).2≠0 then (ser0,(mrgE (turned c s (e.1 / c.2.1.1)).1.2.2 (d0k e)).2)
   else ((s.1,(e.1,((o0g s.2.2.1 c.1 e).1,((turned c s (e.1 / c.2.1.1)).1.1,(e.1 / c.2.1.1,(mrgE (turned c s (e.1 / c.2.1.1)).1.2.2 (d0k e)).1))))),0))
 else (ser0,2)
theorem j1v {c:Conf} {s:Ser} (h:SerOk c s):s.2.2.2.2.2.1=0↔s.2.2.2.2=s0:=by
 constructor
 ·intro k;rcases h.st with q | q
  ·exact q.2.opn
  ·have:=q.2.fit.n.n1;omega
 ·intro k;rw[k];rfl
theorem turned_w {c:Conf} {s:Ser} (hw:SerW s) (i:Int):SloW (turned c s i).1.2:=by
 unfold turned;split
 ·split
  ·exact e1j
  ·exact hw.opn
 ·exact hw.opn
theorem z1m (n:Nat) (c:Conf) {s:Ser} (h:SerOk c s) (hw:SerW s) (i:Int):e1h (n+22) (c,s) i=some ((turned c s i).2,(c,(s.1,(s.2.1,(s.2.2.1,(turned c s i).1))))):=by
 rw[m1p];simp only[tfd,u1q n c hw.trs hw.opn i,obs];unfold turned;by_cases h1:s.2.2.2.2.1=i
 ·rw[if_pos h1,if_neg (fun k:p1j s i=>k.2 h1)]
 rw[if_neg h1];by_cases h2:s.2.2.2.2.2.1=0
 ·rw[if_pos h2,if_neg (fun k:p1j s i=>k.1 ((j1v h).1 h2))]
 have ht:p1j s i:=⟨fun k=>h2 ((j1v h).2 k),h1⟩;rw[if_neg h2,if_pos ht];by_cases h3:(v0x c s.2.2.2.1 s.2.2.2.2 i).2=0
 ·rw[if_pos h3,if_pos h3,h3];rfl
 ·rw[if_neg h3,if_neg h3]
theorem s1r (n:Nat) (c:Conf) {s:Ser} (hw:SerW s) {e:Ev} (he:EvW e):u0e (n+23) c s e=some (putE c s e):=by
 rw[e1m,o0d (n+12) c hw,e0u _ he];unfold putE;by_cases h1:SerOk c s
 case neg=>rw[if_neg h1,if_neg (fun k:SerOk c s∧EvOk e=>h1 k.1)];rfl
 rw[if_pos h1];have hg:=h1.fold.cok.rng;simp only[obs,p0s,decide_true,Bool.not_true,tff,tfn,tfd];by_cases h2:EvOk e
 case neg=>rw[if_neg (mt (z02 _).1 h2),if_neg (fun k:SerOk c s∧EvOk e=>h2 k.2)];rfl
 rw[if_pos ((z02 _).2 h2),if_pos (And.intro h1 h2)];by_cases h3:e.1≤s.2.1
 ·rw[if_pos h3,if_pos h3];rfl
 rw[if_neg h3,if_neg h3,if_neg (show ¬(c.2.1.1=0) by have:=hg.w0;omega),p1y h2 hg.w0.1,z1m n c h1 hw];generalize ht:turned c s (e.1 / c.2.1.1)=t;have htw:=turned_w (c:=c) hw (e.1 / c.2.1.1);rw[ht] at htw;simp only[obs];by_cases h4:t.2=0
 case neg=>rw[if_neg h4,if_pos h4];rfl
 rw[if_pos h4,if_neg (nn h4),s1e,raw_put (n+15) c.1 hw.raw he,cell_add (n+14) htw.c he,if_pos h2];simp only[obs,tfn,tfd];by_cases h5:(o0g s.2.2.1 c.1 e).2=0
 case neg =>
  rw[if_neg h5,if_pos h5];simp only[obs];rw[if_neg h5];rfl
 rw[if_pos h5,if_neg (nn h5)];simp only[obs];by_cases h6:(mrgE t.1.2.2 (d0k e)).2=0
 ·rw[if_pos h6,if_neg (nn h6)];simp only[if_true]
 ·rw[if_neg h6,if_pos h6];rfl
end Go.Proofs.YtfibfcjepngbmaaGreatDoor

namespace Go.Plim
set_option linter.unusedVariables false
def below (w:Int) (l:List Ev) (t:Int):List Ev:=l.filter fun e=>decide (e.1 / w<t / w)
structure EndsAt (l:List Ev) (t:Int):Prop where
 foll:Foll l
 le:∀e∈l,e.1≤t
 last:∃e∈l,e.1=t
theorem EndsAt.wle {l:List Ev} {t:Int} (h:EndsAt l t) {w:Int} (hw:1≤w):∀e∈l,e.1 / w≤t / w:=fun e he=>Int.ediv_le_ediv (by omega) (h.le e he)
theorem v1e {l:List Ev} {t:Int} (h:EndsAt l t) {w:Int} (hw:1≤w):l=below w l t++win w l (t / w):=by
 have key:∀(m:List Ev),(∀e∈m,e.1 / w≤t / w)→m.Pairwise (fun a b=>a.1 / w≤b.1 / w)→m=below w m t++win w m (t / w):=by
  intro m;induction m with
  | nil=>intro _ _;rfl
  | cons x m ih =>
   intro h1 h2;rw[List.pairwise_cons] at h2;have ih':=ih (fun e he=>h1 e (by simp[he])) h2.2;have hx:=h1 x (by simp);unfold below win at *
   by_cases c:x.1 / w<t / w
   ·rw[List.filter_cons_of_pos (by simpa using c),List.filter_cons_of_neg (by simp;omega),List.cons_append,←ih']
   ·have e0:m.filter (fun e=>decide (e.1 / w<t / w))=[]:=by
     rw[List.filter_eq_nil_iff];intro y hy;have:=h2.1 y hy;simp;omega
    rw[List.filter_cons_of_neg (by simpa using c),List.filter_cons_of_pos (by simp;omega),e0,List.nil_append];rw[e0,List.nil_append] at ih';rw[←ih']
 exact key l (h.wle hw) (foll_wd hw h.foll)
theorem w1f (t:List Slo) (i:Int) (a b:Cel):tput (tput t i a) i b=tput t i b:=by
 unfold tput;rw[List.length_set,List.set_set]
theorem d1z {t:List Slo} {w a:Int} {l:List Ev} (h:TierInv t w l):∀(n:Nat) (B:List Ev),B.length=n+1→Foll (l++B)→(∀e∈B,e.1 / w=a) →
  FitsP (cellOf (win w (l++B) a)) w a∧TierInv (tput t a (cellOf (win w (l++B) a))) w (l++B):=by
 intro n;induction n with
 | zero =>
  intro B hB hf ha
  match B,hB with
  | [e],_ =>
   have he:=ha e (by simp);have:=x0k h hf;rw[he] at this;rw[win_snoc,if_pos he];exact this
 | succ n ih =>
  intro B hB hf ha;rcases List.eq_nil_or_concat B with rfl | ⟨B',e,rfl⟩
  ·cases hB
  rw[List.concat_eq_append] at *
  have he:=ha e (by simp);have hf':Foll (l++B'++[e]):=by rw[List.append_assoc];exact hf
  obtain ⟨h1,h2⟩:=ih B' (by simp at hB;exact hB) (d0b.1 hf').1 (fun x hx=>ha x (by simp[hx]));have:=x0k h2 hf';rw[he,w1f,List.append_assoc] at this;rw[←List.append_assoc,win_snoc,if_pos he];rw[List.append_assoc];exact this
theorem d1y {s:List Slo} {w:Int} {l:List Ev} {t:Int} (he:EndsAt l t) (h:TierInv s w (below w l t)):FitsP (cellOf (win w l (t / w))) w (t / w)∧TierInv (tput s (t / w) (cellOf (win w l (t / w)))) w l:=by
 have hw:=h.ok.w0;have hs:=v1e he hw;obtain ⟨e,hel,het⟩:=he.last;have hne:win w l (t / w)≠[]:=fun k=>by
  have:e∈win w l (t / w):=u0n.2 ⟨hel,by rw[het]⟩;rw[k] at this;cases this
 have hlen:(win w l (t / w)).length=((win w l (t / w)).length-1)+1:=by have:=List.length_pos_iff.2 hne;omega
 have:=d1z h _ (win w l (t / w)) hlen (by rw[←hs];exact he.foll) (fun x hx=>(u0n.1 hx).2);rw[←hs] at this;exact this
theorem edvm {t a b:Int} (ha:1≤a) (hb:1≤b) (hm:b % a=0):t / a*a / b=t / b∧t / a / (b / a)=t / b:=by
 have e:a*(b / a)=b:=by have:=Int.mul_ediv_add_emod b a;omega
 have h1:t / a / (b / a)=t / b:=by rw[Int.ediv_ediv_of_nonneg (by omega),e]
 refine ⟨?_,h1⟩;rw[←h1]
 conv=>lhs;rw[←e,Int.mul_comm (t / a) a]
 exact Int.mul_ediv_mul_of_pos _ _ (by omega)
end Go.Plim
namespace Go.Proofs.YtfibfcjepngbmaaGreatDoor
open Go.Flat Go.Plim
structure FInv (c:Conf) (s:Trs) (l:List Ev) (t:Int):Prop where
 ok:FoldOk c s
 i0:TierInv s.1 c.2.1.1 (below c.2.1.1 l t)
 i1:TierInv s.2.1 c.2.1.2.1 (below c.2.1.2.1 l t)
 i2:TierInv s.2.2 c.2.1.2.2 (below c.2.1.2.2 l t)
theorem OkC.m02 {c:Conf} (h:OkC c):c.2.1.2.2 % c.2.1.1=0:=by
 have h1:=Int.dvd_of_emod_eq_zero h.m1;have h2:=Int.dvd_of_emod_eq_zero h.m2;exact Int.emod_eq_zero_of_dvd (Int.dvd_trans h1 h2)
end Go.Proofs.YtfibfcjepngbmaaGreatDoor
namespace Go.Proofs.YtfibfcjepngbmaaGreatDoor
open Go.Flat Go.Plim
set_option linter.unusedVariables false
set_option linter.unusedSimpArgs false
theorem s1t {c:Conf} {s:Ser} (h:SerOk c s) (hn:¬(s.2.1 = -1)):EndsP c s∧∃e,EvOk e∧e.1=s.2.1:=by
 rcases h.st with q | q
 ·exact absurd q.1 hn
 ·obtain ⟨e,he,h1⟩:=q.2.last;exact ⟨q.2,e,z1d h.raw he,h1⟩
structure At (c:Conf) (s:Ser):Prop where
 l0:0≤s.2.1
 l1:s.2.1<35184372088832
theorem serOk_at {c:Conf} {s:Ser} (h:SerOk c s) (hn:¬(s.2.1 = -1)):0≤s.2.1∧s.2.1<35184372088832:=by
 obtain ⟨_,e,he,h1⟩:=s1t h hn;rw[←h1];exact ⟨he.t0,he.t1⟩
theorem s1f (n f:Nat) (s:Trs):d0j n (f+1) (s,(3:Int),())=some (.inl ()):=by
 rw[g0k,show (decide ((3:Int)<3))=false from rfl,tff]
theorem s1g (n f:Nat) (s:Trs):d0j n (f+2) (s,(2:Int),())=some (if (40:Int)<s.2.2.length then .inr 0 else .inl ()):=by
 rw[g0k,show (decide ((2:Int)<3))=true from rfl,tft,show (decide ((2:Int)=0))=false from rfl,tff,show (decide ((2:Int)=1))=false from rfl,tff,show (decide ((2:Int)=2))=true from rfl,tft];rw[show IntKind.wrap .i64 ((2:Int)+1)=3 from rfl,s1f];simp only[tfd];split<;>rfl
theorem s1h (n f:Nat) (s:Trs):d0j n (f+3) (s,(1:Int),())=some (if (40:Int)<s.2.1.length∨(40:Int)<s.2.2.length then .inr 0 else .inl ()):=by
 rw[g0k,show (decide ((1:Int)<3))=true from rfl,tft,show (decide ((1:Int)=0))=false from rfl,tff,show (decide ((1:Int)=1))=true from rfl,tft];rw[show IntKind.wrap .i64 ((1:Int)+1)=2 from rfl,s1g];simp only[tfd];by_cases h:(40:Int)<s.2.1.length
 ·rw[if_pos h,if_pos (.inl h)]
 ·rw[if_neg h];by_cases h':(40:Int)<s.2.2.length
  ·rw[if_pos h',if_pos (.inr h')]
  ·rw[if_neg h',if_neg (fun k=>k.elim h h')]
theorem s1i (n f:Nat) (s:Trs):d0j n (f+4) (s,(0:Int),())=some (if (40:Int)<s.1.length∨(40:Int)<s.2.1.length∨(40:Int)<s.2.2.length then .inr 0 else .inl ()):=by
 rw[g0k,show (decide ((0:Int)<3))=true from rfl,tft,show (decide ((0:Int)=0))=true from rfl,tft];rw[show IntKind.wrap .i64 ((0:Int)+1)=1 from rfl,s1h];simp only[tfd];by_cases h:(40:Int)<s.1.length
 ·rw[if_pos h,if_pos (.inl h)]
 ·rw[if_neg h];by_cases h':(40:Int)<s.2.1.length∨(40:Int)<s.2.2.length
  ·rw[if_pos h',if_pos (.inr h')]
  ·rw[if_neg h',if_neg (fun k=>k.elim h h')]
def v0f (s:Trs):Prop:=s.1.length≤40∧s.2.1.length≤40∧s.2.2.length≤40
instance (s:Trs):Decidable (v0f s):=by unfold v0f;infer_instance
theorem z1g (n:Nat) (s:Trs):y0p (n+1) s=some (if v0f s then 1 else 0):=by
 rw[k1i,show a0b=(2^70-4)+4 from by decide,s1i];by_cases h:v0f s
 ·rw[if_pos h,if_neg (by unfold v0f at h;omega)];rfl
 ·rw[if_neg h,if_pos (by unfold v0f at h;omega)];rfl
theorem r05_same_l (n:Nat) (l:List Lab) (hL:l.length≤1000000):∀(rest pre:List Lab) (f:Nat) (ix len:Int),l=pre++rest→ix=pre.length→len=l.length→rest.length<f→j0x n f (l,l,len,ix,())=some (.inl ()):=by
 intro rest;induction rest with
 | nil =>
  intro pre f ix len hl hi hn hf;obtain ⟨f,rfl⟩:∃g,f=g+1:=⟨f-1,by simp at hf;omega⟩;rw[h0m];simp only[tfd,if_neg (idxe hl hi hn)]
 | cons x rest ih =>
  intro pre f ix len hl hi hn hf;obtain ⟨f,rfl⟩:∃g,f=g+1:=⟨f-1,by simp at hf;omega⟩;rw[h0m];simp only[tfd,if_pos (idx hl hi hn),b0u hl hi,obs,labEq,decide_true,Bool.not_true,tff,idxw hl hi (by omega)];exact ih (pre++[x]) f (ix+1) len (idxl hl) (idxs hi) hn (by simp at hf;omega)
structure SerL (s:Ser):Prop where
 l:s.1.length≤1000000
 r:s.2.2.1.2.2.length≤1000000
 a:s.2.2.2.1.1.length≤1000000
 b:s.2.2.2.1.2.1.length≤1000000
 d:s.2.2.2.1.2.2.length≤1000000
theorem i1z (n:Nat) (c:Conf) {s:Ser} (hw:SerW s):o0e (n+11) c s=some (if SerOk c s then 0 else 2):=by
 rw[x0x,o0d n c hw];by_cases h:SerOk c s
 ·rw[if_pos h,if_pos h];rfl
 ·rw[if_neg h,if_neg h];rfl
theorem x1b (n:Nat) (l:List Lab) (hL:l.length≤9223372036854775807):∀(rest pre:List Lab) (f:Nat) (ix len:Int),l=pre++rest→ix=pre.length→len=l.length→rest.length<f →
  e0s n f (l,len,ix,())=some (.inl ())∨e0s n f (l,len,ix,())=some (.inr 0):=by
 intro rest;induction rest with
 | nil =>
  intro pre f ix len hl hi hn hf;obtain ⟨f,rfl⟩:∃g,f=g+1:=⟨f-1,by simp at hf;omega⟩;left;rw[g0l];simp only[tfd,if_neg (idxe hl hi hn)]
 | cons x rest ih =>
  intro pre f ix len hl hi hn hf;obtain ⟨f,rfl⟩:∃g,f=g+1:=⟨f-1,by simp at hf;omega⟩;have hlen:=congrArg List.length hl;simp at hlen;rw[g0l];simp only[tfd,if_pos (idx hl hi hn),b0u hl hi,obs];rw[w64 (x:=ix+1) (by omega) (by omega)];by_cases h1:ix=40
  ·right;rw[if_pos h1]
  rw[if_neg h1];by_cases h2:(1000:Int)<x.1.length
  ·right;rw[if_pos h2]
  rw[if_neg h2];by_cases h3:(1000:Int)<x.2.length
  ·right;rw[if_pos h3]
  rw[if_neg h3];exact ih (pre++[x]) f (ix+1) len (idxl hl) (idxs hi) hn (by simp at hf;omega)
theorem z1i (n:Nat) (l:List Lab) (hL:l.length≤9223372036854775807):j0z (n+1) l=some 0∨j0z (n+1) l=some 1:=by
 rw[v0s];rcases x1b n l hL l [] a0b 0 _ rfl rfl rfl (by unfold a0b;omega) with h | h
 ·right;rw[h];rfl
 ·left;rw[h];rfl
theorem z1f (n:Nat) (s:Ser) (hL:s.1.length≤9223372036854775807):t0a (n+2) s=some 0∨t0a (n+2) s=some 1:=by
 rw[k1h];rcases z1i n s.1 hL with h | h
 ·left;rw[h];rfl
 ·rw[h];simp only[obs,tfd,if_neg (show ¬((1:Int)=0) by omega)];by_cases h1:(60:Int)<s.2.2.1.2.2.length
  ·left;rw[if_pos h1]
  rw[if_neg h1,z1g];simp only[obs];split
  ·right;rfl
  ·left;rfl
theorem ser_wf {s:Ser} (h:Wf a0u s):SerW s:=by
 obtain ⟨h1,h2,h3,h4,h5⟩:=h;refine ⟨h2,?_,trs_wf h4,slo_wf h5⟩;intro e he;exact ev_wf (h3.2.2.2 e he)
theorem r0i (n:Nat) (a b:List Lab) (hL:a.length≤9223372036854775807):∀(ra rb pa pb:List Lab) (f:Nat) (ix len:Int),a=pa++ra→b=pb++rb→pa.length=pb.length→ra.length=rb.length→ix=pa.length→len=a.length→ra.length<f →
  f0e n f (a,b,len,ix,())=some (if ra=rb then .inl () else .inr false):=by
 intro ra;induction ra with
 | nil =>
  intro rb pa pb f ix len ha hb hp hr hi hn hf;obtain ⟨f,rfl⟩:∃g,f=g+1:=⟨f-1,by simp at hf;omega⟩;have e:rb=[]:=List.length_eq_zero_iff.1 (by simpa using hr.symm);subst e;rw[i0n,decide_eq_false (idxe ha hi hn),tff,if_pos rfl]
 | cons x ra ih =>
  intro rb pa pb f ix len ha hb hp hr hi hn hf;obtain ⟨f,rfl⟩:∃g,f=g+1:=⟨f-1,by simp at hf;omega⟩;cases rb with
  | nil=>simp at hr
  | cons y rb =>
   have hlen:=congrArg List.length ha;simp at hlen;rw[i0n,decide_eq_true (idx ha hi hn),tft,b0u ha hi,b0u hb (by omega)];simp only[obs,labEq];rw[w64 (x:=ix+1) (by omega) (by omega)];by_cases h:x=y
   ·subst h;simp only[decide_true,Bool.not_true,tff];rw[ih rb (pa++[x]) (pb++[x]) f (ix+1) len (idxl ha) (idxl hb) (by simp;omega) (by simpa using hr) (idxs hi) hn (by simp at hf;omega)];simp
   ·rw[if_neg (by simp[h])];simp only[decide_eq_false h,Bool.not_false,tft]
theorem l0v (n:Nat) (a b:List Lab) (hL:a.length≤9223372036854775807):k0v (n+1) a b=some (decide (a=b)):=by
 rw[u0a];by_cases h:a.length=b.length
 ·rw[decide_eq_true (show ((a.length:Nat):Int)=(b.length:Nat) by omega)];simp only[Bool.not_true,tff];rw[r0i n a b hL a b [] [] a0b 0 _ rfl rfl rfl h rfl rfl (by unfold a0b;omega)];by_cases h':a=b
  ·rw[if_pos h',decide_eq_true h'];rfl
  ·rw[if_neg h',decide_eq_false h'];rfl
 ·rw[decide_eq_false (show ¬((a.length:Nat):Int)=(b.length:Nat) by omega),decide_eq_false (fun k:a=b=>h (by rw[k]))];rfl
theorem r0j (n:Nat) (a b:List Ev) (hL:a.length≤9223372036854775807):∀(ra rb pa pb:List Ev) (f:Nat) (ix len:Int),a=pa++ra→b=pb++rb→pa.length=pb.length→ra.length=rb.length→ix=pa.length→len=a.length→ra.length<f →
  f0f n f (a,b,len,ix,())=some (if ra=rb then .inl () else .inr false):=by
 intro ra;induction ra with
 | nil =>
  intro rb pa pb f ix len ha hb hp hr hi hn hf;obtain ⟨f,rfl⟩:∃g,f=g+1:=⟨f-1,by simp at hf;omega⟩;have e:rb=[]:=List.length_eq_zero_iff.1 (by simpa using hr.symm);subst e;rw[i0o,decide_eq_false (idxe ha hi hn),tff,if_pos rfl]
 | cons x ra ih =>
  intro rb pa pb f ix len ha hb hp hr hi hn hf;obtain ⟨f,rfl⟩:∃g,f=g+1:=⟨f-1,by simp at hf;omega⟩;cases rb with
  | nil=>simp at hr
  | cons y rb =>
   have hlen:=congrArg List.length ha;simp at hlen;rw[i0o,decide_eq_true (idx ha hi hn),tft,b0u ha hi,b0u hb (by omega)];simp only[obs,evEq];rw[w64 (x:=ix+1) (by omega) (by omega)];by_cases h:x=y
   ·subst h;simp only[decide_true,Bool.not_true,tff];rw[ih rb (pa++[x]) (pb++[x]) f (ix+1) len (idxl ha) (idxl hb) (by simp;omega) (by simpa using hr) (idxs hi) hn (by simp at hf;omega)];simp
   ·rw[if_neg (by simp[h])];simp only[decide_eq_false h,Bool.not_false,tft]
theorem u0v (n:Nat) (a b:List Ev) (hL:a.length≤9223372036854775807):k0w (n+1) a b=some (decide (a=b)):=by
 rw[u0b];by_cases h:a.length=b.length
 ·rw[decide_eq_true (show ((a.length:Nat):Int)=(b.length:Nat) by omega)];simp only[Bool.not_true,tff];rw[r0j n a b hL a b [] [] a0b 0 _ rfl rfl rfl h rfl rfl (by unfold a0b;omega)];by_cases h':a=b
  ·rw[if_pos h',decide_eq_true h'];rfl
  ·rw[if_neg h',decide_eq_false h'];rfl
 ·rw[decide_eq_false (show ¬((a.length:Nat):Int)=(b.length:Nat) by omega),decide_eq_false (fun k:a=b=>h (by rw[k]))];rfl
theorem t0h (n:Nat) (a b:List Slo) (hL:a.length≤9223372036854775807):∀(ra rb pa pb:List Slo) (f:Nat) (ix len:Int),a=pa++ra→b=pb++rb→pa.length=pb.length→ra.length=rb.length→ix=pa.length→len=a.length→ra.length<f →
  f0u n f (a,b,len,ix,())=some (if ra=rb then .inl () else .inr false):=by
 intro ra;induction ra with
 | nil =>
  intro rb pa pb f ix len ha hb hp hr hi hn hf;obtain ⟨f,rfl⟩:∃g,f=g+1:=⟨f-1,by simp at hf;omega⟩;have e:rb=[]:=List.length_eq_zero_iff.1 (by simpa using hr.symm);subst e;rw[j0r,decide_eq_false (idxe ha hi hn),tff,if_pos rfl]
 | cons x ra ih =>
  intro rb pa pb f ix len ha hb hp hr hi hn hf;obtain ⟨f,rfl⟩:∃g,f=g+1:=⟨f-1,by simp at hf;omega⟩;cases rb with
  | nil=>simp at hr
  | cons y rb =>
   have hlen:=congrArg List.length ha;simp at hlen;rw[j0r,decide_eq_true (idx ha hi hn),tft,b0u ha hi,b0u hb (by omega)];simp only[obs,sloEq];rw[w64 (x:=ix+1) (by omega) (by omega)];by_cases h:x=y
   ·subst h;simp only[decide_true,Bool.not_true,tff];rw[ih rb (pa++[x]) (pb++[x]) f (ix+1) len (idxl ha) (idxl hb) (by simp;omega) (by simpa using hr) (idxs hi) hn (by simp at hf;omega)];simp
   ·rw[if_neg (by simp[h])];simp only[decide_eq_false h,Bool.not_false,tft]
theorem i0i (n:Nat) (a b:List Slo) (hL:a.length≤9223372036854775807):g0f (n+1) a b=some (decide (a=b)):=by
 rw[w0e];by_cases h:a.length=b.length
 ·rw[decide_eq_true (show ((a.length:Nat):Int)=(b.length:Nat) by omega)];simp only[Bool.not_true,tff];rw[t0h n a b hL a b [] [] a0b 0 _ rfl rfl rfl h rfl rfl (by unfold a0b;omega)];by_cases h':a=b
  ·rw[if_pos h',decide_eq_true h'];rfl
  ·rw[if_neg h',decide_eq_false h'];rfl
 ·rw[decide_eq_false (show ¬((a.length:Nat):Int)=(b.length:Nat) by omega),decide_eq_false (fun k:a=b=>h (by rw[k]))];rfl
theorem g1u (n:Nat) (a b:List Lab) (hL:a.length≤9223372036854775807):∀(ra rb pa pb:List Lab) (f:Nat) (ix len:Int),a=pa++ra→b=pb++rb→pa.length=pb.length→ra.length=rb.length→ix=pa.length→len=a.length→ra.length<f →
  j0x n f (a,b,len,ix,())=some (if ra=rb then .inl () else .inr false):=by
 intro ra;induction ra with
 | nil =>
  intro rb pa pb f ix len ha hb hp hr hi hn hf;obtain ⟨f,rfl⟩:∃g,f=g+1:=⟨f-1,by simp at hf;omega⟩;have e:rb=[]:=List.length_eq_zero_iff.1 (by simpa using hr.symm);subst e;rw[h0m,decide_eq_false (idxe ha hi hn),tff,if_pos rfl]
 | cons x ra ih =>
  intro rb pa pb f ix len ha hb hp hr hi hn hf;obtain ⟨f,rfl⟩:∃g,f=g+1:=⟨f-1,by simp at hf;omega⟩;cases rb with
  | nil=>simp at hr
  | cons y rb =>
   have hlen:=congrArg List.length ha;simp at hlen;rw[h0m,decide_eq_true (idx ha hi hn),tft,b0u ha hi,b0u hb (by omega)];simp only[obs,labEq];rw[w64 (x:=ix+1) (by omega) (by omega)];by_cases h:x=y
   ·subst h;simp only[decide_true,Bool.not_true,tff];rw[ih rb (pa++[x]) (pb++[x]) f (ix+1) len (idxl ha) (idxl hb) (by simp;omega) (by simpa using hr) (idxs hi) hn (by simp at hf;omega)];simp
   ·rw[if_neg (by simp[h])];simp only[decide_eq_false h,Bool.not_false,tft]
theorem o1s (n:Nat) (a b:List Lab) (hL:a.length≤9223372036854775807):e1x (n+1) a b=some (decide (a=b)):=by
 rw[n1o];by_cases h:a.length=b.length
 ·rw[decide_eq_true (show ((a.length:Nat):Int)=(b.length:Nat) by omega)];simp only[Bool.not_true,tff];rw[g1u n a b hL a b [] [] a0b 0 _ rfl rfl rfl h rfl rfl (by unfold a0b;omega)];by_cases h':a=b
  ·rw[if_pos h',decide_eq_true h'];rfl
  ·rw[if_neg h',decide_eq_false h'];rfl
 ·rw[decide_eq_false (show ¬((a.length:Nat):Int)=(b.length:Nat) by omega),decide_eq_false (fun k:a=b=>h (by rw[k]))];rfl
noncomputable instance decSer (a b:Ser):Decidable (a=b):=Classical.propDecidable _
structure SerM (s:Ser):Prop where
 l:s.1.length≤9223372036854775807
 r:s.2.2.1.2.2.length≤9223372036854775807
 a:s.2.2.2.1.1.length≤9223372036854775807
 b:s.2.2.2.1.2.1.length≤9223372036854775807
 d:s.2.2.2.1.2.2.length≤9223372036854775807
theorem x0w (n:Nat) (a b:Ser) (h:SerM a):e0r (n+3) a b=some (decide (a=b)):=by
 rw[z0w,s0x,n1h,l0v n _ _ h.l,u0v n _ _ h.r,i0i (n+1) _ _ h.a,i0i (n+1) _ _ h.b,i0i (n+1) _ _ h.d];obtain ⟨a1,a2,⟨r1,r2,r3⟩,⟨t1,t2,t3⟩,a5⟩:=a;obtain ⟨b1,b2,⟨q1,q2,q3⟩,⟨u1,u2,u3⟩,b5⟩:=b;simp only[obs,sloEq,tfd];by_cases h1:a1=b1
 case neg=>simp[h1]
 by_cases h2:a2=b2
 case neg=>simp[h1,h2]
 by_cases h3:r1=q1
 case neg=>simp[h1,h2,h3]
 by_cases h4:r2=q2
 case neg=>simp[h1,h2,h3,h4]
 by_cases h5:r3=q3
 case neg=>simp[h1,h2,h3,h4,h5]
 by_cases h6:t1=u1
 case neg=>simp[h1,h2,h3,h4,h5,h6]
 by_cases h7:t2=u2
 case neg=>simp[h1,h2,h3,h4,h5,h6,h7]
 by_cases h8:t3=u3
 case neg=>simp[h1,h2,h3,h4,h5,h6,h7,h8]
 by_cases h9:a5=b5
 case neg=>simp[h1,h2,h3,h4,h5,h6,h7,h8,h9]
 simp[h1,h2,h3,h4,h5,h6,h7,h8,h9]
def oldV (now w m:Int):Int×Int:=if OfP now w∧1≤m∧m≤4096 then (if 0<now / w+1-m then now / w+1-m else 0,0) else (0,1)
theorem w1a (n:Nat) (now w m:Int):x0g (n+4) now w m=some (oldV now w m):=by
 rw[i1j,wi_of n now w,i1h];unfold oldV;by_cases h:OfP now w
 case neg=>rw[if_neg h,if_neg (fun k=>h k.1)];rfl
 rw[if_pos h];have hq:=j1j h;simp only[obs,decide_true,Bool.not_true,tff];by_cases h1:1≤m
 case neg=>simp[h,h1]
 by_cases h2:m≤4096
 case neg=>simp[h,h1,h2]
 rw[w64 (x:=now / w+1) (by omega) (by omega),w64 (x:=now / w+1-m) (by omega) (by omega)];simp[h,h1,h2]
noncomputable def a1y (t now w m:Int):Bool:=decide (OfP t w∧(oldV now w m).2=0∧t / w<(oldV now w m).1)
theorem l1y (n:Nat) (t now w m:Int):x0h (n+5) t now w m=some (a1y t now w m):=by
 rw[r1w,wi_of (n+1) t w,w1a n now w m];unfold a1y;simp only[obs,tfd];by_cases h:OfP t w
 case neg=>rw[if_neg h,if_neg (by simp),decide_eq_false (fun k=>h k.1)]
 rw[if_pos h,if_pos rfl];by_cases h1:(oldV now w m).2=0
 ·rw[if_pos h1];exact congrArg some (decide_eq_decide.2 ⟨fun k=>⟨h,h1,k⟩,fun k=>k.2.2⟩)
 ·rw[if_neg h1,decide_eq_false (fun k=>h1 k.2.1)]
noncomputable def b2d (c:Conf) (last now:Int):Bool :=
 decide (OkC c)&&(a1y last now c.2.1.1 c.2.2.1.1&&(a1y last now c.2.1.2.1 c.2.2.1.2.1&&a1y last now c.2.1.2.2 c.2.2.1.2.2))
theorem m1w (n:Nat) (c:Conf) (last now:Int):r0b (n+6) c last now=some (b2d c last now):=by
 rw[z0x,l0x (n+2) c,l1y n,l1y n,l1y n];unfold b2d;by_cases h:OkC c
 case neg=>rw[if_neg h,decide_eq_false h];rfl
 rw[if_pos h,decide_eq_true h];simp only[obs,decide_true,tft,Bool.true_and];cases a1y last now c.2.1.1 c.2.2.1.1<;>cases a1y last now c.2.1.2.1 c.2.2.1.2.1<;>cases a1y last now c.2.1.2.2 c.2.2.1.2.2<;>rfl
noncomputable def newV (c:Conf) (l:List Lab):Ser×Int :=
 if OkC c then (if LabOk l then ((l,(-1,(r0w,(emp c,s0)))),0) else (ser0,8)) else (ser0,2)
theorem o1x (n:Nat) (l:List Lab) (h:l.length≤1000000):k0x (n+1) l=some l:=by
 rw[u0c,decide_eq_true (show (0+l.length)*32≤140737488355328 by omega)];simp only[tft,List.nil_append];by_cases h0:l.length=0
 ·rw[decide_eq_true h0,tft,List.length_eq_zero_iff.1 h0,l1l]
 ·rw[decide_eq_false h0,tff]
theorem s1s (n:Nat) (c:Conf) (l:List Lab):p0o (n+7) c l=some (newV c l):=by
 rw[e1n,l0x (n+3) c,n0h n l];unfold newV;by_cases h:OkC c
 case neg=>rw[if_neg h,if_neg h];rfl
 rw[if_pos h,if_pos h];simp only[obs,decide_true,Bool.not_true,tff];by_cases h1:LabOk l
 case neg=>rw[if_neg h1,if_neg h1];rfl
 rw[if_pos h1,if_pos h1,o1x (n+5) l (by have:=h1.n1;omega),u1p (n+2) c];rfl
abbrev Sta:=Conf×(Int×(Int×List Ser))
structure StaW (s:Sta):Prop where
 len:s.2.2.2.length≤9223372036854775807
 ser:∀x∈s.2.2.2,SerW x∧SerM x
def Whole (s:Sta):Prop:=OkC s.1∧(s.2.2.2.length:Int)=s.1.2.2.2.1
noncomputable instance (s):Decidable (Whole s):=Classical.propDecidable _
def LvX (s:Sta) (x:Ser):Prop:=x≠ser0∧(s.2.2.1 = -1∨b2d s.1 x.2.1 s.2.2.1=false)
noncomputable instance (s x):Decidable (LvX s x):=Classical.propDecidable _
def v0e (t:Int):Prop:=0≤t∧t<35184372088832
instance (t):Decidable (v0e t):=by unfold v0e;infer_instance
def Clock (s:Sta):Prop:=v0e s.2.1∧(s.2.2.1 = -1∨v0e s.2.2.1)∧s.2.2.1≤s.2.1
instance (s):Decidable (Clock s):=by unfold Clock;infer_instance
def mk (s:Sta):Int:=s.2.1 / s.1.2.1.1*s.1.2.1.1
def Twin (s:Sta) (i:Nat) (x:Ser):Prop:=LvX s x∧∃k,k<i∧∃y,s.2.2.2[k]? = some y∧LvX s y∧y.1=x.1
noncomputable instance (s i x):Decidable (Twin s i x):=Classical.propDecidable _
def p0a (s:Sta) (i:Nat) (x:Ser):Prop:=x=ser0∨(SerOk s.1 x∧0≤x.2.1∧x.2.1<mk s+s.1.2.1.1∧¬Twin s i x)
noncomputable instance (s i x):Decidable (p0a s i x):=Classical.propDecidable _
structure StaOk (s:Sta):Prop where
 whole:Whole s
 clock:Clock s
 right:∀(i:Nat) x,s.2.2.2[i]? = some x→p0a s i x
noncomputable instance (s):Decidable (StaOk s):=Classical.propDecidable _
theorem Whole.len {s:Sta} (h:Whole s):s.2.2.2.length≤65536:=by
 have:=h.1.rng.cap;have:=h.2;omega
theorem i1a {α:Type} {l:List α} {i:Nat} {x:α} (h:l[i]? = some x):at? l (i:Int)=some x:=by
 unfold at?;rw[decide_eq_true (show (0:Int)≤(i:Int) by omega),Int.toNat_natCast];exact h
theorem StaW.at {s:Sta} (h:StaW s) {i:Nat} {x:Ser} (hx:s.2.2.2[i]? = some x):SerW x∧SerM x:=h.ser x (List.mem_of_getElem? hx)
theorem p1t (n:Nat) {x:Ser} (h:SerM x):s0c (n+4) x=some (decide (x=ser0)):=by
 have:=x0w n x ser0 h;rw[i1u];have e:e0r (n+3) x ([],((0:Int),(((0:Int),((0:Int),[])),(([],([],[])),((0:Int),z0)))))=some (decide (x=ser0)):=this
 change a0a (e0r (n+3) x ([],((0:Int),(((0:Int),((0:Int),[])),(([],([],[])),((0:Int),z0)))))) _=_
 rw[e];rfl
theorem w0o (n:Nat) {s:Sta} {i:Nat} {x:Ser} (hx:s.2.2.2[i]? = some x) (hm:SerM x):e0h (n+7) s (i:Int)=some (decide (LvX s x)):=by
 rw[t0y,i1a hx,obs,p1t (n+2) hm,obs,tfn,tfd,m1w n];by_cases h:x=ser0
 ·rw[if_pos h,decide_eq_false (fun k:LvX s x=>k.1 h)]
 rw[if_neg h,tfd];by_cases h1:s.2.2.1 = -1
 ·rw[if_pos h1,decide_eq_true (show LvX s x from ⟨h,.inl h1⟩)]
 ·rw[if_neg h1];cases hd:b2d s.1 x.2.1 s.2.2.1
  ·rw[decide_eq_true (show LvX s x from ⟨h,.inr hd⟩)];rfl
  ·rw[decide_eq_false (fun k:LvX s x=>by rcases k.2 with k | k;exact h1 k;rw[hd] at k;cases k)];rfl
theorem place_l (n:Nat) (is:(Int×Unit)→Option Bool) (p:Nat→Bool) (L:Nat) (hL:L≤1000000) (his:∀k:Nat,k<L→is ((k:Int),())=some (p k)):∀(d k f:Nat),k+d=L→d<f →
  (∃m:Nat,k≤m∧m<L∧p m=true∧(∀j,k≤j→j<m→p j=false)∧c0c n f (is,(L:Int),(k:Int),())=some (.inr (m:Int))) ∨
  ((∀j,k≤j→j<L→p j=false)∧c0c n f (is,(L:Int),(k:Int),())=some (.inl ())):=by
 intro d;induction d with
 | zero =>
  intro k f hk hf;obtain ⟨f,rfl⟩:∃g,f=g+1:=⟨f-1,by omega⟩;refine .inr ⟨fun j h1 h2=>by omega,?_⟩;rw[i0l,decide_eq_false (by omega),tff]
 | succ d ih =>
  intro k f hk hf;obtain ⟨f,rfl⟩:∃g,f=g+1:=⟨f-1,by omega⟩;rw[i0l,decide_eq_true (by omega),tft,his k (by omega),obs];cases hp:p k
  ·rw[tff,w64 (by omega) (by omega),show ((k:Int)+1)=((k+1:Nat):Int) by omega];rcases ih (k+1) f (by omega) (by omega) with ⟨m,h1,h2,h3,h4,h5⟩ | ⟨h1,h2⟩
   ·exact .inl ⟨m,by omega,h2,h3,fun j q1 q2=>by
     rcases Nat.lt_or_ge k j with q | q
     ·exact h4 j (by omega) q2
     ·rw[show j=k by omega];exact hp,h5⟩
   ·exact .inr ⟨fun j q1 q2=>by
     rcases Nat.lt_or_ge k j with q | q
     ·exact h1 j (by omega) q2
     ·rw[show j=k by omega];exact hp,h2⟩
  ·rw[tft];exact .inl ⟨k,Nat.le_refl _,by omega,hp,fun j q1 q2=>by omega,rfl⟩
theorem t0g (n:Nat) (s:Sta) (is:(Int×Unit)→Option Bool) (p:Nat→Bool) (hL:s.2.2.2.length≤1000000) (his:∀k:Nat,k<s.2.2.2.length→is ((k:Int),())=some (p k)) :
  (∃m:Nat,m<s.2.2.2.length∧p m=true∧(∀j,j<m→p j=false)∧d0n (n+1) s is=some (m:Int)) ∨
  ((∀j,j<s.2.2.2.length→p j=false)∧d0n (n+1) s is=some (-1)):=by
 rw[t0x];rcases place_l n is p _ hL his s.2.2.2.length 0 a0b (by omega) (by unfold a0b;omega) with ⟨m,h1,h2,h3,h4,h5⟩ | ⟨h1,h2⟩
 ·refine .inl ⟨m,h2,h3,fun j q=>h4 j (by omega) q,?_⟩;have h5':c0c n a0b (is,(s.2.2.2.length:Int),(0:Int),())=some (.inr (m:Int)):=h5;rw[h5'];rfl
 ·refine .inr ⟨fun j q=>h1 j (by omega) q,?_⟩;have h2':c0c n a0b (is,(s.2.2.2.length:Int),(0:Int),())=some (.inl ()):=h2;rw[h2'];rfl
theorem c1p (n:Nat) (a b:List Lab) (h:a.length≤9223372036854775807):l0q (n+2) a b=some (decide (a=b)):=by
 rw[s0x,l0v n a b h];rfl
def IsTw (s:Sta) (i k:Nat) (x:Ser):Prop:=k=i∨∃y,s.2.2.2[k]? = some y∧LvX s y∧y.1=x.1
noncomputable instance (s i k x):Decidable (IsTw s i k x):=Classical.propDecidable _
theorem st_twin (n:Nat) {s:Sta} (hw:StaW s) (hL:s.2.2.2.length≤1000000) {i:Nat} {x:Ser} (hx:s.2.2.2[i]? = some x):m0n (n+9) s (i:Int)=some (decide (Twin s i x)):=by
 have hil:i<s.2.2.2.length:=(List.getElem?_eq_some_iff.1 hx).1;have hm:=(hw.at hx).2;rw[w0b];have his:∀k:Nat,k<s.2.2.2.length→(fun y0:Int×Unit=>e0q (n+8) y0.1 (i:Int) s) ((k:Int),())=some (decide (IsTw s i k x)):=by
  intro k hk;have hy:s.2.2.2[k]? = some s.2.2.2[k]:=List.getElem?_eq_getElem hk;generalize s.2.2.2[k]=y at hy;have hmy:=(hw.at hy).2;show e0q (n+8) (k:Int) (i:Int) s=_;rw[s0a,tfd,w0o n hy hmy,obs,i1a hy,obs,i1a hx,obs,c1p (n+5) _ _ hmy.l,obs,tfd];by_cases h1:k=i
  ·rw[if_pos (by rw[h1]),decide_eq_true (show IsTw s i k x from .inl h1)]
  rw[if_neg (by omega)];by_cases h2:LvX s y
  ·rw[if_pos h2];refine congrArg some (decide_eq_decide.2 ⟨fun h3 => .inr ⟨y,hy,h2,h3⟩,fun h3 => ?_⟩);rcases h3 with h3 | ⟨z,z1,z2,z3⟩
   ·exact absurd h3 h1
   ·rw[hy] at z1;cases z1;exact z3
  ·rw[if_neg h2,decide_eq_false];rintro (h3 | ⟨z,z1,z2,z3⟩)
   ·exact h1 h3
   ·rw[hy] at z1;cases z1;exact h2 z2
 rcases t0g (n+7) s (fun y0:Int×Unit=>e0q (n+8) y0.1 (i:Int) s) (fun k=>decide (IsTw s i k x)) hL his with ⟨m,h1,h2,h3,h4⟩ | ⟨h1,h2⟩
 ·rw[h4,obs,tfd,w0o (n+1) hx hm];have h2:=of_decide_eq_true h2;have hmi:m≤i:=by
   rcases Nat.lt_or_ge i m with q | q
   ·have:=of_decide_eq_false (h3 i q);exact absurd (.inl rfl) this
   ·exact q
  by_cases q:m<i
  ·rw[if_pos (by omega),obs];refine congrArg some (decide_eq_decide.2 ⟨fun k=>⟨k,m,q,?_⟩,fun k=>k.1⟩);exact h2.resolve_left (by omega)
  ·rw[if_neg (by omega),decide_eq_false];rintro ⟨k1,k,k2,k3⟩;exact of_decide_eq_false (h3 k (by omega)) (.inr k3)
 ·exact absurd (.inl rfl) (of_decide_eq_false (h1 i hil))
theorem s0u {s:Sta} (h:v0e s.2.1) (hw:1≤s.1.2.1.1∧s.1.2.1.1≤1099511627776):0≤mk s∧mk s≤s.2.1∧s.2.1<mk s+s.1.2.1.1∧s.2.1-s.2.1 % s.1.2.1.1=mk s:=by
 have e:=Int.mul_ediv_add_emod s.2.1 s.1.2.1.1;have e1:=Int.emod_nonneg s.2.1 (show s.1.2.1.1≠0 by omega);have e2:=Int.emod_lt_of_pos s.2.1 (show 0<s.1.2.1.1 by omega);rw[Int.mul_comm] at e;have e3:0≤mk s:=Int.mul_nonneg (Int.ediv_nonneg h.1 (by omega)) (by omega);unfold mk at *
 exact ⟨e3,by omega,by omega,by omega⟩
theorem w1w (n:Nat) {s:Sta} (h:v0e s.2.1) (hw:1≤s.1.2.1.1∧s.1.2.1.1≤1099511627776):i0s (n+1) s=some (mk s):=by
 have:=s0u h hw;have:=h.1;have:=h.2;rw[w0c,tfd,if_neg (by omega),m0l h.1,w64 (by omega) (by omega),(s0u h hw).2.2.2]
theorem st_right (n:Nat) {s:Sta} (hw:StaW s) (hh:Whole s) (ht:v0e s.2.1) {i:Nat} {x:Ser} (hx:s.2.2.2[i]? = some x):k0r (n+12) s (i:Int)=some (decide (p0a s i x)):=by
 have hm:=hw.at hx;have hr:=hh.1.rng;have hL:=hh.len;have hmk:=s0u ht hr.w0;have ht1:=ht.1;have ht2:=ht.2;have hw0:=hr.w0;obtain ⟨m1,m2,m3,m4⟩:=hmk;rw[t0w,i1a hx,obs,p1t (n+7) hm.2,obs,tfd,i1z n s.1 hm.1,obs,w1w (n+10) ht hr.w0,obs,w64 (by omega) (by omega),st_twin (n+2) hw (by omega) hx,obs];simp only[tfd];by_cases h0:x=ser0
 ·rw[if_pos h0,decide_eq_true (show p0a s i x from .inl h0)]
 rw[if_neg h0];by_cases h1:SerOk s.1 x
 case neg=>rw[if_neg h1,if_neg (by decide),decide_eq_false (fun q:p0a s i x=>by rcases q with k | k;exact h0 k;exact h1 k.1)]
 rw[if_pos h1,if_pos rfl];by_cases h2:0≤x.2.1
 case neg=>rw[if_neg h2,decide_eq_false (fun q:p0a s i x=>by rcases q with k | k;exact h0 k;exact h2 k.2.1)]
 rw[if_pos h2];by_cases h3:x.2.1<mk s+s.1.2.1.1
 case neg=>rw[if_neg h3,decide_eq_false (fun q:p0a s i x=>by rcases q with k | k;exact h0 k;exact h3 k.2.2.1)]
 rw[if_pos h3];by_cases h4:Twin s i x
 ·rw[decide_eq_true h4,decide_eq_false (fun q:p0a s i x=>by rcases q with k | k;exact h0 k;exact k.2.2.2 h4)];rfl
 ·rw[decide_eq_false h4,decide_eq_true (show p0a s i x from .inr ⟨h1,h2,h3,h4⟩)];rfl
def sta0:Sta:=(((0:Int),(((0:Int),((0:Int),(0:Int))),(((0:Int),((0:Int),(0:Int))),((0:Int),(0:Int))))),((0:Int),((0:Int),[])))
theorem e1g (n:Nat) (s:Sta):p0h (n+4) s=some (if Whole s then (s,0) else (sta0,2)):=by
 rw[m1i,l0x n s.1,obs,tfn,tfd,tfn,tfd];by_cases h:OkC s.1
 case neg=>rw[if_neg h,if_neg (show ¬((2:Int)=0) by decide),if_neg (fun k:Whole s=>h k.1)];rfl
 rw[if_pos h,if_pos rfl];by_cases h1:(s.2.2.2.length:Int)=s.1.2.2.2.1
 ·rw[if_pos h1,if_pos (show Whole s from ⟨h,h1⟩)]
 ·rw[if_neg h1,if_neg (fun k:Whole s=>h1 k.2)];rfl
theorem m1o (n:Nat) (t:Int):s0b (n+1) t=some (decide (v0e t)):=by
 rw[m1h,tfd];by_cases h:0≤t
 ·rw[if_pos h];exact congrArg some (decide_eq_decide.2 ⟨fun k=>⟨h,k⟩,fun k=>k.2⟩)
 ·rw[if_neg h,decide_eq_false (fun k:v0e t=>h k.1)]
theorem st_clock (n:Nat) (s:Sta):k0s (n+2) s=some (decide (Clock s)):=by
 rw[t0z,m1o n,m1o n,obs,obs];simp only[tfd];by_cases h:v0e s.2.1
 case neg=>rw[if_neg h,decide_eq_false (fun k:Clock s=>h k.1)]
 rw[if_pos h];by_cases h1:s.2.2.1 = -1
 ·rw[if_pos h1];exact congrArg some (decide_eq_decide.2 ⟨fun k=>⟨h,.inl h1,k⟩,fun k=>k.2.2⟩)
 rw[if_neg h1];by_cases h2:v0e s.2.2.1
 ·rw[if_pos h2];exact congrArg some (decide_eq_decide.2 ⟨fun k=>⟨h,.inr h2,k⟩,fun k=>k.2.2⟩)
 ·rw[if_neg h2,decide_eq_false (fun k:Clock s=>by rcases k.2.1 with q | q;exact h1 q;exact h2 q)]
def Wrong (s:Sta) (k:Nat):Prop:=∃x,s.2.2.2[k]? = some x∧¬p0a s k x
noncomputable instance (s k):Decidable (Wrong s k):=Classical.propDecidable _
theorem x0o (n:Nat) {s:Sta} (hw:StaW s):o0a (n+14) s=some (if StaOk s then 0 else 2):=by
 rw[i1v,e1g (n+9) s,obs,tfn,tfd];by_cases h:Whole s
 case neg=>rw[if_neg h,if_neg (show ¬((sta0,(2:Int)).2=0) by decide),if_neg (fun k:StaOk s=>h k.whole)]
 rw[if_pos h,if_pos rfl,st_clock (n+11) s,obs,tfn,tfd];by_cases h1:Clock s
 case neg=>rw[if_neg h1,if_neg (fun k:StaOk s=>h1 k.clock)]
 rw[if_pos h1];have hL:=h.len;have his:∀k:Nat,k<s.2.2.2.length→(fun y2:Int×Unit=>e0b (n+13) y2.1 s) ((k:Int),())=some (decide (Wrong s k)):=by
  intro k hk;have hy:s.2.2.2[k]? = some s.2.2.2[k]:=List.getElem?_eq_getElem hk;generalize s.2.2.2[k]=y at hy;show e0b (n+13) (k:Int) s=_;rw[z0t,st_right n hw h h1.1 hy,obs];by_cases q:p0a s k y
  ·rw[decide_eq_true q,decide_eq_false (fun z:Wrong s k=>by obtain ⟨x,x1,x2⟩:=z;rw[hy] at x1;cases x1;exact x2 q)];rfl
  ·rw[decide_eq_false q,decide_eq_true (show Wrong s k from ⟨y,hy,q⟩)];rfl
 rcases t0g (n+12) s (fun y2:Int×Unit=>e0b (n+13) y2.1 s) (fun k=>decide (Wrong s k)) (by omega) his with ⟨m,q1,q2,q3,q4⟩ | ⟨q1,q2⟩
 ·rw[show (fun y2:Int×Unit=>e0b (n+13) y2.1 (s,(0:Int)).1)=fun y2:Int×Unit=>e0b (n+13) y2.1 s from rfl];obtain ⟨x,x1,x2⟩:=of_decide_eq_true q2;rw[q4,obs,tfd,if_pos (by omega),if_neg (fun k:StaOk s=>x2 (k.right m x x1))]
 ·rw[show (fun y2:Int×Unit=>e0b (n+13) y2.1 (s,(0:Int)).1)=fun y2:Int×Unit=>e0b (n+13) y2.1 s from rfl];rw[q2,obs,tfd,if_neg (by decide),if_pos];refine ⟨h,h1,fun i x hx => ?_⟩;have:=of_decide_eq_false (q1 i (List.getElem?_eq_some_iff.1 hx).1);exact Decidable.byContradiction fun k=>this ⟨x,hx,k⟩
theorem confEq (a b:Conf):((decide (a.1=b.1))&&((decide (a.2.1.1=b.2.1.1))&&((decide (a.2.1.2.1=b.2.1.2.1))&&((decide (a.2.1.2.2=b.2.1.2.2))&&((decide (a.2.2.1.1=b.2.2.1.1))&&((decide (a.2.2.1.2.1=b.2.2.1.2.1))&&((decide (a.2.2.1.2.2=b.2.2.1.2.2))&&((decide (a.2.2.2.1=b.2.2.2.1))&&(decide (a.2.2.2.2=b.2.2.2.2))))))))))=decide (a=b):=by
 rw[Bool.eq_iff_iff];simp[Prod.ext_iff,and_assoc]
theorem s1j (n:Nat) (l:List Ser) (hL:l.length≤1000000) (hm:∀x∈l,SerM x):∀(rest pre:List Ser) (f:Nat) (ix len:Int),l=pre++rest→ix=pre.length→len=l.length→rest.length<f →
  i0c (n+2) f (l,len,ix,())=some (.inl ())∨i0c (n+2) f (l,len,ix,())=some (.inr 0):=by
 intro rest;induction rest with
 | nil =>
  intro pre f ix len hl hi hn hf;obtain ⟨f,rfl⟩:∃g,f=g+1:=⟨f-1,by simp at hf;omega⟩;left;rw[o0r];simp only[tfd,if_neg (idxe hl hi hn)]
 | cons x rest ih =>
  intro pre f ix len hl hi hn hf;obtain ⟨f,rfl⟩:∃g,f=g+1:=⟨f-1,by simp at hf;omega⟩;have hx:SerM x:=hm x (by rw[hl];simp);rw[o0r];simp only[tfd,if_pos (idx hl hi hn),b0u hl hi,obs,idxw hl hi (show l.length≤1000000000000 by omega)];rcases z1f n x hx.l with h | h
  ·rw[h];right;rfl
  ·rw[h];simp only[obs,if_neg (show ¬((1:Int)=0) by decide)];exact ih (pre++[x]) f (ix+1) len (idxl hl) (idxs hi) hn (by simp at hf;omega)
theorem z1e (n:Nat) {s:Sta} (hw:StaW s):s0z (n+3) s=some 0∨(s0z (n+3) s=some 1∧s.2.2.2.length≤8):=by
 rw[k1g];simp only[tfd];by_cases h:(8:Int)<(s.2.2.2.length:Int)
 ·rw[if_pos h];exact .inl rfl
 ·rw[if_neg h];rcases s1j n s.2.2.2 (by omega) (fun x hx=>(hw.ser x hx).2) s.2.2.2 [] a0b 0 _ rfl rfl rfl (by unfold a0b;omega) with h1 | h1
  ·rw[h1];exact .inr ⟨rfl,by omega⟩
  ·rw[h1];exact .inl rfl
theorem ser_m' {s:Ser} (h:Wf a0u s):SerM s:=by
 obtain ⟨h1,h2,h3,⟨h4,h5,h6⟩,h7⟩:=h;have e1:=h1.1;have e3:=h3.2.2.1;have e4:=h4.1;have e5:=h5.1;have e6:=h6.1;simp only[maxLen] at e1 e3 e4 e5 e6;exact ⟨e1,e3,e4,e5,e6⟩
theorem sta_wf {s:Sta} (h:Wf a0o s):StaW s:=by
 obtain ⟨h1,h2,h3,h4⟩:=h;have e:=h4.1;simp only[maxLen] at e;exact ⟨e,fun x hx=>⟨ser_wf (h4.2 x hx),ser_m' (h4.2 x hx)⟩⟩
end Go.Proofs.YtfibfcjepngbmaaGreatDoor
namespace Go.Proofs.YtfibfcjepngbmaaGreatDoor
open Go.Flat Go.Plim
set_option linter.unusedVariables false
def i1c (c:Conf) (s:Trs) (o:Slo) (l:List Ev):Prop :=
 (l=[]∧o=s0∧∀t,FInv c s [] t)∨∃t,EndsAt l t∧FInv c s l t∧o=(t / c.2.1.1,cellOf (win c.2.1.1 l (t / c.2.1.1)))
theorem emp_inv {c:Conf} (h:OkC c):i1c c (emp c) s0 []:=by
 have hr:=h.rng;have n0:=hr.n0;have n1:=hr.n1;have n2:=hr.n2;refine .inl ⟨rfl,rfl,fun t => ?_⟩;have e:emp c=(List.replicate c.2.2.1.1.toNat s0,(List.replicate c.2.2.1.2.1.toNat s0,List.replicate c.2.2.1.2.2.toNat s0)):=if_pos h;have i0:TierInv (List.replicate c.2.2.1.1.toNat s0) c.2.1.1 []:=q0y (by omega) (by omega) hr.w0.1 hr.w0.2;have i1:TierInv (List.replicate c.2.2.1.2.1.toNat s0) c.2.1.2.1 []:=q0y (by omega) (by omega) hr.w1.1 hr.w1.2;have i2:TierInv (List.replicate c.2.2.1.2.2.toNat s0) c.2.1.2.2 []:=q0y (by omega) (by omega) hr.w2.1 hr.w2.2;rw[e]
 exact ⟨⟨h,by simp;omega,by simp;omega,by simp;omega,i0.ok,i1.ok,i2.ok⟩,i0,i1,i2⟩
theorem i1c.fold {c:Conf} {s:Trs} {o:Slo} {l:List Ev} (h:i1c c s o l):FoldOk c s:=by
 rcases h with ⟨_,_,h⟩ | ⟨t,_,h,_⟩
 ·exact (h 0).ok
 ·exact h.ok
theorem a2m {e:Ev} (h:EvOk e) {w:Int} (hw:1≤w):g0q w (e.1 / w):=c1z hw ⟨h.t0,by have:=h.t1;omega⟩
def Turn (o:Slo) (i:Int):Prop:=0<o.2.1∧o.1≠i
end Go.Proofs.YtfibfcjepngbmaaGreatDoor
namespace Go.Proofs.YtfibfcjepngbmaaGreatDoor
open Go.Flat Go.Plim
set_option linter.unusedVariables false
set_option linter.unusedSimpArgs false
def w0i (room:Int) (l:List Ev):Rw :=
 (if (l.length:Int)≤room then 0 else (l.length:Int)-room,(if (l.length:Int)≤room then 0 else ((l[l.length-room.toNat-1]?).getD e0).1,l.drop (l.length-room.toNat)))
theorem x1u {room:Int} (h:1≤room) (l:List Ev):((w0i room l).2.2.length:Int)=if (l.length:Int)≤room then (l.length:Int) else room:=by
 simp only[w0i,List.length_drop];split<;>omega
theorem t1f {room:Int} (h:1≤room) (l:List Ev):(w0i room l).2.2.getLast? = l.getLast? := by
 simp only[w0i,List.getLast?_drop];by_cases h0:l=[]
 ·subst h0;simp
 ·have:0<l.length:=List.length_pos_iff.2 h0;rw[if_neg (by omega)]
theorem rawOf_ok {room:Int} (h:1≤room∧room≤4096) {l:List Ev} (hl:Foll l) (hL:l.length≤1000000):RawOk (w0i room l) room:=by
 have hlen:=x1u h.1 l;refine ⟨h.1,h.2,by rw[hlen];split<;>omega,?_,?_,?_,?_,?_⟩
 ·simp only[w0i];split<;>omega
 ·simp only[w0i];split<;>omega
 ·exact hl.sub (List.drop_sublist _ _)
 ·simp only[w0i];intro k;split
  ·rfl
  ·rename_i h1;rw[if_neg h1] at k;omega
 ·intro k;simp only[w0i] at k hlen ⊢;by_cases h1:(l.length:Int)≤room
  ·rw[if_pos h1] at k;exact absurd rfl k
  rw[if_neg h1] at hlen ⊢;obtain ⟨d,hd⟩:∃d,l.length-room.toNat=d+1:=⟨l.length-room.toNat-1,by omega⟩;rw[hd,show d+1-1=d by omega];have hdl:d<l.length:=by omega
  have hdl':d+1<l.length:=by omega
  rw[List.getElem?_eq_getElem hdl];refine ⟨by rw[←hlen,hd],((hl.ok _ (List.getElem_mem hdl)).t0),fun x hx => ?_⟩;rw[List.head?_drop,List.getElem?_eq_getElem hdl'] at hx;have:=List.pairwise_iff_getElem.1 hl.inc d (d+1) hdl hdl' (by omega);simp at hx;rw[←hx];exact this
structure SerInv (c:Conf) (s:Ser) (l:List Ev):Prop where
 lab:LabOk s.1
 len:l.length≤1000000
 raw:s.2.2.1=w0i c.1 l
 opn:i1c c s.2.2.2.1 s.2.2.2.2 l
 last:(l=[]∧s.2.1 = -1)∨EndsAt l s.2.1
theorem SerInv.foll {c:Conf} {s:Ser} {l:List Ev} (h:SerInv c s l):Foll l:=by
 rcases h.last with ⟨rfl,_⟩ | h
 ·exact Foll.nil
 ·exact h.foll
theorem k0n {l:List Ev} {t:Int} (h:EndsAt l t):∃e,l.getLast? = some e∧e.1=t:=by
 obtain ⟨x,hx,hxt⟩:=h.last;rcases List.eq_nil_or_concat l with rfl | ⟨p,y,rfl⟩
 ·cases hx
 rw[List.concat_eq_append] at *
 have h1:=h.le y (by simp);refine ⟨y,by simp,?_⟩;rcases List.mem_append.1 hx with q | q
 ·have:=(d0b.1 h.foll).2.2 x q y (by simp);omega
 ·simp at q;rw[←q];exact hxt
theorem a2y {l:List Ev} {t u:Int} (h:EndsAt l t) (k:EndsAt l u):t=u:=by
 obtain ⟨e,h1,h2⟩:=k0n h;obtain ⟨e',k1,k2⟩:=k0n k;rw[h1] at k1;simp at k1;rw[←h2,←k2,k1]
theorem a2z {l:List Ev} {t:Int} (h:EndsAt l t):l≠[]:=by
 obtain ⟨x,hx,_⟩:=h.last;exact List.ne_nil_of_mem hx
theorem SerInv.at_ {c:Conf} {s:Ser} {l:List Ev} (h:SerInv c s l) (hl:l≠[]):EndsAt l s.2.1∧FInv c s.2.2.2.1 l s.2.1∧s.2.2.2.2=(s.2.1 / c.2.1.1,cellOf (win c.2.1.1 l (s.2.1 / c.2.1.1))):=by
 have he:=h.last.resolve_left fun k=>hl k.1
 rcases h.opn with k | ⟨t,k1,k2,k3⟩
 ·exact absurd k.1 hl
 ·have:=a2y he k1;subst this;exact ⟨he,k2,k3⟩
theorem x0m {t:List Slo} {w:Int} (h:TierInv t w []):tall t=[]:=by
 cases hc:tall t with
 | nil=>rfl
 | cons x r =>
  have hx:x∈tall t:=by rw[hc];simp
  have h1:=h.cells x hx;have:=(l0d h.ok hx).1.n.n1;rw[h1] at this;simp[win,cellOf,z0] at this
theorem o0y {t:List Slo} {w u:Int} {l:List Ev} (h:TierInv t w (below w l u)) (hl:Foll l):b0f t (u / w):=by
 rw[v0r h.ok];intro x hx;have h1:=h.cells x hx;have hn:=(l0d h.ok hx).1.n;have hne:win w (below w l u) x.1≠[]:=fun k=>by
  rw[k] at h1;exact hn.ne h1
 obtain ⟨e,he⟩:=List.exists_mem_of_ne_nil _ hne;obtain ⟨k1,k2⟩:=u0n.1 he;have:=of_decide_eq_true (List.mem_filter.1 k1).2;omega
theorem l1i {w T:Int} {l:List Ev} (he:EndsAt l T):(cellOf (win w l (T / w))).2.2.1.1=T:=by
 obtain ⟨x,hx,hxt⟩:=he.last;have hm:x∈win w l (T / w):=u0n.2 ⟨hx,by rw[hxt]⟩;have hw:=d1m (w:=w) he.foll (T / w);have hh:=r1j hw (List.ne_nil_of_mem hm);have ew:EndsAt (win w l (T / w)) T:=⟨hw,fun y hy=>he.le y (u0n.1 hy).1,x,hm,hxt⟩;obtain ⟨e,k1,k2⟩:=k0n ew;have:=hh.last;rw[k1] at this;simp at this;rw[←this,k2]
theorem j1a {c:Conf} {s:Ser} {l:List Ev} (h:SerInv c s l):SerOk c s:=by
 have hf:=h.opn.fold;have hr:=hf.cok.rng;have hraw:RawOk s.2.2.1 c.1:=by rw[h.raw];exact rawOf_ok hr.raw h.foll h.len
 refine ⟨hf,h.lab,hraw,?_⟩;by_cases hl:l=[]
 ·subst hl;refine .inl ?_;have hlast:=h.last.resolve_right fun k=>a2z k rfl
  rcases h.opn with ⟨_,k1,k2⟩ | ⟨t,k1,_⟩
  ·have:=k2 0;exact ⟨hlast.2,by rw[h.raw];simp[w0i],k1,(y0k this.ok.t0).2 (x0m this.i0),(y0k this.ok.t1).2 (x0m this.i1),(y0k this.ok.t2).2 (x0m this.i2)⟩
  ·exact absurd rfl (a2z k1)
 ·obtain ⟨he,hi,ho⟩:=h.at_ hl;obtain ⟨x,hx,hxt⟩:=he.last;have:=(he.foll.ok x hx).t0;refine .inr ⟨by omega,?_,?_,?_,o0y hi.i0 he.foll,o0y hi.i1 he.foll,o0y hi.i2 he.foll⟩
  ·rw[h.raw,t1f hr.raw.1];exact k0n he
  ·rw[ho];exact l1i he
  ·rw[ho];exact (d1y he hi.i0).1
theorem serInv_w {c:Conf} {s:Ser} {l:List Ev} (h:SerInv c s l):SerW s:=by
 have hok:=j1a h;refine ⟨?_,fun e he=>EvW.of (hok.raw.f.ok e he),hok.fold.w,?_⟩
 ·by_cases hn:s.2.1 = -1
  ·rw[hn];unfold I64;omega
  ·have:=serOk_at hok hn;unfold I64;omega
 ·rcases h.opn with ⟨_,k,_⟩ | ⟨t,he,hi,ho⟩
  ·rw[k];exact e1j
  ·obtain ⟨x,hx,hxt⟩:=he.last;have hxo:=he.foll.ok x hx;have:=j1k hxo hi.ok.cok.rng.w0.1;rw[hxt] at this;rw[ho];exact ⟨by unfold I64;simp only;omega,.of (b2p (d1m he.foll _))⟩
theorem y1q {c:Conf} {l:List Lab} (h:OkC c) (hl:LabOk l):SerInv c (l,(-1,(r0w,(emp c,s0)))) [] :=
 ⟨hl,by simp,by have:=h.rng.raw;simp[w0i,r0w];omega,emp_inv h,.inl ⟨rfl,rfl⟩⟩
noncomputable def i0d (s:Sta) (l:List Lab):Option Nat:=s.2.2.2.findIdx? fun x=>decide (x.1=l∧LvX s x)
noncomputable def r0e (s:Sta):Option Nat:=s.2.2.2.findIdx? fun x=>decide (¬LvX s x)
theorem g0b {s:Sta} {l:List Lab} {i:Nat}:i0d s l=some i↔∃x,s.2.2.2[i]? = some x∧x.1=l∧LvX s x∧∀j,j<i→∀y,s.2.2.2[j]? = some y→¬(y.1=l∧LvX s y):=by
 unfold i0d;rw[List.findIdx?_eq_some_iff_getElem];constructor
 ·rintro ⟨h,h1,h2⟩;have h1:=of_decide_eq_true h1;refine ⟨_,List.getElem?_eq_getElem h,h1.1,h1.2,fun j hj y hy => ?_⟩;obtain ⟨hjl,e⟩:=List.getElem?_eq_some_iff.1 hy;have:=h2 j hj;rw[e] at this
  simpa using this
 ·rintro ⟨x,hx,h1,h2,h3⟩;obtain ⟨hl,e⟩:=List.getElem?_eq_some_iff.1 hx;refine ⟨hl,by rw[e];exact decide_eq_true ⟨h1,h2⟩,fun j hj => ?_⟩;have:=h3 j hj _ (List.getElem?_eq_getElem (by omega))
  simpa using this
theorem l0t {s:Sta} {l:List Lab}:i0d s l=none↔∀x∈s.2.2.2,¬(x.1=l∧LvX s x):=by
 unfold i0d;rw[List.findIdx?_eq_none_iff];simp
theorem l0k {s:Sta} {i:Nat}:r0e s=some i↔∃x,s.2.2.2[i]? = some x∧¬LvX s x∧∀j,j<i→∀y,s.2.2.2[j]? = some y→LvX s y:=by
 unfold r0e;rw[List.findIdx?_eq_some_iff_getElem];constructor
 ·rintro ⟨h,h1,h2⟩;refine ⟨_,List.getElem?_eq_getElem h,of_decide_eq_true h1,fun j hj y hy => ?_⟩;obtain ⟨hjl,e⟩:=List.getElem?_eq_some_iff.1 hy;have:=h2 j hj;rw[e] at this
  simpa using this
 ·rintro ⟨x,hx,h1,h3⟩;obtain ⟨hl,e⟩:=List.getElem?_eq_some_iff.1 hx;refine ⟨hl,by rw[e];exact decide_eq_true h1,fun j hj => ?_⟩;have:=h3 j hj _ (List.getElem?_eq_getElem (by omega))
  simpa using this
theorem s1x {s:Sta}:r0e s=none↔∀x∈s.2.2.2,LvX s x:=by
 unfold r0e;rw[List.findIdx?_eq_none_iff];simp
theorem a2j {s:Sta} (h:StaOk s) {i:Nat} {x:Ser} (hx:s.2.2.2[i]? = some x) (hl:LvX s x):i0d s x.1=some i:=by
 refine g0b.2 ⟨x,hx,rfl,hl,fun j hj y hy hn => ?_⟩;rcases h.right i x hx with k | k
 ·exact hl.1 k
 ·exact k.2.2.2 ⟨hl,j,hj,y,hy,hn.2,hn.1⟩
noncomputable def d0f (s:Sta) (l:List Lab) (e:Ev):Int×(Bool×Int) :=
 if ¬StaOk s then (0,(false,2)) else if ¬LabOk l then (0,(false,8)) else if ¬EvOk e then (0,(false,2)) else
 if e.1<mk s∨mk s+s.1.2.1.1≤e.1 then (0,(false,9)) else
 match i0d s l with
 | some i=>if e.1≤((s.2.2.2[i]?).getD ser0).2.1 then (0,(false,9)) else ((i:Int),(false,0))
 | none=>if e.2.2.2=true then (0,(false,3)) else match r0e s with | some i=>((i:Int),(true,0)) | none=>(0,(false,7))
end Go.Proofs.YtfibfcjepngbmaaGreatDoor
namespace Go.Proofs.YtfibfcjepngbmaaGreatDoor
open Go.Flat
def rd (st:List UInt8×Bool) (k:Nat):Int×(List UInt8×Bool):=if st.2=true∨st.1.length<k then (0,([],true)) else (valI (b2v (st.1.take k)),(st.1.drop k,false))
def q0 (s:List UInt8):=rd (s,false) 4
def q1 (s:List UInt8):=rd (q0 s).2 8
def q2 (s:List UInt8):=rd (q1 s).2 8
def q3 (s:List UInt8):=rd (q2 s).2 8
def q4 (s:List UInt8):=rd (q3 s).2 4
def q5 (s:List UInt8):=rd (q4 s).2 4
def q6 (s:List UInt8):=rd (q5 s).2 4
def q7 (s:List UInt8):=rd (q6 s).2 4
def q8 (s:List UInt8):=rd (q7 s).2 4
def q9 (s:List UInt8):=rd (q8 s).2 8
structure Full (s:List UInt8):Prop where
 z:(q9 s).1=0
 good:(q9 s).2.2=false
 left:(q9 s).2.1=[]
def idxC (c:Conf):Int:=prt c.2.2.2.2 120
def hom (c:Conf):Int:=1+idxC c+c.2.2.2.2
end Go.Proofs.YtfibfcjepngbmaaGreatDoor
namespace Go.Proofs.YtfibfcjepngbmaaGreatDoor
open Go.Flat
set_option linter.unusedVariables false
set_option linter.unusedSimpArgs false
end Go.Proofs.YtfibfcjepngbmaaGreatDoor
namespace Go.Proofs.YtfibfcjepngbmaaGreatDoor
open Go.Flat Go.Plim
set_option linter.unusedVariables false
set_option linter.unusedSimpArgs false
theorem b2a {l:List Ser} {k:Nat} (h:k<l.length):∃y,l[k]? = some y:=⟨l[k],List.getElem?_eq_getElem h⟩
noncomputable def u1y (s:Sta) (l:List Lab):Int×Int:=if Whole s then (match i0d s l with | some i=>((i:Int),0) | none=>(0,3)) else (0,2)
noncomputable def t1a (s:Sta):Int×Int:=if Whole s then (match r0e s with | some i=>((i:Int),0) | none=>(0,7)) else (0,2)
def IsF (s:Sta) (l:List Lab) (k:Nat):Prop:=∃y,s.2.2.2[k]? = some y∧y.1=l∧LvX s y
noncomputable instance (s l k):Decidable (IsF s l k):=Classical.propDecidable _
def IsR (s:Sta) (k:Nat):Prop:=∃y,s.2.2.2[k]? = some y∧¬LvX s y
noncomputable instance (s k):Decidable (IsR s k):=Classical.propDecidable _
theorem u1v {s:Sta} {l:List Lab} {m:Nat} (h:IsF s l m) (hn:∀j,j<m→¬IsF s l j):i0d s l=some m:=by
 obtain ⟨y,h1,h2,h3⟩:=h;exact g0b.2 ⟨y,h1,h2,h3,fun j hj z hz k=>hn j hj ⟨z,hz,k.1,k.2⟩⟩
theorem find_no {s:Sta} {l:List Lab} (hn:∀j,j<s.2.2.2.length→¬IsF s l j):i0d s l=none:=by
 refine l0t.2 fun x hx k => ?_
 obtain ⟨i,hi,e⟩:=List.getElem_of_mem hx;exact hn i hi ⟨x,by rw[List.getElem?_eq_getElem hi,e],k.1,k.2⟩
theorem s1w {s:Sta} {m:Nat} (h:IsR s m) (hn:∀j,j<m→¬IsR s j):r0e s=some m:=by
 obtain ⟨y,h1,h2⟩:=h;exact l0k.2 ⟨y,h1,h2,fun j hj z hz=>Decidable.byContradiction fun k=>hn j hj ⟨z,hz,k⟩⟩
theorem room_no {s:Sta} (hn:∀j,j<s.2.2.2.length→¬IsR s j):r0e s=none:=by
 refine s1x.2 fun x hx=>Decidable.byContradiction fun k => ?_
 obtain ⟨i,hi,e⟩:=List.getElem_of_mem hx;exact hn i hi ⟨x,by rw[List.getElem?_eq_getElem hi,e],k⟩
theorem stt_find (n:Nat) {s:Sta} (hw:StaW s) (l:List Lab):e1f (n+10) s l=some (u1y s l):=by
 rw[m1m,e1g (n+5) s,obs,tfn,tfd];unfold u1y;by_cases h:Whole s
 case neg=>rw[if_neg h,if_neg h,if_neg (show ¬((sta0,(2:Int)).2=0) by decide)]
 rw[if_pos h,if_pos h,if_pos rfl];have his:∀k:Nat,k<s.2.2.2.length→(fun y1:Int×Unit=>f0c (n+9) y1.1 s l s) ((k:Int),())=some (decide (IsF s l k)):=by
  intro k hk;obtain ⟨y,hy⟩:=b2a hk;have hm:=(hw.at hy).2;show f0c (n+9) (k:Int) s l s=_;rw[e1e,i1a hy,obs,c1p (n+6) _ _ hm.l,obs,tfd,w0o (n+1) hy hm,obs];by_cases h1:y.1=l
  ·rw[if_pos h1];refine congrArg some (decide_eq_decide.2 ⟨fun k=>⟨y,hy,h1,k⟩,fun ⟨z,z1,z2,z3⟩ => ?_⟩);rw[hy] at z1;cases z1;exact z3
  ·rw[if_neg h1,decide_eq_false (fun q:IsF s l k=>by obtain ⟨z,z1,z2,z3⟩:=q;rw[hy] at z1;cases z1;exact h1 z2)]
 rcases t0g (n+8) s (fun y1:Int×Unit=>f0c (n+9) y1.1 s l s) (fun k=>decide (IsF s l k)) (by have:=h.len;omega) his with ⟨m,q1,q2,q3,q4⟩ | ⟨q1,q2⟩
 ·rw[show (fun y1:Int×Unit=>f0c (n+9) y1.1 s l (s,(0:Int)).1)=fun y1:Int×Unit=>f0c (n+9) y1.1 s l s from rfl,q4,obs,tfd,if_neg (by omega),u1v (of_decide_eq_true q2) (fun j hj=>of_decide_eq_false (q3 j hj))]
 ·rw[show (fun y1:Int×Unit=>f0c (n+9) y1.1 s l (s,(0:Int)).1)=fun y1:Int×Unit=>f0c (n+9) y1.1 s l s from rfl,q2,obs,tfd,if_pos (by decide),find_no (fun j hj=>of_decide_eq_false (q1 j hj))]
theorem stt_room (n:Nat) {s:Sta} (hw:StaW s):w0n (n+10) s=some (t1a s):=by
 rw[m1k,e1g (n+5) s,obs,tfn,tfd];unfold t1a;by_cases h:Whole s
 case neg=>rw[if_neg h,if_neg h,if_neg (show ¬((sta0,(2:Int)).2=0) by decide)]
 rw[if_pos h,if_pos h,if_pos rfl];have his:∀k:Nat,k<s.2.2.2.length→(fun y1:Int×Unit=>f0b (n+9) y1.1 s) ((k:Int),())=some (decide (IsR s k)):=by
  intro k hk;obtain ⟨y,hy⟩:=b2a hk;have hm:=(hw.at hy).2;show f0b (n+9) (k:Int) s=_;rw[e1c,w0o (n+1) hy hm,obs];by_cases h1:LvX s y
  ·rw[decide_eq_true h1,decide_eq_false (fun q:IsR s k=>by obtain ⟨z,z1,z2⟩:=q;rw[hy] at z1;cases z1;exact z2 h1)];rfl
  ·rw[decide_eq_false h1,decide_eq_true (show IsR s k from ⟨y,hy,h1⟩)];rfl
 rcases t0g (n+8) s (fun y1:Int×Unit=>f0b (n+9) y1.1 s) (fun k=>decide (IsR s k)) (by have:=h.len;omega) his with ⟨m,q1,q2,q3,q4⟩ | ⟨q1,q2⟩
 ·rw[show (fun y1:Int×Unit=>f0b (n+9) y1.1 (s,(0:Int)).1)=fun y1:Int×Unit=>f0b (n+9) y1.1 s from rfl,q4,obs,tfd,if_neg (by omega),s1w (of_decide_eq_true q2) (fun j hj=>of_decide_eq_false (q3 j hj))]
 ·rw[show (fun y1:Int×Unit=>f0b (n+9) y1.1 (s,(0:Int)).1)=fun y1:Int×Unit=>f0b (n+9) y1.1 s from rfl,q2,obs,tfd,if_pos (by decide),room_no (fun j hj=>of_decide_eq_false (q1 j hj))]
noncomputable def markV (s:Sta):Int:=if Whole s∧v0e s.2.1 then mk s else 0
theorem stt_mark (n:Nat) (s:Sta):e1d (n+5) s=some (markV s):=by
 rw[m1l,e1g n s,obs,tfn,tfd,m1o (n+3),obs,tfn,tfd];unfold markV;by_cases h:Whole s
 case neg=>rw[if_neg h,if_neg (show ¬((sta0,(2:Int)).2=0) by decide),if_neg (fun k=>h k.1)]
 rw[if_pos h,if_pos rfl];by_cases h1:v0e s.2.1
 case neg=>rw[if_neg h1,if_neg (fun k=>h1 k.2)]
 rw[if_pos h1,if_pos ⟨h,h1⟩,w1w (n+3) h1 h.1.rng.w0];rfl
theorem a2v (n:Nat) (a b:List Ser) (hL:a.length≤9223372036854775807) (eq:Ser×(Ser×Unit)→Option Bool) (he:∀x∈a,∀y,eq (x,(y,()))=some (decide (x=y))):∀(ra rb pa pb:List Ser) (f:Nat) (ix len:Int),a=pa++ra→b=pb++rb→pa.length=pb.length→ra.length=rb.length→ix=pa.length→len=a.length→ra.length<f →
  b0c n f (b,eq,a,len,ix,())=some (if ra=rb then .inl () else .inr false):=by
 intro ra;induction ra with
 | nil =>
  intro rb pa pb f ix len ha hb hp hr hi hn hf;obtain ⟨f,rfl⟩:∃g,f=g+1:=⟨f-1,by simp at hf;omega⟩;have:rb=[]:=List.length_eq_zero_iff.1 (by simpa using hr.symm);subst this;rw[b0s,decide_eq_false (idxe ha hi hn),tff,if_pos rfl]
 | cons x ra ih =>
  intro rb pa pb f ix len ha hb hp hr hi hn hf;obtain ⟨f,rfl⟩:∃g,f=g+1:=⟨f-1,by simp at hf;omega⟩;cases rb with
  | nil=>simp at hr
  | cons y rb =>
   have hlen:=congrArg List.length ha;simp at hlen;rw[b0s,decide_eq_true (idx ha hi hn),tft,b0u ha hi,obs,b0u hb (by rw[hi,hp]),obs,he x (by rw[ha];simp) y,obs,tfn,tfd,w64 (by omega) (by omega)];by_cases h:x=y
   ·subst h;rw[if_pos rfl,ih rb (pa++[x]) (pb++[x]) f (ix+1) len (idxl ha) (idxl hb) (by simp[hp]) (by simpa using hr) (idxs hi) hn (by simp at hf;omega)];by_cases h2:ra=rb
    ·rw[if_pos h2,if_pos (by rw[h2])]
    ·rw[if_neg h2,if_neg (by intro k;injection k with _ k;exact h2 k)]
   ·rw[if_neg h,if_neg (by intro k;injection k with k _;exact h k)]
theorem stt_same (n:Nat) {a:Sta} (ha:StaW a) (b:Sta):e1b (n+5) a b=some (decide (a=b)):=by
 have he:∀x∈a.2.2.2,∀y,(fun y0:Ser×(Ser×Unit)=>e0r (n+4) y0.1 y0.2.1) (x,(y,()))=some (decide (x=y)):=fun x hx y=>x0w (n+1) x y (ha.ser x hx).2
 rw[m1j,confEq,tfd,tfd,tfd,e0e,tfn,tfd];obtain ⟨a1,a2,a3,a4⟩:=a;obtain ⟨b1,b2,b3,b4⟩:=b;simp only at ha he ⊢;by_cases h1:a1=b1
 case neg=>rw[if_neg h1,decide_eq_false (fun k=>h1 (congrArg Prod.fst k))]
 rw[if_pos h1];by_cases h2:a2=b2
 case neg=>rw[if_neg h2,decide_eq_false (fun k=>h2 (congrArg (fun z=>z.2.1) k))]
 rw[if_pos h2];by_cases h3:a3=b3
 case neg=>rw[if_neg h3,decide_eq_false (fun k=>h3 (congrArg (fun z=>z.2.2.1) k))]
 rw[if_pos h3];by_cases h4:(a4.length:Int)=b4.length
 case neg=>rw[if_neg h4,obs,decide_eq_false (fun k=>h4 (congrArg (fun z=>((z.2.2.2.length:Nat):Int)) k))]
 rw[if_pos h4,a2v (n+3) a4 b4 ha.len (fun y0:Ser×(Ser×Unit)=>e0r (n+4) y0.1 y0.2.1) he a4 b4 [] [] a0b 0 _ rfl rfl rfl (by omega) rfl rfl (by have:=ha.len;simp only at this;unfold a0b;omega)];by_cases h5:a4=b4
 ·rw[if_pos h5,decide_eq_true (by rw[h1,h2,h3,h5])];rfl
 ·rw[if_neg h5,decide_eq_false (fun k=>h5 (congrArg (fun z=>z.2.2.2) k))];rfl
theorem sta0_w:StaW sta0:=⟨by simp[sta0],by simp[sta0]⟩
theorem g0y {l:List Slo} {a b:Int} (h:b0f l a) (hab:a≤b):b0f l b:=fun s hs hc=>by
 have:=h s hs hc;omega
theorem o1c {l:List Slo} {b i:Int} {x:Cel} (h:b0f l b) (hi:i<b):b0f (tput l i x) b:=by
 intro s hs hc;rcases List.mem_or_eq_of_mem_set hs with k | k
 ·exact h s k hc
 ·rw[k];exact hi
theorem g1y {a b w:Int} (hw:1≤w) (hab:a≤b) (h:a / w≠b / w):a / w<b / w:=by
 have:a / w≤b / w:=Int.ediv_le_ediv (by omega) hab;omega
theorem nb_upw {c:Conf} (hc:OkC c) {s:Trs} {T U:Int} (hTU:T≤U) (h0:b0f s.1 (U / c.2.1.1)) (h1:b0f s.2.1 (T / c.2.1.2.1)) (h2:b0f s.2.2 (T / c.2.1.2.2)) :
  b0f (upw c s (T / c.2.1.1) (U / c.2.1.1)).1 (U / c.2.1.1)∧b0f (upw c s (T / c.2.1.1) (U / c.2.1.1)).2.1 (U / c.2.1.2.1)∧b0f (upw c s (T / c.2.1.1) (U / c.2.1.1)).2.2 (U / c.2.1.2.2):=by
 have hr:=hc.rng;have q1:=(edvm (t:=T) hr.w0.1 hr.w1.1 hc.m1).1;have q1u:=(edvm (t:=U) hr.w0.1 hr.w1.1 hc.m1).1;have q2:=(edvm (t:=T) hr.w0.1 hr.w2.1 hc.m02).1;have q2u:=(edvm (t:=U) hr.w0.1 hr.w2.1 hc.m02).1;have m1:T / c.2.1.2.1≤U / c.2.1.2.1:=Int.ediv_le_ediv (by have:=hr.w1;omega) hTU;have m2:T / c.2.1.2.2≤U / c.2.1.2.2:=Int.ediv_le_ediv (by have:=hr.w2;omega) hTU;have u1:b0f (up1 c s (T / c.2.1.1) (U / c.2.1.1)).1 (U / c.2.1.1)∧b0f (up1 c s (T / c.2.1.1) (U / c.2.1.1)).2.1 (U / c.2.1.2.1)∧b0f (up1 c s (T / c.2.1.1) (U / c.2.1.1)).2.2 (T / c.2.1.2.2):=by
  unfold up1;rw[q1,q1u];split
  ·exact ⟨h0,g0y h1 m1,h2⟩
  ·rename_i hne;split
   ·exact ⟨h0,o1c (g0y h1 m1) (by omega),h2⟩
   ·exact ⟨h0,g0y h1 m1,h2⟩
 unfold upw;generalize up1 c s (T / c.2.1.1) (U / c.2.1.1)=v at u1;unfold up2;rw[q2,q2u];split
 ·exact ⟨u1.1,u1.2.1,g0y u1.2.2 m2⟩
 ·rename_i hne;split
  ·exact ⟨u1.1,u1.2.1,o1c (g0y u1.2.2 m2) (by omega)⟩
  ·exact ⟨u1.1,u1.2.1,g0y u1.2.2 m2⟩
theorem t1g {r:Rw} {room:Int} {e:Ev} (h:RawOk r room) (he:EvOk e) (ha:After r.2.2 e) (hl:¬((r.2.2.length:Int)=room∧r.1=70368744177664)):RawOk (m0x r room e) room∧(m0x r room e).2.2.getLast? = some e:=by
 have hf:Foll (r.2.2++[e]):=by
  refine d0b.2 ⟨h.f,⟨by simp[he],by simp⟩,fun x hx y hy => ?_⟩;simp at hy;subst hy;have hn:r.2.2≠[]:=List.ne_nil_of_mem hx;have hg:=List.getLast?_eq_some_getLast hn;have:=ha _ hg;rcases List.eq_nil_or_concat r.2.2 with k | ⟨p,z,k⟩
  ·exact absurd k hn
  ·rw[List.concat_eq_append] at k;have hz:r.2.2.getLast hn=z:=by simp[k]
   rw[hz] at this;rw[k] at hx;rcases List.mem_append.1 hx with q | q
   ·have hf:=h.f;rw[k] at hf;have:=(d0b.1 hf).2.2 x q z (by simp);omega
   ·simp at q;rw[q];exact this
 unfold m0x;by_cases h1:(r.2.2.length:Int)<room
 ·rw[if_pos h1];refine ⟨⟨h.m0,h.m1,by simp;omega,h.l0,h.l1,hf,h.z,fun k => ?_⟩,by simp⟩;have:=(h.p k).1;omega
 ·rw[if_neg h1];have hlen:=h.len;have hlen':(r.2.2.length:Int)=room:=by omega
  have m0:=h.m0;cases hc:r.2.2 with
  | nil=>rw[hc] at hlen';simp at hlen';omega
  | cons a t =>
   rw[hc] at hf hlen';have hfa:=a2a.1 hf;simp only[List.drop_succ_cons,List.drop_zero,List.headD_cons];refine ⟨⟨h.m0,h.m1,by simp at hlen' ⊢;omega,by have:=h.l0;simp only;omega,?_,hfa.2.2,fun k => ?_,fun _=>⟨by simp at hlen' ⊢;omega,hfa.1.t0,fun x hx => ?_⟩⟩,by simp⟩
   ·have:=h.l1;have:r.1≠70368744177664:=fun k=>hl ⟨by rw[hc];exact hlen',k⟩
    simp only;omega
   ·have:=h.l0;simp only at k;omega
   ·exact hfa.2.1 x (List.mem_of_mem_head? hx)
theorem mrg_fits {a:Cel} {e:Ev} {w i:Int} (h:FitsP a w i) (he:EvOk e) (hlt:a.2.2.1.1<e.1) (hi:e.1 / w=i):FitsP (mrg a (d0k e)) w i:=by
 have hm:=o1d h.n (n0l he);refine ⟨mrg_N h.n (n0l he) hlt,h.w0,h.w1,?_,?_⟩
 ·rw[hm];exact h.f
 ·rw[hm];exact hi
theorem x0y {c:Conf} {s t:Ser} {e:Ev} (h:SerOk c s) (hp:putE c s e=(t,0)):SerOk c t∧EvOk e∧s.2.1<e.1∧t.2.1=e.1∧t.1=s.1:=by
 have hr:=h.fold.cok.rng;unfold putE at hp;by_cases h1:SerOk c s∧EvOk e
 case neg=>rw[if_neg h1] at hp;cases hp
 rw[if_pos h1] at hp;have he:=h1.2;by_cases h2:e.1≤s.2.1
 ·rw[if_pos h2] at hp;cases hp
 rw[if_neg h2] at hp;by_cases h3:(turned c s (e.1 / c.2.1.1)).2≠0
 ·rw[if_pos h3] at hp;exact absurd (congrArg Prod.snd hp) h3
 rw[if_neg h3] at hp;by_cases h4:(o0g s.2.2.1 c.1 e).2≠0
 ·rw[if_pos h4] at hp;exact absurd (congrArg Prod.snd hp) h4
 rw[if_neg h4] at hp;by_cases h5:(mrgE (turned c s (e.1 / c.2.1.1)).1.2.2 (d0k e)).2≠0
 ·rw[if_pos h5] at hp;exact absurd (congrArg Prod.snd hp) h5
 rw[if_neg h5] at hp;have hp:=(Prod.ext_iff.1 hp).1;simp only at hp;subst hp;refine ⟨?_,he,by omega,rfl,rfl⟩;have h3:(turned c s (e.1 / c.2.1.1)).2=0:=Decidable.byContradiction h3;have h4:(o0g s.2.2.1 c.1 e).2=0:=Decidable.byContradiction h4;have h5:(mrgE (turned c s (e.1 / c.2.1.1)).1.2.2 (d0k e)).2=0:=Decidable.byContradiction h5;have e0:0≤e.1:=he.t0;have hraw:RawOk (o0g s.2.2.1 c.1 e).1 c.1∧(o0g s.2.2.1 c.1 e).1.2.2.getLast? = some e:=by
  unfold o0g at h4 ⊢;rw[if_pos ⟨h.raw,he⟩] at h4 ⊢;by_cases k1:After s.2.2.1.2.2 e
  case neg=>rw[if_neg k1] at h4;cases h4
  rw[if_pos k1] at h4 ⊢;by_cases k2:(s.2.2.1.2.2.length:Int)=c.1∧s.2.2.1.1=70368744177664
  ·rw[if_pos k2] at h4;cases h4
  rw[if_neg k2] at h4 ⊢;exact t1g h.raw he k1 k2
 have key:FoldOk c (turned c s (e.1 / c.2.1.1)).1.1∧b0f (turned c s (e.1 / c.2.1.1)).1.1.1 (e.1 / c.2.1.1)∧b0f (turned c s (e.1 / c.2.1.1)).1.1.2.1 (e.1 / c.2.1.2.1)∧b0f (turned c s (e.1 / c.2.1.1)).1.1.2.2 (e.1 / c.2.1.2.2) ∧
   FitsP (mrgE (turned c s (e.1 / c.2.1.1)).1.2.2 (d0k e)).1 c.2.1.1 (e.1 / c.2.1.1)∧(mrgE (turned c s (e.1 / c.2.1.1)).1.2.2 (d0k e)).1.2.2.1.1=e.1:=by
  have fresh1:FitsP (d0k e) c.2.1.1 (e.1 / c.2.1.1):=⟨n0l he,hr.w0.1,hr.w0.2,rfl,rfl⟩;have z1:mrgE s0.2 (d0k e)=(d0k e,0):=mrgE_z0 (n0l he).ok;rcases h.st with ⟨l1,hf⟩ | ⟨l1,hd⟩
  ·have ht:turned c s (e.1 / c.2.1.1)=((s.2.2.2.1,s.2.2.2.2),0):=by
    unfold turned;rw[if_neg (fun k:p1j s _=>k.1 hf.opn)]
   rw[ht];simp only;rw[hf.opn,z1];exact ⟨h.fold,g0y hf.b0 (Int.ediv_nonneg e0 (by have:=hr.w0;omega)),g0y hf.b1 (Int.ediv_nonneg e0 (by have:=hr.w1;omega)),g0y hf.b2 (Int.ediv_nonneg e0 (by have:=hr.w2;omega)),fresh1,rfl⟩
  ·have hT:s.2.1≤e.1:=by omega
   have ho:s.2.2.2.2.1=s.2.1 / c.2.1.1:=by rw[←hd.fit.l,hd.ol]
   by_cases hts:p1j s (e.1 / c.2.1.1)
   ·have hlt:s.2.1 / c.2.1.1<e.1 / c.2.1.1:=g1y hr.w0.1 hT (by rw[←ho];exact hts.2);have hcl:v0x c s.2.2.2.1 s.2.2.2.2 (e.1 / c.2.1.1)=(upw c (tput s.2.2.2.1.1 s.2.2.2.2.1 s.2.2.2.2.2,s.2.2.2.1.2) (s.2.1 / c.2.1.1) (e.1 / c.2.1.1),0):=by
     unfold v0x;rw[if_pos h.fold,if_neg hts.1,if_pos hd.fit,if_neg hts.2,if_pos ⟨by omega,a2m he hr.w0.1⟩,ho]
    have ht:turned c s (e.1 / c.2.1.1)=((upw c (tput s.2.2.2.1.1 s.2.2.2.2.1 s.2.2.2.2.2,s.2.2.2.1.2) (s.2.1 / c.2.1.1) (e.1 / c.2.1.1),s0),0):=by
     unfold turned;rw[if_pos hts,hcl,if_pos rfl]
    rw[ht];simp only;rw[z1];obtain ⟨n0,n1,n2⟩:=nb_upw (s:=(tput s.2.2.2.1.1 s.2.2.2.2.1 s.2.2.2.2.2,s.2.2.2.1.2)) h.fold.cok hT (o1c (g0y hd.b0 (by omega)) (by omega)) hd.b1 hd.b2;exact ⟨upw_ok (y0s h.fold hd.fit) _ _,n0,n1,n2,fresh1,rfl⟩
   ·have ht:turned c s (e.1 / c.2.1.1)=((s.2.2.2.1,s.2.2.2.2),0):=by
     unfold turned;rw[if_neg hts]
    have hop:s.2.2.2.2≠s0:=fun k=>by have:=hd.fit.n.n1;rw[k] at this;simp[s0,z0] at this
    have hw:s.2.2.2.2.1=e.1 / c.2.1.1:=Decidable.byContradiction fun k=>hts ⟨hop,k⟩
    rw[ht] at h5 ⊢;simp only at h5 ⊢;obtain ⟨k1,k2,k3,k4,k5⟩:=o1e h5;rw[k4];have hfit:=hd.fit;rw[hw] at hfit;have hm:=o1d hd.fit.n (n0l he);exact ⟨h.fold,g0y hd.b0 (by omega),g0y hd.b1 (Int.ediv_le_ediv (by have:=hr.w1;omega) hT),g0y hd.b2 (Int.ediv_le_ediv (by have:=hr.w2;omega) hT),
     mrg_fits hfit he (by have:=hd.ol;omega) rfl,by rw[hm];rfl⟩
 obtain ⟨k1,k2,k3,k4,k5,k6⟩:=key;exact ⟨k1,h.lab,hraw.1,.inr ⟨by show e.1 ≠ -1;omega,⟨e,hraw.2,rfl⟩,k6,k5,k2,k3,k4⟩⟩
def setS (s:Sta) (i:Nat) (y:Ser):Sta:=(s.1,(s.2.1,(s.2.2.1,s.2.2.2.set i y)))
noncomputable def xOf (s:Sta) (l:List Lab) (w:Int×(Bool×Int)):Ser:=if w.2.1=true then (newV s.1 l).1 else (s.2.2.2[w.1.toNat]?).getD ser0
noncomputable def c0g (s:Sta) (l:List Lab) (e:Ev):Sta×Int :=
 if (d0f s l e).2.2≠0 then (sta0,(d0f s l e).2.2)
 else if (putE s.1 (xOf s l (d0f s l e)) e).2≠0 then (sta0,(putE s.1 (xOf s l (d0f s l e)) e).2)
 else (setS s (d0f s l e).1.toNat (putE s.1 (xOf s l (d0f s l e)) e).1,0)
structure Goes (s:Sta) (l:List Lab) (e:Ev):Prop where
 st:StaOk s
 lab:LabOk l
 ev:EvOk e
 lo:mk s≤e.1
 hi:e.1<mk s+s.1.2.1.1
inductive PlaceAt (s:Sta) (l:List Lab) (e:Ev):Nat→Ser→Bool→Prop
 | found {i:Nat} {x:Ser} (hf:i0d s l=some i) (hx:s.2.2.2[i]? = some x) (hl:x.1=l) (hlv:LvX s x) (ht:x.2.1<e.1):PlaceAt s l e i x false
 | room {i:Nat} (hf:i0d s l=none) (hs:e.2.2.2=false) (hr:r0e s=some i):PlaceAt s l e i (l,(-1,(r0w,(emp s.1,s0)))) true
theorem o1b {c:Conf} {l:List Lab} (h:OkC c) (hl:LabOk l):newV c l=((l,(-1,(r0w,(emp c,s0)))),0):=by
 unfold newV;rw[if_pos h,if_pos hl]
theorem q1s {s:Sta} {l:List Lab} {e:Ev} (h:(d0f s l e).2.2=0):Goes s l e∧∃i x b,PlaceAt s l e i x b∧(d0f s l e).1.toNat=i∧xOf s l (d0f s l e)=x∧d0f s l e=((i:Int),(b,0)):=by
 unfold d0f at h ⊢;by_cases h1:StaOk s
 case neg=>rw[if_pos h1] at h;cases h
 rw[if_neg (fun k=>k h1)] at h ⊢;by_cases h2:LabOk l
 case neg=>rw[if_pos h2] at h;cases h
 rw[if_neg (fun k=>k h2)] at h ⊢;by_cases h3:EvOk e
 case neg=>rw[if_pos h3] at h;cases h
 rw[if_neg (fun k=>k h3)] at h ⊢;by_cases h4:e.1<mk s∨mk s+s.1.2.1.1≤e.1
 ·rw[if_pos h4] at h;cases h
 rw[if_neg h4] at h ⊢;refine ⟨⟨h1,h2,h3,by omega,by omega⟩,?_⟩;cases hf:i0d s l with
 | some i =>
  rw[hf] at h;simp only at h ⊢;obtain ⟨x,hx,k1,k2,k3⟩:=g0b.1 hf;rw[hx] at h ⊢;simp only[Option.getD_some] at h ⊢;by_cases h5:e.1≤x.2.1
  ·rw[if_pos h5] at h;cases h
  rw[if_neg h5];exact ⟨i,x,false,.found hf hx k1 k2 (by omega),rfl,by unfold xOf;simp[hx],rfl⟩
 | none =>
  rw[hf] at h;simp only at h ⊢;cases h5:e.2.2.2 with
  | true=>rw[h5,if_pos rfl] at h;cases h
  | false =>
   rw[h5,if_neg (by simp)] at h;rw[if_neg (by simp)];cases hr:r0e s with
   | none=>rw[hr] at h;cases h
   | some i =>
    simp only;exact ⟨i,_,true,.room hf h5 hr,rfl,by unfold xOf;rw[if_pos rfl,o1b h1.whole.1 h2],rfl⟩
theorem w0s {s:Sta} {l:List Lab} {e:Ev} (h:Goes s l e) {i:Nat} {x:Ser} {b:Bool} (hp:PlaceAt s l e i x b):SerOk s.1 x∧x.1=l∧i<s.2.2.2.length∧x.2.1<e.1:=by
 cases hp with
 | found hf hx hl hlv ht =>
  rcases h.st.right _ _ hx with k | k
  ·exact absurd k hlv.1
  ·exact ⟨k.1,hl,(List.getElem?_eq_some_iff.1 hx).1,ht⟩
 | room hf hs hr =>
  obtain ⟨y,hy,_⟩:=l0k.1 hr;exact ⟨j1a (y1q h.st.whole.1 h.lab),rfl,(List.getElem?_eq_some_iff.1 hy).1,by have:=h.ev.t0;show (-1:Int)<e.1;omega⟩
theorem d1l {s t:Sta} {l:List Lab} {e:Ev} (h:c0g s l e=(t,0)):Goes s l e∧∃i x b y,PlaceAt s l e i x b∧putE s.1 x e=(y,0)∧t=setS s i y∧d0f s l e=((i:Int),(b,0)):=by
 unfold c0g at h;by_cases h1:(d0f s l e).2.2=0
 case neg=>rw[if_pos h1] at h;exact absurd (congrArg Prod.snd h) h1
 rw[if_neg (fun k=>k h1)] at h;obtain ⟨hg,i,x,b,k1,k2,k3,k4⟩:=q1s h1;rw[k2,k3] at h;by_cases h2:(putE s.1 x e).2=0
 case neg=>rw[if_pos h2] at h;exact absurd (congrArg Prod.snd h) h2
 rw[if_neg (fun k=>k h2)] at h;exact ⟨hg,i,x,b,_,k1,Prod.ext rfl h2,(congrArg Prod.fst h).symm,k4⟩
theorem g0h (s:Sta) (i:Nat) (y:Ser) (j:Nat):(setS s i y).2.2.2[j]? = if i=j then (if i<s.2.2.2.length then some y else none) else s.2.2.2[j]? := by
 unfold setS;simp only[List.getElem?_set]
theorem y1p {s:Sta} (h:StaOk s) {y:Ser} (hn:y≠ser0) (h1:mk s≤y.2.1) (h2:y.2.1<35184372088832):LvX s y:=by
 refine ⟨hn,?_⟩;rcases h.clock.2.1 with k | k
 ·exact .inl k
 ·refine .inr ?_;have hr:=h.whole.1.rng;have hc:=h.clock.2.2;obtain ⟨m1,m2,m3,m4⟩:=s0u h.clock.1 hr.w0;have e1:s.2.2.1 / s.1.2.1.1≤y.2.1 / s.1.2.1.1:=by
   have a1:s.2.1 / s.1.2.1.1≤y.2.1 / s.1.2.1.1:=by
    rw[Int.le_ediv_iff_mul_le (by omega)];exact h1
   have a2:s.2.2.1 / s.1.2.1.1≤s.2.1 / s.1.2.1.1:=Int.ediv_le_ediv (by omega) hc;omega
  unfold b2d;have g:a1y y.2.1 s.2.2.1 s.1.2.1.1 s.1.2.2.1.1=false:=by
   unfold a1y oldV;have n0:=hr.n0;have:=Int.ediv_nonneg k.1 (show 0≤s.1.2.1.1 by omega);rw[if_pos ⟨⟨k.1,k.2,hr.w0.1,hr.w0.2⟩,n0.1,n0.2⟩];refine decide_eq_false fun q => ?_
   have q:=q.2.2;simp only at q;split at q<;>omega
  rw[g];simp
theorem m1n {s t:Sta} {l:List Lab} {e:Ev} (h:c0g s l e=(t,0)):StaOk t:=by
 obtain ⟨hg,i,x,b,y,hp,hput,rfl,_⟩:=d1l h;obtain ⟨p1,p2,p3,p4⟩:=w0s hg hp;obtain ⟨q1,q2,q3,q4,q5⟩:=x0y p1 hput;have hst:=hg.st;refine ⟨⟨hst.whole.1,by simpa [setS] using hst.whole.2⟩,hst.clock,fun j z hz => ?_⟩;rw[g0h] at hz;by_cases hij:i=j
 ·subst hij;rw[if_pos rfl,if_pos p3] at hz;cases hz;refine .inr ⟨q1,by rw[q4];exact hg.ev.t0,by rw[q4];exact hg.hi,?_⟩;rintro ⟨_,k,hk,w,hw,hlw,hwl⟩;rw[g0h,if_neg (by omega)] at hw;rw[q5,p2] at hwl;cases hp with
  | found hf hx hl hlv ht =>
   obtain ⟨_,_,_,_,first⟩:=g0b.1 hf;exact first k hk w hw ⟨hwl,hlw⟩
  | room hf hs hr=>exact l0t.1 hf w (List.mem_of_getElem? hw) ⟨hwl,hlw⟩
 ·rw[if_neg hij] at hz;rcases hst.right j z hz with k | ⟨k1,k2,k3,k4⟩
  ·exact .inl k
  ·refine .inr ⟨k1,k2,k3,?_⟩;rintro ⟨hlz,k,hk,w,hw,hlw,hwl⟩;rw[g0h] at hw;by_cases hik:i=k
   ·subst hik;rw[if_pos rfl,if_pos p3] at hw;cases hw;rw[q5,p2] at hwl;cases hp with
    | found hf hx hl hlv ht=>exact k4 ⟨hlz,i,hk,x,hx,hlv,hl.trans hwl⟩
    | room hf hs hr=>exact l0t.1 hf z (List.mem_of_getElem? hz) ⟨hwl.symm,hlz⟩
   ·rw[if_neg hik] at hw;exact k4 ⟨hlz,k,hk,w,hw,hlw,hwl⟩
noncomputable def t1l (s:Sta):Int×Int:=if StaOk s then (mk s,if 35184372088832<mk s+s.1.2.1.1 then 35184372088832 else mk s+s.1.2.1.1) else (0,0)
theorem markV_ok {s:Sta} (h:StaOk s):markV s=mk s∧IntKind.wrap .i64 (mk s+s.1.2.1.1)=mk s+s.1.2.1.1:=by
 have hr:=h.whole.1.rng.w0;have ht:=h.clock.1.2;obtain ⟨m1,m2,m3,m4⟩:=s0u h.clock.1 hr;exact ⟨if_pos ⟨h.whole,h.clock.1⟩,w64 (by omega) (by omega)⟩
theorem s1u (n:Nat) {s:Sta} (hw:StaW s):u0f (n+15) s=some (t1l s):=by
 rw[e1p,x0o n hw,obs,tfn,tfd,stt_mark (n+9) s];unfold t1l;by_cases h:StaOk s
 case neg=>rw[if_neg h,if_neg h,if_neg (show ¬((2:Int)=0) by decide)]
 obtain ⟨e1,e2⟩:=markV_ok h;rw[if_pos h,if_pos h,if_pos rfl,obs,e1,e2]
theorem q1e {s:Sta} {e:Ev} (h:StaOk s) (he:EvOk e):(e.1<(t1l s).1∨(t1l s).2≤e.1)↔(e.1<mk s∨mk s+s.1.2.1.1≤e.1):=by
 have:=he.t1;unfold t1l;rw[if_pos h];simp only;split<;>omega
theorem u1w {s:Sta} (h:Whole s) {l:List Lab} {i:Nat} (hf:i0d s l=some i):u1y s l=((i:Int),0):=by
 unfold u1y;rw[if_pos h,hf]
theorem u1x {s:Sta} (h:Whole s) {l:List Lab} (hf:i0d s l=none):u1y s l=(0,3):=by
 unfold u1y;rw[if_pos h,hf]
theorem s1y {s:Sta} (h:Whole s) {i:Nat} (hf:r0e s=some i):t1a s=((i:Int),0):=by
 unfold t1a;rw[if_pos h,hf]
theorem s1z {s:Sta} (h:Whole s) (hf:r0e s=none):t1a s=(0,7):=by
 unfold t1a;rw[if_pos h,hf]
theorem l1z {s:Sta} {l:List Lab} {e:Ev} (h:StaOk s) (h1:LabOk l) (h2:EvOk e) (h3:¬(e.1<mk s∨mk s+s.1.2.1.1≤e.1)) :
  d0f s l e=match i0d s l with
   | some i=>if e.1≤((s.2.2.2[i]?).getD ser0).2.1 then (0,(false,9)) else ((i:Int),(false,0))
   | none=>if e.2.2.2=true then (0,(false,3)) else match r0e s with | some i=>((i:Int),(true,0)) | none=>(0,(false,7)):=by
 unfold d0f;rw[if_neg (fun k=>k h),if_neg (fun k=>k h1),if_neg (fun k=>k h2),if_neg h3]
 all_goals (cases i0d s l<;>first | rfl | (cases r0e s<;>rfl))
theorem m1z (n:Nat) {s:Sta} (hw:StaW s) (l:List Lab) {e:Ev} (he:EvW e):r0d (n+16) s l e=some (d0f s l e):=by
 rw[z0y,x0o (n+1) hw,obs,tfn,tfd,n0h _ l,e0u _ he,s1u n hw,stt_find (n+5) hw l,stt_room (n+5) hw];by_cases h:StaOk s
 case neg =>
  rw[if_neg h,if_neg (show ¬((2:Int)=0) by decide)];unfold d0f;rw[if_pos h]
 rw[if_pos h,if_pos rfl,obs,tfn,tfd];by_cases h1:LabOk l
 case neg =>
  rw[if_neg h1,if_neg (show ¬((8:Int)=0) by decide)];unfold d0f;rw[if_neg (fun k=>k h),if_pos h1]
 rw[if_pos h1,if_pos rfl,obs,tfn,tfd];by_cases h2:EvOk e
 case neg =>
  rw[if_neg h2,if_neg (show ¬((2:Int)=0) by decide)];unfold d0f;rw[if_neg (fun k=>k h),if_neg (fun k=>k h1),if_pos h2]
 rw[if_pos h2,if_pos rfl,obs,obs,tfd,tfd];by_cases h3:e.1<mk s∨mk s+s.1.2.1.1≤e.1
 ·have ht:d0f s l e=(0,(false,9)):=by
   unfold d0f;rw[if_neg (fun k=>k h),if_neg (fun k=>k h1),if_neg (fun k=>k h2),if_pos h3]
  rw[ht];rcases (q1e h h2).2 h3 with q | q
  ·rw[if_pos q]
  ·by_cases q':e.1<(t1l s).1
   ·rw[if_pos q']
   ·rw[if_neg q',if_pos q]
 have h3':=mt (q1e h h2).1 h3;rw[if_neg (fun k=>h3' (.inl k)),if_neg (fun k=>h3' (.inr k)),l1z h h1 h2 h3,tfd];cases hf:i0d s l with
 | some i =>
  obtain ⟨x,hx,_⟩:=g0b.1 hf;rw[u1w h.whole hf,if_pos rfl,i1a hx,obs,tfd];simp only[hx,Option.getD_some];by_cases h4:e.1≤x.2.1
  ·rw[if_pos h4,if_pos h4]
  ·rw[if_neg h4,if_neg h4];rfl
 | none =>
  rw[u1x h.whole hf,if_neg (show ¬((3:Int)=0) by decide),show (decide (((0:Int),(3:Int)).2=0))=false from rfl,tff];cases hs:e.2.2.2 with
  | true=>rw[tft];simp
  | false =>
   rw[tff,obs];simp only[Bool.false_eq_true,if_false];cases hr:r0e s with
   | some i=>rw[s1y h.whole hr];rfl
   | none=>rw[s1z h.whole hr];rfl
theorem w1b {s:Sta} {l:List Lab} {e:Ev} (h:(d0f s l e).2.2≠0):c0g s l e=(sta0,(d0f s l e).2.2):=by
 unfold c0g;rw[if_pos h]
theorem b2l (n:Nat) (s:List Ser) (h:s.length≤1000000):j0t (n+1) s=some s:=by
 rw[s0m,decide_eq_true (show (0+s.length)*264≤140737488355328 by omega)];simp only[tft,List.nil_append];by_cases h0:s.length=0
 ·rw[decide_eq_true h0,tft,List.length_eq_zero_iff.1 h0,l1l]
 ·rw[decide_eq_false h0,tff]
theorem place_w {s:Sta} (hw:StaW s) {l:List Lab} {e:Ev} (hg:Goes s l e) {i:Nat} {x:Ser} {b:Bool} (hp:PlaceAt s l e i x b):SerW x:=by
 cases hp with
 | found hf hx hl hlv ht=>exact (hw.at hx).1
 | room hf hs hr=>exact serInv_w (y1q hg.st.whole.1 hg.lab)
theorem v1w {s:Sta} {l:List Lab} {e:Ev} {i:Nat} {x:Ser} {b:Bool} (hp:(d0f s l e).1.toNat=i) (hx:xOf s l (d0f s l e)=x) (h:(d0f s l e).2.2=0) :
  c0g s l e=if (putE s.1 x e).2=0 then (setS s i (putE s.1 x e).1,0) else (sta0,(putE s.1 x e).2):=by
 unfold c0g;rw[if_neg (fun k=>k h),hp,hx];by_cases h1:(putE s.1 x e).2=0
 ·rw[if_neg (fun k=>k h1),if_pos h1]
 ·rw[if_pos h1,if_neg h1]
theorem set_tail {s:Sta} {i:Nat} (hi:i<s.2.2.2.length) (y:Ser) :
  (a0a (at? s.2.2.2 (i:Int)) fun r4=>a0a ((s.2.2.2)[(Int.toNat (i:Int))]?) fun r5=>some ((s.1,(s.2.1,(s.2.2.1,(List.set s.2.2.2 (Int.toNat (i:Int)) y)))),(0:Int)))=some (setS s i y,0):=by
 obtain ⟨z,hz⟩:=b2a hi;rw[i1a hz,obs,Int.toNat_natCast,hz,obs];rfl
theorem v1x (n:Nat) {s:Sta} (hw:StaW s) (l:List Lab) {e:Ev} (he:EvW e):j0n (n+24) s l e=some (c0g s l e):=by
 rw[i1e,m1z (n+7) hw l he,obs,tfn,tfd];by_cases h:(d0f s l e).2.2=0
 case neg=>rw[if_neg h,w1b h];rfl
 obtain ⟨hg,i,x,b,hp,k1,k2,hv⟩:=q1s h;obtain ⟨p1,p2,p3,p4⟩:=w0s hg hp;rw[if_pos h,v1w (b:=b) k1 k2 h,hv,z0q];have hx:(tif b (a0a (p0o (n+22) s.1 l) fun r0=>some r0) (a0a (at? s.2.2.2 (i:Int)) fun r1=>some (r1,(0:Int))))=some (x,0):=by
  cases hp with
  | found hf hx hl hlv ht=>rw[tff,i1a hx,obs]
  | room hf hs hr=>rw[tft,s1s (n+15),o1b hg.st.whole.1 hg.lab,obs]
 simp only;rw[hx,obs,tfn,tfd,if_pos rfl];simp only;rw[s1r n s.1 (place_w hw hg hp) he,obs,tfn,tfd];by_cases h1:(putE s.1 x e).2=0
 case neg=>rw[if_neg h1,if_neg h1];rfl
 rw[if_pos h1,if_pos h1,b2l (n+22) _ (by have:=hg.st.whole.len;omega),obs,set_tail p3]
theorem serW_put {c:Conf} {s t:Ser} {e:Ev} (h:SerOk c s) (hp:putE c s e=(t,0)):SerW t∧SerM t:=by
 obtain ⟨q1,q2,q3,q4,q5⟩:=x0y h hp;have hc:=q1.fold.cok.rng;refine ⟨⟨?_,fun x hx=>EvW.of (q1.raw.f.ok x hx),q1.fold.w,?_⟩,?_⟩
 ·have:=q2.t0;have:=q2.t1;rw[q4];unfold I64;omega
 ·rcases q1.st with ⟨_,k⟩ | ⟨_,k⟩
  ·rw[k.opn];exact e1j
  ·have:=k.fit.i0;exact ⟨by unfold I64;omega,.of k.fit.n.ok⟩
 ·have l1:=q1.lab.n1;have l2:=q1.raw.len;have l3:=q1.raw.m1;have:=q1.fold.lens;exact ⟨by omega,by omega,by omega,by omega,by omega⟩
theorem write_w {s t:Sta} (hw:StaW s) {l:List Lab} {e:Ev} {v:Int} (h:c0g s l e=(t,v)):StaW t:=by
 by_cases hv:v=0
 ·subst hv;obtain ⟨hg,i,x,b,y,hp,hput,rfl,_⟩:=d1l h;obtain ⟨p1,p2,p3,p4⟩:=w0s hg hp;have hy:=serW_put p1 hput;refine ⟨by simpa [setS] using hw.len,fun z hz => ?_⟩;rcases List.mem_or_eq_of_mem_set hz with k | k
  ·exact hw.ser z k
  ·rw[k];exact hy
 ·have:t=sta0:=by
   unfold c0g at h;split at h
   ·exact (congrArg Prod.fst h).symm
   ·split at h
    ·exact (congrArg Prod.fst h).symm
    ·exact absurd (congrArg Prod.snd h).symm hv
  rw[this];exact sta0_w
theorem writeV_w {s:Sta} (hw:StaW s) (l:List Lab) (e:Ev):StaW (c0g s l e).1:=write_w hw (v:=(c0g s l e).2) rfl
end Go.Proofs.YtfibfcjepngbmaaGreatDoor

namespace Go.Plim
set_option linter.unusedVariables false
def tz:Nat→Nat→Nat
 | 0,_=>0
 | k+1,x=>if x % 2=1 then 0 else tz k (x / 2)+1
def bl:Nat→Nat→Nat
 | 0,_=>0
 | k+1,x=>if x=0 then 0 else bl k (x / 2)+1
end Go.Plim

namespace Go.Plim
set_option linter.unusedVariables false
def ndF:Nat→Nat→Nat
 | 0,_=>1
 | f+1,u=>if u<10 then 1 else ndF f (u / 10)+1
def ndg (u:Nat):Nat:=ndF 64 u
def dgs:Nat→Nat→List Int
 | _,0=>[]
 | u,k+1=>dgs (u / 10) k++[((48+u % 10:Nat):Int)]
def decI (u:Nat):List Int:=dgs u (ndg u)
theorem ndF_of:∀(d f u:Nat),d<f→(0<d→10^d≤u)→u<10^(d+1)→ndF f u=d+1:=by
 intro d;induction d with
 | zero =>
  intro f u hf _ h;obtain ⟨g,rfl⟩:∃g,f=g+1:=⟨f-1,by omega⟩;simp only[ndF];rw[if_pos (by simpa using h)]
 | succ d ih =>
  intro f u hf h1 h2;obtain ⟨g,rfl⟩:∃g,f=g+1:=⟨f-1,by omega⟩;have h1:=h1 (by omega);have hp:1≤10^d:=Nat.one_le_pow _ _ (by omega);have e:10^(d+1)=10*10^d:=by rw[Nat.pow_succ,Nat.mul_comm]
  have e2:10^(d+1+1)=10*10^(d+1):=by rw[Nat.pow_succ,Nat.mul_comm]
  simp only[ndF];rw[if_neg (by omega),ih g (u / 10) (by omega) (fun _=>by rw[Nat.le_div_iff_mul_le (by omega)];omega) (by rw[Nat.div_lt_iff_lt_mul (by omega)];omega)]
theorem ndg_of {d u:Nat} (hd:d<64) (h1:0<d→10^d≤u) (h2:u<10^(d+1)):ndg u=d+1:=ndF_of d 64 u hd h1 h2
theorem y1r {u:Nat} (h:u<10):ndg u=1:=ndg_of (by omega) (fun h=>by omega) (by simpa using h)
theorem ndF_up:∀(f u:Nat),u<10^(f+1)→∀g,f≤g→ndF g u=ndF f u:=by
 intro f;induction f with
 | zero=>intro u h g _;cases g with
  | zero=>rfl
  | succ g=>simp only[ndF];rw[if_pos (by simpa using h)]
 | succ f ih =>
  intro u h g hg;obtain ⟨k,rfl⟩:∃k,g=k+1:=⟨g-1,by omega⟩;simp only[ndF];split
  ·rfl
  ·rw[ih (u / 10) (by rw[Nat.div_lt_iff_lt_mul (by omega)];rw[Nat.pow_succ] at h;exact h) k (by omega)]
theorem ndg_step {u:Nat} (h:10≤u) (hu:u<10^63):ndg u=ndg (u / 10)+1:=by
 unfold ndg
 conv=>lhs;unfold ndF
 rw[if_neg (by omega),ndF_up 63 (u / 10) (Nat.lt_of_le_of_lt (Nat.div_le_self _ _) (Nat.lt_of_lt_of_le hu (Nat.pow_le_pow_right (by omega) (by omega)))) 64 (by omega)]
theorem v1f {u:Nat} (h:u<10):decI u=[((48+u:Nat):Int)]:=by
 unfold decI;rw[y1r h];simp only[dgs,List.nil_append];rw[Nat.mod_eq_of_lt h]
theorem b2c {u:Nat} (h:10≤u) (hu:u<10^63):decI u=decI (u / 10)++[((48+u % 10:Nat):Int)]:=by
 unfold decI;rw[ndg_step h hu];rfl
end Go.Plim

namespace Go.Plim
set_option linter.unusedVariables false
def ofN (x:Nat):Wd:=(((x / 18446744073709551616:Nat):Int),((x % 18446744073709551616:Nat):Int))
end Go.Plim

namespace Go.Plim
set_option linter.unusedVariables false
end Go.Plim

namespace Go.Proofs.YtfibfcjepngbmaaGreatDoor
open Go.Flat Go.Plim
set_option linter.unusedVariables false
set_option linter.unusedSimpArgs false
end Go.Proofs.YtfibfcjepngbmaaGreatDoor
namespace Go.Proofs.YtfibfcjepngbmaaGreatDoor
open Go.Flat Go.Plim
set_option linter.unusedVariables false
end Go.Proofs.YtfibfcjepngbmaaGreatDoor
namespace Go.Proofs.YtfibfcjepngbmaaGreatDoor
open Go.Flat Go.Plim
set_option linter.unusedVariables false
set_option linter.unusedSimpArgs false
theorem w1z (n:Nat):((List.range 100).all fun x=>match i0u (n+1) (x:Int) with | some r=>decide (r=toB (decI x)) | none=>false)=true:=by kernel_rfl
theorem w1y (n:Nat) {x:Nat} (h:x<100):i0u (n+1) (x:Int)=some (toB (decI x)):=by
 have:=List.all_eq_true.1 (w1z n) x (List.mem_range.2 h);cases hs:i0u (n+1) (x:Int) with
 | none=>simp only[hs] at this;cases this
 | some r=>simp only[hs,decide_eq_true_eq] at this;rw[this]
end Go.Proofs.YtfibfcjepngbmaaGreatDoor

namespace Go.Plim
open Go.Flat
set_option linter.unusedVariables false
set_option linter.unusedSimpArgs false
def decU (u:Nat):List UInt8:=if u<10 then [UInt8.ofNat (48+u)] else decU (u / 10)++[UInt8.ofNat (48+u % 10)]
theorem g0c {u:Nat} (h:u<10):decU u=[UInt8.ofNat (48+u)]:=by rw[decU,if_pos h]
theorem i0f {u:Nat} (h:¬u<10):decU u=decU (u / 10)++[UInt8.ofNat (48+u % 10)]:=by rw[decU,if_neg h]
theorem u8n {a:Nat} (h:a<256):(UInt8.ofNat a).toNat=a:=by simp;omega
theorem r1e:∀(u:Nat),∀c∈decU u,c≠58:=by
 intro u;induction u using Nat.strongRecOn with
 | _ u ih =>
  intro c hc e;subst e;by_cases h:u<10
  ·rw[g0c h] at hc;have:=List.mem_singleton.1 hc;have:=congrArg UInt8.toNat this;rw[u8n (by omega)] at this;have e:(58:UInt8).toNat=58:=rfl;omega
  ·rw[i0f h] at hc;rcases List.mem_append.1 hc with hc | hc
   ·exact ih (u / 10) (by omega) _ hc rfl
   ·have:=List.mem_singleton.1 hc;have:=congrArg UInt8.toNat this;rw[u8n (by omega)] at this;have e:(58:UInt8).toNat=58:=rfl;omega
theorem r1c (u:Nat):0<(decU u).length:=by
 by_cases h:u<10
 ·rw[g0c h];simp
 ·rw[i0f h];simp
theorem decU_inj:∀(a b:Nat),decU a=decU b→a=b:=by
 intro a;induction a using Nat.strongRecOn with
 | _ a ih =>
  intro b h;by_cases ha:a<10
  ·by_cases hb:b<10
   ·rw[g0c ha,g0c hb] at h;have:=congrArg UInt8.toNat (List.cons.inj h).1;rw[u8n (by omega),u8n (by omega)] at this;omega
   ·rw[g0c ha,i0f hb] at h;have h1:=congrArg List.length h;have:=r1c (b / 10);simp only[List.length_append,List.length_cons,List.length_nil] at h1;omega
  ·by_cases hb:b<10
   ·rw[i0f ha,g0c hb] at h;have h1:=congrArg List.length h;have:=r1c (a / 10);simp only[List.length_append,List.length_cons,List.length_nil] at h1;omega
   ·rw[i0f ha,i0f hb] at h;obtain ⟨h1,h2⟩:=List.append_inj' h rfl;have:=ih (a / 10) (by omega) _ h1;have h3:=congrArg UInt8.toNat (List.cons.inj h2).1;rw[u8n (by omega),u8n (by omega)] at h3;omega
theorem b2h:∀ {a b x y:List UInt8},(∀c∈a,c≠58)→(∀c∈b,c≠58)→a++58::x=b++58::y→a=b∧x=y:=by
 intro a;induction a with
 | nil =>
  intro b x y _ hb h;cases b with
  | nil=>exact ⟨rfl,(List.cons.inj h).2⟩
  | cons c b=>exact absurd (List.cons.inj h).1.symm (hb c (by simp))
 | cons c a ih =>
  intro b x y ha hb h;cases b with
  | nil=>exact absurd (List.cons.inj h).1 (ha c (by simp))
  | cons d b =>
   obtain ⟨h1,h2⟩:=List.cons.inj h;obtain ⟨h3,h4⟩:=ih (fun e he=>ha e (by simp[he])) (fun e he=>hb e (by simp[he])) h2;exact ⟨by rw[h1,h3],h4⟩
def preK (s:List UInt8):List UInt8:=decU s.length++58::s
theorem q1c {s t x y:List UInt8} (h:preK s++x=preK t++y):s=t∧x=y:=by
 unfold preK at h;rw[List.append_assoc,List.append_assoc] at h;obtain ⟨h1,h2⟩:=b2h (r1e _) (r1e _) h;exact List.append_inj h2 (decU_inj _ _ h1)
def keyB (l:List (List UInt8×List UInt8)):List UInt8:=l.flatMap fun x=>preK x.1++preK x.2
theorem o0s (x:List UInt8×List UInt8) (l:List (List UInt8×List UInt8)):keyB (x::l)=preK x.1++(preK x.2++keyB l):=by simp[keyB,List.append_assoc]
theorem z1l (l:List (List UInt8×List UInt8)) (x:List UInt8×List UInt8):keyB (l++[x])=keyB l++preK x.1++preK x.2:=by simp[keyB,List.append_assoc]
theorem x1w (s x:List UInt8):preK s++x≠[]:=by
 intro h;have:=congrArg List.length h;unfold preK at this;simp at this
theorem w0v:∀(a b:List (List UInt8×List UInt8)),keyB a=keyB b→a=b:=by
 intro a;induction a with
 | nil =>
  intro b h;cases b with
  | nil=>rfl
  | cons y b=>rw[o0s] at h;exact absurd h.symm (x1w _ _)
 | cons x a ih =>
  intro b h;cases b with
  | nil=>rw[o0s] at h;exact absurd h (x1w _ _)
  | cons y b =>
   rw[o0s,o0s] at h;obtain ⟨h1,h2⟩:=q1c h;obtain ⟨h3,h4⟩:=q1c h2;rw[ih b h4,show x=y from Prod.ext h1 h3]
end Go.Plim

namespace Go.Proofs.YtfibfcjepngbmaaGreatDoor
open Go.Flat Go.Plim
set_option linter.unusedVariables false
set_option linter.unusedSimpArgs false
noncomputable def k0m (n x:Nat):Bool:=match strconv_Itoa (n+6) (x:Int) with | some r=>decide (r=toB (decI x)) | none=>false
theorem itoa_1 (n:Nat):((List.range 100).all fun x=>k0m n (x+100))=true:=by kernel_rfl
theorem itoa_2 (n:Nat):((List.range 100).all fun x=>k0m n (x+200))=true:=by kernel_rfl
theorem itoa_3 (n:Nat):((List.range 100).all fun x=>k0m n (x+300))=true:=by kernel_rfl
theorem itoa_4 (n:Nat):((List.range 100).all fun x=>k0m n (x+400))=true:=by kernel_rfl
theorem itoa_5 (n:Nat):((List.range 100).all fun x=>k0m n (x+500))=true:=by kernel_rfl
theorem itoa_6 (n:Nat):((List.range 100).all fun x=>k0m n (x+600))=true:=by kernel_rfl
theorem itoa_7 (n:Nat):((List.range 100).all fun x=>k0m n (x+700))=true:=by kernel_rfl
theorem itoa_8 (n:Nat):((List.range 100).all fun x=>k0m n (x+800))=true:=by kernel_rfl
theorem itoa_9 (n:Nat):((List.range 100).all fun x=>k0m n (x+900))=true:=by kernel_rfl
theorem itoa_10 (n:Nat):k0m n 1000=true:=by kernel_rfl
theorem itoa_at {n x:Nat} (h:k0m n x=true):strconv_Itoa (n+6) (x:Int)=some (toB (decI x)):=by
 unfold k0m at h;cases hs:strconv_Itoa (n+6) (x:Int) with
 | none=>rw[hs] at h;cases h
 | some r=>rw[hs] at h;rw[of_decide_eq_true h]
theorem i0z {n a x:Nat} (h:((List.range 100).all fun x=>k0m n (x+a))=true) (h1:a≤x) (h2:x<a+100):k0m n x=true:=by
 have:=List.all_eq_true.1 h (x-a) (List.mem_range.2 (by omega))
 rwa [show x-a+a=x by omega] at this
theorem toB_decI:∀u:Nat,u<10^63→toB (decI u)=decU u:=by
 intro u;induction u using Nat.strongRecOn with
 | _ u ih =>
  intro hu;have one:∀d:Nat,d<10→toB [((48+d:Nat):Int)]=[UInt8.ofNat (48+d)]:=by
   intro d hd;have:∀d:Fin 10,toB [((48+d.val:Nat):Int)]=[UInt8.ofNat (48+d.val)]:=by decide +kernel
   exact this ⟨d,hd⟩
  by_cases h:u<10
  ·rw[v1f h,g0c h,one u h]
  ·rw[b2c (by omega) hu,i0f h,s1a,ih (u / 10) (by omega) (by omega),one (u % 10) (by omega)]
theorem itoa_val (n:Nat) {x:Nat} (h:x≤1000):strconv_Itoa (n+6) (x:Int)=some (decU x):=by
 rw[←toB_decI x (by omega)];by_cases h1:x<100
 ·rw[x0p,w0d,q0b];simp only[tfd,if_true];rw[if_pos (by omega),if_pos (by omega),w1y (n+2) h1];rfl
 ·have hc:(100≤x∧x<200)∨(200≤x∧x<300)∨(300≤x∧x<400)∨(400≤x∧x<500)∨(500≤x∧x<600)∨(600≤x∧x<700)∨(700≤x∧x<800)∨(800≤x∧x<900)∨(900≤x∧x<1000)∨x=1000:=by omega
  refine itoa_at ?_;rcases hc with ⟨a,b⟩ | ⟨a,b⟩ | ⟨a,b⟩ | ⟨a,b⟩ | ⟨a,b⟩ | ⟨a,b⟩ | ⟨a,b⟩ | ⟨a,b⟩ | ⟨a,b⟩ | rfl
  ·exact i0z (itoa_1 n) a b
  ·exact i0z (itoa_2 n) a b
  ·exact i0z (itoa_3 n) a b
  ·exact i0z (itoa_4 n) a b
  ·exact i0z (itoa_5 n) a b
  ·exact i0z (itoa_6 n) a b
  ·exact i0z (itoa_7 n) a b
  ·exact i0z (itoa_8 n) a b
  ·exact i0z (itoa_9 n) a b
  ·exact itoa_10 n
def v0z (l:List Lab):Prop:=l.length≤40∧∀x∈l,x.1.length≤1000∧x.2.length≤1000
theorem x1g (n:Nat) (l:List Lab) (hL:l.length≤9223372036854775807):∀(rest pre:List Lab) (f:Nat) (ix len:Int),l=pre++rest→ix=pre.length→len=l.length→rest.length<f→pre.length≤40 →
  (e0s n f (l,len,ix,())=some (.inl ())∧l.length≤40∧∀x∈rest,x.1.length≤1000∧x.2.length≤1000)∨e0s n f (l,len,ix,())=some (.inr 0):=by
 intro rest;induction rest with
 | nil =>
  intro pre f ix len hl hi hn hf h40;obtain ⟨f,rfl⟩:∃g,f=g+1:=⟨f-1,by simp at hf;omega⟩;left;refine ⟨?_,by rw[hl,List.append_nil];exact h40,by simp⟩;rw[g0l];simp only[tfd,if_neg (idxe hl hi hn)]
 | cons x rest ih =>
  intro pre f ix len hl hi hn hf h40;obtain ⟨f,rfl⟩:∃g,f=g+1:=⟨f-1,by simp at hf;omega⟩;have hlen:=congrArg List.length hl;simp at hlen;rw[g0l];simp only[tfd,if_pos (idx hl hi hn),b0u hl hi,obs];rw[w64 (x:=ix+1) (by omega) (by omega)];by_cases h1:ix=40
  ·right;rw[if_pos h1]
  rw[if_neg h1];by_cases h2:(1000:Int)<x.1.length
  ·right;rw[if_pos h2]
  rw[if_neg h2];by_cases h3:(1000:Int)<x.2.length
  ·right;rw[if_pos h3]
  rw[if_neg h3];rcases ih (pre++[x]) f (ix+1) len (idxl hl) (idxs hi) hn (by simp at hf;omega) (by simp;omega) with ⟨k1,k2,k3⟩ | k
  ·left;refine ⟨k1,k2,fun y hy => ?_⟩;rcases List.mem_cons.1 hy with rfl | hy
   ·omega
   ·exact k3 y hy
  ·exact .inr k
theorem short05 (n:Nat) (l:List Lab) (hL:l.length≤9223372036854775807):j0z (n+1) l=some 0∨(j0z (n+1) l=some 1∧v0z l):=by
 rw[v0s];rcases x1g n l hL l [] a0b 0 _ rfl rfl rfl (by unfold a0b;omega) (by simp) with ⟨h,h1,h2⟩ | h
 ·right;refine ⟨by rw[h];rfl,h1,h2⟩
 ·left;rw[h];rfl
theorem r1d (u:Nat):(decU u).length≤u+1:=by
 induction u using Nat.strongRecOn with
 | _ u ih =>
  by_cases h:u<10
  ·rw[g0c h];simp
  ·rw[i0f h];have:=ih (u / 10) (by omega);simp only[List.length_append,List.length_cons,List.length_nil];omega
theorem e1z {s:List UInt8} (h:s.length≤1000):(preK s).length≤2002:=by
 have:=r1d s.length;unfold preK;simp only[List.length_append,List.length_cons];omega
theorem keyB_len:∀(l:List Lab),(∀x∈l,x.1.length≤1000∧x.2.length≤1000)→(keyB l).length≤4004*l.length:=by
 intro l;induction l with
 | nil=>intro _;simp[keyB]
 | cons x l ih =>
  intro h;have h1:=h x (by simp);have:=ih fun y hy=>h y (by simp[hy])
  have a:=e1z h1.1;have b:=e1z h1.2;rw[o0s];simp only[List.length_append,List.length_cons];omega
theorem writeS (n:Nat) (b s:List UInt8) (h:b.length+s.length≤140737488355328):a0p (n+1) b s=some ((s.length:Int),(false,b++s)):=by
 rw[h0s];unfold e0t;rw[decide_eq_true h,tft]
theorem writeC (n:Nat) (b:List UInt8) (h:b.length+1≤140737488355328):b0m (n+1) b 58=some (false,b++[58]):=by
 rw[i0t];unfold h0b;rw[decide_eq_true h];rfl
theorem z1k (n:Nat) (b s:List UInt8) (hb:b.length≤1000000) (hs:s.length≤1000) {γ:Type} (g:Int×(Bool×List UInt8)→Option γ) :
  (a0a (strconv_Itoa (n+6) (((List.length s):Nat):Int)) fun r0=>a0a (a0p (n+6) b r0) fun r1=>a0a (b0m (n+6) r1.2.2 (58:Int)) fun r2=>a0a (a0p (n+6) r2.2 s) g)=g ((s.length:Int),(false,b++preK s)):=by
 have hd:=r1d s.length;rw[itoa_val n hs,obs,writeS (n+5) b _ (by omega),obs,writeC (n+5) _ (by simp only[List.length_append];omega),obs,
  writeS (n+5) _ s (by simp only[List.length_append,List.length_cons,List.length_nil];omega),obs]
 simp[preK,List.append_assoc]
theorem key_l6 (n:Nat) (b:List UInt8) (l:List Lab) (len i:Int) (x:Lab) (f:Nat) (hb:b.length≤900000) (hx:x.1.length≤1000∧x.2.length≤1000) :
  e0x (n+6) (f+3) (b,l,len,i,x,(0:Int),())=some (.inl (b++preK x.1++preK x.2,(l,(len,(i,()))))):=by
 have a:=e1z hx.1;rw[k0d,decide_eq_true (by decide),tft,decide_eq_true (by decide),tft];refine (z1k n b x.1 (by omega) hx.1 _).trans ?_;simp only;rw[w64 (by decide) (by decide),show (0:Int)+1=1 by rfl];show e0x (n+6) (f+1+1) (b++preK x.1,l,len,i,x,(1:Int),())=_;rw[k0d,decide_eq_true (by decide),tft,decide_eq_false (by decide),tff,decide_eq_true (by decide),tft];refine (z1k n (b++preK x.1) x.2 (by simp only[List.length_append];omega) hx.2 _).trans ?_;simp only;rw[w64 (by decide) (by decide),show (1:Int)+1=2 by rfl]
 show e0x (n+6) (f+1) (b++preK x.1++preK x.2,l,len,i,x,(2:Int),())=_;rw[k0d,decide_eq_false (by decide),tff]
theorem key_l3 (n:Nat) (l:List Lab) (h:v0z l):∀(rest pre:List Lab) (f:Nat) (i:Int),l=pre++rest→i=pre.length→rest.length<f →
  i0g (n+6) f (keyB pre,l,(l.length:Int),i,())=some (.inl (keyB l,())):=by
 intro rest;induction rest with
 | nil =>
  intro pre f i hl hi hf;obtain ⟨f,rfl⟩:∃g,f=g+1:=⟨f-1,by simp at hf;omega⟩;rw[o0z];simp only[tfd,if_neg (idxe hl hi rfl)];rw[hl,List.append_nil]
 | cons x rest ih =>
  intro pre f i hl hi hf;obtain ⟨f,rfl⟩:∃g,f=g+1:=⟨f-1,by simp at hf;omega⟩;have hlen:=congrArg List.length hl;have h40:=h.1;simp at hlen;have hk:=keyB_len pre fun y hy=>h.2 y (by rw[hl];simp[hy])
  rw[o0z];simp only[tfd,if_pos (idx hl hi rfl),b0u hl hi,obs];obtain ⟨g,hg⟩:∃g,a0b=g+3:=⟨a0b-3,by unfold a0b;omega⟩;have:=key_l6 n (keyB pre) l (l.length:Int) i x g (by omega) (h.2 x (by rw[hl];simp));rw[←hg] at this;rw[this,obs,b0p];simp only;rw[w64 (x:=i+1) (by omega) (by omega),←z1l];exact ih (pre++[x]) f (i+1) (idxl hl) (idxs hi) (by simp at hf;omega)
theorem t0n (n:Nat) {l:List Lab} (h:v0z l):t0o (n+7) l=some (keyB l):=by
 rw[l1o];have:=key_l3 n l h l [] a0b 0 rfl rfl (by have:=h.1;unfold a0b;omega)
 change a0a (i0g (n+6) a0b (keyB [],l,(l.length:Int),0,())) _=_
 rw[this,obs,b0p];rw[k0t];rfl
theorem LabOk.short {l:List Lab} (h:LabOk l):v0z l:=by
 refine ⟨by have:=h.n1;omega,fun x hx => ?_⟩;have hs:∀(l:List Lab) (x:Lab),x∈l→(x.1.length:Int)+x.2.length≤sumL l:=by
  intro l;induction l with
  | nil=>intro x hx;simp at hx
  | cons y l ih =>
   intro x hx;rw[i1t];have:=w1n l;rcases List.mem_cons.1 hx with rfl | hx
   ·omega
   ·have:=ih x hx;omega
 have:=hs l x hx;have:=h.t;omega
end Go.Proofs.YtfibfcjepngbmaaGreatDoor

namespace Go.Plim
open Go.Flat
set_option linter.unusedVariables false
set_option linter.unusedSimpArgs false
set_option linter.unusedSectionVars false
section
variable {κ ε:Type} [DecidableEq κ]
def addF (ks:List κ) (k:κ):List κ:=if k∈ks then ks else ks++[k]
def firsts (l:List (κ×ε)):List κ:=l.foldl (fun ks x=>addF ks x.1) []
theorem firsts_snoc (l:List (κ×ε)) (x:κ×ε):firsts (l++[x])=addF (firsts l) x.1:=by simp[firsts]
theorem mem_addF {ks:List κ} {k j:κ}:j∈addF ks k↔j∈ks∨j=k:=by
 unfold addF;split
 ·rename_i h;exact ⟨.inl,fun q=>q.elim id fun e=>e ▸ h⟩
 ·simp
theorem nodup_addF {ks:List κ} (h:ks.Nodup) (k:κ):(addF ks k).Nodup:=by
 unfold addF;split
 ·exact h
 ·rename_i hk;rw[List.nodup_append];exact ⟨h,by simp,fun a ha b hb=>by simp at hb;subst hb;exact fun e=>hk (e ▸ ha)⟩
theorem list_snoc {α:Type} {P:List α→Prop} (h0:P []) (h1:∀l x,P l→P (l++[x])) (l:List α):P l:=by
 have:∀(r:List α),P r.reverse:=by
  intro r;induction r with
  | nil=>exact h0
  | cons x r ih=>rw[List.reverse_cons];exact h1 _ _ ih
 have:=this l.reverse
 rwa [List.reverse_reverse] at this
theorem mem_firsts {l:List (κ×ε)} {k:κ}:k∈firsts l↔∃x∈l,x.1=k:=by
 induction l using list_snoc with
 | h0=>simp[firsts]
 | h1 l x ih =>
  rw[firsts_snoc,mem_addF,ih];constructor
  ·rintro (⟨y,hy,e⟩ | e)
   ·exact ⟨y,by simp[hy],e⟩
   ·exact ⟨x,by simp,e.symm⟩
  ·rintro ⟨y,hy,e⟩;rcases List.mem_append.1 hy with hy | hy
   ·exact .inl ⟨y,hy,e⟩
   ·simp at hy;subst hy;exact .inr e.symm
theorem nodup_firsts (l:List (κ×ε)):(firsts l).Nodup:=by
 induction l using list_snoc with
 | h0=>simp[firsts]
 | h1 l x ih=>rw[firsts_snoc];exact nodup_addF ih _
theorem firsts_len (l:List (κ×ε)):(firsts l).length≤l.length:=by
 induction l using list_snoc with
 | h0=>simp[firsts]
 | h1 l x ih =>
  rw[firsts_snoc];unfold addF;split<;>simp<;>omega
def ofK (k:κ) (l:List (κ×ε)):List (κ×ε):=l.filter fun y=>decide (y.1=k)
theorem ofK_snoc (k:κ) (l:List (κ×ε)) (x:κ×ε):ofK k (l++[x])=if x.1=k then ofK k l++[x] else ofK k l:=by
 unfold ofK;by_cases h:x.1=k<;>simp[h]
theorem ofK_none {k:κ} {l:List (κ×ε)} (h:k ∉ firsts l):ofK k l=[]:=by
 rw[ofK,List.filter_eq_nil_iff];intro y hy e;exact h (mem_firsts.2 ⟨y,hy,of_decide_eq_true e⟩)
def partsOf (l:List (κ×ε)):List (List (κ×ε)):=(firsts l).map fun k=>ofK k l
def grpV (l:List (κ×ε)):List (κ×ε):=(partsOf l).flatten
theorem partsOf_len (l:List (κ×ε)):(partsOf l).length=(firsts l).length:=by simp[partsOf]
theorem partsOf_at {l:List (κ×ε)} {i:Nat} {k:κ} (h:(firsts l)[i]? = some k):(partsOf l)[i]? = some (ofK k l):=by
 rw[partsOf,List.getElem?_map,h];rfl
theorem parts_new {l:List (κ×ε)} {x:κ×ε} (h:x.1 ∉ firsts l):partsOf (l++[x])=partsOf l++[[x]]:=by
 unfold partsOf;rw[firsts_snoc,addF,if_neg h,List.map_append];congr 1
 ·refine List.map_congr_left fun k hk => ?_
  rw[ofK_snoc,if_neg (fun e:x.1=k=>h (e ▸ hk))]
 ·simp[ofK_snoc,ofK_none h]
theorem parts_old {l:List (κ×ε)} {x:κ×ε} {i:Nat} (h:(firsts l)[i]? = some x.1):partsOf (l++[x])=(partsOf l).set i (ofK x.1 l++[x]):=by
 have hm:x.1∈firsts l:=List.mem_of_getElem? h;have hlt:i<(firsts l).length:=(List.getElem?_eq_some_iff.1 h).1;unfold partsOf;rw[firsts_snoc,addF,if_pos hm];apply List.ext_getElem?;intro j;rw[List.getElem?_map,List.getElem?_set];by_cases hij:i=j
 ·subst hij;rw[h,if_pos rfl,if_pos (by simpa using hlt)];simp[ofK_snoc]
 ·rw[if_neg hij,List.getElem?_map];cases hj:(firsts l)[j]? with
  | none=>rfl
  | some k =>
   simp only[Option.map_some,Option.some.injEq];rw[ofK_snoc,if_neg];intro e;subst e;obtain ⟨hjl,ej⟩:=List.getElem?_eq_some_iff.1 hj;obtain ⟨hil,ei⟩:=List.getElem?_eq_some_iff.1 h;exact hij ((List.getElem_inj (nodup_firsts l)).1 (ei.trans ej.symm))
variable (key:κ→List UInt8) (inj:∀a b,key a=key b→a=b)
def valM (f:κ→Int) (ks:List κ):List (List UInt8×Int):=ks.map fun k=>(key k,f k)
theorem valM_congr {f g:κ→Int} {ks:List κ} (h:∀k∈ks,f k=g k):valM key f ks=valM key g ks:=List.map_congr_left fun k hk=>by rw[h k hk]
include inj in
theorem mget_val (f:κ→Int) (k:κ):∀(ks:List κ) (i:Nat),mget .str (.int .i64) (valM key f ks) (key k) i=none∧k ∉ ks∨∃j,mget .str (.int .i64) (valM key f ks) (key k) i=some (j,f k)∧k∈ks:=by
 intro ks;induction ks with
 | nil=>intro i;exact .inl ⟨rfl,by simp⟩
 | cons a r ih =>
  intro i;show (bif key k==key a then some (i,f a) else mget .str (.int .i64) (valM key f r) (key k) (i+1))=none∧_∨∃j,(bif key k==key a then some (i,f a) else mget .str (.int .i64) (valM key f r) (key k) (i+1))=some (j,f k)∧_;by_cases h:k=a
  ·subst h;exact .inr ⟨i,by simp,by simp⟩
  ·have:(key k==key a)=false:=by
    cases hq:(key k==key a) with
    | false=>rfl
    | true=>exact absurd (inj _ _ (eq_of_beq hq)) h
   rw[this,cond_false];rcases ih (i+1) with ⟨h1,h2⟩ | ⟨j,h1,h2⟩
   ·exact .inl ⟨h1,by simp[h,h2]⟩
   ·exact .inr ⟨j,h1,by simp[h2]⟩
include inj in
theorem mgetI_val (f:κ→Int) (ks:List κ) (k:κ):mgetI .str .i64 (valM key f ks) (key k)=if k∈ks then (f k,true) else (0,false):=by
 unfold mgetI;rcases mget_val key inj f k ks 0 with ⟨h1,h2⟩ | ⟨j,h1,h2⟩
 ·rw[h1,if_neg h2]
 ·rw[h1,if_pos h2]
include inj in
theorem mput_val {f g:κ→Int} {k:κ} {v:Int}:∀ {ks:List κ},ks.Nodup→g k=v→(∀j∈ks,j≠k→g j=f j)→mput .str (.int .i64) (valM key f ks) (key k) v=valM key g (addF ks k):=by
 intro ks;induction ks with
 | nil=>intro _ h1 _;subst h1;rfl
 | cons a r ih =>
  intro hn h1 h2;rw[List.nodup_cons] at hn;show (bif key k==key a then (key a,v)::valM key f r else (key a,f a)::mput .str (.int .i64) (valM key f r) (key k) v)=_;by_cases h:k=a
  ·subst h;have:addF (k::r) k=k::r:=by simp[addF]
   rw[this];simp only[beq_self_eq_true,cond_true];show _=(key k,g k)::valM key g r;rw[h1,valM_congr key fun j hj=>(h2 j (by simp[hj]) fun e=>hn.1 (e ▸ hj)).symm]
  ·have hb:(key k==key a)=false:=by
    cases hq:(key k==key a) with
    | false=>rfl
    | true=>exact absurd (inj _ _ (eq_of_beq hq)) h
   rw[hb,cond_false,ih hn.2 h1 fun j hj=>h2 j (by simp[hj])];have:addF (a::r) k=a::addF r k:=by
    unfold addF;by_cases hk:k∈r<;>simp[h,hk]
   rw[this];show _=(key a,g a)::valM key g (addF r k);rw[h2 a (by simp) fun e=>h e.symm]
end
section
variable {κ ε:Type} [DecidableEq κ]
end
end Go.Plim

namespace Go.Plim
open Go.Flat
set_option linter.unusedVariables false
set_option linter.unusedSimpArgs false
set_option linter.unusedSectionVars false
section
variable {κ ε:Type} [DecidableEq κ]
variable (bad:κ×ε→Int) (tm:ε→Int) (late:Int)
def Late (pre:List (κ×ε)) (x:κ×ε):Prop:=∃y∈pre,y.1=x.1∧tm x.2≤tm y.2
instance (pre:List (κ×ε)) (x:κ×ε):Decidable (Late tm pre x):=inferInstanceAs (Decidable (∃y∈pre,y.1=x.1∧tm x.2≤tm y.2))
def chkR (pre:List (κ×ε)) (x:κ×ε):Int:=if bad x=0 then (if Late tm pre x then late else 0) else bad x
def chkF:List (κ×ε)→List (κ×ε)→Int×Int
 | _,[]=>(0,0)
 | pre,x::r=>if chkR bad tm late pre x=0 then chkF (pre++[x]) r else ((pre.length:Int),chkR bad tm late pre x)
def LastOk (f:κ→Int) (pre:List (κ×ε)):Prop:=∀k∈firsts pre,(∀y∈pre,y.1=k→tm y.2≤f k)∧∃y∈pre,y.1=k∧tm y.2=f k
theorem late_iff {f:κ→Int} {pre:List (κ×ε)} (h:LastOk tm f pre) (x:κ×ε):Late tm pre x↔(x.1∈firsts pre∧tm x.2≤f x.1):=by
 constructor
 ·rintro ⟨y,hy,e,ht⟩;have hm:x.1∈firsts pre:=mem_firsts.2 ⟨y,hy,e⟩;have:=(h _ hm).1 y hy e;exact ⟨hm,by omega⟩
 ·rintro ⟨hm,ht⟩;obtain ⟨y,hy,e,hf⟩:=(h _ hm).2;exact ⟨y,hy,e,by omega⟩
def setF (f:κ→Int) (k:κ) (v:Int):κ→Int:=fun j=>if j=k then v else f j
theorem setF_self (f:κ→Int) (k:κ) (v:Int):setF f k v k=v:=if_pos rfl
theorem setF_ne {f:κ→Int} {k j:κ} {v:Int} (h:j≠k):setF f k v j=f j:=if_neg h
theorem last_next {f:κ→Int} {pre:List (κ×ε)} (h:LastOk tm f pre) {x:κ×ε} (hx:¬Late tm pre x):LastOk tm (setF f x.1 (tm x.2)) (pre++[x]):=by
 intro k hk;rw[firsts_snoc,mem_addF] at hk;by_cases e:k=x.1
 ·subst e;rw[setF_self];refine ⟨fun y hy ey => ?_,x,by simp,rfl,rfl⟩;rcases List.mem_append.1 hy with hy | hy
  ·have:¬tm x.2≤tm y.2:=fun q=>hx ⟨y,hy,ey,q⟩
   omega
  ·simp at hy;subst hy;exact Int.le_refl _
 ·have hk:k∈firsts pre:=hk.elim id fun q=>absurd q e
  rw[setF_ne e];obtain ⟨h1,y,hy,ey,e2⟩:=h k hk;refine ⟨fun z hz ez => ?_,y,by simp[hy],ey,e2⟩;rcases List.mem_append.1 hz with hz | hz
  ·exact h1 z hz ez
  ·simp at hz;subst hz;exact absurd ez.symm e
theorem last_nil (f:κ→Int):LastOk tm f ([]:List (κ×ε)):=by intro k hk;simp[firsts] at hk
end
section
variable {κ ε:Type} [DecidableEq κ]
theorem ofK_app (k:κ) (a b:List (κ×ε)):ofK k (a++b)=ofK k a++ofK k b:=by simp[ofK]
def idxK (ks:List κ) (k:κ):Int:=(ks.idxOf k:Int)
theorem idxK_at {ks:List κ} {k:κ} (h:k∈ks):∃i:Nat,idxK ks k=(i:Int)∧ks[i]? = some k :=
 ⟨ks.idxOf k,rfl,by rw[List.getElem?_eq_getElem (List.idxOf_lt_length_of_mem h),List.getElem_idxOf]⟩
theorem idxK_old {ks:List κ} {k j:κ} (h:j∈ks):idxK (addF ks k) j=idxK ks j:=by
 unfold addF idxK;split
 ·rfl
 ·rw[List.idxOf_append,if_pos h]
theorem idxK_new {ks:List κ} {k:κ} (h:k ∉ ks):idxK (addF ks k) k=(ks.length:Int):=by
 unfold addF idxK;rw[if_neg h,List.idxOf_append,if_neg h];simp
theorem grpV_len (l:List (κ×ε)):(grpV l).length=l.length:=by
 induction l using list_snoc with
 | h0=>rfl
 | h1 l x ih =>
  unfold grpV at ih ⊢;by_cases h:x.1∈firsts l
  ·obtain ⟨i,_,hi⟩:=idxK_at h;have hp:=partsOf_at hi;rw[parts_old hi];have:∀(L:List (List (κ×ε))) (i:Nat) (y:List (κ×ε)),L[i]? = some y→(L.set i (y++[x])).flatten.length=L.flatten.length+1:=by
    intro L;induction L with
    | nil=>intro i y h;simp at h
    | cons a L ih =>
     intro i y h;cases i with
     | zero=>simp at h;subst h;simp;omega
     | succ i=>simp at h;have:=ih i y h;simp[List.set_cons_succ] at this ⊢;omega
   rw[this _ _ _ hp,ih];simp
  ·rw[parts_new h];simp at ih ⊢;exact ih
end
end Go.Plim

namespace Go.Plim
open Go.Flat
set_option linter.unusedVariables false
set_option linter.unusedSimpArgs false
set_option linter.unusedSectionVars false
section
variable {κ ε:Type} [DecidableEq κ]
theorem y0i {k:κ} {l:List (κ×ε)} {y:κ×ε} (h:y∈ofK k l):y.1=k∧y∈l:=by
 obtain ⟨h1,h2⟩:=List.mem_filter.1 h;exact ⟨of_decide_eq_true h2,h1⟩
theorem ofK_self {k:κ} {l:List (κ×ε)} (h:∀y∈l,y.1=k):ofK k l=l:=List.filter_eq_self.2 fun y hy=>decide_eq_true (h y hy)
theorem y1m {k:κ} {l:List (κ×ε)} (h:∀y∈l,y.1≠k):ofK k l=[]:=List.filter_eq_nil_iff.2 fun y hy e=>h y hy (of_decide_eq_true e)
theorem ofK_ne {k:κ} {l:List (κ×ε)} (h:k∈firsts l):ofK k l≠[]:=by
 obtain ⟨x,hx,e⟩:=mem_firsts.1 h;exact List.ne_nil_of_mem (List.mem_filter.2 ⟨hx,decide_eq_true e⟩)
theorem l1r {ks:List κ} {k:κ} (h:k∈ks):addF ks k=ks:=if_pos h
theorem a1z:∀(B A:List (κ×ε)) (k:κ),B≠[]→(∀y∈B,y.1=k)→firsts (A++B)=addF (firsts A) k:=by
 intro B;induction B using list_snoc with
 | h0=>intro A k h _;exact absurd rfl h
 | h1 B x ih =>
  intro A k _ h;rw[←List.append_assoc,firsts_snoc,h x (by simp)];by_cases hB:B=[]
  ·subst hB;rw[List.append_nil]
  ·rw[ih A k hB fun y hy=>h y (by simp[hy]),l1r (mem_addF.2 (.inr rfl))]
theorem k1s (l:List (κ×ε)):∀(ks:List κ),ks.Nodup→(∀k∈ks,ofK k l≠[])→firsts ((ks.map fun k=>ofK k l).flatten)=ks:=by
 intro ks;induction ks using list_snoc with
 | h0=>intro _ _;rfl
 | h1 ks k ih =>
  intro hn h;rw[List.nodup_append] at hn;rw[List.map_append,List.flatten_append];simp only[List.map_cons,List.map_nil,List.flatten_cons,List.flatten_nil,List.append_nil];rw[a1z _ _ k (h k (by simp)) fun y hy=>(y0i hy).1,ih hn.1 fun j hj=>h j (by simp[hj])];unfold addF;rw[if_neg fun q=>hn.2.2 k q k (by simp) rfl]
theorem y1l (l:List (κ×ε)) (k:κ):∀(ks:List κ),ks.Nodup→ofK k ((ks.map fun k=>ofK k l).flatten)=if k∈ks then ofK k l else []:=by
 intro ks;induction ks with
 | nil=>intro _;rfl
 | cons j ks ih =>
  intro hn;rw[List.nodup_cons] at hn;rw[List.map_cons,List.flatten_cons,ofK_app,ih hn.2];by_cases e:k=j
  ·subst e;rw[ofK_self fun y hy=>(y0i hy).1,if_neg hn.1,if_pos (by simp),List.append_nil]
  ·rw[y1m fun y hy q=>e (q.symm.trans (y0i hy).1),List.nil_append];by_cases h:k∈ks
   ·rw[if_pos h,if_pos (by simp[h])]
   ·rw[if_neg h,if_neg (by simp[e,h])]
theorem u1u (l:List (κ×ε)):firsts (grpV l)=firsts l:=k1s l _ (nodup_firsts l) fun k hk=>ofK_ne hk
theorem n1z (l:List (κ×ε)) (k:κ):ofK k (grpV l)=ofK k l:=by
 rw[grpV,partsOf,y1l l k _ (nodup_firsts l)];split
 ·rfl
 ·rename_i h;rw[ofK_none h]
theorem grp_grp (l:List (κ×ε)):grpV (grpV l)=grpV l:=by
 show ((firsts (grpV l)).map fun k=>ofK k (grpV l)).flatten=((firsts l).map fun k=>ofK k l).flatten;rw[u1u];congr 1;exact List.map_congr_left fun k _=>n1z l k
theorem f1g {l:List (κ×ε)} {x:κ×ε}:x∈grpV l↔x∈l:=by
 have h:x∈ofK x.1 (grpV l)↔x∈ofK x.1 l:=by rw[n1z]
 simpa [ofK] using h
theorem grp_new {l:List (κ×ε)} {x:κ×ε} (h:x.1 ∉ firsts l):grpV (l++[x])=grpV l++[x]:=by rw[grpV,parts_new h];simp[grpV]
theorem grp_old {l:List (κ×ε)} {x:κ×ε} (h:x.1∈firsts l):∃w post,grpV l=w++post∧grpV (l++[x])=w++x::post∧(∃y∈w,y.1=x.1)∧∀y∈post,y.1≠x.1:=by
 obtain ⟨i,_,hi⟩:=idxK_at h;obtain ⟨hlt,ei⟩:=List.getElem?_eq_some_iff.1 hi;have hsplit:firsts l=(firsts l).take i++x.1::(firsts l).drop (i+1):=by
  rw[←ei,List.getElem_cons_drop,List.take_append_drop]
 have hn:=nodup_firsts l;rw[hsplit,List.nodup_append,List.nodup_cons] at hn;have hp:partsOf l=((firsts l).take i).map (fun k=>ofK k l)++ofK x.1 l::((firsts l).drop (i+1)).map fun k=>ofK k l:=by
  conv=>lhs;rw[partsOf,hsplit]
  simp
 have hi':(((firsts l).take i).map fun k=>ofK k l).length=i:=by simp;omega
 refine ⟨(((firsts l).take i).map fun k=>ofK k l).flatten++ofK x.1 l,(((firsts l).drop (i+1)).map fun k=>ofK k l).flatten,by rw[grpV,hp];simp,?_,?_,?_⟩
 ·rw[grpV,parts_old hi,hp,List.set_append_right _ _ (by omega),hi',Nat.sub_self,List.set_cons_zero];simp
 ·obtain ⟨y,hy,e⟩:=mem_firsts.1 h;exact ⟨y,by simp only[List.mem_append];exact .inr (List.mem_filter.2 ⟨hy,decide_eq_true e⟩),e⟩
 ·intro y hy e;obtain ⟨p,hp,hy⟩:=List.mem_flatten.1 hy;obtain ⟨k,hk,rfl⟩:=List.mem_map.1 hp;have:=(y0i hy).1;exact hn.2.1.1 (by rw[←e,this];exact hk)
end
section
variable {κ ε:Type} [DecidableEq κ] (bad:κ×ε→Int) (tm:ε→Int) (late:Int)
def t0s (l:List (κ×ε)):Prop:=(∀x∈l,bad x=0)∧∀k,(ofK k l).Pairwise fun y x=>tm y.2<tm x.2
theorem r0g (l:List (κ×ε)) (x:κ×ε):t0s bad tm (l++[x])↔t0s bad tm l∧bad x=0∧¬Late tm l x:=by
 constructor
 ·rintro ⟨h1,h2⟩;refine ⟨⟨fun y hy=>h1 y (by simp[hy]),fun k => ?_⟩,h1 x (by simp),?_⟩
  ·have:=h2 k;rw[ofK_app,List.pairwise_append] at this;exact this.1
  ·rintro ⟨y,hy,e,ht⟩;have:=h2 x.1;rw[ofK_snoc,if_pos rfl,List.pairwise_append] at this;have:=this.2.2 y (List.mem_filter.2 ⟨hy,decide_eq_true e⟩) x (by simp);omega
 ·rintro ⟨⟨h1,h2⟩,h3,h4⟩;refine ⟨fun y hy => ?_,fun k => ?_⟩
  ·rcases List.mem_append.1 hy with hy | hy
   ·exact h1 y hy
   ·simp at hy;subst hy;exact h3
  ·rw[ofK_snoc];split
   ·rename_i e;rw[List.pairwise_append];refine ⟨h2 k,by simp,fun y hy z hz => ?_⟩;simp at hz;subst hz;obtain ⟨e1,e2⟩:=y0i hy;have:¬tm z.2≤tm y.2:=fun q=>h4 ⟨y,e2,e1.trans e.symm,q⟩
    omega
   ·exact h2 k
theorem t1v (l:List (κ×ε)):t0s bad tm (grpV l)↔t0s bad tm l:=by
 unfold t0s;simp only[n1z,f1g]
theorem r1i (hl:late≠0):∀(r pre:List (κ×ε)),t0s bad tm pre→((chkF bad tm late pre r).2=0↔t0s bad tm (pre++r))∧((chkF bad tm late pre r).2=0→chkF bad tm late pre r=(0,0)):=by
 intro r;induction r with
 | nil=>intro pre h;rw[List.append_nil];exact ⟨⟨fun _=>h,fun _=>rfl⟩,fun _=>rfl⟩
 | cons x r ih =>
  intro pre h;have e:pre++x::r=(pre++[x])++r:=by simp
  rw[chkF];by_cases hb:bad x=0
  ·by_cases hx:Late tm pre x
   ·have hc:chkR bad tm late pre x=late:=by rw[chkR,if_pos hb,if_pos hx]
    rw[hc,if_neg hl];refine ⟨⟨fun k=>absurd k hl,fun k => ?_⟩,fun k=>absurd k hl⟩;exfalso;have:=((r0g bad tm pre x).1 ⟨fun y hy=>k.1 y (by rw[e];exact List.mem_append_left _ hy),fun j=>by
     have:=k.2 j;rw[e,ofK_app,List.pairwise_append] at this
     exact this.1⟩).2.2
    exact this hx
   ·have hc:chkR bad tm late pre x=0:=by rw[chkR,if_pos hb,if_neg hx]
    rw[if_pos hc,e];exact ih _ ((r0g bad tm pre x).2 ⟨h,hb,hx⟩)
  ·have hc:chkR bad tm late pre x=bad x:=by rw[chkR,if_neg hb]
   rw[hc,if_neg hb];exact ⟨⟨fun k=>absurd k hb,fun k=>absurd (k.1 x (by simp)) hb⟩,fun k=>absurd k hb⟩
end
end Go.Plim

namespace Go.Proofs.YtfibfcjepngbmaaGreatDoor
open Go.Flat Go.Plim
set_option linter.unusedVariables false
set_option linter.unusedSimpArgs false
abbrev c0o:=List Lab×Ev
noncomputable def badR (x:c0o):Int:=if LabOk x.1 then (if EvOk x.2 then 0 else 2) else 8
def tm36 (e:Ev):Int:=e.1
theorem badR_ok {x:c0o} (h1:LabOk x.1) (h2:EvOk x.2):badR x=0:=by unfold badR;rw[if_pos h1,if_pos h2]
theorem ite_iff {α:Type} {p q:Prop} [Decidable p] [Decidable q] (h:p↔q) (a b:α):(if p then a else b)=if q then a else b:=by
 by_cases hq:q
 ·rw[if_pos hq,if_pos (h.2 hq)]
 ·rw[if_neg hq,if_neg fun k=>hq (h.1 k)]
theorem n9:((9:Int)=0)=False:=by decide
theorem n2:((2:Int)=0)=False:=by decide
theorem h1y (n:Nat) {x:c0o} (hw:EvW x.2) (f:List Lab→Int) {ks:List (List Lab)} (hn:ks.Nodup):z0g (n+8) x (valM keyB f ks) =
  some (if badR x=0 then (if x.1∈ks∧x.2.1≤f x.1 then (9,valM keyB f ks) else (0,valM keyB (setF f x.1 x.2.1) (addF ks x.1))) else (badR x,valM keyB f ks)):=by
 rw[l1n,n0h (n+1) x.1,obs];unfold badR;by_cases h1:LabOk x.1
 case neg=>rw[if_neg h1,if_neg h1];rfl
 rw[if_pos h1,if_pos h1,e0u (n+6) hw];simp only[decide_true,Bool.not_true,tff,obs];by_cases h2:EvOk x.2
 case neg=>rw[if_neg h2];rfl
 rw[if_pos h2];simp only[decide_true,Bool.not_true,tff,if_true];rw[t0n n h1.short,obs,mgetI_val keyB w0v,
  mput_val keyB w0v (f:=f) (g:=setF f x.1 x.2.1) hn (setF_self _ _ _) (fun j _ hj=>setF_ne hj)]
 by_cases h3:x.1∈ks
 ·rw[if_pos h3,tft,tfd];by_cases h4:x.2.1≤f x.1
  ·rw[if_pos h4,if_pos ⟨h3,h4⟩]
  ·rw[if_neg h4,if_neg fun k=>h4 k.2]
 ·rw[if_neg h3,tff,if_neg fun k=>h3 k.1]
theorem check_l5 (n:Nat) {rows:List c0o} (hw:∀x∈rows,EvW x.2) (hL:rows.length≤1000000):∀(rest pre:List c0o) (f:Nat) (F:List Lab→Int) (i:Int),rows=pre++rest→i=pre.length→rest.length<f→LastOk tm36 F pre →
  f0t (n+8) f (valM keyB F (firsts pre),rows,(rows.length:Int),i,())=some (if (chkF badR tm36 9 pre rest).2=0 then .inl () else .inr (chkF badR tm36 9 pre rest)):=by
 intro rest;induction rest with
 | nil =>
  intro pre f F i hl hi hf hF;obtain ⟨f,rfl⟩:∃g,f=g+1:=⟨f-1,by simp at hf;omega⟩;rw[m0b];simp only[tfd,if_neg (idxe hl hi rfl)];rw[chkF,if_pos rfl]
 | cons x rest ih =>
  intro pre f F i hl hi hf hF;obtain ⟨f,rfl⟩:∃g,f=g+1:=⟨f-1,by simp at hf;omega⟩;have hlen:=congrArg List.length hl;simp at hlen;rw[m0b];simp only[tfd,if_pos (idx hl hi rfl),b0u hl hi,obs,tfn];rw[h1y n (hw x (by rw[hl];simp)) F (nodup_firsts pre),obs,chkF,chkR];have hlate:Late tm36 pre x↔(x.1∈firsts pre∧x.2.1≤F x.1):=late_iff tm36 hF x;by_cases hb:badR x=0
  ·rw[if_pos hb,if_pos hb];by_cases h9:Late tm36 pre x
   ·rw[if_pos h9,if_pos (hlate.1 h9)];simp only[n9,if_false,hi]
   ·rw[if_neg h9,if_neg fun k=>h9 (hlate.2 k),if_pos rfl,if_pos rfl];simp only;rw[w64 (x:=i+1) (by omega) (by omega),←firsts_snoc];exact ih (pre++[x]) f (setF F x.1 x.2.1) (i+1) (idxl hl) (idxs hi) (by simp at hf;omega) (last_next tm36 hF h9)
  ·rw[if_neg hb,if_neg hb,if_neg hb];simp only;rw[if_neg hb,if_neg hb,hi]
noncomputable def q0u (rows:List c0o):Int×Int:=if rows.length<1∨1024<rows.length then (0,6) else chkF badR tm36 9 [] rows
theorem b2o (rows:List c0o) (h:(chkF badR tm36 9 [] rows).2=0):chkF badR tm36 9 [] rows=(0,0):=(r1i badR tm36 9 (by decide) rows [] ⟨by simp,fun k=>by simp[ofK]⟩).2 h
theorem z0i (n:Nat) {rows:List c0o} (hw:∀x∈rows,EvW x.2):d0r (n+9) rows=some (q0u rows):=by
 rw[b1j];unfold q0u;simp only[tfd];by_cases h1:rows.length<1
 ·rw[if_pos (by omega),if_pos (.inl h1)]
 rw[if_neg (by omega)];by_cases h2:1024<rows.length
 ·rw[if_pos (by omega),if_pos (.inr h2)]
 rw[if_neg (by omega),if_neg (by omega)];have:=check_l5 n hw (by omega) rows [] a0b (fun _=>0) 0 rfl rfl (by unfold a0b;omega) (last_nil tm36 _)
 change a0a (f0t (n+8) a0b (valM keyB (fun _=>0) (firsts ([]:List c0o)),rows,(rows.length:Int),0,())) _=_
 rw[this,obs];by_cases h3:(chkF badR tm36 9 [] rows).2=0
 ·rw[if_pos h3,b0p,b2o rows h3]
 ·rw[if_neg h3,l0j]
theorem set_mid {α:Type} (pre rest:List α) (x y:α):List.set (pre++x::rest) (Int.toNat ((pre.length:Nat):Int)) y=pre++y::rest:=by
 rw[Int.toNat_natCast,List.set_append_right _ _ (Nat.le_refl _),Nat.sub_self,List.set_cons_zero]
theorem g1c {α:Type} (pre rest:List α) (x:α):(pre++x::rest)[Int.toNat ((pre.length:Nat):Int)]? = some x:=by
 rw[Int.toNat_natCast,List.getElem?_append_right (Nat.le_refl _),Nat.sub_self];rfl
theorem ofK_len (k:List Lab) (l:List c0o):(ofK k l).length≤l.length:=List.length_filter_le _ _
theorem group_l4 (n:Nat) {rows:List c0o} (hs:∀x∈rows,v0z x.1) (hL:rows.length≤1000000):∀(rest pre:List c0o) (f:Nat) (i:Int),rows=pre++rest→i=pre.length→rest.length<f →
  e0j (n+7) f (valM keyB (idxK (firsts pre)) (firsts pre),partsOf pre,rows,(rows.length:Int),i,())=some (.inl (partsOf rows,())):=by
 intro rest;induction rest with
 | nil =>
  intro pre f i hl hi hf;obtain ⟨f,rfl⟩:∃g,f=g+1:=⟨f-1,by simp at hf;omega⟩;rw[m0a];simp only[tfd,if_neg (idxe hl hi rfl)];rw[hl,List.append_nil]
 | cons x rest ih =>
  intro pre f i hl hi hf;obtain ⟨f,rfl⟩:∃g,f=g+1:=⟨f-1,by simp at hf;omega⟩;have hlen:=congrArg List.length hl;simp at hlen;have hpl:=firsts_len pre;have hpp:=partsOf_len pre;have IH:=ih (pre++[x]) f (i+1) (idxl hl) (idxs hi) (by simp at hf;omega);rw[m0a,decide_eq_true (idx hl hi rfl),tft,b0u hl hi,obs,t0n n (hs x (by rw[hl];simp)),obs,mgetI_val keyB w0v];rw[w64 (x:=i+1) (by omega) (by omega)];by_cases h:x.1∈firsts pre
  ·rw[if_pos h,tfn,tft];obtain ⟨j,ej,hj⟩:=idxK_at h;have hp:=partsOf_at hj;have hlt:=(List.getElem?_eq_some_iff.1 hp).1;have hk:=ofK_len x.1 pre;dsimp only;rw[ej,i1a hp,obs,Int.toNat_natCast,hp,obs,decide_eq_true (by omega),tft,obs,decide_eq_true rfl,tft,decide_eq_true hlt,tft,←parts_old hj];have e:firsts (pre++[x])=firsts pre:=by rw[firsts_snoc,l1r h]
   rw[e] at IH;exact IH
  ·rw[if_neg h,tfn,tff];have hm:=mput_val keyB w0v (f:=idxK (firsts pre)) (g:=idxK (firsts (pre++[x]))) (k:=x.1) (v:=(((partsOf pre).length:Nat):Int)) (nodup_firsts pre)
    (by rw[firsts_snoc,idxK_new h,hpp]) (fun j hj _=>by rw[firsts_snoc,idxK_old hj])
   rw[decide_eq_true (show ((partsOf pre).length+1)*24≤140737488355328 by omega),tft,b0u (pre:=partsOf pre) (rest:=[]) rfl rfl,obs,g1c,obs,
    decide_eq_true (show (([]:List c0o).length+1)*56≤140737488355328 by simp),tft,obs,decide_eq_true rfl,tft,
    tfd,if_pos (by simp),hm,set_mid,List.nil_append,←parts_new h,←firsts_snoc]
   exact IH
theorem b2f (n:Nat) {parts:List (List c0o)} (hL:parts.length≤1000000) (hf9:parts.flatten.length≤1000000):∀(rest pre:List (List c0o)) (f:Nat) (i:Int),parts=pre++rest→i=pre.length→rest.length<f →
  e0f n f (parts,(pre.flatten.length:Int),(parts.length:Int),i,())=some (.inl (parts,((parts.flatten.length:Int),()))):=by
 intro rest;induction rest with
 | nil =>
  intro pre f i hl hi hf;obtain ⟨f,rfl⟩:∃g,f=g+1:=⟨f-1,by simp at hf;omega⟩;rw[j0s];simp only[tfd,if_neg (idxe hl hi rfl)];rw[show pre=parts by rw[hl,List.append_nil]]
 | cons p rest ih =>
  intro pre f i hl hi hf;obtain ⟨f,rfl⟩:∃g,f=g+1:=⟨f-1,by simp at hf;omega⟩;have hlen:=congrArg List.length hl;have hfl:parts.flatten.length=pre.flatten.length+p.length+rest.flatten.length:=by rw[hl];simp;omega
  simp at hlen;have IH:=ih (pre++[p]) f (i+1) (idxl hl) (idxs hi) (by simp at hf;omega);rw[j0s,decide_eq_true (idx hl hi rfl),tft,b0u hl hi,obs];subst hi;have hg:parts[Int.toNat ((pre.length:Nat):Int)]? = some p:=by rw[hl];exact g1c _ _ _
  have hset:List.set parts (Int.toNat ((pre.length:Nat):Int)) p=parts:=by
   conv=>rhs;rw[hl]
   rw[hl];exact set_mid _ _ _ _
  rw[hg,obs,hset,w64 (x:=((pre.flatten.length:Nat):Int)+((p.length:Nat):Int)) (by omega) (by omega),decide_eq_false (by omega),tff,w64 (x:=((pre.length:Nat):Int)+1) (by omega) (by omega)];have e:(((pre++[p]).flatten.length:Nat):Int)=((pre.flatten.length:Nat):Int)+((p.length:Nat):Int):=by simp
  rw[e] at IH;exact IH
theorem v1h (n:Nat) {parts:List (List c0o)} (hL:parts.length≤1000000) (hf9:parts.flatten.length≤1000000):∀(rest pre:List (List c0o)) (f:Nat) (i:Int),parts=pre++rest→i=pre.length→rest.length<f →
  d0t n f (pre.flatten,parts,(parts.length:Int),i,())=some (.inl (parts.flatten,())):=by
 intro rest;induction rest with
 | nil =>
  intro pre f i hl hi hf;obtain ⟨f,rfl⟩:∃g,f=g+1:=⟨f-1,by simp at hf;omega⟩;rw[i0p];simp only[tfd,if_neg (idxe hl hi rfl)];rw[show pre=parts by rw[hl,List.append_nil]]
 | cons p rest ih =>
  intro pre f i hl hi hf;obtain ⟨f,rfl⟩:∃g,f=g+1:=⟨f-1,by simp at hf;omega⟩;have hlen:=congrArg List.length hl;have hfl:parts.flatten.length=pre.flatten.length+p.length+rest.flatten.length:=by rw[hl];simp;omega
  simp at hlen;have IH:=ih (pre++[p]) f (i+1) (idxl hl) (idxs hi) (by simp at hf;omega);rw[i0p,decide_eq_true (idx hl hi rfl),tft,b0u hl hi,obs];subst hi;have hg:parts[Int.toNat ((pre.length:Nat):Int)]? = some p:=by rw[hl];exact g1c _ _ _
  have hset:List.set parts (Int.toNat ((pre.length:Nat):Int)) p=parts:=by
   conv=>rhs;rw[hl]
   rw[hl];exact set_mid _ _ _ _
  rw[hg,obs,hset,decide_eq_true (by omega),tft,w64 (x:=((pre.length:Nat):Int)+1) (by omega) (by omega)];have e:(pre++[p]).flatten=pre.flatten++p:=by simp
  rw[e] at IH;exact IH
theorem v1g (n:Nat) {parts:List (List c0o)} (hL:parts.length≤1000000) (hf9:parts.flatten.length≤1000000):m0r (n+2) parts=some parts.flatten:=by
 rw[w0f];have h3:=b2f (n+1) hL hf9 parts [] a0b 0 rfl rfl (by unfold a0b;omega);have h11:=v1h (n+1) hL hf9 parts [] a0b 0 rfl rfl (by unfold a0b;omega)
 change a0a (e0f (n+1) a0b (parts,((([]:List (List c0o)).flatten.length:Nat):Int),(parts.length:Int),0,())) _=_
 rw[h3,obs,b0p,z0u];dsimp only;have hg:v0t 56 ([]:List c0o) ((parts.flatten.length:Nat):Int)=some []:=by
  unfold v0t;rw[decide_eq_true (show ([]:List c0o).length=0 from rfl),decide_eq_true (show (0:Int)≤((parts.flatten.length:Nat):Int) by omega),Int.toNat_natCast,decide_eq_true (show parts.flatten.length*56≤140737488355328 by omega)];rfl
 rw[hg,obs]
 change a0a (d0t (n+1) a0b (([]:List (List c0o)).flatten,parts,(parts.length:Int),0,())) _=_
 rw[h11,obs,b0p]
theorem z0h (n:Nat) {rows:List c0o} (hs:∀x∈rows,v0z x.1) (hL:rows.length≤1000000):h0g (n+8) rows=some (grpV rows):=by
 rw[b1i];have h:=group_l4 n hs hL rows [] a0b 0 rfl rfl (by unfold a0b;omega)
 change a0a (e0j (n+7) a0b (valM keyB (idxK (firsts ([]:List c0o))) (firsts ([]:List c0o)),partsOf ([]:List c0o),rows,(rows.length:Int),0,())) _=_
 have h1:=firsts_len rows;have h2:=partsOf_len rows;have h3:=grpV_len rows;unfold grpV at h3;rw[h,obs,b0p];dsimp only;rw[v1g (n+5) (by omega) (by omega),obs];rfl
noncomputable def o0m (s:Sta) (x:c0o):Sta:=if (c0g s x.1 x.2).2=0 then (c0g s x.1 x.2).1 else s
noncomputable def stE:Sta→List c0o→Sta
 | s,[]=>s
 | s,x::r=>stE (o0m s x) r
noncomputable def erE:Sta→List c0o→List Int
 | _,[]=>[]
 | s,x::r=>(c0g s x.1 x.2).2::erE (o0m s x) r
theorem y1o {s:Sta} (hw:StaW s) (x:c0o):StaW (o0m s x):=by
 unfold o0m;split
 ·exact writeV_w hw _ _
 ·exact hw
theorem stE_w:∀(r:List c0o) {s:Sta},StaW s→StaW (stE s r):=by
 intro r;induction r with
 | nil=>intro s h;exact h
 | cons x r ih=>intro s h;exact ih (y1o h x)
theorem a2n:∀(r:List c0o) (s:Sta),(erE s r).length=r.length:=by
 intro r;induction r with
 | nil=>intro s;rfl
 | cons x r ih=>intro s;simp[erE,ih]
theorem each_l3 (n:Nat) {rows:List c0o} (hr:∀x∈rows,EvW x.2) (hL:rows.length≤1000000) (s4:Sta):∀(rest pre:List c0o) (s:Sta) (E:List Int) (f:Nat) (i:Int),rows=pre++rest→i=pre.length→rest.length<f→E.length=pre.length→StaW s →
  c0f (n+24) f (s,s4,E++List.replicate rest.length (0:Int),rows,(rows.length:Int),i,())=some (.inl (stE s rest,(s4,(E++erE s rest,())))):=by
 intro rest;induction rest with
 | nil =>
  intro pre s E f i hl hi hf hE hs;obtain ⟨f,rfl⟩:∃g,f=g+1:=⟨f-1,by simp at hf;omega⟩;rw[c0n];simp only[tfd,if_neg (idxe hl hi rfl)];rfl
 | cons x rest ih =>
  intro pre s E f i hl hi hf hE hs;obtain ⟨f,rfl⟩:∃g,f=g+1:=⟨f-1,by simp at hf;omega⟩;have hlen:=congrArg List.length hl;simp at hlen;rw[c0n,decide_eq_true (idx hl hi rfl),tft,b0u hl hi,obs,v1x n hs x.1 (hr x (by rw[hl];simp)),obs];rw[show List.replicate (x::rest).length (0:Int)=0::List.replicate rest.length 0 from rfl,b0u (pre:=E) (rest:=List.replicate rest.length (0:Int)) rfl (by omega),obs];have e:i=((E.length:Nat):Int):=by omega
  rw[show Int.toNat i=Int.toNat ((E.length:Nat):Int) by rw[←e],g1c,obs,set_mid,tfd,w64 (x:=i+1) (by omega) (by omega)];have IH:=ih (pre++[x]) (o0m s x) (E++[(c0g s x.1 x.2).2]) f (i+1) (idxl hl) (idxs hi) (by simp at hf;omega) (by simp;omega) (y1o hs x);rw[List.append_assoc,List.singleton_append] at IH;have e2:∀(z:Int),E++[z]++erE (o0m s x) rest=E++z::erE (o0m s x) rest:=fun z=>by simp
  rw[e2] at IH;have hst:stE s (x::rest)=stE (o0m s x) rest:=rfl;have her:erE s (x::rest)=(c0g s x.1 x.2).2::erE (o0m s x) rest:=rfl;rw[hst,her,←IH];unfold o0m;split<;>rfl
theorem d1h (n:Nat) {s:Sta} (hw:StaW s) {rows:List c0o} (hr:∀x∈rows,EvW x.2) (hL:rows.length≤1000000):j0k (n+25) s rows=some (stE s rows,erE s rows):=by
 rw[t0p,x0i,if_pos (by simp only[Bool.and_eq_true,decide_eq_true_eq];omega),Int.toNat_natCast];have:=each_l3 n hr hL (((0:Int),(((0:Int),((0:Int),(0:Int))),(((0:Int),((0:Int),(0:Int))),((0:Int),(0:Int))))),((0:Int),((0:Int),[]))) rows [] s [] a0b 0 rfl rfl (by unfold a0b;omega) rfl hw;rw[List.nil_append,List.nil_append] at this;rw[this,obs,b0p]
theorem t1h (n:Nat) (a:c0o) (hl:a.1.length≤9223372036854775807):e1v (n+2) a a=some true:=by
 rw[n1m,o1s n a.1 a.1 hl,obs];simp[x0i]
theorem same36_l (n:Nat) {l:List c0o} (hl:l.length≤1000000) (hw:∀r∈l,r.1.length≤9223372036854775807):∀(rest pre:List c0o) (f:Nat) (i:Int),l=pre++rest→i=pre.length→rest.length<f →
  g0i (n+2) f (l,l,(l.length:Int),i,())=some (.inl ()):=by
 intro rest;induction rest with
 | nil =>
  intro pre f i h hi hf;obtain ⟨f,rfl⟩:∃g,f=g+1:=⟨f-1,by simp at hf;omega⟩;rw[k0i];simp only[tfd,if_neg (idxe h hi rfl)]
 | cons a rest ih =>
  intro pre f i h hi hf;obtain ⟨f,rfl⟩:∃g,f=g+1:=⟨f-1,by simp at hf;omega⟩;have hlen:=congrArg List.length h;simp at hlen;rw[k0i,decide_eq_true (idx h hi rfl),tft,b0u h hi,obs,obs,t1h n a (hw a (by rw[h];simp)),obs,Bool.not_true,tff,w64 (x:=i+1) (by omega) (by omega)];exact ih (pre++[a]) f (i+1) (idxl h) (idxs hi) (by simp at hf;omega)
theorem same36 (n:Nat) {l:List c0o} (hl:l.length≤1000000) (hw:∀r∈l,r.1.length≤9223372036854775807):h0v (n+3) l l=some true:=by
 rw[y0b,decide_eq_true rfl,Bool.not_true,tff,same36_l n hl hw l [] a0b 0 rfl rfl (by unfold a0b;omega),obs,b0p]
theorem x1a (n:Nat) {rows:List c0o} (hl9:∀x∈rows,x.1.length≤9223372036854775807) (hL:rows.length≤1000000):∀(rest pre:List c0o) (f:Nat) (i:Int),rows=pre++rest→i=pre.length→rest.length<f →
  h0y (n+1) f (rows,(rows.length:Int),i,())=some (.inr 0)∨(h0y (n+1) f (rows,(rows.length:Int),i,())=some (.inl ())∧∀x∈rest,v0z x.1):=by
 intro rest;induction rest with
 | nil =>
  intro pre f i h hi hf;obtain ⟨f,rfl⟩:∃g,f=g+1:=⟨f-1,by simp at hf;omega⟩;rw[o0q];simp only[tfd,if_neg (idxe h hi rfl)];exact .inr ⟨trivial,by simp⟩
 | cons a rest ih =>
  intro pre f i h hi hf;obtain ⟨f,rfl⟩:∃g,f=g+1:=⟨f-1,by simp at hf;omega⟩;have hlen:=congrArg List.length h;simp at hlen;rw[o0q,decide_eq_true (idx h hi rfl),tft,b0u h hi,obs,w64 (x:=i+1) (by omega) (by omega)];rcases short05 n a.1 (hl9 a (by rw[h];simp)) with h1 | ⟨h1,h2⟩
  ·rw[h1,obs,decide_eq_true rfl,tft];exact .inl rfl
  ·rw[h1,obs,decide_eq_false (by decide),tff];rcases ih (pre++[a]) f (i+1) (idxl h) (idxs hi) (by simp at hf;omega) with k | ⟨k1,k2⟩
   ·exact .inl k
   ·refine .inr ⟨k1,fun x hx => ?_⟩;rcases List.mem_cons.1 hx with rfl | hx
    ·exact h2
    ·exact k2 x hx
theorem small36 (n:Nat) {rows:List c0o} (hl9:∀x∈rows,x.1.length≤9223372036854775807):s0y (n+2) rows=some 0∨(s0y (n+2) rows=some 1∧rows.length≤40∧∀x∈rows,v0z x.1):=by
 rw[k1f,tfd];by_cases h:40<rows.length
 ·rw[if_pos (by omega)];exact .inl rfl
 rw[if_neg (by omega)];rcases x1a n hl9 (by omega) rows [] a0b 0 rfl rfl (by unfold a0b;omega) with k | ⟨k1,k2⟩
 ·rw[k,obs,l0j];exact .inl rfl
 ·rw[k1,obs,b0p];exact .inr ⟨rfl,by omega,k2⟩
end Go.Proofs.YtfibfcjepngbmaaGreatDoor
namespace Go.Proofs.YtfibfcjepngbmaaGreatDoor
open Go.Flat
theorem ob {α β:Type} {o:Option α} {x:α} {f:α→Option β} {r:Option β} (h:o=some x) (k:f x=r):a0a o f=r:=by rw[h];exact k
theorem tt {α:Type} {b:Bool} {x y r:α} (h:b=true) (k:x=r):tif b x y=r:=by rw[h];exact k
theorem tf {α:Type} {b:Bool} {x y r:α} (h:b=false) (k:y=r):tif b x y=r:=by rw[h];exact k
theorem atFuel {α σ:Type} {g:Nat→σ→Option α} {c:Nat} {s:σ} {r:Option α} (k:g (a0b-c+c) s=r) (h:c≤a0b):g a0b s=r:=by rw[Nat.sub_add_cancel h] at k;exact k
end Go.Proofs.YtfibfcjepngbmaaGreatDoor
