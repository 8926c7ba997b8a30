/-
 Plain proofs about the functions of this seat, part 2 of 3.
-/
import Derived.Test.YtjionkknnajjgaaGreatDoorQ1
import Derived.Test.YtjionkknnajjgaaGreatDoorTr
import Derived.Test.YtjionkknnajjgaaGreatDoorFlatM4
namespace Go.Proofs.YtjionkknnajjgaaGreatDoor
open Go.Flat Go.Plim
set_option linter.unusedVariables false
set_option linter.unusedSimpArgs false
structure TrsW (s:Trs):Prop where
 a:∀x∈s.1,SloW x
 b:∀x∈s.2.1,SloW x
 c:∀x∈s.2.2,SloW x
theorem FoldOk.w {c:Conf} {s:Trs} (h:FoldOk c s):TrsW s:=⟨p0x h.t0,p0x h.t1,p0x h.t2⟩
theorem m0q (n:Nat) (c:Conf):f0o (n+3) c=some (if OkC c then 0 else 2):=by
 by_cases h:OkC c
 ·rw[if_pos h,check_ok n h]
 ·rw[if_neg h,check_no n h]
theorem u0k (n:Nat) (c:Conf) {s:Trs} (hw:TrsW s):u0l (n+8) c s=some (if FoldOk c s then (some (c,s),0) else (none,2)):=by
 rw[l1w,m0q (n+4),p0v n _ _ hw.a,p0v n _ _ hw.b,p0v n _ _ hw.c];simp only[obs,tfn,tfd];by_cases h0:OkC c
 case neg=>rw[if_neg (mt (z02 _).1 h0),if_neg h0,if_neg (fun k:FoldOk c s=>h0 k.cok)]
 rw[if_pos ((z02 _).2 h0)];by_cases h1:(s.1.length:Int)=c.2.2.1.1
 case neg=>rw[if_neg h1,if_neg (fun k:FoldOk c s=>h1 k.n0)]
 rw[if_pos h1];by_cases h2:TierOk s.1 c.2.1.1
 case neg=>rw[if_neg (mt (z02 _).1 h2),if_neg (fun k:FoldOk c s=>h2 k.t0)]
 rw[if_pos ((z02 _).2 h2)];by_cases h3:(s.2.1.length:Int)=c.2.2.1.2.1
 case neg=>rw[if_neg h3,if_neg (fun k:FoldOk c s=>h3 k.n1)]
 rw[if_pos h3];by_cases h4:TierOk s.2.1 c.2.1.2.1
 case neg=>rw[if_neg (mt (z02 _).1 h4),if_neg (fun k:FoldOk c s=>h4 k.t1)]
 rw[if_pos ((z02 _).2 h4)];by_cases h5:(s.2.2.length:Int)=c.2.2.1.2.2
 case neg=>rw[if_neg h5,if_neg (fun k:FoldOk c s=>h5 k.n2)]
 rw[if_pos h5];by_cases h6:TierOk s.2.2 c.2.1.2.2
 case neg=>rw[if_neg (mt (z02 _).1 h6),if_neg (fun k:FoldOk c s=>h6 k.t2)]
 rw[if_pos ((z02 _).2 h6),if_pos (⟨h0,h1,h3,h5,h2,h4,h6⟩:FoldOk c s)]
theorem v1p (n:Nat) (c:Conf) {s:Trs} (hw:TrsW s):w0e (n+9) c s=some (if FoldOk c s then 0 else 2):=by
 rw[h1q,u0k n c hw];by_cases h:FoldOk c s
 ·rw[if_pos h,if_pos h];rfl
 ·rw[if_neg h,if_neg h];rfl
noncomputable def emp (c:Conf):Trs:=if OkC c then (List.replicate c.2.2.1.1.toNat s0,(List.replicate c.2.2.1.2.1.toNat s0,List.replicate c.2.2.1.2.2.toNat s0)) else ([],([],[]))
theorem v1n (n:Nat) (c:Conf):w0c (n+4) c=some (emp c):=by
 rw[h1o,m0q n];simp only[obs,tfn,tfd,tier_new];unfold emp;by_cases h:OkC c
 ·have h0:=h.rng.n0;have h1:=h.rng.n1;have h2:=h.rng.n2;rw[if_pos ((z02 _).2 h),if_pos h,if_pos h0,if_pos h1,if_pos h2]
 ·rw[if_neg (mt (z02 _).1 h),if_neg h]
theorem quo_top {w:Int} (hw:1≤w):IntKind.wrap .i64 (Int.tdiv 35184372088831 w)=35184372088831 / w:=by
 have:0≤(35184372088831:Int) / w:=Int.ediv_nonneg (by decide) (by omega);have:(35184372088831:Int) / w≤35184372088831:=Int.ediv_le_self _ (by decide);rw[n0g (by decide),w64 (by omega) (by omega)]
theorem begins_0 (n:Nat) (c:Conf) (s:Trs) (h:1≤c.2.1.1) (i:Int):o0a (n+1) (c,s) 0 i=some (decide (h0d c.2.1.1 i),(c,s)):=by
 rw[y0e];simp only[tfd,if_neg (show ¬(c.2.1.1=0) by omega),quo_top h];by_cases h0:(0:Int)≤i
 ·rw[if_pos h0];refine congrArg (fun b=>some (b,(c,s))) (decide_eq_decide.2 ⟨fun k=>⟨h0,k⟩,fun k=>k.2⟩)
 ·rw[if_neg h0,decide_eq_false (fun k:h0d c.2.1.1 i=>h0 k.1)]
theorem allE_okc (l:List Cel):∀c,c0x c→c0x (allE c l).1:=by
 induction l with
 | nil=>intro c h;exact h
 | cons x l ih =>
  intro c h;simp only[allE];split
  ·rename_i k;exact ih _ (o1w k).2.2.2.2
  ·exact z1h
theorem j1p (l:List Slo) (i k:Int):c0x (t1f l i k).1:=by
 unfold t1f;split
 ·exact z1h
 ·exact allE_okc _ _ z1h
theorem e1b {a b i:Int} (ha:1≤a∧a≤1099511627776) (hb:1≤b∧b≤1099511627776) (hm:b % a=0) (h:h0d b i) :
  IntKind.wrap .i64 (i*(b / a))=i*(b / a)∧IntKind.wrap .i64 ((IntKind.wrap .i64 (i+1))*(b / a))=(i+1)*(b / a):=by
 obtain ⟨h1,h2,h3,h4,h5,h6⟩:=u1z ha hb hm h;have:=m1n hb.1 h;have:=h.1;rw[w64 (x:=i+1) (by omega) (by omega),h6,w64 (by omega) (by omega),w64 (by omega) (by omega)];exact ⟨rfl,rfl⟩
theorem v1m (n:Nat) {c:Conf} {s:Trs} (h:FoldOk c s) {i:Int} (hb:h0d c.2.1.2.1 i):g0b (n+19) (c,s) 1 i=some ((mk1 c s i).1,((mk1 c s i).2,(c,s))):=by
 have hr:=h.cok.rng;obtain ⟨e1,e2⟩:=e1b hr.w0 hr.w1 h.cok.m1 hb;rw[c1s];simp only[tfd,if_neg (show ¬(c.2.1.1=0) by have:=hr.w0;omega),u1n hr.w1 hr.w0.1,e1,e2,j1l n h.t0,obs];rfl
theorem v1l (n:Nat) {c:Conf} {s:Trs} (h:FoldOk c s) {i:Int} (hb:h0d c.2.1.2.2 i):g0b (n+19) (c,s) 2 i=some ((mk2 c s i).1,((mk2 c s i).2,(c,s))):=by
 have hr:=h.cok.rng;obtain ⟨e1,e2⟩:=e1b hr.w1 hr.w2 h.cok.m2 hb;rw[c1r];simp only[tfd,if_neg (show ¬(c.2.1.2.1=0) by have:=hr.w1;omega),u1n hr.w2 hr.w1.1,e1,e2,j1l n h.t1,obs];rfl
theorem b2a (n:Nat) {c:Conf} {s:Trs} (h:FoldOk c s) (i:Int) {x:Cel} (hx:CelW x):e0s (n+9) (c,s) 0 i x=some (if FitsP x c.2.1.1 i then (0,(c,(tput s.1 i x,s.2))) else (2,(c,s))):=by
 rw[h1y,f1f n _ _ (p0x h.t0) hx];simp only[obs,tfd];by_cases hf:FitsP x c.2.1.1 i
 ·rw[if_pos (And.intro h.t0 hf),if_pos hf];rfl
 ·have hn:¬(TierOk s.1 c.2.1.1∧FitsP x c.2.1.1 i):=fun k=>hf k.2
  rw[if_neg hn,if_neg hf];rfl
theorem a2z (n:Nat) {c:Conf} {s:Trs} (h:FoldOk c s) (i:Int) {x:Cel} (hx:CelW x):e0s (n+9) (c,s) 1 i x=some (if FitsP x c.2.1.2.1 i then (0,(c,(s.1,(tput s.2.1 i x,s.2.2)))) else (2,(c,s))):=by
 rw[h1w,f1f n _ _ (p0x h.t1) hx];simp only[obs,tfd];by_cases hf:FitsP x c.2.1.2.1 i
 ·rw[if_pos (And.intro h.t1 hf),if_pos hf];rfl
 ·have hn:¬(TierOk s.2.1 c.2.1.2.1∧FitsP x c.2.1.2.1 i):=fun k=>hf k.2
  rw[if_neg hn,if_neg hf];rfl
theorem a2y (n:Nat) {c:Conf} {s:Trs} (h:FoldOk c s) (i:Int) {x:Cel} (hx:CelW x):e0s (n+9) (c,s) 2 i x=some (if FitsP x c.2.1.2.2 i then (0,(c,(s.1,(s.2.1,tput s.2.2 i x)))) else (2,(c,s))):=by
 rw[h1u,f1f n _ _ (p0x h.t2) hx];simp only[obs,tfd];by_cases hf:FitsP x c.2.1.2.2 i
 ·rw[if_pos (And.intro h.t2 hf),if_pos hf];rfl
 ·have hn:¬(TierOk s.2.2 c.2.1.2.2∧FitsP x c.2.1.2.2 i):=fun k=>hf k.2
  rw[if_neg hn,if_neg hf];rfl
theorem q0h {a w i j:Int} (ha:1≤a) (hw:1≤w) (h0:0≤i) (hij:i≤j) (hj:h0d a j) :
  IntKind.wrap .i64 (Int.tdiv (IntKind.wrap .i64 (i*a)) w)=i*a / w∧h0d w (i*a / w):=by
 have hm:=hj.mul ha;have h1:0≤i*a:=Int.mul_nonneg h0 (by omega);have h2:i*a≤j*a:=Int.mul_le_mul_of_nonneg_right hij (by omega);have h3:0≤i*a / w:=Int.ediv_nonneg h1 (by omega);have h4:i*a / w≤i*a:=Int.ediv_le_self _ h1;rw[w64 (x:=i*a) (by omega) (by omega),n0g h1,w64 (by omega) (by omega)];exact ⟨rfl,e1n hw ⟨h1,by omega⟩⟩
theorem x1t (n:Nat) {c:Conf} {s:Trs} (h:FoldOk c s) {i j:Int} (h0:0≤i) (hij:i≤j) (hj:h0d c.2.1.1 j) :
  (tif (decide (IntKind.wrap .i64 (Int.tdiv (IntKind.wrap .i64 (i*c.2.1.1)) c.2.1.2.2)=IntKind.wrap .i64 (Int.tdiv (IntKind.wrap .i64 (j*c.2.1.1)) c.2.1.2.2))) (some (c,s))
   (a0a (g0b (n+19) (c,s) (2:Int) (IntKind.wrap .i64 (Int.tdiv (IntKind.wrap .i64 (i*c.2.1.1)) c.2.1.2.2))) fun r0 =>
    tif (decide (r0.2.1=(0:Int))) (tif (decide ((0:Int)<r0.1.1)) (a0a (e0s (n+19) r0.2.2 (2:Int) (IntKind.wrap .i64 (Int.tdiv (IntKind.wrap .i64 (i*c.2.1.1)) c.2.1.2.2)) r0.1) fun r1=>some r1.2) (some r0.2.2)) (some r0.2.2)))=some (c,up2 c s i j):=by
 have hr:=h.cok.rng;have hjj:0≤j:=hj.1;obtain ⟨e1,b1⟩:=q0h hr.w0.1 hr.w2.1 h0 hij hj;obtain ⟨e2,_⟩:=q0h hr.w0.1 hr.w2.1 hjj (Int.le_refl j) hj;rw[e1,e2,v1l n h b1];simp only[obs,tfd];unfold up2;by_cases c1:i*c.2.1.1 / c.2.1.2.2=j*c.2.1.1 / c.2.1.2.2
 ·rw[if_pos c1,if_pos c1]
 rw[if_neg c1,if_neg c1];generalize i*c.2.1.1 / c.2.1.2.2=a at *
 have hok:c0x (mk2 c s a).1:=j1p _ _ _;by_cases c2:(mk2 c s a).2=0
 ·rw[if_pos c2];by_cases c3:0<(mk2 c s a).1.1
  ·rw[if_pos c3,a2y (n+10) h a (CelW.of hok)];by_cases c4:FitsP (mk2 c s a).1 c.2.1.2.2 a
   ·rw[if_pos c4,if_pos (And.intro c2 c4)];rfl
   ·rw[if_neg c4,if_neg (fun k=>c4 k.2)];rfl
  ·rw[if_neg c3,if_neg (fun k=>c3 (by have:=k.2.n.n1;omega))]
 ·rw[if_neg c2,if_neg (fun k=>c2 k.1)]
theorem fold_up (n:Nat) {c:Conf} {s:Trs} (h:FoldOk c s) {i j:Int} (h0:0≤i) (hij:i≤j) (hj:h0d c.2.1.1 j):h1s (n+20) (c,s) i j=some (c,upw c s i j):=by
 have hr:=h.cok.rng;have hjj:0≤j:=hj.1;obtain ⟨e1,b1⟩:=q0h hr.w0.1 hr.w1.1 h0 hij hj;obtain ⟨e2,_⟩:=q0h hr.w0.1 hr.w1.1 hjj (Int.le_refl j) hj;have z1:¬(c.2.1.2.1=0):=by have:=hr.w1;omega
 have z2:¬(c.2.1.2.2=0):=by have:=hr.w2;omega
 rw[v1x];simp only[e1,e2,decide_eq_false z1,decide_eq_false z2,tff,v1m n h b1,obs,x1t n h h0 hij hj];unfold upw;simp only[tfd];by_cases c1:i*c.2.1.1 / c.2.1.2.1=j*c.2.1.1 / c.2.1.2.1
 ·have:up1 c s i j=s:=by unfold up1;rw[if_pos c1]
  rw[if_pos c1,this]
 rw[if_neg c1];have e3:up1 c s i j=if (mk1 c s (i*c.2.1.1 / c.2.1.2.1)).2=0∧FitsP (mk1 c s (i*c.2.1.1 / c.2.1.2.1)).1 c.2.1.2.1 (i*c.2.1.1 / c.2.1.2.1) then (s.1,(tput s.2.1 (i*c.2.1.1 / c.2.1.2.1) (mk1 c s (i*c.2.1.1 / c.2.1.2.1)).1,s.2.2)) else s:=by
  unfold up1;rw[if_neg c1]
 have hk:=up1_ok h i j;rw[e3] at hk ⊢;generalize i*c.2.1.1 / c.2.1.2.1=a at *
 have hok:c0x (mk1 c s a).1:=j1p _ _ _;by_cases c2:(mk1 c s a).2=0
 ·rw[if_pos c2];by_cases c3:0<(mk1 c s a).1.1
  ·rw[if_pos c3,a2z (n+10) h a (CelW.of hok)];by_cases c4:FitsP (mk1 c s a).1 c.2.1.2.1 a
   ·rw[if_pos (And.intro c2 c4)] at hk ⊢;rw[if_pos c4];have:=x1t n hk h0 hij hj;simp only[obs,if_neg z2];simp only[tfd] at this ⊢;exact this
   ·have hn1:¬((mk1 c s a).2=0∧FitsP (mk1 c s a).1 c.2.1.2.1 a):=fun k=>c4 k.2
    rw[if_neg hn1] at hk ⊢;rw[if_neg c4];have:=x1t n hk h0 hij hj;simp only[obs,if_neg z2];simp only[tfd] at this ⊢;exact this
  ·rw[if_neg c3,if_neg (fun k=>c3 (by have:=k.2.n.n1;omega))]
 ·rw[if_neg c2,if_neg (fun k=>c2 k.1)]
noncomputable def x0j (c:Conf) (s:Trs) (was:Slo) (j:Int):Trs×Int :=
 if FoldOk c s then
  (if was=s0 then (s,0)
   else if FitsP was.2 c.2.1.1 was.1 then
    (if was.1=j then (s,0) else if was.1≤j∧h0d c.2.1.1 j then (upw c (tput s.1 was.1 was.2,s.2) was.1 j,0) else (([],([],[])),1))
   else (([],([],[])),2))
 else (([],([],[])),2)
theorem a1w {c:Conf} {s:Trs} (h:FoldOk c s) {i:Int} {x:Cel} (hf:FitsP x c.2.1.1 i):FoldOk c (tput s.1 i x,s.2) :=
 ⟨h.cok,by simpa [tput] using h.n0,h.n1,h.n2,f1e h.t0 hf,h.t1,h.t2⟩
theorem v1o (n:Nat) (c:Conf) {s:Trs} (hw:TrsW s) {was:Slo} (hx:SloW was) (j:Int):w0d (n+21) c s was j=some (x0j c s was j):=by
 rw[h1p,u0k (n+12) c hw];unfold x0j;by_cases h:FoldOk c s
 case neg=>rw[if_neg h,if_neg h];rfl
 have hr:=h.cok.rng;rw[if_pos h,if_pos h];simp only[obs,q0i,decide_true,Bool.not_true,tff,y1d,tfn,tfd,if_true,s0u (n+14) hx.c];by_cases c1:was=s0
 ·rw[if_pos c1,if_pos c1,if_pos c1]
 rw[if_neg c1,if_neg c1,if_neg c1];by_cases c2:FitsP was.2 c.2.1.1 was.1
 case neg=>rw[if_neg c2,if_neg c2]
 rw[if_pos c2,if_pos c2];by_cases c3:was.1=j
 ·rw[if_pos c3,if_pos c3]
 rw[if_neg c3,if_neg c3];by_cases c4:j<was.1
 ·rw[if_pos c4,if_neg (fun q=>by omega)]
 rw[if_neg c4,begins_0 (n+19) c s hr.w0.1 j];simp only[obs,tfn,tfd];by_cases hb:h0d c.2.1.1 j
 ·have hi:=c2.i0;rw[if_pos hb,if_pos ⟨by omega,hb⟩,b2a (n+11) h was.1 hx.c,if_pos c2];simp only[obs,if_true,fold_up n (a1w h c2) hi.1 (show was.1≤j by omega) hb]
 ·rw[if_neg hb,if_neg (fun q=>hb q.2)]
theorem FoldOk.lens {c:Conf} {s:Trs} (h:FoldOk c s):s.1.length≤1000000∧s.2.1.length≤1000000∧s.2.2.length≤1000000:=by
 have:=h.t0.l1;have:=h.t1.l1;have:=h.t2.l1;omega
theorem trs_wf {s:Trs} (h:Wf (.wrap (.pair (.slice a0e) (.pair (.slice a0e) (.slice a0e)))) s):TrsW s:=by
 obtain ⟨h1,h2,h3⟩:=h;exact ⟨n1t h1,n1t h2,n1t h3⟩
abbrev Ser:=List Lab×(Int×(Rw×(Trs×Slo)))
structure SerW (s:Ser):Prop where
 last:I64 s.2.1
 raw:RawW s.2.2.1
 trs:TrsW s.2.2.2.1
 opn:SloW s.2.2.2.2
def b0i (l:List Slo) (i:Int):Prop:=∀s∈l,0<s.2.1→s.1<i
noncomputable instance (l i):Decidable (b0i l i):=Classical.propDecidable _
structure Fresh (s:Ser):Prop where
 raw:s.2.2.1.2.2=[]
 opn:s.2.2.2.2=s0
 b0:b0i s.2.2.2.1.1 0
 b1:b0i s.2.2.2.1.2.1 0
 b2:b0i s.2.2.2.1.2.2 0
structure EndsP (c:Conf) (s:Ser):Prop where
 last:∃e,s.2.2.1.2.2.getLast? = some e∧e.1=s.2.1
 ol:s.2.2.2.2.2.2.2.1.1=s.2.1
 fit:FitsP s.2.2.2.2.2 c.2.1.1 s.2.2.2.2.1
 b0:b0i s.2.2.2.1.1 (s.2.1 / c.2.1.1)
 b1:b0i s.2.2.2.1.2.1 (s.2.1 / c.2.1.2.1)
 b2:b0i s.2.2.2.1.2.2 (s.2.1 / c.2.1.2.2)
structure SerOk (c:Conf) (s:Ser):Prop where
 fold:FoldOk c s.2.2.2.1
 lab:LabOk s.1
 raw:RawOk s.2.2.1 c.1
 st:(s.2.1 = -1∧Fresh s)∨(s.2.1 ≠ -1∧EndsP c s)
noncomputable instance (s):Decidable (Fresh s):=Classical.propDecidable _
noncomputable instance (c s):Decidable (EndsP c s):=Classical.propDecidable _
noncomputable instance (c s):Decidable (SerOk c s):=Classical.propDecidable _
theorem i1l (n:Nat) {del:a0d×Unit→Option Bool} {p:Slo→Bool} (hd:∀x,del (x,())=some (p x)) (l:List Slo) (hL:l.length≤1000000):f0x (n+2) l del=some (l.any p):=by
 rw[n0m,i0z];rcases a2r hd n l hL l [] a0c 0 l.length rfl rfl rfl (by unfold a0c;omega) with ⟨h1,h2⟩ | ⟨A,x,B,h1,h2,h3,h4⟩
 ·rw[h1];have:l.any p=false:=by rw[List.any_eq_false];intro x hx;simp[h2 x hx]
  rw[this];rfl
 ·rw[h4];have:l.any p=true:=List.any_eq_true.2 ⟨x,by rw[h1];simp,h3⟩;simp only[obs,z0z,this,Int.zero_add];rw[decide_eq_true (by omega)]
theorem d0c (n:Nat) (l:List Slo) (i:Int) (hL:l.length≤1000000):d0m (n+3) l i=some (!decide (b0i l i)):=by
 rw[x0v,i1l (p:=fun s=>decide (0<s.2.1∧i≤s.1)) n (fun x=>by
  show k0g (n+1+1) x i=_;rw[t0t]
  by_cases h1:0<x.2.1<;>by_cases h2:i≤x.1<;>simp[h1,h2]) l hL]
 simp only[obs];refine congrArg some ?_;by_cases h:b0i l i
 ·rw[decide_eq_true h];rw[List.any_eq_false.2]
  ·rfl
  ·intro x hx k;have:=of_decide_eq_true k;have:=h x hx this.1;omega
 ·rw[decide_eq_false h];have:∃x∈l,0<x.2.1∧i≤x.1:=Classical.byContradiction fun k=>h fun x hx hc=>by
   rcases Int.lt_or_le x.1 i with q | q
   ·exact q
   ·exact absurd ⟨x,hx,hc,q⟩ k
  obtain ⟨x,hx,hq⟩:=this;rw[List.any_eq_true.2 ⟨x,hx,decide_eq_true hq⟩];rfl
theorem v1h (n:Nat) (c:Conf) {s:Ser} (hf:FoldOk c s.2.2.2.1):z0q (n+4) (c,s)=some (decide (Fresh s)):=by
 obtain ⟨l0,l1,l2⟩:=hf.lens;rw[j1w,y1d,d0c n _ _ l0,d0c n _ _ l1,d0c n _ _ l2];simp only[obs,Bool.not_not,tfd];by_cases h1:(s.2.2.1.2.2.length:Int)=0
 case neg=>rw[if_neg h1,decide_eq_false (fun k:Fresh s=>h1 (by rw[k.raw];rfl))]
 rw[if_pos h1];by_cases h2:s.2.2.2.2=s0
 case neg=>rw[if_neg h2,decide_eq_false (fun k:Fresh s=>h2 k.opn)]
 rw[if_pos h2];by_cases h3:b0i s.2.2.2.1.1 0
 case neg=>rw[if_neg h3,decide_eq_false (fun k:Fresh s=>h3 k.b0)]
 rw[if_pos h3];by_cases h4:b0i s.2.2.2.1.2.1 0
 case neg=>rw[if_neg h4,decide_eq_false (fun k:Fresh s=>h4 k.b1)]
 rw[if_pos h4];refine congrArg some (decide_eq_decide.2 ⟨fun k=>⟨List.length_eq_zero_iff.1 (by omega),h2,h3,h4,k⟩,fun k=>k.b2⟩)
theorem a2d {c:Conf} {s:Ser} (hr:RawOk s.2.2.1 c.1) {e:Ev} (he:s.2.2.1.2.2.getLast? = some e):EvOk e:=hr.f.ok e (List.mem_of_getLast? he)
theorem a2n (n:Nat) (c:Conf) {s:Ser} (hf:FoldOk c s.2.2.2.1) (hr:RawOk s.2.2.1 c.1) (hw:SerW s):y0m (n+7) (c,s)=some (decide (EndsP c s)):=by
 obtain ⟨l0,l1,l2⟩:=hf.lens;have hg:=hf.cok.rng;have hlen:=hr.len;have hm1:=hr.m1;rw[n1q,q1r (n+5) s.2.2.1 (by omega)];cases hl:s.2.2.1.2.2.getLast? with
 | none =>
  simp only[obs];rw[show (decide ((3:Int)=0))=false from rfl,tff,decide_eq_false];intro k;obtain ⟨e,he,_⟩:=k.last;rw[hl] at he;cases he
 | some e =>
  have heo:=a2d hr hl;simp only[obs,decide_true,tft,tfd,if_true];by_cases h1:e.1=s.2.1
  case neg =>
   rw[if_neg h1,decide_eq_false];intro k;obtain ⟨e',he,hq⟩:=k.last;rw[hl] at he;injection he with he;subst he;exact h1 hq
  rw[if_pos h1];by_cases h2:s.2.2.2.2.2.2.2.1.1=s.2.1
  case neg=>rw[if_neg h2,decide_eq_false (fun k:EndsP c s=>h2 k.ol)]
  have q0:=q1t heo hg.w0.1;have q1:=q1t heo hg.w1.1;have q2:=q1t heo hg.w2.1;rw[h1] at q0 q1 q2;rw[if_pos h2,s0u n hw.opn.c];simp only[obs,tfd,q0,q1,q2,d0c (n+3) _ _ l0,d0c (n+3) _ _ l1,d0c (n+3) _ _ l2,Bool.not_not,if_neg (show ¬(c.2.1.1=0) by have:=hg.w0;omega),if_neg (show ¬(c.2.1.2.1=0) by have:=hg.w1;omega),if_neg (show ¬(c.2.1.2.2=0) by have:=hg.w2;omega)];by_cases h3:FitsP s.2.2.2.2.2 c.2.1.1 s.2.2.2.2.1
  case neg=>rw[if_neg h3,decide_eq_false (fun k:EndsP c s=>h3 k.fit)]
  rw[if_pos h3];by_cases h4:b0i s.2.2.2.1.1 (s.2.1 / c.2.1.1)
  case neg=>rw[if_neg h4,decide_eq_false (fun k:EndsP c s=>h4 k.b0)]
  rw[if_pos h4];by_cases h5:b0i s.2.2.2.1.2.1 (s.2.1 / c.2.1.2.1)
  case neg=>rw[if_neg h5,decide_eq_false (fun k:EndsP c s=>h5 k.b1)]
  rw[if_pos h5];refine congrArg some (decide_eq_decide.2 ⟨fun k=>⟨⟨e,hl,h1⟩,h2,h3,h4,h5,k⟩,fun k=>k.b2⟩)
theorem z08 (p:Prop) [Decidable p]:((if p then (0:Int) else 8)=0)↔p:=by by_cases h:p<;>simp[h]
theorem o0w (n:Nat) (c:Conf) {s:Ser} (hw:SerW s):n0o (n+10) c s=some (if SerOk c s then (some (c,s),0) else (none,2)):=by
 rw[c1d,v1p n c hw.trs,h0s (n+3),k1h (n+4) _ _ hw.raw];simp only[obs,tfn,tfd];by_cases h1:FoldOk c s.2.2.2.1
 case neg=>rw[if_neg (mt (z02 _).1 h1),if_neg (fun k:SerOk c s=>h1 k.fold)]
 by_cases h2:LabOk s.1
 case neg=>rw[if_pos ((z02 _).2 h1),if_neg (mt (z08 _).1 h2),if_neg (fun k:SerOk c s=>h2 k.lab)]
 by_cases h3:RawOk s.2.2.1 c.1
 case neg=>rw[if_pos ((z02 _).2 h1),if_pos ((z08 _).2 h2),if_neg (mt (z02 _).1 h3),if_neg (fun k:SerOk c s=>h3 k.raw)]
 rw[if_pos ((z02 _).2 h1),if_pos ((z08 _).2 h2),if_pos ((z02 _).2 h3),v1h (n+5) c h1,a2n (n+2) c h1 h3 hw];simp only[obs,tfd];by_cases h4:s.2.1 = -1
 ·rw[if_pos h4];by_cases h5:Fresh s
  ·rw[if_pos h5,if_pos (⟨h1,h2,h3,.inl ⟨h4,h5⟩⟩:SerOk c s)]
  ·rw[if_neg h5,if_pos h4,if_neg (fun k:SerOk c s=>by
    rcases k.st with q | q
    ·exact h5 q.2
    ·exact q.1 h4)]
 ·rw[if_neg h4,if_neg h4];by_cases h5:EndsP c s
  ·rw[if_pos h5,if_pos (⟨h1,h2,h3,.inr ⟨h4,h5⟩⟩:SerOk c s)]
  ·rw[if_neg h5,if_neg (fun k:SerOk c s=>by
    rcases k.st with q | q
    ·exact h4 q.1
    ·exact h5 q.2)]
theorem x0c {l:List Slo} {w:Int} (h:TierOk l w) (i:Int):b0i l i↔∀s∈tall l,s.1<i:=by
 constructor
 ·intro k s hs;have:=(tall_N h hs).n1;exact k s (q0j.1 hs).1 (by omega)
 ·intro k s hs hc;exact k s (q0j.2 ⟨hs,fun e=>by rw[e] at hc;simp[s0,z0] at hc⟩)
theorem a1m {l:List Slo} {w:Int} (h:TierOk l w):b0i l 0↔tall l=[]:=by
 rw[x0c h];constructor
 ·intro k;by_cases e:tall l=[]
  ·exact e
  ·obtain ⟨s,hs⟩:=List.exists_mem_of_ne_nil _ e;have:=(l0r h hs).1.i0;have:=k s hs;omega
 ·intro e s hs;rw[e] at hs;cases hs
theorem nn {α:Type} {a b:α} (h:a=b):¬(a≠b):=fun k=>k h
def ser0:Ser:=([],(0,(r0w,(([],([],[])),s0))))
def q1c (s:Ser) (i:Int):Prop:=s.2.2.2.2≠s0∧s.2.2.2.2.1≠i
noncomputable instance (s i):Decidable (q1c s i):=Classical.propDecidable _
noncomputable def turned (c:Conf) (s:Ser) (i:Int):(Trs×Slo)×Int :=
 if q1c s i then (if (x0j c s.2.2.2.1 s.2.2.2.2 i).2=0 then (((x0j c s.2.2.2.1 s.2.2.2.2 i).1,s0),0) else ((s.2.2.2.1,s.2.2.2.2),(x0j c s.2.2.2.1 s.2.2.2.2 i).2)) else ((s.2.2.2.1,s.2.2.2.2),0)
noncomputable def putE (c:Conf) (s:Ser) (e:Ev):Ser×Int :=
 if SerOk c s∧EvOk e then
  (if e.1≤s.2.1 then (ser0,9)
   else if (turned c s (e.1 / c.2.1.1)).2≠0 then (ser0,(turned c s (e.1 / c.2.1.1)).2)
   else if (o0z s.2.2.1 c.1 e).2≠0 then (ser0,(o0z s.2.2.1 c.1 e).2)
   else if (mrgE (turned c s (e.1 / c.2.1.1)).1.2.2 (d0o e)).2≠0 then (ser0,(mrgE (turned c s (e.1 / c.2.1.1)).1.2.2 (d0o e)).2)
   else ((s.1,(e.1,((o0z s.2.2.1 c.1 e).1,((turned c s (e.1 / c.2.1.1)).1.1,(e.1 / c.2.1.1,(mrgE (turned c s (e.1 / c.2.1.1)).1.2.2 (d0o e)).1))))),0))
 else (ser0,2)
theorem k1y {c:Conf} {s:Ser} (h:SerOk c s):s.2.2.2.2.2.1=0↔s.2.2.2.2=s0:=by
 constructor
 ·intro k;rcases h.st with q | q
  ·exact q.2.opn
  ·have:=q.2.fit.n.n1;omega
 ·intro k;rw[k];rfl
theorem turned_w {c:Conf} {s:Ser} (hw:SerW s) (i:Int):SloW (turned c s i).1.2:=by
 unfold turned;split
 ·split
  ·exact f1u
  ·exact hw.opn
 ·exact hw.opn
theorem a2m (n:Nat) (c:Conf) {s:Ser} (h:SerOk c s) (hw:SerW s) (i:Int):f1s (n+22) (c,s) i=some ((turned c s i).2,(c,(s.1,(s.2.1,(s.2.2.1,(turned c s i).1))))):=by
 rw[n1p];simp only[tfd,v1o n c hw.trs hw.opn i,obs];unfold turned;by_cases h1:s.2.2.2.2.1=i
 ·rw[if_pos h1,if_neg (fun k:q1c s i=>k.2 h1)]
 rw[if_neg h1];by_cases h2:s.2.2.2.2.2.1=0
 ·rw[if_pos h2,if_neg (fun k:q1c s i=>k.1 ((k1y h).1 h2))]
 have ht:q1c s i:=⟨fun k=>h2 ((k1y h).2 k),h1⟩;rw[if_neg h2,if_pos ht];by_cases h3:(x0j c s.2.2.2.1 s.2.2.2.2 i).2=0
 ·rw[if_pos h3,if_pos h3,h3];rfl
 ·rw[if_neg h3,if_neg h3]
theorem t1w (n:Nat) (c:Conf) {s:Ser} (hw:SerW s) {e:Ev} (he:EvW e):v0i (n+23) c s e=some (putE c s e):=by
 rw[f1x,o0w (n+12) c hw,f0b _ he];unfold putE;by_cases h1:SerOk c s
 case neg=>rw[if_neg h1,if_neg (fun k:SerOk c s∧EvOk e=>h1 k.1)];rfl
 rw[if_pos h1];have hg:=h1.fold.cok.rng;simp only[obs,q0i,decide_true,Bool.not_true,tff,tfn,tfd];by_cases h2:EvOk e
 case neg=>rw[if_neg (mt (z02 _).1 h2),if_neg (fun k:SerOk c s∧EvOk e=>h2 k.2)];rfl
 rw[if_pos ((z02 _).2 h2),if_pos (And.intro h1 h2)];by_cases h3:e.1≤s.2.1
 ·rw[if_pos h3,if_pos h3];rfl
 rw[if_neg h3,if_neg h3,if_neg (show ¬(c.2.1.1=0) by have:=hg.w0;omega),q1t h2 hg.w0.1,a2m n c h1 hw];generalize ht:turned c s (e.1 / c.2.1.1)=t;have htw:=turned_w (c:=c) hw (e.1 / c.2.1.1);rw[ht] at htw;simp only[obs];by_cases h4:t.2=0
 case neg=>rw[if_neg h4,if_pos h4];rfl
 rw[if_pos h4,if_neg (nn h4),t1i,raw_put (n+15) c.1 hw.raw he,cell_add (n+14) htw.c he,if_pos h2];simp only[obs,tfn,tfd];by_cases h5:(o0z s.2.2.1 c.1 e).2=0
 case neg =>
  rw[if_neg h5,if_pos h5];simp only[obs];rw[if_neg h5];rfl
 rw[if_pos h5,if_neg (nn h5)];simp only[obs];by_cases h6:(mrgE t.1.2.2 (d0o e)).2=0
 ·rw[if_pos h6,if_neg (nn h6)];simp only[if_true]
 ·rw[if_neg h6,if_pos h6];rfl
end Go.Proofs.YtjionkknnajjgaaGreatDoor

namespace Go.Plim
set_option linter.unusedVariables false
def below (w:Int) (l:List Ev) (t:Int):List Ev:=l.filter fun e=>decide (e.1 / w<t / w)
structure EndsAt (l:List Ev) (t:Int):Prop where
 foll:Foll l
 le:∀e∈l,e.1≤t
 last:∃e∈l,e.1=t
theorem EndsAt.wle {l:List Ev} {t:Int} (h:EndsAt l t) {w:Int} (hw:1≤w):∀e∈l,e.1 / w≤t / w:=fun e he=>Int.ediv_le_ediv (by omega) (h.le e he)
theorem w1d {l:List Ev} {t:Int} (h:EndsAt l t) {w:Int} (hw:1≤w):l=below w l t++win w l (t / w):=by
 have key:∀(m:List Ev),(∀e∈m,e.1 / w≤t / w)→m.Pairwise (fun a b=>a.1 / w≤b.1 / w)→m=below w m t++win w m (t / w):=by
  intro m;induction m with
  | nil=>intro _ _;rfl
  | cons x m ih =>
   intro h1 h2;rw[List.pairwise_cons] at h2;have ih':=ih (fun e he=>h1 e (by simp[he])) h2.2;have hx:=h1 x (by simp);unfold below win at *
   by_cases c:x.1 / w<t / w
   ·rw[List.filter_cons_of_pos (by simpa using c),List.filter_cons_of_neg (by simp;omega),List.cons_append,←ih']
   ·have e0:m.filter (fun e=>decide (e.1 / w<t / w))=[]:=by
     rw[List.filter_eq_nil_iff];intro y hy;have:=h2.1 y hy;simp;omega
    rw[List.filter_cons_of_neg (by simpa using c),List.filter_cons_of_pos (by simp;omega),e0,List.nil_append];rw[e0,List.nil_append] at ih';rw[←ih']
 exact key l (h.wle hw) (foll_wd hw h.foll)
theorem x1e (t:List Slo) (i:Int) (a b:Cel):tput (tput t i a) i b=tput t i b:=by
 unfold tput;rw[List.length_set,List.set_set]
theorem f1k {t:List Slo} {w a:Int} {l:List Ev} (h:TierInv t w l):∀(n:Nat) (B:List Ev),B.length=n+1→Foll (l++B)→(∀e∈B,e.1 / w=a) →
  FitsP (cellOf (win w (l++B) a)) w a∧TierInv (tput t a (cellOf (win w (l++B) a))) w (l++B):=by
 intro n;induction n with
 | zero =>
  intro B hB hf ha
  match B,hB with
  | [e],_ =>
   have he:=ha e (by simp);have:=z0l h hf;rw[he] at this;rw[win_snoc,if_pos he];exact this
 | succ n ih =>
  intro B hB hf ha;rcases List.eq_nil_or_concat B with rfl | ⟨B',e,rfl⟩
  ·cases hB
  rw[List.concat_eq_append] at *
  have he:=ha e (by simp);have hf':Foll (l++B'++[e]):=by rw[List.append_assoc];exact hf
  obtain ⟨h1,h2⟩:=ih B' (by simp at hB;exact hB) (d0e.1 hf').1 (fun x hx=>ha x (by simp[hx]));have:=z0l h2 hf';rw[he,x1e,List.append_assoc] at this;rw[←List.append_assoc,win_snoc,if_pos he];rw[List.append_assoc];exact this
theorem f1j {s:List Slo} {w:Int} {l:List Ev} {t:Int} (he:EndsAt l t) (h:TierInv s w (below w l t)):FitsP (cellOf (win w l (t / w))) w (t / w)∧TierInv (tput s (t / w) (cellOf (win w l (t / w)))) w l:=by
 have hw:=h.ok.w0;have hs:=w1d he hw;obtain ⟨e,hel,het⟩:=he.last;have hne:win w l (t / w)≠[]:=fun k=>by
  have:e∈win w l (t / w):=v0r.2 ⟨hel,by rw[het]⟩;rw[k] at this;cases this
 have hlen:(win w l (t / w)).length=((win w l (t / w)).length-1)+1:=by have:=List.length_pos_iff.2 hne;omega
 have:=f1k h _ (win w l (t / w)) hlen (by rw[←hs];exact he.foll) (fun x hx=>(v0r.1 hx).2);rw[←hs] at this;exact this
theorem edvm {t a b:Int} (ha:1≤a) (hb:1≤b) (hm:b % a=0):t / a*a / b=t / b∧t / a / (b / a)=t / b:=by
 have e:a*(b / a)=b:=by have:=Int.mul_ediv_add_emod b a;omega
 have h1:t / a / (b / a)=t / b:=by rw[Int.ediv_ediv_of_nonneg (by omega),e]
 refine ⟨?_,h1⟩;rw[←h1]
 conv=>lhs;rw[←e,Int.mul_comm (t / a) a]
 exact Int.mul_ediv_mul_of_pos _ _ (by omega)
end Go.Plim
namespace Go.Proofs.YtjionkknnajjgaaGreatDoor
open Go.Flat Go.Plim
structure FInv (c:Conf) (s:Trs) (l:List Ev) (t:Int):Prop where
 ok:FoldOk c s
 i0:TierInv s.1 c.2.1.1 (below c.2.1.1 l t)
 i1:TierInv s.2.1 c.2.1.2.1 (below c.2.1.2.1 l t)
 i2:TierInv s.2.2 c.2.1.2.2 (below c.2.1.2.2 l t)
theorem OkC.m02 {c:Conf} (h:OkC c):c.2.1.2.2 % c.2.1.1=0:=by
 have h1:=Int.dvd_of_emod_eq_zero h.m1;have h2:=Int.dvd_of_emod_eq_zero h.m2;exact Int.emod_eq_zero_of_dvd (Int.dvd_trans h1 h2)
end Go.Proofs.YtjionkknnajjgaaGreatDoor
namespace Go.Proofs.YtjionkknnajjgaaGreatDoor
open Go.Flat Go.Plim
set_option linter.unusedVariables false
set_option linter.unusedSimpArgs false
theorem t1y {c:Conf} {s:Ser} (h:SerOk c s) (hn:¬(s.2.1 = -1)):EndsP c s∧∃e,EvOk e∧e.1=s.2.1:=by
 rcases h.st with q | q
 ·exact absurd q.1 hn
 ·obtain ⟨e,he,h1⟩:=q.2.last;exact ⟨q.2,e,a2d h.raw he,h1⟩
structure At (c:Conf) (s:Ser):Prop where
 l0:0≤s.2.1
 l1:s.2.1<35184372088832
theorem serOk_at {c:Conf} {s:Ser} (h:SerOk c s) (hn:¬(s.2.1 = -1)):0≤s.2.1∧s.2.1<35184372088832:=by
 obtain ⟨_,e,he,h1⟩:=t1y h hn;rw[←h1];exact ⟨he.t0,he.t1⟩
theorem t1j (n f:Nat) (s:Trs):d0n n (f+1) (s,(3:Int),())=some (.inl ()):=by
 rw[g0x,show (decide ((3:Int)<3))=false from rfl,tff]
theorem t1k (n f:Nat) (s:Trs):d0n n (f+2) (s,(2:Int),())=some (if (40:Int)<s.2.2.length then .inr 0 else .inl ()):=by
 rw[g0x,show (decide ((2:Int)<3))=true from rfl,tft,show (decide ((2:Int)=0))=false from rfl,tff,show (decide ((2:Int)=1))=false from rfl,tff,show (decide ((2:Int)=2))=true from rfl,tft];rw[show IntKind.wrap .i64 ((2:Int)+1)=3 from rfl,t1j];simp only[tfd];split<;>rfl
theorem t1l (n f:Nat) (s:Trs):d0n n (f+3) (s,(1:Int),())=some (if (40:Int)<s.2.1.length∨(40:Int)<s.2.2.length then .inr 0 else .inl ()):=by
 rw[g0x,show (decide ((1:Int)<3))=true from rfl,tft,show (decide ((1:Int)=0))=false from rfl,tff,show (decide ((1:Int)=1))=true from rfl,tft];rw[show IntKind.wrap .i64 ((1:Int)+1)=2 from rfl,t1k];simp only[tfd];by_cases h:(40:Int)<s.2.1.length
 ·rw[if_pos h,if_pos (.inl h)]
 ·rw[if_neg h];by_cases h':(40:Int)<s.2.2.length
  ·rw[if_pos h',if_pos (.inr h')]
  ·rw[if_neg h',if_neg (fun k=>k.elim h h')]
theorem t1m (n f:Nat) (s:Trs):d0n n (f+4) (s,(0:Int),())=some (if (40:Int)<s.1.length∨(40:Int)<s.2.1.length∨(40:Int)<s.2.2.length then .inr 0 else .inl ()):=by
 rw[g0x,show (decide ((0:Int)<3))=true from rfl,tft,show (decide ((0:Int)=0))=true from rfl,tft];rw[show IntKind.wrap .i64 ((0:Int)+1)=1 from rfl,t1l];simp only[tfd];by_cases h:(40:Int)<s.1.length
 ·rw[if_pos h,if_pos (.inl h)]
 ·rw[if_neg h];by_cases h':(40:Int)<s.2.1.length∨(40:Int)<s.2.2.length
  ·rw[if_pos h',if_pos (.inr h')]
  ·rw[if_neg h',if_neg (fun k=>k.elim h h')]
def w0q (s:Trs):Prop:=s.1.length≤40∧s.2.1.length≤40∧s.2.2.length≤40
instance (s:Trs):Decidable (w0q s):=by unfold w0q;infer_instance
theorem a2g (n:Nat) (s:Trs):a1s (n+1) s=some (if w0q s then 1 else 0):=by
 rw[l1m,show a0c=(2^70-4)+4 from by decide,t1m];by_cases h:w0q s
 ·rw[if_pos h,if_neg (by unfold w0q at h;omega)];rfl
 ·rw[if_neg h,if_pos (by unfold w0q at h;omega)];rfl
theorem r05_same_l (n:Nat) (l:List Lab) (hL:l.length≤1000000):∀(rest pre:List Lab) (f:Nat) (ix len:Int),l=pre++rest→ix=pre.length→len=l.length→rest.length<f→k0j n f (l,l,len,ix,())=some (.inl ()):=by
 intro rest;induction rest with
 | nil =>
  intro pre f ix len hl hi hn hf;obtain ⟨f,rfl⟩:∃g,f=g+1:=⟨f-1,by simp at hf;omega⟩;rw[i0b];simp only[tfd,if_neg (idxe hl hi hn)]
 | cons x rest ih =>
  intro pre f ix len hl hi hn hf;obtain ⟨f,rfl⟩:∃g,f=g+1:=⟨f-1,by simp at hf;omega⟩;rw[i0b];simp only[tfd,if_pos (idx hl hi hn),c0h hl hi,obs,labEq,decide_true,Bool.not_true,tff,idxw hl hi (by omega)];exact ih (pre++[x]) f (ix+1) len (idxl hl) (idxs hi) hn (by simp at hf;omega)
structure SerL (s:Ser):Prop where
 l:s.1.length≤1000000
 r:s.2.2.1.2.2.length≤1000000
 a:s.2.2.2.1.1.length≤1000000
 b:s.2.2.2.1.2.1.length≤1000000
 d:s.2.2.2.1.2.2.length≤1000000
theorem k1a (n:Nat) (c:Conf) {s:Ser} (hw:SerW s):o0x (n+11) c s=some (if SerOk c s then 0 else 2):=by
 rw[z0y,o0w n c hw];by_cases h:SerOk c s
 ·rw[if_pos h,if_pos h];rfl
 ·rw[if_neg h,if_neg h];rfl
theorem y1b (n:Nat) (l:List Lab) (hL:l.length≤9223372036854775807):∀(rest pre:List Lab) (f:Nat) (ix len:Int),l=pre++rest→ix=pre.length→len=l.length→rest.length<f →
  e0y n f (l,len,ix,())=some (.inl ())∨e0y n f (l,len,ix,())=some (.inr 0):=by
 intro rest;induction rest with
 | nil =>
  intro pre f ix len hl hi hn hf;obtain ⟨f,rfl⟩:∃g,f=g+1:=⟨f-1,by simp at hf;omega⟩;left;rw[g0y];simp only[tfd,if_neg (idxe hl hi hn)]
 | cons x rest ih =>
  intro pre f ix len hl hi hn hf;obtain ⟨f,rfl⟩:∃g,f=g+1:=⟨f-1,by simp at hf;omega⟩;have hlen:=congrArg List.length hl;simp at hlen;rw[g0y];simp only[tfd,if_pos (idx hl hi hn),c0h hl hi,obs];rw[w64 (x:=ix+1) (by omega) (by omega)];by_cases h1:ix=40
  ·right;rw[if_pos h1]
  rw[if_neg h1];by_cases h2:(1000:Int)<x.1.length
  ·right;rw[if_pos h2]
  rw[if_neg h2];by_cases h3:(1000:Int)<x.2.length
  ·right;rw[if_pos h3]
  rw[if_neg h3];exact ih (pre++[x]) f (ix+1) len (idxl hl) (idxs hi) hn (by simp at hf;omega)
theorem a2i (n:Nat) (l:List Lab) (hL:l.length≤9223372036854775807):k0l (n+1) l=some 0∨k0l (n+1) l=some 1:=by
 rw[x0d];rcases y1b n l hL l [] a0c 0 _ rfl rfl rfl (by unfold a0c;omega) with h | h
 ·right;rw[h];rfl
 ·left;rw[h];rfl
theorem a2f (n:Nat) (s:Ser) (hL:s.1.length≤9223372036854775807):u0h (n+2) s=some 0∨u0h (n+2) s=some 1:=by
 rw[l1l];rcases a2i n s.1 hL with h | h
 ·left;rw[h];rfl
 ·rw[h];simp only[obs,tfd,if_neg (show ¬((1:Int)=0) by omega)];by_cases h1:(60:Int)<s.2.2.1.2.2.length
  ·left;rw[if_pos h1]
  rw[if_neg h1,a2g];simp only[obs];split
  ·right;rfl
  ·left;rfl
theorem ser_wf {s:Ser} (h:Wf a0n s):SerW s:=by
 obtain ⟨h1,h2,h3,h4,h5⟩:=h;refine ⟨h2,?_,trs_wf h4,slo_wf h5⟩;intro e he;exact ev_wf (h3.2.2.2 e he)
theorem s0g (n:Nat) (a b:List Lab) (hL:a.length≤9223372036854775807):∀(ra rb pa pb:List Lab) (f:Nat) (ix len:Int),a=pa++ra→b=pb++rb→pa.length=pb.length→ra.length=rb.length→ix=pa.length→len=a.length→ra.length<f →
  f0i n f (a,b,len,ix,())=some (if ra=rb then .inl () else .inr false):=by
 intro ra;induction ra with
 | nil =>
  intro rb pa pb f ix len ha hb hp hr hi hn hf;obtain ⟨f,rfl⟩:∃g,f=g+1:=⟨f-1,by simp at hf;omega⟩;have e:rb=[]:=List.length_eq_zero_iff.1 (by simpa using hr.symm);subst e;rw[j0a,decide_eq_false (idxe ha hi hn),tff,if_pos rfl]
 | cons x ra ih =>
  intro rb pa pb f ix len ha hb hp hr hi hn hf;obtain ⟨f,rfl⟩:∃g,f=g+1:=⟨f-1,by simp at hf;omega⟩;cases rb with
  | nil=>simp at hr
  | cons y rb =>
   have hlen:=congrArg List.length ha;simp at hlen;rw[j0a,decide_eq_true (idx ha hi hn),tft,c0h ha hi,c0h hb (by omega)];simp only[obs,labEq];rw[w64 (x:=ix+1) (by omega) (by omega)];by_cases h:x=y
   ·subst h;simp only[decide_true,Bool.not_true,tff];rw[ih rb (pa++[x]) (pb++[x]) f (ix+1) len (idxl ha) (idxl hb) (by simp;omega) (by simpa using hr) (idxs hi) hn (by simp at hf;omega)];simp
   ·rw[if_neg (by simp[h])];simp only[decide_eq_false h,Bool.not_false,tft]
theorem m0o (n:Nat) (a b:List Lab) (hL:a.length≤9223372036854775807):l0g (n+1) a b=some (decide (a=b)):=by
 rw[v0e];by_cases h:a.length=b.length
 ·rw[decide_eq_true (show ((a.length:Nat):Int)=(b.length:Nat) by omega)];simp only[Bool.not_true,tff];rw[s0g n a b hL a b [] [] a0c 0 _ rfl rfl rfl h rfl rfl (by unfold a0c;omega)];by_cases h':a=b
  ·rw[if_pos h',decide_eq_true h'];rfl
  ·rw[if_neg h',decide_eq_false h'];rfl
 ·rw[decide_eq_false (show ¬((a.length:Nat):Int)=(b.length:Nat) by omega),decide_eq_false (fun k:a=b=>h (by rw[k]))];rfl
theorem s0h (n:Nat) (a b:List Ev) (hL:a.length≤9223372036854775807):∀(ra rb pa pb:List Ev) (f:Nat) (ix len:Int),a=pa++ra→b=pb++rb→pa.length=pb.length→ra.length=rb.length→ix=pa.length→len=a.length→ra.length<f →
  f0j n f (a,b,len,ix,())=some (if ra=rb then .inl () else .inr false):=by
 intro ra;induction ra with
 | nil =>
  intro rb pa pb f ix len ha hb hp hr hi hn hf;obtain ⟨f,rfl⟩:∃g,f=g+1:=⟨f-1,by simp at hf;omega⟩;have e:rb=[]:=List.length_eq_zero_iff.1 (by simpa using hr.symm);subst e;rw[j0b,decide_eq_false (idxe ha hi hn),tff,if_pos rfl]
 | cons x ra ih =>
  intro rb pa pb f ix len ha hb hp hr hi hn hf;obtain ⟨f,rfl⟩:∃g,f=g+1:=⟨f-1,by simp at hf;omega⟩;cases rb with
  | nil=>simp at hr
  | cons y rb =>
   have hlen:=congrArg List.length ha;simp at hlen;rw[j0b,decide_eq_true (idx ha hi hn),tft,c0h ha hi,c0h hb (by omega)];simp only[obs,evEq];rw[w64 (x:=ix+1) (by omega) (by omega)];by_cases h:x=y
   ·subst h;simp only[decide_true,Bool.not_true,tff];rw[ih rb (pa++[x]) (pb++[x]) f (ix+1) len (idxl ha) (idxl hb) (by simp;omega) (by simpa using hr) (idxs hi) hn (by simp at hf;omega)];simp
   ·rw[if_neg (by simp[h])];simp only[decide_eq_false h,Bool.not_false,tft]
theorem w0g (n:Nat) (a b:List Ev) (hL:a.length≤9223372036854775807):l0h (n+1) a b=some (decide (a=b)):=by
 rw[v0f];by_cases h:a.length=b.length
 ·rw[decide_eq_true (show ((a.length:Nat):Int)=(b.length:Nat) by omega)];simp only[Bool.not_true,tff];rw[s0h n a b hL a b [] [] a0c 0 _ rfl rfl rfl h rfl rfl (by unfold a0c;omega)];by_cases h':a=b
  ·rw[if_pos h',decide_eq_true h'];rfl
  ·rw[if_neg h',decide_eq_false h'];rfl
 ·rw[decide_eq_false (show ¬((a.length:Nat):Int)=(b.length:Nat) by omega),decide_eq_false (fun k:a=b=>h (by rw[k]))];rfl
theorem u0n (n:Nat) (a b:List Slo) (hL:a.length≤9223372036854775807):∀(ra rb pa pb:List Slo) (f:Nat) (ix len:Int),a=pa++ra→b=pb++rb→pa.length=pb.length→ra.length=rb.length→ix=pa.length→len=a.length→ra.length<f →
  g0c n f (a,b,len,ix,())=some (if ra=rb then .inl () else .inr false):=by
 intro ra;induction ra with
 | nil =>
  intro rb pa pb f ix len ha hb hp hr hi hn hf;obtain ⟨f,rfl⟩:∃g,f=g+1:=⟨f-1,by simp at hf;omega⟩;have e:rb=[]:=List.length_eq_zero_iff.1 (by simpa using hr.symm);subst e;rw[k0e,decide_eq_false (idxe ha hi hn),tff,if_pos rfl]
 | cons x ra ih =>
  intro rb pa pb f ix len ha hb hp hr hi hn hf;obtain ⟨f,rfl⟩:∃g,f=g+1:=⟨f-1,by simp at hf;omega⟩;cases rb with
  | nil=>simp at hr
  | cons y rb =>
   have hlen:=congrArg List.length ha;simp at hlen;rw[k0e,decide_eq_true (idx ha hi hn),tft,c0h ha hi,c0h hb (by omega)];simp only[obs,sloEq];rw[w64 (x:=ix+1) (by omega) (by omega)];by_cases h:x=y
   ·subst h;simp only[decide_true,Bool.not_true,tff];rw[ih rb (pa++[x]) (pb++[x]) f (ix+1) len (idxl ha) (idxl hb) (by simp;omega) (by simpa using hr) (idxs hi) hn (by simp at hf;omega)];simp
   ·rw[if_neg (by simp[h])];simp only[decide_eq_false h,Bool.not_false,tft]
theorem i0s (n:Nat) (a b:List Slo) (hL:a.length≤9223372036854775807):g0q (n+1) a b=some (decide (a=b)):=by
 rw[x0t];by_cases h:a.length=b.length
 ·rw[decide_eq_true (show ((a.length:Nat):Int)=(b.length:Nat) by omega)];simp only[Bool.not_true,tff];rw[u0n n a b hL a b [] [] a0c 0 _ rfl rfl rfl h rfl rfl (by unfold a0c;omega)];by_cases h':a=b
  ·rw[if_pos h',decide_eq_true h'];rfl
  ·rw[if_neg h',decide_eq_false h'];rfl
 ·rw[decide_eq_false (show ¬((a.length:Nat):Int)=(b.length:Nat) by omega),decide_eq_false (fun k:a=b=>h (by rw[k]))];rfl
noncomputable instance decSer (a b:Ser):Decidable (a=b):=Classical.propDecidable _
structure SerM (s:Ser):Prop where
 l:s.1.length≤9223372036854775807
 r:s.2.2.1.2.2.length≤9223372036854775807
 a:s.2.2.2.1.1.length≤9223372036854775807
 b:s.2.2.2.1.2.1.length≤9223372036854775807
 d:s.2.2.2.1.2.2.length≤9223372036854775807
theorem z0x (n:Nat) (a b:Ser) (h:SerM a):e0x (n+3) a b=some (decide (a=b)):=by
 rw[c1e,u0f,o1e,m0o n _ _ h.l,w0g n _ _ h.r,i0s (n+1) _ _ h.a,i0s (n+1) _ _ h.b,i0s (n+1) _ _ h.d];obtain ⟨a1,a2,⟨r1,r2,r3⟩,⟨t1,t2,t3⟩,a5⟩:=a;obtain ⟨b1,b2,⟨q1,q2,q3⟩,⟨u1,u2,u3⟩,b5⟩:=b;simp only[obs,sloEq,tfd];by_cases h1:a1=b1
 case neg=>simp[h1]
 by_cases h2:a2=b2
 case neg=>simp[h1,h2]
 by_cases h3:r1=q1
 case neg=>simp[h1,h2,h3]
 by_cases h4:r2=q2
 case neg=>simp[h1,h2,h3,h4]
 by_cases h5:r3=q3
 case neg=>simp[h1,h2,h3,h4,h5]
 by_cases h6:t1=u1
 case neg=>simp[h1,h2,h3,h4,h5,h6]
 by_cases h7:t2=u2
 case neg=>simp[h1,h2,h3,h4,h5,h6,h7]
 by_cases h8:t3=u3
 case neg=>simp[h1,h2,h3,h4,h5,h6,h7,h8]
 by_cases h9:a5=b5
 case neg=>simp[h1,h2,h3,h4,h5,h6,h7,h8,h9]
 simp[h1,h2,h3,h4,h5,h6,h7,h8,h9]
def oldV (now w m:Int):Int×Int:=if OfP now w∧1≤m∧m≤4096 then (if 0<now / w+1-m then now / w+1-m else 0,0) else (0,1)
theorem w1x (n:Nat) (now w m:Int):z0g (n+4) now w m=some (oldV now w m):=by
 rw[j1i,wi_of n now w,j1g];unfold oldV;by_cases h:OfP now w
 case neg=>rw[if_neg h,if_neg (fun k=>h k.1)];rfl
 rw[if_pos h];have hq:=k1j h;simp only[obs,decide_true,Bool.not_true,tff];by_cases h1:1≤m
 case neg=>simp[h,h1]
 by_cases h2:m≤4096
 case neg=>simp[h,h1,h2]
 rw[w64 (x:=now / w+1) (by omega) (by omega),w64 (x:=now / w+1-m) (by omega) (by omega)];simp[h,h1,h2]
noncomputable def l1t (t now w m:Int):Bool:=decide (OfP t w∧(oldV now w m).2=0∧t / w<(oldV now w m).1)
theorem m1v (n:Nat) (t now w m:Int):z0h (n+5) t now w m=some (l1t t now w m):=by
 rw[s1w,wi_of (n+1) t w,w1x n now w m];unfold l1t;simp only[obs,tfd];by_cases h:OfP t w
 case neg=>rw[if_neg h,if_neg (by simp),decide_eq_false (fun k=>h k.1)]
 rw[if_pos h,if_pos rfl];by_cases h1:(oldV now w m).2=0
 ·rw[if_pos h1];exact congrArg some (decide_eq_decide.2 ⟨fun k=>⟨h,h1,k⟩,fun k=>k.2.2⟩)
 ·rw[if_neg h1,decide_eq_false (fun k=>h1 k.2.1)]
noncomputable def deadV (c:Conf) (last now:Int):Bool :=
 decide (OkC c)&&(l1t last now c.2.1.1 c.2.2.1.1&&(l1t last now c.2.1.2.1 c.2.2.1.2.1&&l1t last now c.2.1.2.2 c.2.2.1.2.2))
theorem n1w (n:Nat) (c:Conf) (last now:Int):s0a (n+6) c last now=some (deadV c last now):=by
 rw[c1f,m0q (n+2) c,m1v n,m1v n,m1v n];unfold deadV;by_cases h:OkC c
 case neg=>rw[if_neg h,decide_eq_false h];rfl
 rw[if_pos h,decide_eq_true h];simp only[obs,decide_true,tft,Bool.true_and];cases l1t last now c.2.1.1 c.2.2.1.1<;>cases l1t last now c.2.1.2.1 c.2.2.1.2.1<;>cases l1t last now c.2.1.2.2 c.2.2.1.2.2<;>rfl
noncomputable def newV (c:Conf) (l:List Lab):Ser×Int :=
 if OkC c then (if LabOk l then ((l,(-1,(r0w,(emp c,s0)))),0) else (ser0,8)) else (ser0,2)
theorem p1r (n:Nat) (l:List Lab) (h:l.length≤1000000):l0i (n+1) l=some l:=by
 rw[v0g,decide_eq_true (show (0+l.length)*32≤140737488355328 by omega)];simp only[tft,List.nil_append];by_cases h0:l.length=0
 ·rw[decide_eq_true h0,tft,List.length_eq_zero_iff.1 h0,m1m]
 ·rw[decide_eq_false h0,tff]
theorem t1x (n:Nat) (c:Conf) (l:List Lab):q0e (n+7) c l=some (newV c l):=by
 rw[f1y,m0q (n+3) c,h0s n l];unfold newV;by_cases h:OkC c
 case neg=>rw[if_neg h,if_neg h];rfl
 rw[if_pos h,if_pos h];simp only[obs,decide_true,Bool.not_true,tff];by_cases h1:LabOk l
 case neg=>rw[if_neg h1,if_neg h1];rfl
 rw[if_pos h1,if_pos h1,p1r (n+5) l (by have:=h1.n1;omega),v1n (n+2) c];rfl
abbrev Sta:=Conf×(Int×(Int×List Ser))
structure StaW (s:Sta):Prop where
 len:s.2.2.2.length≤9223372036854775807
 ser:∀x∈s.2.2.2,SerW x∧SerM x
def Whole (s:Sta):Prop:=OkC s.1∧(s.2.2.2.length:Int)=s.1.2.2.2.1
noncomputable instance (s):Decidable (Whole s):=Classical.propDecidable _
def LvX (s:Sta) (x:Ser):Prop:=x≠ser0∧(s.2.2.1 = -1∨deadV s.1 x.2.1 s.2.2.1=false)
noncomputable instance (s x):Decidable (LvX s x):=Classical.propDecidable _
def w0p (t:Int):Prop:=0≤t∧t<35184372088832
instance (t):Decidable (w0p t):=by unfold w0p;infer_instance
def Clock (s:Sta):Prop:=w0p s.2.1∧(s.2.2.1 = -1∨w0p s.2.2.1)∧s.2.2.1≤s.2.1
instance (s):Decidable (Clock s):=by unfold Clock;infer_instance
def mk (s:Sta):Int:=s.2.1 / s.1.2.1.1*s.1.2.1.1
def Twin (s:Sta) (i:Nat) (x:Ser):Prop:=LvX s x∧∃k,k<i∧∃y,s.2.2.2[k]? = some y∧LvX s y∧y.1=x.1
noncomputable instance (s i x):Decidable (Twin s i x):=Classical.propDecidable _
def p0r (s:Sta) (i:Nat) (x:Ser):Prop:=x=ser0∨(SerOk s.1 x∧0≤x.2.1∧x.2.1<mk s+s.1.2.1.1∧¬Twin s i x)
noncomputable instance (s i x):Decidable (p0r s i x):=Classical.propDecidable _
structure StaOk (s:Sta):Prop where
 whole:Whole s
 clock:Clock s
 right:∀(i:Nat) x,s.2.2.2[i]? = some x→p0r s i x
noncomputable instance (s):Decidable (StaOk s):=Classical.propDecidable _
theorem Whole.len {s:Sta} (h:Whole s):s.2.2.2.length≤65536:=by
 have:=h.1.rng.cap;have:=h.2;omega
theorem m1o {α:Type} {l:List α} {i:Nat} {x:α} (h:l[i]? = some x):at? l (i:Int)=some x:=by
 unfold at?;rw[decide_eq_true (show (0:Int)≤(i:Int) by omega),Int.toNat_natCast];exact h
theorem StaW.at {s:Sta} (h:StaW s) {i:Nat} {x:Ser} (hx:s.2.2.2[i]? = some x):SerW x∧SerM x:=h.ser x (List.mem_of_getElem? hx)
theorem q1l (n:Nat) {x:Ser} (h:SerM x):t0f (n+4) x=some (decide (x=ser0)):=by
 have:=z0x n x ser0 h;rw[j1t];have e:e0x (n+3) x ([],((0:Int),(((0:Int),((0:Int),[])),(([],([],[])),((0:Int),z0)))))=some (decide (x=ser0)):=this
 change a0a (e0x (n+3) x ([],((0:Int),(((0:Int),((0:Int),[])),(([],([],[])),((0:Int),z0)))))) _=_
 rw[e];rfl
theorem y0l (n:Nat) {s:Sta} {i:Nat} {x:Ser} (hx:s.2.2.2[i]? = some x) (hm:SerM x):e0o (n+7) s (i:Int)=some (decide (LvX s x)):=by
 rw[v0b,m1o hx,obs,q1l (n+2) hm,obs,tfn,tfd,n1w n];by_cases h:x=ser0
 ·rw[if_pos h,decide_eq_false (fun k:LvX s x=>k.1 h)]
 rw[if_neg h,tfd];by_cases h1:s.2.2.1 = -1
 ·rw[if_pos h1,decide_eq_true (show LvX s x from ⟨h,.inl h1⟩)]
 ·rw[if_neg h1];cases hd:deadV s.1 x.2.1 s.2.2.1
  ·rw[decide_eq_true (show LvX s x from ⟨h,.inr hd⟩)];rfl
  ·rw[decide_eq_false (fun k:LvX s x=>by rcases k.2 with k | k;exact h1 k;rw[hd] at k;cases k)];rfl
theorem place_l (n:Nat) (is:(Int×Unit)→Option Bool) (p:Nat→Bool) (L:Nat) (hL:L≤1000000) (his:∀k:Nat,k<L→is ((k:Int),())=some (p k)):∀(d k f:Nat),k+d=L→d<f →
  (∃m:Nat,k≤m∧m<L∧p m=true∧(∀j,k≤j→j<m→p j=false)∧c0d n f (is,(L:Int),(k:Int),())=some (.inr (m:Int))) ∨
  ((∀j,k≤j→j<L→p j=false)∧c0d n f (is,(L:Int),(k:Int),())=some (.inl ())):=by
 intro d;induction d with
 | zero =>
  intro k f hk hf;obtain ⟨f,rfl⟩:∃g,f=g+1:=⟨f-1,by omega⟩;refine .inr ⟨fun j h1 h2=>by omega,?_⟩;rw[i0x,decide_eq_false (by omega),tff]
 | succ d ih =>
  intro k f hk hf;obtain ⟨f,rfl⟩:∃g,f=g+1:=⟨f-1,by omega⟩;rw[i0x,decide_eq_true (by omega),tft,his k (by omega),obs];cases hp:p k
  ·rw[tff,w64 (by omega) (by omega),show ((k:Int)+1)=((k+1:Nat):Int) by omega];rcases ih (k+1) f (by omega) (by omega) with ⟨m,h1,h2,h3,h4,h5⟩ | ⟨h1,h2⟩
   ·exact .inl ⟨m,by omega,h2,h3,fun j q1 q2=>by
     rcases Nat.lt_or_ge k j with q | q
     ·exact h4 j (by omega) q2
     ·rw[show j=k by omega];exact hp,h5⟩
   ·exact .inr ⟨fun j q1 q2=>by
     rcases Nat.lt_or_ge k j with q | q
     ·exact h1 j (by omega) q2
     ·rw[show j=k by omega];exact hp,h2⟩
  ·rw[tft];exact .inl ⟨k,Nat.le_refl _,by omega,hp,fun j q1 q2=>by omega,rfl⟩
theorem u0m (n:Nat) (s:Sta) (is:(Int×Unit)→Option Bool) (p:Nat→Bool) (hL:s.2.2.2.length≤1000000) (his:∀k:Nat,k<s.2.2.2.length→is ((k:Int),())=some (p k)) :
  (∃m:Nat,m<s.2.2.2.length∧p m=true∧(∀j,j<m→p j=false)∧d0q (n+1) s is=some (m:Int)) ∨
  ((∀j,j<s.2.2.2.length→p j=false)∧d0q (n+1) s is=some (-1)):=by
 rw[v0a];rcases place_l n is p _ hL his s.2.2.2.length 0 a0c (by omega) (by unfold a0c;omega) with ⟨m,h1,h2,h3,h4,h5⟩ | ⟨h1,h2⟩
 ·refine .inl ⟨m,h2,h3,fun j q=>h4 j (by omega) q,?_⟩;have h5':c0d n a0c (is,(s.2.2.2.length:Int),(0:Int),())=some (.inr (m:Int)):=h5;rw[h5'];rfl
 ·refine .inr ⟨fun j q=>h1 j (by omega) q,?_⟩;have h2':c0d n a0c (is,(s.2.2.2.length:Int),(0:Int),())=some (.inl ()):=h2;rw[h2'];rfl
theorem e1d (n:Nat) (a b:List Lab) (h:a.length≤9223372036854775807):m0i (n+2) a b=some (decide (a=b)):=by
 rw[u0f,m0o n a b h];rfl
def IsTw (s:Sta) (i k:Nat) (x:Ser):Prop:=k=i∨∃y,s.2.2.2[k]? = some y∧LvX s y∧y.1=x.1
noncomputable instance (s i k x):Decidable (IsTw s i k x):=Classical.propDecidable _
theorem st_twin (n:Nat) {s:Sta} (hw:StaW s) (hL:s.2.2.2.length≤1000000) {i:Nat} {x:Ser} (hx:s.2.2.2[i]? = some x):n0i (n+9) s (i:Int)=some (decide (Twin s i x)):=by
 have hil:i<s.2.2.2.length:=(List.getElem?_eq_some_iff.1 hx).1;have hm:=(hw.at hx).2;rw[x0o];have his:∀k:Nat,k<s.2.2.2.length→(fun y0:Int×Unit=>e0w (n+8) y0.1 (i:Int) s) ((k:Int),())=some (decide (IsTw s i k x)):=by
  intro k hk;have hy:s.2.2.2[k]? = some s.2.2.2[k]:=List.getElem?_eq_getElem hk;generalize s.2.2.2[k]=y at hy;have hmy:=(hw.at hy).2;show e0w (n+8) (k:Int) (i:Int) s=_;rw[t0d,tfd,y0l n hy hmy,obs,m1o hy,obs,m1o hx,obs,e1d (n+5) _ _ hmy.l,obs,tfd];by_cases h1:k=i
  ·rw[if_pos (by rw[h1]),decide_eq_true (show IsTw s i k x from .inl h1)]
  rw[if_neg (by omega)];by_cases h2:LvX s y
  ·rw[if_pos h2];refine congrArg some (decide_eq_decide.2 ⟨fun h3 => .inr ⟨y,hy,h2,h3⟩,fun h3 => ?_⟩);rcases h3 with h3 | ⟨z,z1,z2,z3⟩
   ·exact absurd h3 h1
   ·rw[hy] at z1;cases z1;exact z3
  ·rw[if_neg h2,decide_eq_false];rintro (h3 | ⟨z,z1,z2,z3⟩)
   ·exact h1 h3
   ·rw[hy] at z1;cases z1;exact h2 z2
 rcases u0m (n+7) s (fun y0:Int×Unit=>e0w (n+8) y0.1 (i:Int) s) (fun k=>decide (IsTw s i k x)) hL his with ⟨m,h1,h2,h3,h4⟩ | ⟨h1,h2⟩
 ·rw[h4,obs,tfd,y0l (n+1) hx hm];have h2:=of_decide_eq_true h2;have hmi:m≤i:=by
   rcases Nat.lt_or_ge i m with q | q
   ·have:=of_decide_eq_false (h3 i q);exact absurd (.inl rfl) this
   ·exact q
  by_cases q:m<i
  ·rw[if_pos (by omega),obs];refine congrArg some (decide_eq_decide.2 ⟨fun k=>⟨k,m,q,?_⟩,fun k=>k.1⟩);exact h2.resolve_left (by omega)
  ·rw[if_neg (by omega),decide_eq_false];rintro ⟨k1,k,k2,k3⟩;exact of_decide_eq_false (h3 k (by omega)) (.inr k3)
 ·exact absurd (.inl rfl) (of_decide_eq_false (h1 i hil))
theorem y0r {s:Sta} (h:w0p s.2.1) (hw:1≤s.1.2.1.1∧s.1.2.1.1≤1099511627776):0≤mk s∧mk s≤s.2.1∧s.2.1<mk s+s.1.2.1.1∧s.2.1-s.2.1 % s.1.2.1.1=mk s:=by
 have e:=Int.mul_ediv_add_emod s.2.1 s.1.2.1.1;have e1:=Int.emod_nonneg s.2.1 (show s.1.2.1.1≠0 by omega);have e2:=Int.emod_lt_of_pos s.2.1 (show 0<s.1.2.1.1 by omega);rw[Int.mul_comm] at e;have e3:0≤mk s:=Int.mul_nonneg (Int.ediv_nonneg h.1 (by omega)) (by omega);unfold mk at *
 exact ⟨e3,by omega,by omega,by omega⟩
theorem x1x (n:Nat) {s:Sta} (h:w0p s.2.1) (hw:1≤s.1.2.1.1∧s.1.2.1.1≤1099511627776):j0f (n+1) s=some (mk s):=by
 have:=y0r h hw;have:=h.1;have:=h.2;rw[x0p,tfd,if_neg (by omega),j0z h.1,w64 (by omega) (by omega),(y0r h hw).2.2.2]
theorem st_right (n:Nat) {s:Sta} (hw:StaW s) (hh:Whole s) (ht:w0p s.2.1) {i:Nat} {x:Ser} (hx:s.2.2.2[i]? = some x):l0d (n+12) s (i:Int)=some (decide (p0r s i x)):=by
 have hm:=hw.at hx;have hr:=hh.1.rng;have hL:=hh.len;have hmk:=y0r ht hr.w0;have ht1:=ht.1;have ht2:=ht.2;have hw0:=hr.w0;obtain ⟨m1,m2,m3,m4⟩:=hmk;rw[u0z,m1o hx,obs,q1l (n+7) hm.2,obs,tfd,k1a n s.1 hm.1,obs,x1x (n+10) ht hr.w0,obs,w64 (by omega) (by omega),st_twin (n+2) hw (by omega) hx,obs];simp only[tfd];by_cases h0:x=ser0
 ·rw[if_pos h0,decide_eq_true (show p0r s i x from .inl h0)]
 rw[if_neg h0];by_cases h1:SerOk s.1 x
 case neg=>rw[if_neg h1,if_neg (by decide),decide_eq_false (fun q:p0r s i x=>by rcases q with k | k;exact h0 k;exact h1 k.1)]
 rw[if_pos h1,if_pos rfl];by_cases h2:0≤x.2.1
 case neg=>rw[if_neg h2,decide_eq_false (fun q:p0r s i x=>by rcases q with k | k;exact h0 k;exact h2 k.2.1)]
 rw[if_pos h2];by_cases h3:x.2.1<mk s+s.1.2.1.1
 case neg=>rw[if_neg h3,decide_eq_false (fun q:p0r s i x=>by rcases q with k | k;exact h0 k;exact h3 k.2.2.1)]
 rw[if_pos h3];by_cases h4:Twin s i x
 ·rw[decide_eq_true h4,decide_eq_false (fun q:p0r s i x=>by rcases q with k | k;exact h0 k;exact k.2.2.2 h4)];rfl
 ·rw[decide_eq_false h4,decide_eq_true (show p0r s i x from .inr ⟨h1,h2,h3,h4⟩)];rfl
def sta0:Sta:=(((0:Int),(((0:Int),((0:Int),(0:Int))),(((0:Int),((0:Int),(0:Int))),((0:Int),(0:Int))))),((0:Int),((0:Int),[])))
theorem f1r (n:Nat) (s:Sta):p0y (n+4) s=some (if Whole s then (s,0) else (sta0,2)):=by
 rw[n1i,m0q n s.1,obs,tfn,tfd,tfn,tfd];by_cases h:OkC s.1
 case neg=>rw[if_neg h,if_neg (show ¬((2:Int)=0) by decide),if_neg (fun k:Whole s=>h k.1)];rfl
 rw[if_pos h,if_pos rfl];by_cases h1:(s.2.2.2.length:Int)=s.1.2.2.2.1
 ·rw[if_pos h1,if_pos (show Whole s from ⟨h,h1⟩)]
 ·rw[if_neg h1,if_neg (fun k:Whole s=>h1 k.2)];rfl
theorem n1o (n:Nat) (t:Int):t0e (n+1) t=some (decide (w0p t)):=by
 rw[n1h,tfd];by_cases h:0≤t
 ·rw[if_pos h];exact congrArg some (decide_eq_decide.2 ⟨fun k=>⟨h,k⟩,fun k=>k.2⟩)
 ·rw[if_neg h,decide_eq_false (fun k:w0p t=>h k.1)]
theorem st_clock (n:Nat) (s:Sta):l0e (n+2) s=some (decide (Clock s)):=by
 rw[v0c,n1o n,n1o n,obs,obs];simp only[tfd];by_cases h:w0p s.2.1
 case neg=>rw[if_neg h,decide_eq_false (fun k:Clock s=>h k.1)]
 rw[if_pos h];by_cases h1:s.2.2.1 = -1
 ·rw[if_pos h1];exact congrArg some (decide_eq_decide.2 ⟨fun k=>⟨h,.inl h1,k⟩,fun k=>k.2.2⟩)
 rw[if_neg h1];by_cases h2:w0p s.2.2.1
 ·rw[if_pos h2];exact congrArg some (decide_eq_decide.2 ⟨fun k=>⟨h,.inr h2,k⟩,fun k=>k.2.2⟩)
 ·rw[if_neg h2,decide_eq_false (fun k:Clock s=>by rcases k.2.1 with q | q;exact h1 q;exact h2 q)]
def Wrong (s:Sta) (k:Nat):Prop:=∃x,s.2.2.2[k]? = some x∧¬p0r s k x
noncomputable instance (s k):Decidable (Wrong s k):=Classical.propDecidable _
theorem j1u (n:Nat) {s:Sta} (hw:StaW s):t0g (n+14) s=some (if StaOk s then 0 else 2):=by
 rw[j1v,f1r (n+9) s,obs,tfn,tfd];by_cases h:Whole s
 case neg=>rw[if_neg h,if_neg (show ¬((sta0,(2:Int)).2=0) by decide),if_neg (fun k:StaOk s=>h k.whole)]
 rw[if_pos h,if_pos rfl,st_clock (n+11) s,obs,tfn,tfd];by_cases h1:Clock s
 case neg=>rw[if_neg h1,if_neg (fun k:StaOk s=>h1 k.clock)]
 rw[if_pos h1];have hL:=h.len;have his:∀k:Nat,k<s.2.2.2.length→(fun y2:Int×Unit=>e0i (n+13) y2.1 s) ((k:Int),())=some (decide (Wrong s k)):=by
  intro k hk;have hy:s.2.2.2[k]? = some s.2.2.2[k]:=List.getElem?_eq_getElem hk;generalize s.2.2.2[k]=y at hy;show e0i (n+13) (k:Int) s=_;rw[c1b,st_right n hw h h1.1 hy,obs];by_cases q:p0r s k y
  ·rw[decide_eq_true q,decide_eq_false (fun z:Wrong s k=>by obtain ⟨x,x1,x2⟩:=z;rw[hy] at x1;cases x1;exact x2 q)];rfl
  ·rw[decide_eq_false q,decide_eq_true (show Wrong s k from ⟨y,hy,q⟩)];rfl
 rcases u0m (n+12) s (fun y2:Int×Unit=>e0i (n+13) y2.1 s) (fun k=>decide (Wrong s k)) (by omega) his with ⟨m,q1,q2,q3,q4⟩ | ⟨q1,q2⟩
 ·rw[show (fun y2:Int×Unit=>e0i (n+13) y2.1 (s,(0:Int)).1)=fun y2:Int×Unit=>e0i (n+13) y2.1 s from rfl];obtain ⟨x,x1,x2⟩:=of_decide_eq_true q2;rw[q4,obs,tfd,if_pos (by omega),if_neg (fun k:StaOk s=>x2 (k.right m x x1))]
 ·rw[show (fun y2:Int×Unit=>e0i (n+13) y2.1 (s,(0:Int)).1)=fun y2:Int×Unit=>e0i (n+13) y2.1 s from rfl];rw[q2,obs,tfd,if_neg (by decide),if_pos];refine ⟨h,h1,fun i x hx => ?_⟩;have:=of_decide_eq_false (q1 i (List.getElem?_eq_some_iff.1 hx).1);exact Decidable.byContradiction fun k=>this ⟨x,hx,k⟩
theorem confEq (a b:Conf):((decide (a.1=b.1))&&((decide (a.2.1.1=b.2.1.1))&&((decide (a.2.1.2.1=b.2.1.2.1))&&((decide (a.2.1.2.2=b.2.1.2.2))&&((decide (a.2.2.1.1=b.2.2.1.1))&&((decide (a.2.2.1.2.1=b.2.2.1.2.1))&&((decide (a.2.2.1.2.2=b.2.2.1.2.2))&&((decide (a.2.2.2.1=b.2.2.2.1))&&(decide (a.2.2.2.2=b.2.2.2.2))))))))))=decide (a=b):=by
 rw[Bool.eq_iff_iff];simp[Prod.ext_iff,and_assoc]
theorem t1n (n:Nat) (l:List Ser) (hL:l.length≤1000000) (hm:∀x∈l,SerM x):∀(rest pre:List Ser) (f:Nat) (ix len:Int),l=pre++rest→ix=pre.length→len=l.length→rest.length<f →
  i0l (n+2) f (l,len,ix,())=some (.inl ())∨i0l (n+2) f (l,len,ix,())=some (.inr 0):=by
 intro rest;induction rest with
 | nil =>
  intro pre f ix len hl hi hn hf;obtain ⟨f,rfl⟩:∃g,f=g+1:=⟨f-1,by simp at hf;omega⟩;left;rw[p0i];simp only[tfd,if_neg (idxe hl hi hn)]
 | cons x rest ih =>
  intro pre f ix len hl hi hn hf;obtain ⟨f,rfl⟩:∃g,f=g+1:=⟨f-1,by simp at hf;omega⟩;have hx:SerM x:=hm x (by rw[hl];simp);rw[p0i];simp only[tfd,if_pos (idx hl hi hn),c0h hl hi,obs,idxw hl hi (show l.length≤1000000000000 by omega)];rcases a2f n x hx.l with h | h
  ·rw[h];right;rfl
  ·rw[h];simp only[obs,if_neg (show ¬((1:Int)=0) by decide)];exact ih (pre++[x]) f (ix+1) len (idxl hl) (idxs hi) hn (by simp at hf;omega)
theorem a2e (n:Nat) {s:Sta} (hw:StaW s):u0g (n+3) s=some 0∨(u0g (n+3) s=some 1∧s.2.2.2.length≤8):=by
 rw[l1k];simp only[tfd];by_cases h:(8:Int)<(s.2.2.2.length:Int)
 ·rw[if_pos h];exact .inl rfl
 ·rw[if_neg h];rcases t1n n s.2.2.2 (by omega) (fun x hx=>(hw.ser x hx).2) s.2.2.2 [] a0c 0 _ rfl rfl rfl (by unfold a0c;omega) with h1 | h1
  ·rw[h1];exact .inr ⟨rfl,by omega⟩
  ·rw[h1];exact .inl rfl
theorem ser_m' {s:Ser} (h:Wf a0n s):SerM s:=by
 obtain ⟨h1,h2,h3,⟨h4,h5,h6⟩,h7⟩:=h;have e1:=h1.1;have e3:=h3.2.2.1;have e4:=h4.1;have e5:=h5.1;have e6:=h6.1;simp only[maxLen] at e1 e3 e4 e5 e6;exact ⟨e1,e3,e4,e5,e6⟩
theorem sta_wf {s:Sta} (h:Wf a0v s):StaW s:=by
 obtain ⟨h1,h2,h3,h4⟩:=h;have e:=h4.1;simp only[maxLen] at e;exact ⟨e,fun x hx=>⟨ser_wf (h4.2 x hx),ser_m' (h4.2 x hx)⟩⟩
end Go.Proofs.YtjionkknnajjgaaGreatDoor
namespace Go.Proofs.YtjionkknnajjgaaGreatDoor
open Go.Flat Go.Plim
set_option linter.unusedVariables false
def j1a (c:Conf) (s:Trs) (o:Slo) (l:List Ev):Prop :=
 (l=[]∧o=s0∧∀t,FInv c s [] t)∨∃t,EndsAt l t∧FInv c s l t∧o=(t / c.2.1.1,cellOf (win c.2.1.1 l (t / c.2.1.1)))
theorem emp_inv {c:Conf} (h:OkC c):j1a c (emp c) s0 []:=by
 have hr:=h.rng;have n0:=hr.n0;have n1:=hr.n1;have n2:=hr.n2;refine .inl ⟨rfl,rfl,fun t => ?_⟩;have e:emp c=(List.replicate c.2.2.1.1.toNat s0,(List.replicate c.2.2.1.2.1.toNat s0,List.replicate c.2.2.1.2.2.toNat s0)):=if_pos h;have i0:TierInv (List.replicate c.2.2.1.1.toNat s0) c.2.1.1 []:=r0x (by omega) (by omega) hr.w0.1 hr.w0.2;have i1:TierInv (List.replicate c.2.2.1.2.1.toNat s0) c.2.1.2.1 []:=r0x (by omega) (by omega) hr.w1.1 hr.w1.2;have i2:TierInv (List.replicate c.2.2.1.2.2.toNat s0) c.2.1.2.2 []:=r0x (by omega) (by omega) hr.w2.1 hr.w2.2;rw[e]
 exact ⟨⟨h,by simp;omega,by simp;omega,by simp;omega,i0.ok,i1.ok,i2.ok⟩,i0,i1,i2⟩
theorem j1a.fold {c:Conf} {s:Trs} {o:Slo} {l:List Ev} (h:j1a c s o l):FoldOk c s:=by
 rcases h with ⟨_,_,h⟩ | ⟨t,_,h,_⟩
 ·exact (h 0).ok
 ·exact h.ok
theorem b2j {e:Ev} (h:EvOk e) {w:Int} (hw:1≤w):h0d w (e.1 / w):=e1n hw ⟨h.t0,by have:=h.t1;omega⟩
def Turn (o:Slo) (i:Int):Prop:=0<o.2.1∧o.1≠i
end Go.Proofs.YtjionkknnajjgaaGreatDoor
namespace Go.Proofs.YtjionkknnajjgaaGreatDoor
open Go.Flat Go.Plim
set_option linter.unusedVariables false
set_option linter.unusedSimpArgs false
def x0x (room:Int) (l:List Ev):Rw :=
 (if (l.length:Int)≤room then 0 else (l.length:Int)-room,(if (l.length:Int)≤room then 0 else ((l[l.length-room.toNat-1]?).getD e0).1,l.drop (l.length-room.toNat)))
theorem y1q {room:Int} (h:1≤room) (l:List Ev):((x0x room l).2.2.length:Int)=if (l.length:Int)≤room then (l.length:Int) else room:=by
 simp only[x0x,List.length_drop];split<;>omega
theorem u1k {room:Int} (h:1≤room) (l:List Ev):(x0x room l).2.2.getLast? = l.getLast? := by
 simp only[x0x,List.getLast?_drop];by_cases h0:l=[]
 ·subst h0;simp
 ·have:0<l.length:=List.length_pos_iff.2 h0;rw[if_neg (by omega)]
theorem rawOf_ok {room:Int} (h:1≤room∧room≤4096) {l:List Ev} (hl:Foll l) (hL:l.length≤1000000):RawOk (x0x room l) room:=by
 have hlen:=y1q h.1 l;refine ⟨h.1,h.2,by rw[hlen];split<;>omega,?_,?_,?_,?_,?_⟩
 ·simp only[x0x];split<;>omega
 ·simp only[x0x];split<;>omega
 ·exact hl.sub (List.drop_sublist _ _)
 ·simp only[x0x];intro k;split
  ·rfl
  ·rename_i h1;rw[if_neg h1] at k;omega
 ·intro k;simp only[x0x] at k hlen ⊢;by_cases h1:(l.length:Int)≤room
  ·rw[if_pos h1] at k;exact absurd rfl k
  rw[if_neg h1] at hlen ⊢;obtain ⟨d,hd⟩:∃d,l.length-room.toNat=d+1:=⟨l.length-room.toNat-1,by omega⟩;rw[hd,show d+1-1=d by omega];have hdl:d<l.length:=by omega
  have hdl':d+1<l.length:=by omega
  rw[List.getElem?_eq_getElem hdl];refine ⟨by rw[←hlen,hd],((hl.ok _ (List.getElem_mem hdl)).t0),fun x hx => ?_⟩;rw[List.head?_drop,List.getElem?_eq_getElem hdl'] at hx;have:=List.pairwise_iff_getElem.1 hl.inc d (d+1) hdl hdl' (by omega);simp at hx;rw[←hx];exact this
structure SerInv (c:Conf) (s:Ser) (l:List Ev):Prop where
 lab:LabOk s.1
 len:l.length≤1000000
 raw:s.2.2.1=x0x c.1 l
 opn:j1a c s.2.2.2.1 s.2.2.2.2 l
 last:(l=[]∧s.2.1 = -1)∨EndsAt l s.2.1
theorem SerInv.foll {c:Conf} {s:Ser} {l:List Ev} (h:SerInv c s l):Foll l:=by
 rcases h.last with ⟨rfl,_⟩ | h
 ·exact Foll.nil
 ·exact h.foll
theorem l0a {l:List Ev} {t:Int} (h:EndsAt l t):∃e,l.getLast? = some e∧e.1=t:=by
 obtain ⟨x,hx,hxt⟩:=h.last;rcases List.eq_nil_or_concat l with rfl | ⟨p,y,rfl⟩
 ·cases hx
 rw[List.concat_eq_append] at *
 have h1:=h.le y (by simp);refine ⟨y,by simp,?_⟩;rcases List.mem_append.1 hx with q | q
 ·have:=(d0e.1 h.foll).2.2 x q y (by simp);omega
 ·simp at q;rw[←q];exact hxt
theorem b2v {l:List Ev} {t u:Int} (h:EndsAt l t) (k:EndsAt l u):t=u:=by
 obtain ⟨e,h1,h2⟩:=l0a h;obtain ⟨e',k1,k2⟩:=l0a k;rw[h1] at k1;simp at k1;rw[←h2,←k2,k1]
theorem b2w {l:List Ev} {t:Int} (h:EndsAt l t):l≠[]:=by
 obtain ⟨x,hx,_⟩:=h.last;exact List.ne_nil_of_mem hx
theorem SerInv.at_ {c:Conf} {s:Ser} {l:List Ev} (h:SerInv c s l) (hl:l≠[]):EndsAt l s.2.1∧FInv c s.2.2.2.1 l s.2.1∧s.2.2.2.2=(s.2.1 / c.2.1.1,cellOf (win c.2.1.1 l (s.2.1 / c.2.1.1))):=by
 have he:=h.last.resolve_left fun k=>hl k.1
 rcases h.opn with k | ⟨t,k1,k2,k3⟩
 ·exact absurd k.1 hl
 ·have:=b2v he k1;subst this;exact ⟨he,k2,k3⟩
theorem z0n {t:List Slo} {w:Int} (h:TierInv t w []):tall t=[]:=by
 cases hc:tall t with
 | nil=>rfl
 | cons x r =>
  have hx:x∈tall t:=by rw[hc];simp
  have h1:=h.cells x hx;have:=(l0r h.ok hx).1.n.n1;rw[h1] at this;simp[win,cellOf,z0] at this
theorem p0o {t:List Slo} {w u:Int} {l:List Ev} (h:TierInv t w (below w l u)) (hl:Foll l):b0i t (u / w):=by
 rw[x0c h.ok];intro x hx;have h1:=h.cells x hx;have hn:=(l0r h.ok hx).1.n;have hne:win w (below w l u) x.1≠[]:=fun k=>by
  rw[k] at h1;exact hn.ne h1
 obtain ⟨e,he⟩:=List.exists_mem_of_ne_nil _ hne;obtain ⟨k1,k2⟩:=v0r.1 he;have:=of_decide_eq_true (List.mem_filter.1 k1).2;omega
theorem m1i {w T:Int} {l:List Ev} (he:EndsAt l T):(cellOf (win w l (T / w))).2.2.1.1=T:=by
 obtain ⟨x,hx,hxt⟩:=he.last;have hm:x∈win w l (T / w):=v0r.2 ⟨hx,by rw[hxt]⟩;have hw:=e1x (w:=w) he.foll (T / w);have hh:=s1g hw (List.ne_nil_of_mem hm);have ew:EndsAt (win w l (T / w)) T:=⟨hw,fun y hy=>he.le y (v0r.1 hy).1,x,hm,hxt⟩;obtain ⟨e,k1,k2⟩:=l0a ew;have:=hh.last;rw[k1] at this;simp at this;rw[←this,k2]
theorem k1b {c:Conf} {s:Ser} {l:List Ev} (h:SerInv c s l):SerOk c s:=by
 have hf:=h.opn.fold;have hr:=hf.cok.rng;have hraw:RawOk s.2.2.1 c.1:=by rw[h.raw];exact rawOf_ok hr.raw h.foll h.len
 refine ⟨hf,h.lab,hraw,?_⟩;by_cases hl:l=[]
 ·subst hl;refine .inl ?_;have hlast:=h.last.resolve_right fun k=>b2w k rfl
  rcases h.opn with ⟨_,k1,k2⟩ | ⟨t,k1,_⟩
  ·have:=k2 0;exact ⟨hlast.2,by rw[h.raw];simp[x0x],k1,(a1m this.ok.t0).2 (z0n this.i0),(a1m this.ok.t1).2 (z0n this.i1),(a1m this.ok.t2).2 (z0n this.i2)⟩
  ·exact absurd rfl (b2w k1)
 ·obtain ⟨he,hi,ho⟩:=h.at_ hl;obtain ⟨x,hx,hxt⟩:=he.last;have:=(he.foll.ok x hx).t0;refine .inr ⟨by omega,?_,?_,?_,p0o hi.i0 he.foll,p0o hi.i1 he.foll,p0o hi.i2 he.foll⟩
  ·rw[h.raw,u1k hr.raw.1];exact l0a he
  ·rw[ho];exact m1i he
  ·rw[ho];exact (f1j he hi.i0).1
theorem serInv_w {c:Conf} {s:Ser} {l:List Ev} (h:SerInv c s l):SerW s:=by
 have hok:=k1b h;refine ⟨?_,fun e he=>EvW.of (hok.raw.f.ok e he),hok.fold.w,?_⟩
 ·by_cases hn:s.2.1 = -1
  ·rw[hn];unfold I64;omega
  ·have:=serOk_at hok hn;unfold I64;omega
 ·rcases h.opn with ⟨_,k,_⟩ | ⟨t,he,hi,ho⟩
  ·rw[k];exact f1u
  ·obtain ⟨x,hx,hxt⟩:=he.last;have hxo:=he.foll.ok x hx;have:=k1k hxo hi.ok.cok.rng.w0.1;rw[hxt] at this;rw[ho];exact ⟨by unfold I64;simp only;omega,.of (c2k (e1x he.foll _))⟩
theorem z1k {c:Conf} {l:List Lab} (h:OkC c) (hl:LabOk l):SerInv c (l,(-1,(r0w,(emp c,s0)))) [] :=
 ⟨hl,by simp,by have:=h.rng.raw;simp[x0x,r0w];omega,emp_inv h,.inl ⟨rfl,rfl⟩⟩
noncomputable def r0b (s:Sta) (l:List Lab):Option Nat:=s.2.2.2.findIdx? fun x=>decide (x.1=l∧LvX s x)
noncomputable def s0d (s:Sta):Option Nat:=s.2.2.2.findIdx? fun x=>decide (¬LvX s x)
theorem w0f {s:Sta} {l:List Lab} {i:Nat}:r0b s l=some i↔∃x,s.2.2.2[i]? = some x∧x.1=l∧LvX s x∧∀j,j<i→∀y,s.2.2.2[j]? = some y→¬(y.1=l∧LvX s y):=by
 unfold r0b;rw[List.findIdx?_eq_some_iff_getElem];constructor
 ·rintro ⟨h,h1,h2⟩;have h1:=of_decide_eq_true h1;refine ⟨_,List.getElem?_eq_getElem h,h1.1,h1.2,fun j hj y hy => ?_⟩;obtain ⟨hjl,e⟩:=List.getElem?_eq_some_iff.1 hy;have:=h2 j hj;rw[e] at this
  simpa using this
 ·rintro ⟨x,hx,h1,h2,h3⟩;obtain ⟨hl,e⟩:=List.getElem?_eq_some_iff.1 hx;refine ⟨hl,by rw[e];exact decide_eq_true ⟨h1,h2⟩,fun j hj => ?_⟩;have:=h3 j hj _ (List.getElem?_eq_getElem (by omega))
  simpa using this
theorem v1s {s:Sta} {l:List Lab}:r0b s l=none↔∀x∈s.2.2.2,¬(x.1=l∧LvX s x):=by
 unfold r0b;rw[List.findIdx?_eq_none_iff];simp
theorem d1q {s:Sta} {i:Nat}:s0d s=some i↔∃x,s.2.2.2[i]? = some x∧¬LvX s x∧∀j,j<i→∀y,s.2.2.2[j]? = some y→LvX s y:=by
 unfold s0d;rw[List.findIdx?_eq_some_iff_getElem];constructor
 ·rintro ⟨h,h1,h2⟩;refine ⟨_,List.getElem?_eq_getElem h,of_decide_eq_true h1,fun j hj y hy => ?_⟩;obtain ⟨hjl,e⟩:=List.getElem?_eq_some_iff.1 hy;have:=h2 j hj;rw[e] at this
  simpa using this
 ·rintro ⟨x,hx,h1,h3⟩;obtain ⟨hl,e⟩:=List.getElem?_eq_some_iff.1 hx;refine ⟨hl,by rw[e];exact decide_eq_true h1,fun j hj => ?_⟩;have:=h3 j hj _ (List.getElem?_eq_getElem (by omega))
  simpa using this
theorem u1d {s:Sta}:s0d s=none↔∀x∈s.2.2.2,LvX s x:=by
 unfold s0d;rw[List.findIdx?_eq_none_iff];simp
noncomputable def d0y (s:Sta) (l:List Lab) (e:Ev):Int×(Bool×Int) :=
 if ¬StaOk s then (0,(false,2)) else if ¬LabOk l then (0,(false,8)) else if ¬EvOk e then (0,(false,2)) else
 if e.1<mk s∨mk s+s.1.2.1.1≤e.1 then (0,(false,9)) else
 match r0b s l with
 | some i=>if e.1≤((s.2.2.2[i]?).getD ser0).2.1 then (0,(false,9)) else ((i:Int),(false,0))
 | none=>if e.2.2.2=true then (0,(false,3)) else match s0d s with | some i=>((i:Int),(true,0)) | none=>(0,(false,7))
end Go.Proofs.YtjionkknnajjgaaGreatDoor
namespace Go.Proofs.YtjionkknnajjgaaGreatDoor
open Go.Flat
def rd (st:List UInt8×Bool) (k:Nat):Int×(List UInt8×Bool):=if st.2=true∨st.1.length<k then (0,([],true)) else (valI (m1j (st.1.take k)),(st.1.drop k,false))
def q0 (s:List UInt8):=rd (s,false) 4
def q1 (s:List UInt8):=rd (q0 s).2 8
def q2 (s:List UInt8):=rd (q1 s).2 8
def q3 (s:List UInt8):=rd (q2 s).2 8
def q4 (s:List UInt8):=rd (q3 s).2 4
def q5 (s:List UInt8):=rd (q4 s).2 4
def q6 (s:List UInt8):=rd (q5 s).2 4
def q7 (s:List UInt8):=rd (q6 s).2 4
def q8 (s:List UInt8):=rd (q7 s).2 4
def q9 (s:List UInt8):=rd (q8 s).2 8
structure Full (s:List UInt8):Prop where
 z:(q9 s).1=0
 good:(q9 s).2.2=false
 left:(q9 s).2.1=[]
def idxC (c:Conf):Int:=prt c.2.2.2.2 120
def hom (c:Conf):Int:=1+idxC c+c.2.2.2.2
end Go.Proofs.YtjionkknnajjgaaGreatDoor
namespace Go.Proofs.YtjionkknnajjgaaGreatDoor
open Go.Flat Go.Plim
set_option linter.unusedVariables false
set_option linter.unusedSimpArgs false
theorem b2x {l:List Ser} {k:Nat} (h:k<l.length):∃y,l[k]? = some y:=⟨l[k],List.getElem?_eq_getElem h⟩
noncomputable def v1v (s:Sta) (l:List Lab):Int×Int:=if Whole s then (match r0b s l with | some i=>((i:Int),0) | none=>(0,3)) else (0,2)
noncomputable def u1g (s:Sta):Int×Int:=if Whole s then (match s0d s with | some i=>((i:Int),0) | none=>(0,7)) else (0,2)
def IsF (s:Sta) (l:List Lab) (k:Nat):Prop:=∃y,s.2.2.2[k]? = some y∧y.1=l∧LvX s y
noncomputable instance (s l k):Decidable (IsF s l k):=Classical.propDecidable _
def IsR (s:Sta) (k:Nat):Prop:=∃y,s.2.2.2[k]? = some y∧¬LvX s y
noncomputable instance (s k):Decidable (IsR s k):=Classical.propDecidable _
theorem v1r {s:Sta} {l:List Lab} {m:Nat} (h:IsF s l m) (hn:∀j,j<m→¬IsF s l j):r0b s l=some m:=by
 obtain ⟨y,h1,h2,h3⟩:=h;exact w0f.2 ⟨y,h1,h2,h3,fun j hj z hz k=>hn j hj ⟨z,hz,k.1,k.2⟩⟩
theorem find_no {s:Sta} {l:List Lab} (hn:∀j,j<s.2.2.2.length→¬IsF s l j):r0b s l=none:=by
 refine v1s.2 fun x hx k => ?_
 obtain ⟨i,hi,e⟩:=List.getElem_of_mem hx;exact hn i hi ⟨x,by rw[List.getElem?_eq_getElem hi,e],k.1,k.2⟩
theorem u1c {s:Sta} {m:Nat} (h:IsR s m) (hn:∀j,j<m→¬IsR s j):s0d s=some m:=by
 obtain ⟨y,h1,h2⟩:=h;exact d1q.2 ⟨y,h1,h2,fun j hj z hz=>Decidable.byContradiction fun k=>hn j hj ⟨z,hz,k⟩⟩
theorem room_no {s:Sta} (hn:∀j,j<s.2.2.2.length→¬IsR s j):s0d s=none:=by
 refine u1d.2 fun x hx=>Decidable.byContradiction fun k => ?_
 obtain ⟨i,hi,e⟩:=List.getElem_of_mem hx;exact hn i hi ⟨x,by rw[List.getElem?_eq_getElem hi,e],k⟩
theorem stt_find (n:Nat) {s:Sta} (hw:StaW s) (l:List Lab):f1q (n+10) s l=some (v1v s l):=by
 rw[n1n,f1r (n+5) s,obs,tfn,tfd];unfold v1v;by_cases h:Whole s
 case neg=>rw[if_neg h,if_neg h,if_neg (show ¬((sta0,(2:Int)).2=0) by decide)]
 rw[if_pos h,if_pos h,if_pos rfl];have his:∀k:Nat,k<s.2.2.2.length→(fun y1:Int×Unit=>f0h (n+9) y1.1 s l s) ((k:Int),())=some (decide (IsF s l k)):=by
  intro k hk;obtain ⟨y,hy⟩:=b2x hk;have hm:=(hw.at hy).2;show f0h (n+9) (k:Int) s l s=_;rw[f1p,m1o hy,obs,e1d (n+6) _ _ hm.l,obs,tfd,y0l (n+1) hy hm,obs];by_cases h1:y.1=l
  ·rw[if_pos h1];refine congrArg some (decide_eq_decide.2 ⟨fun k=>⟨y,hy,h1,k⟩,fun ⟨z,z1,z2,z3⟩ => ?_⟩);rw[hy] at z1;cases z1;exact z3
  ·rw[if_neg h1,decide_eq_false (fun q:IsF s l k=>by obtain ⟨z,z1,z2,z3⟩:=q;rw[hy] at z1;cases z1;exact h1 z2)]
 rcases u0m (n+8) s (fun y1:Int×Unit=>f0h (n+9) y1.1 s l s) (fun k=>decide (IsF s l k)) (by have:=h.len;omega) his with ⟨m,q1,q2,q3,q4⟩ | ⟨q1,q2⟩
 ·rw[show (fun y1:Int×Unit=>f0h (n+9) y1.1 s l (s,(0:Int)).1)=fun y1:Int×Unit=>f0h (n+9) y1.1 s l s from rfl,q4,obs,tfd,if_neg (by omega),v1r (of_decide_eq_true q2) (fun j hj=>of_decide_eq_false (q3 j hj))]
 ·rw[show (fun y1:Int×Unit=>f0h (n+9) y1.1 s l (s,(0:Int)).1)=fun y1:Int×Unit=>f0h (n+9) y1.1 s l s from rfl,q2,obs,tfd,if_pos (by decide),find_no (fun j hj=>of_decide_eq_false (q1 j hj))]
theorem stt_room (n:Nat) {s:Sta} (hw:StaW s):y0k (n+10) s=some (u1g s):=by
 rw[n1k,f1r (n+5) s,obs,tfn,tfd];unfold u1g;by_cases h:Whole s
 case neg=>rw[if_neg h,if_neg h,if_neg (show ¬((sta0,(2:Int)).2=0) by decide)]
 rw[if_pos h,if_pos h,if_pos rfl];have his:∀k:Nat,k<s.2.2.2.length→(fun y1:Int×Unit=>f0g (n+9) y1.1 s) ((k:Int),())=some (decide (IsR s k)):=by
  intro k hk;obtain ⟨y,hy⟩:=b2x hk;have hm:=(hw.at hy).2;show f0g (n+9) (k:Int) s=_;rw[f1n,y0l (n+1) hy hm,obs];by_cases h1:LvX s y
  ·rw[decide_eq_true h1,decide_eq_false (fun q:IsR s k=>by obtain ⟨z,z1,z2⟩:=q;rw[hy] at z1;cases z1;exact z2 h1)];rfl
  ·rw[decide_eq_false h1,decide_eq_true (show IsR s k from ⟨y,hy,h1⟩)];rfl
 rcases u0m (n+8) s (fun y1:Int×Unit=>f0g (n+9) y1.1 s) (fun k=>decide (IsR s k)) (by have:=h.len;omega) his with ⟨m,q1,q2,q3,q4⟩ | ⟨q1,q2⟩
 ·rw[show (fun y1:Int×Unit=>f0g (n+9) y1.1 (s,(0:Int)).1)=fun y1:Int×Unit=>f0g (n+9) y1.1 s from rfl,q4,obs,tfd,if_neg (by omega),u1c (of_decide_eq_true q2) (fun j hj=>of_decide_eq_false (q3 j hj))]
 ·rw[show (fun y1:Int×Unit=>f0g (n+9) y1.1 (s,(0:Int)).1)=fun y1:Int×Unit=>f0g (n+9) y1.1 s from rfl,q2,obs,tfd,if_pos (by decide),room_no (fun j hj=>of_decide_eq_false (q1 j hj))]
noncomputable def markV (s:Sta):Int:=if Whole s∧w0p s.2.1 then mk s else 0
theorem stt_mark (n:Nat) (s:Sta):f1o (n+5) s=some (markV s):=by
 rw[n1m,f1r n s,obs,tfn,tfd,n1o (n+3),obs,tfn,tfd];unfold markV;by_cases h:Whole s
 case neg=>rw[if_neg h,if_neg (show ¬((sta0,(2:Int)).2=0) by decide),if_neg (fun k=>h k.1)]
 rw[if_pos h,if_pos rfl];by_cases h1:w0p s.2.1
 case neg=>rw[if_neg h1,if_neg (fun k=>h1 k.2)]
 rw[if_pos h1,if_pos ⟨h,h1⟩,x1x (n+3) h1 h.1.rng.w0];rfl
theorem b2s (n:Nat) (a b:List Ser) (hL:a.length≤9223372036854775807) (eq:Ser×(Ser×Unit)→Option Bool) (he:∀x∈a,∀y,eq (x,(y,()))=some (decide (x=y))):∀(ra rb pa pb:List Ser) (f:Nat) (ix len:Int),a=pa++ra→b=pb++rb→pa.length=pb.length→ra.length=rb.length→ix=pa.length→len=a.length→ra.length<f →
  a0z n f (b,eq,a,len,ix,())=some (if ra=rb then .inl () else .inr false):=by
 intro ra;induction ra with
 | nil =>
  intro rb pa pb f ix len ha hb hp hr hi hn hf;obtain ⟨f,rfl⟩:∃g,f=g+1:=⟨f-1,by simp at hf;omega⟩;have:rb=[]:=List.length_eq_zero_iff.1 (by simpa using hr.symm);subst this;rw[b0w,decide_eq_false (idxe ha hi hn),tff,if_pos rfl]
 | cons x ra ih =>
  intro rb pa pb f ix len ha hb hp hr hi hn hf;obtain ⟨f,rfl⟩:∃g,f=g+1:=⟨f-1,by simp at hf;omega⟩;cases rb with
  | nil=>simp at hr
  | cons y rb =>
   have hlen:=congrArg List.length ha;simp at hlen;rw[b0w,decide_eq_true (idx ha hi hn),tft,c0h ha hi,obs,c0h hb (by rw[hi,hp]),obs,he x (by rw[ha];simp) y,obs,tfn,tfd,w64 (by omega) (by omega)];by_cases h:x=y
   ·subst h;rw[if_pos rfl,ih rb (pa++[x]) (pb++[x]) f (ix+1) len (idxl ha) (idxl hb) (by simp[hp]) (by simpa using hr) (idxs hi) hn (by simp at hf;omega)];by_cases h2:ra=rb
    ·rw[if_pos h2,if_pos (by rw[h2])]
    ·rw[if_neg h2,if_neg (by intro k;injection k with _ k;exact h2 k)]
   ·rw[if_neg h,if_neg (by intro k;injection k with k _;exact h k)]
theorem stt_same (n:Nat) {a:Sta} (ha:StaW a) (b:Sta):f1m (n+5) a b=some (decide (a=b)):=by
 have he:∀x∈a.2.2.2,∀y,(fun y0:Ser×(Ser×Unit)=>e0x (n+4) y0.1 y0.2.1) (x,(y,()))=some (decide (x=y)):=fun x hx y=>z0x (n+1) x y (ha.ser x hx).2
 rw[n1j,confEq,tfd,tfd,tfd,e0m,tfn,tfd];obtain ⟨a1,a2,a3,a4⟩:=a;obtain ⟨b1,b2,b3,b4⟩:=b;simp only at ha he ⊢;by_cases h1:a1=b1
 case neg=>rw[if_neg h1,decide_eq_false (fun k=>h1 (congrArg Prod.fst k))]
 rw[if_pos h1];by_cases h2:a2=b2
 case neg=>rw[if_neg h2,decide_eq_false (fun k=>h2 (congrArg (fun z=>z.2.1) k))]
 rw[if_pos h2];by_cases h3:a3=b3
 case neg=>rw[if_neg h3,decide_eq_false (fun k=>h3 (congrArg (fun z=>z.2.2.1) k))]
 rw[if_pos h3];by_cases h4:(a4.length:Int)=b4.length
 case neg=>rw[if_neg h4,obs,decide_eq_false (fun k=>h4 (congrArg (fun z=>((z.2.2.2.length:Nat):Int)) k))]
 rw[if_pos h4,b2s (n+3) a4 b4 ha.len (fun y0:Ser×(Ser×Unit)=>e0x (n+4) y0.1 y0.2.1) he a4 b4 [] [] a0c 0 _ rfl rfl rfl (by omega) rfl rfl (by have:=ha.len;simp only at this;unfold a0c;omega)];by_cases h5:a4=b4
 ·rw[if_pos h5,decide_eq_true (by rw[h1,h2,h3,h5])];rfl
 ·rw[if_neg h5,decide_eq_false (fun k=>h5 (congrArg (fun z=>z.2.2.2) k))];rfl
theorem sta0_w:StaW sta0:=⟨by simp[sta0],by simp[sta0]⟩
theorem h0q {l:List Slo} {a b:Int} (h:b0i l a) (hab:a≤b):b0i l b:=fun s hs hc=>by
 have:=h s hs hc;omega
theorem o1u {l:List Slo} {b i:Int} {x:Cel} (h:b0i l b) (hi:i<b):b0i (tput l i x) b:=by
 intro s hs hc;rcases List.mem_or_eq_of_mem_set hs with k | k
 ·exact h s k hc
 ·rw[k];exact hi
theorem i1j {a b w:Int} (hw:1≤w) (hab:a≤b) (h:a / w≠b / w):a / w<b / w:=by
 have:a / w≤b / w:=Int.ediv_le_ediv (by omega) hab;omega
theorem nb_upw {c:Conf} (hc:OkC c) {s:Trs} {T U:Int} (hTU:T≤U) (h0:b0i s.1 (U / c.2.1.1)) (h1:b0i s.2.1 (T / c.2.1.2.1)) (h2:b0i s.2.2 (T / c.2.1.2.2)) :
  b0i (upw c s (T / c.2.1.1) (U / c.2.1.1)).1 (U / c.2.1.1)∧b0i (upw c s (T / c.2.1.1) (U / c.2.1.1)).2.1 (U / c.2.1.2.1)∧b0i (upw c s (T / c.2.1.1) (U / c.2.1.1)).2.2 (U / c.2.1.2.2):=by
 have hr:=hc.rng;have q1:=(edvm (t:=T) hr.w0.1 hr.w1.1 hc.m1).1;have q1u:=(edvm (t:=U) hr.w0.1 hr.w1.1 hc.m1).1;have q2:=(edvm (t:=T) hr.w0.1 hr.w2.1 hc.m02).1;have q2u:=(edvm (t:=U) hr.w0.1 hr.w2.1 hc.m02).1;have m1:T / c.2.1.2.1≤U / c.2.1.2.1:=Int.ediv_le_ediv (by have:=hr.w1;omega) hTU;have m2:T / c.2.1.2.2≤U / c.2.1.2.2:=Int.ediv_le_ediv (by have:=hr.w2;omega) hTU;have u1:b0i (up1 c s (T / c.2.1.1) (U / c.2.1.1)).1 (U / c.2.1.1)∧b0i (up1 c s (T / c.2.1.1) (U / c.2.1.1)).2.1 (U / c.2.1.2.1)∧b0i (up1 c s (T / c.2.1.1) (U / c.2.1.1)).2.2 (T / c.2.1.2.2):=by
  unfold up1;rw[q1,q1u];split
  ·exact ⟨h0,h0q h1 m1,h2⟩
  ·rename_i hne;split
   ·exact ⟨h0,o1u (h0q h1 m1) (by omega),h2⟩
   ·exact ⟨h0,h0q h1 m1,h2⟩
 unfold upw;generalize up1 c s (T / c.2.1.1) (U / c.2.1.1)=v at u1;unfold up2;rw[q2,q2u];split
 ·exact ⟨u1.1,u1.2.1,h0q u1.2.2 m2⟩
 ·rename_i hne;split
  ·exact ⟨u1.1,u1.2.1,o1u (h0q u1.2.2 m2) (by omega)⟩
  ·exact ⟨u1.1,u1.2.1,h0q u1.2.2 m2⟩
theorem u1l {r:Rw} {room:Int} {e:Ev} (h:RawOk r room) (he:EvOk e) (ha:After r.2.2 e) (hl:¬((r.2.2.length:Int)=room∧r.1=70368744177664)):RawOk (n0s r room e) room∧(n0s r room e).2.2.getLast? = some e:=by
 have hf:Foll (r.2.2++[e]):=by
  refine d0e.2 ⟨h.f,⟨by simp[he],by simp⟩,fun x hx y hy => ?_⟩;simp at hy;subst hy;have hn:r.2.2≠[]:=List.ne_nil_of_mem hx;have hg:=List.getLast?_eq_some_getLast hn;have:=ha _ hg;rcases List.eq_nil_or_concat r.2.2 with k | ⟨p,z,k⟩
  ·exact absurd k hn
  ·rw[List.concat_eq_append] at k;have hz:r.2.2.getLast hn=z:=by simp[k]
   rw[hz] at this;rw[k] at hx;rcases List.mem_append.1 hx with q | q
   ·have hf:=h.f;rw[k] at hf;have:=(d0e.1 hf).2.2 x q z (by simp);omega
   ·simp at q;rw[q];exact this
 unfold n0s;by_cases h1:(r.2.2.length:Int)<room
 ·rw[if_pos h1];refine ⟨⟨h.m0,h.m1,by simp;omega,h.l0,h.l1,hf,h.z,fun k => ?_⟩,by simp⟩;have:=(h.p k).1;omega
 ·rw[if_neg h1];have hlen:=h.len;have hlen':(r.2.2.length:Int)=room:=by omega
  have m0:=h.m0;cases hc:r.2.2 with
  | nil=>rw[hc] at hlen';simp at hlen';omega
  | cons a t =>
   rw[hc] at hf hlen';have hfa:=a2x.1 hf;simp only[List.drop_succ_cons,List.drop_zero,List.headD_cons];refine ⟨⟨h.m0,h.m1,by simp at hlen' ⊢;omega,by have:=h.l0;simp only;omega,?_,hfa.2.2,fun k => ?_,fun _=>⟨by simp at hlen' ⊢;omega,hfa.1.t0,fun x hx => ?_⟩⟩,by simp⟩
   ·have:=h.l1;have:r.1≠70368744177664:=fun k=>hl ⟨by rw[hc];exact hlen',k⟩
    simp only;omega
   ·have:=h.l0;simp only at k;omega
   ·exact hfa.2.1 x (List.mem_of_mem_head? hx)
theorem mrg_fits {a:Cel} {e:Ev} {w i:Int} (h:FitsP a w i) (he:EvOk e) (hlt:a.2.2.1.1<e.1) (hi:e.1 / w=i):FitsP (mrg a (d0o e)) w i:=by
 have hm:=o1v h.n (o0c he);refine ⟨mrg_N h.n (o0c he) hlt,h.w0,h.w1,?_,?_⟩
 ·rw[hm];exact h.f
 ·rw[hm];exact hi
theorem y1h {c:Conf} {s t:Ser} {e:Ev} (h:SerOk c s) (hp:putE c s e=(t,0)):SerOk c t∧EvOk e∧s.2.1<e.1∧t.2.1=e.1∧t.1=s.1:=by
 have hr:=h.fold.cok.rng;unfold putE at hp;by_cases h1:SerOk c s∧EvOk e
 case neg=>rw[if_neg h1] at hp;cases hp
 rw[if_pos h1] at hp;have he:=h1.2;by_cases h2:e.1≤s.2.1
 ·rw[if_pos h2] at hp;cases hp
 rw[if_neg h2] at hp;by_cases h3:(turned c s (e.1 / c.2.1.1)).2≠0
 ·rw[if_pos h3] at hp;exact absurd (congrArg Prod.snd hp) h3
 rw[if_neg h3] at hp;by_cases h4:(o0z s.2.2.1 c.1 e).2≠0
 ·rw[if_pos h4] at hp;exact absurd (congrArg Prod.snd hp) h4
 rw[if_neg h4] at hp;by_cases h5:(mrgE (turned c s (e.1 / c.2.1.1)).1.2.2 (d0o e)).2≠0
 ·rw[if_pos h5] at hp;exact absurd (congrArg Prod.snd hp) h5
 rw[if_neg h5] at hp;have hp:=(Prod.ext_iff.1 hp).1;simp only at hp;subst hp;refine ⟨?_,he,by omega,rfl,rfl⟩;have h3:(turned c s (e.1 / c.2.1.1)).2=0:=Decidable.byContradiction h3;have h4:(o0z s.2.2.1 c.1 e).2=0:=Decidable.byContradiction h4;have h5:(mrgE (turned c s (e.1 / c.2.1.1)).1.2.2 (d0o e)).2=0:=Decidable.byContradiction h5;have e0:0≤e.1:=he.t0;have hraw:RawOk (o0z s.2.2.1 c.1 e).1 c.1∧(o0z s.2.2.1 c.1 e).1.2.2.getLast? = some e:=by
  unfold o0z at h4 ⊢;rw[if_pos ⟨h.raw,he⟩] at h4 ⊢;by_cases k1:After s.2.2.1.2.2 e
  case neg=>rw[if_neg k1] at h4;cases h4
  rw[if_pos k1] at h4 ⊢;by_cases k2:(s.2.2.1.2.2.length:Int)=c.1∧s.2.2.1.1=70368744177664
  ·rw[if_pos k2] at h4;cases h4
  rw[if_neg k2] at h4 ⊢;exact u1l h.raw he k1 k2
 have key:FoldOk c (turned c s (e.1 / c.2.1.1)).1.1∧b0i (turned c s (e.1 / c.2.1.1)).1.1.1 (e.1 / c.2.1.1)∧b0i (turned c s (e.1 / c.2.1.1)).1.1.2.1 (e.1 / c.2.1.2.1)∧b0i (turned c s (e.1 / c.2.1.1)).1.1.2.2 (e.1 / c.2.1.2.2) ∧
   FitsP (mrgE (turned c s (e.1 / c.2.1.1)).1.2.2 (d0o e)).1 c.2.1.1 (e.1 / c.2.1.1)∧(mrgE (turned c s (e.1 / c.2.1.1)).1.2.2 (d0o e)).1.2.2.1.1=e.1:=by
  have fresh1:FitsP (d0o e) c.2.1.1 (e.1 / c.2.1.1):=⟨o0c he,hr.w0.1,hr.w0.2,rfl,rfl⟩;have z1:mrgE s0.2 (d0o e)=(d0o e,0):=mrgE_z0 (o0c he).ok;rcases h.st with ⟨l1,hf⟩ | ⟨l1,hd⟩
  ·have ht:turned c s (e.1 / c.2.1.1)=((s.2.2.2.1,s.2.2.2.2),0):=by
    unfold turned;rw[if_neg (fun k:q1c s _=>k.1 hf.opn)]
   rw[ht];simp only;rw[hf.opn,z1];exact ⟨h.fold,h0q hf.b0 (Int.ediv_nonneg e0 (by have:=hr.w0;omega)),h0q hf.b1 (Int.ediv_nonneg e0 (by have:=hr.w1;omega)),h0q hf.b2 (Int.ediv_nonneg e0 (by have:=hr.w2;omega)),fresh1,rfl⟩
  ·have hT:s.2.1≤e.1:=by omega
   have ho:s.2.2.2.2.1=s.2.1 / c.2.1.1:=by rw[←hd.fit.l,hd.ol]
   by_cases hts:q1c s (e.1 / c.2.1.1)
   ·have hlt:s.2.1 / c.2.1.1<e.1 / c.2.1.1:=i1j hr.w0.1 hT (by rw[←ho];exact hts.2);have hcl:x0j c s.2.2.2.1 s.2.2.2.2 (e.1 / c.2.1.1)=(upw c (tput s.2.2.2.1.1 s.2.2.2.2.1 s.2.2.2.2.2,s.2.2.2.1.2) (s.2.1 / c.2.1.1) (e.1 / c.2.1.1),0):=by
     unfold x0j;rw[if_pos h.fold,if_neg hts.1,if_pos hd.fit,if_neg hts.2,if_pos ⟨by omega,b2j he hr.w0.1⟩,ho]
    have ht:turned c s (e.1 / c.2.1.1)=((upw c (tput s.2.2.2.1.1 s.2.2.2.2.1 s.2.2.2.2.2,s.2.2.2.1.2) (s.2.1 / c.2.1.1) (e.1 / c.2.1.1),s0),0):=by
     unfold turned;rw[if_pos hts,hcl,if_pos rfl]
    rw[ht];simp only;rw[z1];obtain ⟨n0,n1,n2⟩:=nb_upw (s:=(tput s.2.2.2.1.1 s.2.2.2.2.1 s.2.2.2.2.2,s.2.2.2.1.2)) h.fold.cok hT (o1u (h0q hd.b0 (by omega)) (by omega)) hd.b1 hd.b2;exact ⟨upw_ok (a1w h.fold hd.fit) _ _,n0,n1,n2,fresh1,rfl⟩
   ·have ht:turned c s (e.1 / c.2.1.1)=((s.2.2.2.1,s.2.2.2.2),0):=by
     unfold turned;rw[if_neg hts]
    have hop:s.2.2.2.2≠s0:=fun k=>by have:=hd.fit.n.n1;rw[k] at this;simp[s0,z0] at this
    have hw:s.2.2.2.2.1=e.1 / c.2.1.1:=Decidable.byContradiction fun k=>hts ⟨hop,k⟩
    rw[ht] at h5 ⊢;simp only at h5 ⊢;obtain ⟨k1,k2,k3,k4,k5⟩:=o1w h5;rw[k4];have hfit:=hd.fit;rw[hw] at hfit;have hm:=o1v hd.fit.n (o0c he);exact ⟨h.fold,h0q hd.b0 (by omega),h0q hd.b1 (Int.ediv_le_ediv (by have:=hr.w1;omega) hT),h0q hd.b2 (Int.ediv_le_ediv (by have:=hr.w2;omega) hT),
     mrg_fits hfit he (by have:=hd.ol;omega) rfl,by rw[hm];rfl⟩
 obtain ⟨k1,k2,k3,k4,k5,k6⟩:=key;exact ⟨k1,h.lab,hraw.1,.inr ⟨by show e.1 ≠ -1;omega,⟨e,hraw.2,rfl⟩,k6,k5,k2,k3,k4⟩⟩
def setS (s:Sta) (i:Nat) (y:Ser):Sta:=(s.1,(s.2.1,(s.2.2.1,s.2.2.2.set i y)))
noncomputable def xOf (s:Sta) (l:List Lab) (w:Int×(Bool×Int)):Ser:=if w.2.1=true then (newV s.1 l).1 else (s.2.2.2[w.1.toNat]?).getD ser0
noncomputable def o0g (s:Sta) (l:List Lab) (e:Ev):Sta×Int :=
 if (d0y s l e).2.2≠0 then (sta0,(d0y s l e).2.2)
 else if (putE s.1 (xOf s l (d0y s l e)) e).2≠0 then (sta0,(putE s.1 (xOf s l (d0y s l e)) e).2)
 else (setS s (d0y s l e).1.toNat (putE s.1 (xOf s l (d0y s l e)) e).1,0)
structure Goes (s:Sta) (l:List Lab) (e:Ev):Prop where
 st:StaOk s
 lab:LabOk l
 ev:EvOk e
 lo:mk s≤e.1
 hi:e.1<mk s+s.1.2.1.1
inductive PlaceAt (s:Sta) (l:List Lab) (e:Ev):Nat→Ser→Bool→Prop
 | found {i:Nat} {x:Ser} (hf:r0b s l=some i) (hx:s.2.2.2[i]? = some x) (hl:x.1=l) (hlv:LvX s x) (ht:x.2.1<e.1):PlaceAt s l e i x false
 | room {i:Nat} (hf:r0b s l=none) (hs:e.2.2.2=false) (hr:s0d s=some i):PlaceAt s l e i (l,(-1,(r0w,(emp s.1,s0)))) true
theorem z1j {c:Conf} {l:List Lab} (h:OkC c) (hl:LabOk l):newV c l=((l,(-1,(r0w,(emp c,s0)))),0):=by
 unfold newV;rw[if_pos h,if_pos hl]
theorem r1u {s:Sta} {l:List Lab} {e:Ev} (h:(d0y s l e).2.2=0):Goes s l e∧∃i x b,PlaceAt s l e i x b∧(d0y s l e).1.toNat=i∧xOf s l (d0y s l e)=x∧d0y s l e=((i:Int),(b,0)):=by
 unfold d0y at h ⊢;by_cases h1:StaOk s
 case neg=>rw[if_pos h1] at h;cases h
 rw[if_neg (fun k=>k h1)] at h ⊢;by_cases h2:LabOk l
 case neg=>rw[if_pos h2] at h;cases h
 rw[if_neg (fun k=>k h2)] at h ⊢;by_cases h3:EvOk e
 case neg=>rw[if_pos h3] at h;cases h
 rw[if_neg (fun k=>k h3)] at h ⊢;by_cases h4:e.1<mk s∨mk s+s.1.2.1.1≤e.1
 ·rw[if_pos h4] at h;cases h
 rw[if_neg h4] at h ⊢;refine ⟨⟨h1,h2,h3,by omega,by omega⟩,?_⟩;cases hf:r0b s l with
 | some i =>
  rw[hf] at h;simp only at h ⊢;obtain ⟨x,hx,k1,k2,k3⟩:=w0f.1 hf;rw[hx] at h ⊢;simp only[Option.getD_some] at h ⊢;by_cases h5:e.1≤x.2.1
  ·rw[if_pos h5] at h;cases h
  rw[if_neg h5];exact ⟨i,x,false,.found hf hx k1 k2 (by omega),rfl,by unfold xOf;simp[hx],rfl⟩
 | none =>
  rw[hf] at h;simp only at h ⊢;cases h5:e.2.2.2 with
  | true=>rw[h5,if_pos rfl] at h;cases h
  | false =>
   rw[h5,if_neg (by simp)] at h;rw[if_neg (by simp)];cases hr:s0d s with
   | none=>rw[hr] at h;cases h
   | some i =>
    simp only;exact ⟨i,_,true,.room hf h5 hr,rfl,by unfold xOf;rw[if_pos rfl,z1j h1.whole.1 h2],rfl⟩
theorem q1y {s:Sta} {l:List Lab} {e:Ev} (h:Goes s l e) {i:Nat} {x:Ser} {b:Bool} (hp:PlaceAt s l e i x b):SerOk s.1 x∧x.1=l∧i<s.2.2.2.length∧x.2.1<e.1:=by
 cases hp with
 | found hf hx hl hlv ht =>
  rcases h.st.right _ _ hx with k | k
  ·exact absurd k hlv.1
  ·exact ⟨k.1,hl,(List.getElem?_eq_some_iff.1 hx).1,ht⟩
 | room hf hs hr =>
  obtain ⟨y,hy,_⟩:=d1q.1 hr;exact ⟨k1b (z1k h.st.whole.1 h.lab),rfl,(List.getElem?_eq_some_iff.1 hy).1,by have:=h.ev.t0;show (-1:Int)<e.1;omega⟩
theorem write_ok {s t:Sta} {l:List Lab} {e:Ev} (h:o0g s l e=(t,0)):Goes s l e∧∃i x b y,PlaceAt s l e i x b∧putE s.1 x e=(y,0)∧t=setS s i y∧d0y s l e=((i:Int),(b,0)):=by
 unfold o0g at h;by_cases h1:(d0y s l e).2.2=0
 case neg=>rw[if_pos h1] at h;exact absurd (congrArg Prod.snd h) h1
 rw[if_neg (fun k=>k h1)] at h;obtain ⟨hg,i,x,b,k1,k2,k3,k4⟩:=r1u h1;rw[k2,k3] at h;by_cases h2:(putE s.1 x e).2=0
 case neg=>rw[if_pos h2] at h;exact absurd (congrArg Prod.snd h) h2
 rw[if_neg (fun k=>k h2)] at h;exact ⟨hg,i,x,b,_,k1,Prod.ext rfl h2,(congrArg Prod.fst h).symm,k4⟩
noncomputable def u1q (s:Sta):Int×Int:=if StaOk s then (mk s,if 35184372088832<mk s+s.1.2.1.1 then 35184372088832 else mk s+s.1.2.1.1) else (0,0)
theorem markV_ok {s:Sta} (h:StaOk s):markV s=mk s∧IntKind.wrap .i64 (mk s+s.1.2.1.1)=mk s+s.1.2.1.1:=by
 have hr:=h.whole.1.rng.w0;have ht:=h.clock.1.2;obtain ⟨m1,m2,m3,m4⟩:=y0r h.clock.1 hr;exact ⟨if_pos ⟨h.whole,h.clock.1⟩,w64 (by omega) (by omega)⟩
theorem u1a (n:Nat) {s:Sta} (hw:StaW s):v0j (n+15) s=some (u1q s):=by
 rw[g1a,j1u n hw,obs,tfn,tfd,stt_mark (n+9) s];unfold u1q;by_cases h:StaOk s
 case neg=>rw[if_neg h,if_neg h,if_neg (show ¬((2:Int)=0) by decide)]
 obtain ⟨e1,e2⟩:=markV_ok h;rw[if_pos h,if_pos h,if_pos rfl,obs,e1,e2]
theorem r1d {s:Sta} {e:Ev} (h:StaOk s) (he:EvOk e):(e.1<(u1q s).1∨(u1q s).2≤e.1)↔(e.1<mk s∨mk s+s.1.2.1.1≤e.1):=by
 have:=he.t1;unfold u1q;rw[if_pos h];simp only;split<;>omega
theorem v1t {s:Sta} (h:Whole s) {l:List Lab} {i:Nat} (hf:r0b s l=some i):v1v s l=((i:Int),0):=by
 unfold v1v;rw[if_pos h,hf]
theorem v1u {s:Sta} (h:Whole s) {l:List Lab} (hf:r0b s l=none):v1v s l=(0,3):=by
 unfold v1v;rw[if_pos h,hf]
theorem u1e {s:Sta} (h:Whole s) {i:Nat} (hf:s0d s=some i):u1g s=((i:Int),0):=by
 unfold u1g;rw[if_pos h,hf]
theorem u1f {s:Sta} (h:Whole s) (hf:s0d s=none):u1g s=(0,7):=by
 unfold u1g;rw[if_pos h,hf]
theorem m1w {s:Sta} {l:List Lab} {e:Ev} (h:StaOk s) (h1:LabOk l) (h2:EvOk e) (h3:¬(e.1<mk s∨mk s+s.1.2.1.1≤e.1)) :
  d0y s l e=match r0b s l with
   | some i=>if e.1≤((s.2.2.2[i]?).getD ser0).2.1 then (0,(false,9)) else ((i:Int),(false,0))
   | none=>if e.2.2.2=true then (0,(false,3)) else match s0d s with | some i=>((i:Int),(true,0)) | none=>(0,(false,7)):=by
 unfold d0y;rw[if_neg (fun k=>k h),if_neg (fun k=>k h1),if_neg (fun k=>k h2),if_neg h3]
 all_goals (cases r0b s l<;>first | rfl | (cases s0d s<;>rfl))
theorem n1y (n:Nat) {s:Sta} (hw:StaW s) (l:List Lab) {e:Ev} (he:EvW e):s0b (n+16) s l e=some (d0y s l e):=by
 rw[c1g,j1u (n+1) hw,obs,tfn,tfd,h0s _ l,f0b _ he,u1a n hw,stt_find (n+5) hw l,stt_room (n+5) hw];by_cases h:StaOk s
 case neg =>
  rw[if_neg h,if_neg (show ¬((2:Int)=0) by decide)];unfold d0y;rw[if_pos h]
 rw[if_pos h,if_pos rfl,obs,tfn,tfd];by_cases h1:LabOk l
 case neg =>
  rw[if_neg h1,if_neg (show ¬((8:Int)=0) by decide)];unfold d0y;rw[if_neg (fun k=>k h),if_pos h1]
 rw[if_pos h1,if_pos rfl,obs,tfn,tfd];by_cases h2:EvOk e
 case neg =>
  rw[if_neg h2,if_neg (show ¬((2:Int)=0) by decide)];unfold d0y;rw[if_neg (fun k=>k h),if_neg (fun k=>k h1),if_pos h2]
 rw[if_pos h2,if_pos rfl,obs,obs,tfd,tfd];by_cases h3:e.1<mk s∨mk s+s.1.2.1.1≤e.1
 ·have ht:d0y s l e=(0,(false,9)):=by
   unfold d0y;rw[if_neg (fun k=>k h),if_neg (fun k=>k h1),if_neg (fun k=>k h2),if_pos h3]
  rw[ht];rcases (r1d h h2).2 h3 with q | q
  ·rw[if_pos q]
  ·by_cases q':e.1<(u1q s).1
   ·rw[if_pos q']
   ·rw[if_neg q',if_pos q]
 have h3':=mt (r1d h h2).1 h3;rw[if_neg (fun k=>h3' (.inl k)),if_neg (fun k=>h3' (.inr k)),m1w h h1 h2 h3,tfd];cases hf:r0b s l with
 | some i =>
  obtain ⟨x,hx,_⟩:=w0f.1 hf;rw[v1t h.whole hf,if_pos rfl,m1o hx,obs,tfd];simp only[hx,Option.getD_some];by_cases h4:e.1≤x.2.1
  ·rw[if_pos h4,if_pos h4]
  ·rw[if_neg h4,if_neg h4];rfl
 | none =>
  rw[v1u h.whole hf,if_neg (show ¬((3:Int)=0) by decide),show (decide (((0:Int),(3:Int)).2=0))=false from rfl,tff];cases hs:e.2.2.2 with
  | true=>rw[tft];simp
  | false =>
   rw[tff,obs];simp only[Bool.false_eq_true,if_false];cases hr:s0d s with
   | some i=>rw[u1e h.whole hr];rfl
   | none=>rw[u1f h.whole hr];rfl
theorem w1y {s:Sta} {l:List Lab} {e:Ev} (h:(d0y s l e).2.2≠0):o0g s l e=(sta0,(d0y s l e).2.2):=by
 unfold o0g;rw[if_pos h]
theorem c2i (n:Nat) (s:List Ser) (h:s.length≤1000000):k0f (n+1) s=some s:=by
 rw[t0r,decide_eq_true (show (0+s.length)*264≤140737488355328 by omega)];simp only[tft,List.nil_append];by_cases h0:s.length=0
 ·rw[decide_eq_true h0,tft,List.length_eq_zero_iff.1 h0,m1m]
 ·rw[decide_eq_false h0,tff]
theorem place_w {s:Sta} (hw:StaW s) {l:List Lab} {e:Ev} (hg:Goes s l e) {i:Nat} {x:Ser} {b:Bool} (hp:PlaceAt s l e i x b):SerW x:=by
 cases hp with
 | found hf hx hl hlv ht=>exact (hw.at hx).1
 | room hf hs hr=>exact serInv_w (z1k hg.st.whole.1 hg.lab)
theorem w1t {s:Sta} {l:List Lab} {e:Ev} {i:Nat} {x:Ser} {b:Bool} (hp:(d0y s l e).1.toNat=i) (hx:xOf s l (d0y s l e)=x) (h:(d0y s l e).2.2=0) :
  o0g s l e=if (putE s.1 x e).2=0 then (setS s i (putE s.1 x e).1,0) else (sta0,(putE s.1 x e).2):=by
 unfold o0g;rw[if_neg (fun k=>k h),hp,hx];by_cases h1:(putE s.1 x e).2=0
 ·rw[if_neg (fun k=>k h1),if_pos h1]
 ·rw[if_pos h1,if_neg h1]
theorem set_tail {s:Sta} {i:Nat} (hi:i<s.2.2.2.length) (y:Ser) :
  (a0a (at? s.2.2.2 (i:Int)) fun r4=>a0a ((s.2.2.2)[(Int.toNat (i:Int))]?) fun r5=>some ((s.1,(s.2.1,(s.2.2.1,(List.set s.2.2.2 (Int.toNat (i:Int)) y)))),(0:Int)))=some (setS s i y,0):=by
 obtain ⟨z,hz⟩:=b2x hi;rw[m1o hz,obs,Int.toNat_natCast,hz,obs];rfl
theorem j1c (n:Nat) {s:Sta} (hw:StaW s) (l:List Lab) {e:Ev} (he:EvW e):s0o (n+24) s l e=some (o0g s l e):=by
 rw[j1d,n1y (n+7) hw l he,obs,tfn,tfd];by_cases h:(d0y s l e).2.2=0
 case neg=>rw[if_neg h,w1y h];rfl
 obtain ⟨hg,i,x,b,hp,k1,k2,hv⟩:=r1u h;obtain ⟨p1,p2,p3,p4⟩:=q1y hg hp;rw[if_pos h,w1t (b:=b) k1 k2 h,hv,b1v];have hx:(tif b (a0a (q0e (n+22) s.1 l) fun r0=>some r0) (a0a (at? s.2.2.2 (i:Int)) fun r1=>some (r1,(0:Int))))=some (x,0):=by
  cases hp with
  | found hf hx hl hlv ht=>rw[tff,m1o hx,obs]
  | room hf hs hr=>rw[tft,t1x (n+15),z1j hg.st.whole.1 hg.lab,obs]
 simp only;rw[hx,obs,tfn,tfd,if_pos rfl];simp only;rw[t1w n s.1 (place_w hw hg hp) he,obs,tfn,tfd];by_cases h1:(putE s.1 x e).2=0
 case neg=>rw[if_neg h1,if_neg h1];rfl
 rw[if_pos h1,if_pos h1,c2i (n+22) _ (by have:=hg.st.whole.len;omega),obs,set_tail p3]
theorem serW_put {c:Conf} {s t:Ser} {e:Ev} (h:SerOk c s) (hp:putE c s e=(t,0)):SerW t∧SerM t:=by
 obtain ⟨q1,q2,q3,q4,q5⟩:=y1h h hp;have hc:=q1.fold.cok.rng;refine ⟨⟨?_,fun x hx=>EvW.of (q1.raw.f.ok x hx),q1.fold.w,?_⟩,?_⟩
 ·have:=q2.t0;have:=q2.t1;rw[q4];unfold I64;omega
 ·rcases q1.st with ⟨_,k⟩ | ⟨_,k⟩
  ·rw[k.opn];exact f1u
  ·have:=k.fit.i0;exact ⟨by unfold I64;omega,.of k.fit.n.ok⟩
 ·have l1:=q1.lab.n1;have l2:=q1.raw.len;have l3:=q1.raw.m1;have:=q1.fold.lens;exact ⟨by omega,by omega,by omega,by omega,by omega⟩
theorem write_w {s t:Sta} (hw:StaW s) {l:List Lab} {e:Ev} {v:Int} (h:o0g s l e=(t,v)):StaW t:=by
 by_cases hv:v=0
 ·subst hv;obtain ⟨hg,i,x,b,y,hp,hput,rfl,_⟩:=write_ok h;obtain ⟨p1,p2,p3,p4⟩:=q1y hg hp;have hy:=serW_put p1 hput;refine ⟨by simpa [setS] using hw.len,fun z hz => ?_⟩;rcases List.mem_or_eq_of_mem_set hz with k | k
  ·exact hw.ser z k
  ·rw[k];exact hy
 ·have:t=sta0:=by
   unfold o0g at h;split at h
   ·exact (congrArg Prod.fst h).symm
   ·split at h
    ·exact (congrArg Prod.fst h).symm
    ·exact absurd (congrArg Prod.snd h).symm hv
  rw[this];exact sta0_w
theorem writeV_w {s:Sta} (hw:StaW s) (l:List Lab) (e:Ev):StaW (o0g s l e).1:=write_w hw (v:=(o0g s l e).2) rfl
def qb (c:UInt8):List UInt8:=if c.toNat=10 then [92,110] else if c.toNat=34 then [92,c] else if c.toNat=92 then [92,c] else [c]
def qt (s:List UInt8):List UInt8:=s.flatMap qb
theorem qb_len (c:UInt8):(qb c).length≤2:=by
 unfold qb;split
 ·simp
 split
 ·simp
 split<;>simp
theorem g1h (c:UInt8) (s:List UInt8):qt (c::s)=qb c++qt s:=rfl
theorem k1l:∀s:List UInt8,(qt s).length≤2*s.length
 | []=>by simp[qt]
 | c::s=>by
  have:=qb_len c;have:=k1l s;rw[g1h,List.length_append,List.length_cons];omega
theorem wb (n:Nat) (b:List UInt8) {c:Int} {u:UInt8} (hc:c=(u.toNat:Int)) (hl:b.length≤100000000000000):a0h (n+1) b c=some (false,b++[u]):=by
 have h1:=u.toNat_lt;rw[j0g,h0v,c0r,if_pos (by simp;omega),hc];simp
theorem wst (n:Nat) (b s:List UInt8) (hl:b.length+s.length≤100000000000000):b0p (n+1) b s=some ((s.length:Int),false,b++s):=by
 rw[i0h,e0z,tfd,if_pos (by omega)]
theorem at_midI {s pre rest:List UInt8} {c:UInt8} {i:Int} (h:s=pre++c::rest) (hi:i=pre.length):at? (List.map (fun y=>(((UInt8.toNat y):Nat):Int)) s) i=some ((c.toNat:Nat):Int) :=
 c0h (pre:=pre.map fun y=>(((UInt8.toNat y):Nat):Int)) (rest:=rest.map fun y=>(((UInt8.toNat y):Nat):Int)) (by rw[h];simp) (by simpa using hi)
theorem quote_l (n:Nat) (s:List UInt8) (hs:s.length≤1000000000000):∀(rest pre:List UInt8) (f:Nat) (b:List UInt8) (i:Int),s=pre++rest→i=pre.length→b.length+2*rest.length≤10000000000000 →
  c0i (n+1) (f+rest.length+1) (b,List.map (fun y=>(((UInt8.toNat y):Nat):Int)) s,(s.length:Int),i,())=some (.inl (b++qt rest,())):=by
 intro rest;induction rest with
 | nil =>
  intro pre f b i h hi hb;rw[m0h];simp only[tfd,if_neg (idxe h hi rfl)];simp[qt]
 | cons c rest ih =>
  intro pre f b i h hi hb;rw[show f+(c::rest).length+1=(f+rest.length+1)+1 by simp;omega,m0h];simp only[tfd,if_pos (idx h hi rfl)];rw[at_midI h hi,obs,idxw h hi (by omega)];simp only[List.length_cons] at hb;have hc:=c.toNat_lt;have e110:(110:Int)=(((110:UInt8).toNat:Nat):Int):=rfl;have e92:(92:Int)=(((92:UInt8).toNat:Nat):Int):=rfl;have hn:=fun (b':List UInt8) (hb':b'.length≤b.length+2)=>ih (pre++[c]) f b' (i+1) (idxl h) (idxs hi) (by omega)
  rw[g1h];unfold qb;by_cases h10:c.toNat=10
  ·rw[if_pos (show ((c.toNat:Nat):Int)=10 by omega),if_pos h10,wb n b e92 (by omega),obs,wb n _ e110 (by simp;omega),obs,hn _ (by simp)];simp
  rw[if_neg (show ¬((c.toNat:Nat):Int)=10 by omega),if_neg h10];by_cases h34:c.toNat=34
  ·have q:((c.toNat:Nat):Int)=34:=by omega
   rw[if_pos q,if_pos q,if_pos h34,wb n b e92 (by omega),obs,wb n _ rfl (by simp;omega),obs,hn _ (by simp)];simp
  rw[if_neg (show ¬((c.toNat:Nat):Int)=34 by omega),if_neg h34];by_cases h92:c.toNat=92
  ·rw[if_pos (show ((c.toNat:Nat):Int)=92 by omega),if_pos h92,wb n b e92 (by omega),obs,wb n _ rfl (by simp;omega),obs,hn _ (by simp)];simp
  ·rw[if_neg (show ¬((c.toNat:Nat):Int)=92 by omega),if_neg h92,wb n b rfl (by omega),obs,hn _ (by simp)];simp
theorem lfu {k:Nat} (h:k≤1000000000000):a0c=(a0c-k-1)+k+1:=by unfold a0c;omega
theorem y1r (n:Nat) (b s:List UInt8) (hs:s.length≤1000000000000) (hb:b.length≤1000000000000):s0f (n+2) b s=some (b++[34]++qt s++[34]):=by
 rw[c1k];have e34:(34:Int)=(((34:UInt8).toNat:Nat):Int):=rfl;rw[wb n b e34 (by omega),obs];have:=quote_l n s hs s [] (a0c-s.length-1) (b++[34]) 0 rfl rfl (by simp;omega);rw[←lfu hs] at this;have e:(((List.length (List.map (fun y2=>(((UInt8.toNat y2):Nat):Int)) s)):Nat):Int)=(s.length:Int):=by simp
 rw[e];show a0a (c0i (n+1) a0c (b++[34],_)) _=_;rw[this,obs,b0t];have:=k1l s;rw[wb n _ e34 (by simp;omega),obs]
def labT (x:Lab):List UInt8:=x.1++[61,34]++qt x.2++[34]
def h0y:UInt8→List Lab→List UInt8
 | _,[]=>[]
 | c,x::r=>c::(labT x++h0y 44 r)
def j0e (l:List Lab):List UInt8:=h0y 123 l++[125]
theorem y0y:∀(l:List Lab) (p:Option (List UInt8)),chkL p l→∀x∈l,x.1.length≤64∧x.2.length≤128
 | [],_,_,x,hx=>by cases hx
 | y::l,p,h,x,hx=>by
  rcases List.mem_cons.1 hx with rfl | hx
  ·exact ⟨h.1.len,h.2.1⟩
  ·exact y0y l _ h.2.2.2 x hx
theorem labT_len {x:Lab} (h:x.1.length≤64∧x.2.length≤128):(labT x).length≤400:=by
 have:=k1l x.2;unfold labT;simp;omega
theorem b1l:∀(l:List Lab) (c:UInt8),(∀x∈l,x.1.length≤64∧x.2.length≤128)→(h0y c l).length≤401*l.length
 | [],_,_=>by simp[h0y]
 | x::l,c,h=>by
  have h1:=labT_len (h x List.mem_cons_self);have h2:=b1l l 44 fun y hy=>h y (List.mem_cons_of_mem _ hy)
  unfold h0y;simp;omega
theorem t0b {l:List Lab} (h:LabOk l):(j0e l).length≤10000:=by
 have h1:=b1l l 123 (y0y l none h.c);have h2:=h.n1;unfold j0e;simp;omega
theorem text_l (n:Nat) (l:List Lab) (hl:l.length≤16) (hx:∀x∈l,x.1.length≤64∧x.2.length≤128):∀(rest pre:List Lab) (f:Nat) (b:List UInt8) (a:UInt8) (i:Int),l=pre++rest→i=pre.length→b.length≤401*pre.length →
  g0w (n+2) (f+rest.length+1) (b,((a.toNat:Nat):Int),l,(l.length:Int),i,())=some (.inl (b++h0y a rest,())):=by
 intro rest;induction rest with
 | nil =>
  intro pre f b a i h hi hb;rw[o0m];simp only[tfd,if_neg (idxe h hi rfl)];simp[h0y]
 | cons x rest ih =>
  intro pre f b a i h hi hb;have hlen:=congrArg List.length h;simp at hlen;have hx1:=hx x (by rw[h];simp);rw[show f+(x::rest).length+1=(f+rest.length+1)+1 by simp;omega,o0m];simp only[tfd,if_pos (idx h hi rfl)];have e61:(61:Int)=(((61:UInt8).toNat:Nat):Int):=rfl;have e44:(44:Int)=(((44:UInt8).toNat:Nat):Int):=rfl;rw[c0h h hi,obs,idxw h hi (by omega),wb (n+1) b rfl (by omega),obs,wst (n+1) _ _ (by simp;omega),obs,wb (n+1) _ e61 (by simp;omega),obs,
   y1r n _ _ (by omega) (by simp;omega),obs,e44]
  have hq:=k1l x.2;rw[ih (pre++[x]) f _ 44 (i+1) (idxl h) (idxs hi) (by simp;omega)];simp[h0y,labT]
theorem v1f (n:Nat) (l:List Lab):v0z (n+7) l=some (if LabOk l then (j0e l,0) else ([],8)):=by
 rw[h1e,h0s n l,obs];by_cases h:LabOk l
 ·rw[if_pos h,if_pos h];simp only[decide_true,Bool.not_true,c0r,Bool.false_eq_true,if_false];have h1:=text_l (n+4) l h.n1 (y0y l none h.c) l [] (a0c-l.length-1) [] 123 0 rfl rfl (by simp);rw[←lfu (by have:=h.n1;omega)] at h1;show a0a (g0w (n+6) a0c ([],(((123:UInt8).toNat:Nat):Int),l,(l.length:Int),0,())) _=_;rw[h1,obs,b0t];have h2:=t0b h;have e125:(125:Int)=(((125:UInt8).toNat:Nat):Int):=rfl;unfold j0e at h2 ⊢;simp at h2;rw[wb (n+5) _ e125 (by simp;omega),obs,f0z,obs];simp
 ·rw[if_neg h,if_neg h];rfl
def bodyT:List Lab→List UInt8
 | []=>[]
 | x::r=>labT x++h0y 44 r
theorem e1e (sub:List UInt8) (hs:sub≠[]):∀(s:List UInt8) (i:Nat),Lib.index s sub=(i:Int)→∃t,s.drop i=sub++t∧i+sub.length≤s.length
 | [],i,h=>by
  unfold Lib.index at h;have:sub.isEmpty=false:=by cases sub with | nil=>exact absurd rfl hs | cons=>rfl
  rw[this] at h;simp at h
 | b::l,i,h=>by
  unfold Lib.index at h;split at h
  ·rename_i hp;have h0:i=0:=by omega
   subst h0;obtain ⟨t,ht⟩:=List.isPrefixOf_iff_prefix.1 hp;have hl:=congrArg List.length ht;simp at hl;exact ⟨t,ht.symm,by simp;omega⟩
  ·split at h
   ·omega
   ·have hge:=Lib.index_ge l sub;obtain ⟨j,hj⟩:∃j:Nat,Lib.index l sub=(j:Int):=⟨(Lib.index l sub).toNat,by
     rename_i hne;have:Lib.index l sub ≠ -1:=by simpa using hne
     omega⟩
    have hi:i=j+1:=by omega
    obtain ⟨t,h1,h2⟩:=e1e sub hs l j hj;subst hi;exact ⟨t,by simpa using h1,by simp;omega⟩
theorem h1h {a sub t:List UInt8} {c:UInt8} {r:List UInt8} (hs:sub=c::r) (ha:c ∉ a):Lib.index (a++(sub++t)) sub=(a.length:Int):=by
 refine Lib.index_first (by simp) ?_ fun j hj => ?_
 ·unfold Lib.occAt;rw[List.drop_left];exact List.isPrefixOf_iff_prefix.2 ⟨t,rfl⟩
 ·cases ho:Lib.occAt (a++(sub++t)) sub j with
  | false=>rfl
  | true =>
   have:=Lib.occAt_head hs ho;rw[List.getElem?_append_left hj] at this;exact absurd (List.mem_of_getElem? this) ha
theorem r1r {s sub:List UInt8} {c:UInt8} {r:List UInt8} (hs:sub=c::r) (ha:c ∉ s):Lib.index s sub = -1:=by
 refine Lib.index_none fun j hj => ?_
 cases ho:Lib.occAt s sub j with
 | false=>rfl
 | true=>exact absurd (List.mem_of_getElem? (Lib.occAt_head hs ho)) ha
def cutV (s sep:List UInt8):List UInt8×(List UInt8×Bool) :=
 if 0≤Lib.index s sep then (s.take (Lib.index s sep).toNat,s.drop ((Lib.index s sep).toNat+sep.length),true) else (s,[],false)
theorem c2c (n:Nat) (s sep:List UInt8) (hs:s.length≤1000000) (hsep:sep≠[]) (hl:sep.length≤100):strings_Cut (n+3) s sep=some (cutV s sep):=by
 rw[c1c,t0h,i0y,a1v,tfd,if_pos (by omega),obs];unfold cutV;by_cases h:0≤Lib.index s sep
 ·obtain ⟨i,hi⟩:∃i:Nat,Lib.index s sep=(i:Int):=⟨(Lib.index s sep).toNat,by omega⟩;obtain ⟨t,_,h2⟩:=e1e sep hsep s i hi;rw[if_pos h,hi,w64 (by omega) (by omega)];have c1:(decide ((0:Int)≤(i:Int))&&decide ((i:Int)≤((s.length:Nat):Int)))=true:=by simp;omega
  rw[c1];have e:Int.toNat ((i:Int)+((sep.length:Nat):Int))=i+sep.length:=by omega
  rw[e];simp only[tfd,tft];rw[if_pos (by omega),if_pos (by omega),if_pos h2,obs];simp
 ·rw[if_neg h];simp only[tfd];rw[if_neg h,obs]
theorem cutV_len (s sep:List UInt8):(cutV s sep).1.length≤s.length∧(cutV s sep).2.1.length≤s.length:=by
 unfold cutV;split
 ·simp;omega
 ·simp
theorem c2d {a t r:List UInt8} {c:UInt8} (ha:c ∉ a):cutV (a++((c::r)++t)) (c::r)=(a,t,true):=by
 unfold cutV;rw[h1h rfl ha,if_pos (by omega),Int.toNat_natCast,List.take_left];have:(a++((c::r)++t)).drop (a.length+(c::r).length)=t:=by
  rw[←List.append_assoc,←List.length_append,List.drop_left]
 rw[this]
theorem cutV_no {s r:List UInt8} {c:UInt8} (ha:c ∉ s):cutV s (c::r)=(s,[],false):=by
 unfold cutV;rw[r1r rfl ha,if_neg (by omega)]
def cutP (c:UInt8):List UInt8→List UInt8×Bool
 | []=>([],false)
 | d::r=>if d=c then (r,true) else (d::r,false)
theorem q0m (n:Nat) (c:UInt8) (s:List UInt8):strings_CutPrefix (n+3) s [c]=some (cutP c s):=by
 rw[q0t,l0t,l0s];cases s with
 | nil=>rfl
 | cons d r =>
  have c0:(((List.length [c]:Nat)):Int)≤(((d::r).length:Nat):Int):=by simp;omega
  have c1:(decide ((0:Int)≤((List.length [c]:Nat):Int))&&decide (((List.length [c]:Nat):Int)≤(((d::r).length:Nat):Int)))=true:=by
   have:(0:Int)≤(r.length:Int):=by omega
   simp;omega
  have e1:Int.toNat ((List.length [c]:Nat):Int)=1:=rfl;rw[c1,e1];simp only[tfd,tft];rw[if_pos c0,obs];by_cases h:d=c
  ·subst h;have q:cutP d (d::r)=(r,true):=by show (if d=d then (r,true) else (d::r,false))=_;rw[if_pos rfl]
   rw[q];simp[c0r]
  ·have q:cutP c (d::r)=(d::r,false):=by show (if d=c then (r,true) else (d::r,false))=_;rw[if_neg h]
   rw[q];have:(List.drop 0 (List.take 1 (d::r))==[c])=false:=by simp[h]
   rw[this];rfl
theorem i1k (c:UInt8) (s:List UInt8):(cutP c s).1.length≤s.length:=by
 cases s with
 | nil=>simp[cutP]
 | cons d r =>
  show (if d=c then (r,true) else (d::r,false)).1.length≤_;split<;>simp
def unq:List UInt8→Option (List UInt8×List UInt8)
 | []=>none
 | c :: r => if c.toNat = 34 then some ([], r) else if c.toNat = 10 then none else if c.toNat = 92 then
     (match r with
     | []=>none
     | d::r'=>if d.toNat=110 then (unq r').map (fun p=>(10::p.1,p.2)) else if d.toNat=34∨d.toNat=92 then (unq r').map (fun p=>(d::p.1,p.2)) else none)
  else (unq r).map (fun p=>(c::p.1,p.2))
theorem unq_34 {c:UInt8} (r:List UInt8) (h:c.toNat=34):unq (c::r)=some ([],r):=by unfold unq;rw[if_pos h]
theorem unq_10 {c:UInt8} (r:List UInt8) (h:c.toNat=10):unq (c::r)=none:=by unfold unq;rw[if_neg (by omega),if_pos h]
theorem x1c {c:UInt8} (r:List UInt8) (h:¬c.toNat=34) (h':¬c.toNat=10) (h'':¬c.toNat=92):unq (c::r)=(unq r).map (fun p=>(c::p.1,p.2)):=by
 conv=>lhs;unfold unq
 rw[if_neg h,if_neg h',if_neg h'']
theorem unq_92n {c:UInt8} (h:c.toNat=92):unq [c]=none:=by
 unfold unq;rw[if_neg (by omega),if_neg (by omega),if_pos h]
theorem q1h {c d:UInt8} (r:List UInt8) (h:c.toNat=92):unq (c::d::r)=if d.toNat=110 then (unq r).map (fun p=>(10::p.1,p.2)) else if d.toNat=34∨d.toNat=92 then (unq r).map (fun p=>(d::p.1,p.2)) else none:=by
 conv=>lhs;unfold unq
 rw[if_neg (by omega),if_neg (by omega),if_pos h]
theorem unq_len:∀(k:Nat) (s:List UInt8),s.length≤k→∀p,unq s=some p→p.1.length≤s.length∧p.2.length≤s.length:=by
 intro k;induction k with
 | zero =>
  intro s hs p h;have:s=[]:=List.eq_nil_of_length_eq_zero (by omega);subst this;cases h
 | succ k ih =>
  intro s hs p h;cases s with
  | nil=>cases h
  | cons c r =>
   simp at hs;unfold unq at h;split at h
   ·injection h with h;subst h;simp
   split at h
   ·cases h
   split at h
   ·cases r with
    | nil=>cases h
    | cons d r' =>
     simp at hs;simp only at h;split at h
     ·obtain ⟨q,hq,rfl⟩:=Option.map_eq_some_iff.1 h;have:=ih r' (by omega) q hq;simp;omega
     split at h
     ·obtain ⟨q,hq,rfl⟩:=Option.map_eq_some_iff.1 h;have:=ih r' (by omega) q hq;simp;omega
     ·cases h
   ·obtain ⟨q,hq,rfl⟩:=Option.map_eq_some_iff.1 h;have:=ih r (by omega) q hq;simp;omega
theorem unq_qt (r:List UInt8):∀v:List UInt8,unq (qt v++34::r)=some (v,r)
 | []=>unq_34 r (by decide)
 | c::v=>by
  rw[g1h];have ih:=unq_qt r v;unfold qb;by_cases h10:c.toNat=10
  ·rw[if_pos h10];have hc:c=10:=UInt8.toNat_inj.1 h10;show unq (92::(110::(qt v++34::r)))=_;rw[q1h _ (by decide),if_pos (by decide),ih,hc];rfl
  rw[if_neg h10];by_cases h34:c.toNat=34
  ·rw[if_pos h34];show unq (92::(c::(qt v++34::r)))=_;rw[q1h _ (by decide),if_neg (by omega),if_pos (.inl h34),ih];rfl
  rw[if_neg h34];by_cases h92:c.toNat=92
  ·rw[if_pos h92];show unq (92::(c::(qt v++34::r)))=_;rw[q1h _ (by decide),if_neg (by omega),if_pos (.inr h92),ih];rfl
  ·rw[if_neg h92];show unq (c::(qt v++34::r))=_;rw[x1c _ h34 h10 h92,ih];rfl
theorem m1x (b:List Int) (c:UInt8):toB (b++[((c.toNat:Nat):Int)])=toB b++[c]:=by simp[toB]
theorem drop_mid {s pre rest:List UInt8} {c:UInt8} {i:Int} (h:s=pre++c::rest) (hi:i=pre.length):List.drop (Int.toNat (i+1)) (List.take (List.length s) s)=rest:=by
 have e:Int.toNat (i+1)=(pre++[c]).length:=by simp;omega
 rw[List.take_length,e,h,show pre++c::rest=(pre++[c])++rest by simp,List.drop_left]
theorem x1b (n:Nat) (s:List UInt8) (hs:s.length≤1000000):∀(k:Nat) (rest pre:List UInt8) (f:Nat) (b:List Int) (i:Int),rest.length≤k→k≤f→s=pre++rest→i=pre.length→b.length≤pre.length →
  ∃z,c0s n (f+1) (s,b,i,())=some z∧(c0w (fun _=>some ([],([],false))) (fun z=>some z) z:Option (List UInt8×(List UInt8×Bool)))=some (match unq rest with | some p=>(toB b++p.1,p.2,true) | none=>([],[],false)):=by
 intro k;induction k with
 | zero =>
  intro rest pre f b i hr hf h hi hb;have:rest=[]:=List.eq_nil_of_length_eq_zero (by omega);subst this;rw[g0g];simp only[tfd,if_neg (idxe h hi rfl)];exact ⟨_,rfl,rfl⟩
 | succ k ih =>
  intro rest pre f b i hr hf h hi hb;cases rest with
  | nil =>
   rw[g0g];simp only[tfd,if_neg (idxe h hi rfl)];exact ⟨_,rfl,rfl⟩
  | cons c rest =>
   have hlen:=congrArg List.length h;simp at hlen hr;obtain ⟨f,rfl⟩:∃g,f=g+1:=⟨f-1,by omega⟩;rw[g0g];simp only[tfd,if_pos (idx h hi rfl)];rw[c0h h hi,obs,idxw h hi (by omega),drop_mid h hi];have e1:Int.toNat (i+1)=pre.length+1:=by omega
   by_cases h34:c.toNat=34
   ·rw[if_pos (show ((c.toNat:Nat):Int)=34 by omega),unq_34 _ h34,if_pos (by omega),if_pos (by omega)];exact ⟨_,rfl,by simp[toB]⟩
   rw[if_neg (show ¬((c.toNat:Nat):Int)=34 by omega)];by_cases h10:c.toNat=10
   ·rw[if_pos (show ((c.toNat:Nat):Int)=10 by omega),unq_10 _ h10];exact ⟨_,rfl,rfl⟩
   rw[if_neg (show ¬((c.toNat:Nat):Int)=10 by omega)];by_cases h92:c.toNat=92
   ·have q:decide (((c.toNat:Nat):Int)=92)=true:=by simp;omega
    rw[q];simp only[Bool.not_true,c0r,Bool.false_eq_true,if_false];cases rest with
    | nil =>
     have q2:i+1=(s.length:Int):=by simp at hlen;omega
     rw[if_pos q2,unq_92n h92];exact ⟨_,rfl,rfl⟩
    | cons d rest =>
     simp at hlen hr;have q2:¬(i+1=(s.length:Int)):=by omega
     have h':s=(pre++[c])++d::rest:=by rw[h];simp
     have hi':i+1=((pre++[c]).length:Int):=by simp;omega
     rw[q1h _ h92,if_neg q2,c0h h' hi',obs,idxw h' hi' (by omega)];have hn:=fun (b':List Int) (hb':b'.length=b.length+1)=>ih rest ((pre++[c])++[d]) f b' (i+1+1) (by omega) (by omega) (by rw[h'];simp) (by simp;omega) (by simp;omega)
     by_cases k110:d.toNat=110
     ·rw[if_pos (show ((d.toNat:Nat):Int)=110 by omega),if_pos (by omega)];obtain ⟨z,z1,z2⟩:=hn (b++[10]) (by simp);refine ⟨z,z1,?_⟩;rw[z2,if_pos k110];cases unq rest with
      | none=>rfl
      | some p=>simp[toB]
     rw[if_neg (show ¬((d.toNat:Nat):Int)=110 by omega)];simp only[if_neg k110];by_cases k34:d.toNat=34
     ·have q3:((d.toNat:Nat):Int)=34:=by omega
      rw[if_pos q3,if_pos q3,obs,if_pos (by omega)];obtain ⟨z,z1,z2⟩:=hn (b++[((d.toNat:Nat):Int)]) (by simp);refine ⟨z,z1,?_⟩;rw[z2,if_pos (.inl k34),m1x];cases unq rest with
      | none=>rfl
      | some p=>simp
     rw[if_neg (show ¬((d.toNat:Nat):Int)=34 by omega)];by_cases k92:d.toNat=92
     ·rw[if_pos (show ((d.toNat:Nat):Int)=92 by omega),obs,if_pos (by omega)];obtain ⟨z,z1,z2⟩:=hn (b++[((d.toNat:Nat):Int)]) (by simp);refine ⟨z,z1,?_⟩;rw[z2,if_pos (.inr k92),m1x];cases unq rest with
      | none=>rfl
      | some p=>simp
     ·rw[if_neg (show ¬((d.toNat:Nat):Int)=92 by omega),if_neg (fun q=>by rcases q with q | q<;>omega)];exact ⟨_,rfl,rfl⟩
   ·rw[x1c _ h34 h10 h92];have q:decide (((c.toNat:Nat):Int)=92)=false:=by simp;omega
    rw[q];simp only[Bool.not_false,c0r,if_true];rw[if_pos (by omega)];obtain ⟨z,z1,z2⟩:=ih rest (pre++[c]) f (b++[((c.toNat:Nat):Int)]) (i+1) (by omega) (by omega) (idxl h) (idxs hi) (by simp;omega);refine ⟨z,z1,?_⟩;rw[z2,m1x];cases unq rest with
    | none=>rfl
    | some p=>simp
theorem z0i (n:Nat) (s:List UInt8) (hs:s.length≤1000000):f0m (n+1) s=some (match unq s with | some p=>(p.1,p.2,true) | none=>([],[],false)):=by
 rw[y0c];obtain ⟨z,z1,z2⟩:=x1b n s hs s.length s [] (a0c-1) [] 0 (Nat.le_refl _) (by unfold a0c;omega) rfl rfl (by simp);rw[show a0c-1+1=a0c by unfold a0c;omega] at z1;rw[z1,obs];refine (Eq.trans ?_ z2).trans ?_
 ·cases z<;>rfl
 ·cases unq s<;>rfl
theorem i0q.no {s:List UInt8} (h:i0q s) {c:UInt8} (hc:¬sgn ((c.toNat:Nat):Int)):c ∉ s:=by
 intro hm
 match s,h with
 | b::r,h=>exact hc (h.2.2 c hm)
theorem b1f:∀(l:List Lab) (p:Option (List UInt8)),chkL p l→∀x∈l,i0q x.1
 | [],_,_,x,hx=>by cases hx
 | y::l,p,h,x,hx=>by
  rcases List.mem_cons.1 hx with rfl | hx
  ·exact h.1
  ·exact b1f l _ h.2.2.2 x hx
theorem y1w (n:Nat):∀(k f:Nat) (rest:List UInt8) (ok:Bool) (out:List Lab),17-out.length≤k→out.length≤17→rest.length≤100000 →
  ∃y:List UInt8×(Bool×(List Lab×Unit)),b0o (n+3) (f+k+1) (rest,ok,out,())=some (.inl y):=by
 intro k;induction k with
 | zero =>
  intro f rest ok out hk ho hr;rw[f0n];simp only[c0r,decide_eq_true_eq];by_cases h1:ok=true
  ·rw[if_pos h1];by_cases h2:(!(rest==[125]))=true
   ·rw[if_pos h2,if_neg (by omega)];exact ⟨_,rfl⟩
   ·rw[if_neg h2];exact ⟨_,rfl⟩
  ·rw[if_neg h1];exact ⟨_,rfl⟩
 | succ k ih =>
  intro f rest ok out hk ho hr;rw[show f+(k+1)+1=(f+k+1)+1 by omega,f0n];simp only[c0r,decide_eq_true_eq];by_cases h1:ok=true
  ·rw[if_pos h1];by_cases h2:(!(rest==[125]))=true
   ·rw[if_pos h2];by_cases h3:((out.length:Nat):Int)≤16
    ·rw[if_pos h3];have step:∀s:List UInt8,s.length≤100000→∃y:List UInt8×(Bool×(List Lab×Unit)),(a0a (strings_Cut (n+3) s [61,34]) fun r1=>a0a (f0m (n+3) r1.2.1) fun r2 =>
       if (out.length+1)*32≤140737488355328 then (if r1.2.2=true then b0o (n+3) (f+k+1) (r2.2.1,(r2.2.2,((out++((r1.1,r2.1)::[])),()))) else b0o (n+3) (f+k+1) (r2.2.1,(false,((out++((r1.1,r2.1)::[])),())))) else none)=some (.inl y):=by
      intro s hs;obtain ⟨hc1,hc2⟩:=cutV_len s [61,34];rw[c2c n s _ (by omega) (by simp) (by simp),obs,z0i (n+2) _ (by omega),obs,if_pos (by omega)];have hu:(match unq (cutV s [61,34]).2.1 with | some p=>(p.1,p.2,true) | none=>(([]:List UInt8),([]:List UInt8),false)).2.1.length≤100000:=by
       cases hq:unq (cutV s [61,34]).2.1 with
       | none=>simp
       | some p=>have:=(unq_len _ _ (Nat.le_refl _) p hq).2;simp;omega
      split
      ·exact ih f _ _ _ (by simp;omega) (by simp;omega) hu
      ·exact ih f _ _ _ (by simp;omega) (by simp;omega) hu
     by_cases h4:0<((out.length:Nat):Int)
     ·rw[if_pos h4,q0m n 44 rest,obs];by_cases h5:(!(cutP 44 rest).2)=true
      ·rw[if_pos h5];exact ⟨_,rfl⟩
      ·rw[if_neg h5];exact step _ (by have:=i1k 44 rest;omega)
     ·rw[if_neg h4];exact step _ hr
    ·rw[if_neg h3];exact ⟨_,rfl⟩
   ·rw[if_neg h2];exact ⟨_,rfl⟩
  ·rw[if_neg h1];exact ⟨_,rfl⟩
theorem parse_l (n:Nat) (l:List Lab) (hl:l.length≤16) (hx:∀x∈l,i0q x.1∧x.1.length≤64∧x.2.length≤128):∀(rest pre:List Lab) (f:Nat),l=pre++rest→(pre=[]→rest≠[]) →
  b0o (n+3) (f+rest.length+1) ((if pre=[] then bodyT rest else h0y 44 rest)++[125],true,pre,())=some (.inl ([125],true,l,())):=by
 intro rest;induction rest with
 | nil =>
  intro pre f h hp;have hp':pre≠[]:=fun q=>hp q rfl
  obtain rfl:l=pre:=by simpa using h
  rw[f0n,if_neg hp'];simp[h0y,c0r]
 | cons x rest ih =>
  intro pre f h hp;have hlen:=congrArg List.length h;simp at hlen;obtain ⟨hn,h64,h128⟩:=hx x (by rw[h];simp);have h61:(61:UInt8) ∉ x.1:=hn.no (by decide);have hb:(h0y 44 rest).length≤401*rest.length:=b1l rest 44 fun y hy=>(hx y (by rw[h];simp[hy])).2
  have hq:=k1l x.2;rw[show f+(x::rest).length+1=(f+rest.length+1)+1 by simp;omega,f0n];have hnext:=ih (pre++[x]) f (by rw[h];simp) (by simp);rw[if_neg (by simp)] at hnext;have step:(a0a (strings_Cut (n+3) (labT x++h0y 44 rest++[125]) [61,34]) fun r1=>a0a (f0m (n+3) r1.2.1) fun r2 =>
    if (pre.length+1)*32≤140737488355328 then (if r1.2.2=true then b0o (n+3) (f+rest.length+1) (r2.2.1,(r2.2.2,((pre++((r1.1,r2.1)::[])),()))) else b0o (n+3) (f+rest.length+1) (r2.2.1,(false,((pre++((r1.1,r2.1)::[])),())))) else none)=some (.inl ([125],true,l,())):=by
   have e:labT x++h0y 44 rest++[125]=x.1++([61,34]++(qt x.2++34::(h0y 44 rest++[125]))):=by simp[labT]
   rw[c2c n _ _ (by rw[e];simp;omega) (by simp) (by simp),obs,e,c2d h61];simp only;rw[z0i (n+2) _ (by simp;omega),obs,unq_qt,if_pos (by omega),if_pos trivial];exact hnext
  have hne:∀c:List UInt8,2≤c.length→(!(c==[125]))=true:=by
   intro c hc;have:(c==[125])=false:=by
    cases hq:(c==[125]) with
    | false=>rfl
    | true=>have:=eq_of_beq hq;subst this;simp at hc
   rw[this];rfl
  simp only[c0r,decide_eq_true_eq,if_true];by_cases hp0:pre=[]
  ·rw[if_pos hp0,if_pos (hne _ (by simp[bodyT,labT];omega)),if_pos (by omega),if_neg (by rw[hp0];simp)];exact step
  ·have hpl:0<pre.length:=List.length_pos_iff.2 hp0;rw[if_neg hp0,if_pos (hne _ (by simp[h0y,labT];omega)),if_pos (by omega),if_pos (by omega),q0m n 44,obs];have q:cutP 44 (h0y 44 (x::rest)++[125])=(labT x++h0y 44 rest++[125],true):=by
    show (if (44:UInt8)=44 then ((labT x++h0y 44 rest)++[125],true) else (44::((labT x++h0y 44 rest)++[125]),false))=_;rw[if_pos rfl]
   rw[q];simp only[Bool.not_true,Bool.false_eq_true,if_false];exact step
theorem a1q (n:Nat) (s:List UInt8) (hs:s.length≤100000):∃r:List Lab×Int,n0z (n+7) s=some r∧((r.2=0∧LabOk r.1)∨r=([],4)):=by
 rw[r0p,q0m (n+3) 123 s,obs];obtain ⟨y,hy⟩:=y1w (n+3) 17 (a0c-18) (cutP 123 s).1 (cutP 123 s).2 [] (by simp) (by simp) (by have:=i1k 123 s;omega);rw[show a0c-18+17+1=a0c by unfold a0c;omega] at hy;rw[hy,obs,b0t,h0s n y.2.2.1,obs];simp only[c0r];by_cases h1:(!y.2.1)=true
 ·rw[if_pos h1];exact ⟨_,rfl,.inr rfl⟩
 rw[if_neg h1];by_cases h2:(!(y.1==[125]))=true
 ·rw[if_pos h2];exact ⟨_,rfl,.inr rfl⟩
 rw[if_neg h2];by_cases h3:LabOk y.2.2.1
 ·rw[if_pos h3];exact ⟨_,rfl,.inl ⟨rfl,h3⟩⟩
 ·rw[if_neg h3];exact ⟨_,rfl,.inr rfl⟩
theorem s1i {l:List Lab} (h:l≠[]) (c:UInt8):h0y c l=c::bodyT l:=by
 cases l with
 | nil=>exact absurd rfl h
 | cons x r=>rfl
theorem LabOk.ne {l:List Lab} (h:LabOk l):l≠[]:=by
 intro q;subst q;have:=h.n0;simp at this
theorem y0d (n:Nat) {l:List Lab} (h:LabOk l):n0z (n+7) (j0e l)=some (l,0):=by
 rw[r0p,q0m (n+3) 123,obs];have q:cutP 123 (j0e l)=(bodyT l++[125],true):=by
  unfold j0e;rw[s1i h.ne];show (if (123:UInt8)=123 then (bodyT l++[125],true) else (123::(bodyT l++[125]),false))=_;rw[if_pos rfl]
 have hp:=parse_l (n+3) l h.n1 (fun x hx=>⟨b1f l none h.c x hx,y0y l none h.c x hx⟩) l [] (a0c-l.length-1) rfl (fun _=>h.ne);rw[←lfu (by have:=h.n1;omega),if_pos rfl] at hp;rw[q];show a0a (b0o (n+6) a0c (bodyT l++[125],true,[],())) _=_;rw[hp,obs,b0t,h0s n l,obs,if_pos h];simp[c0r]
end Go.Proofs.YtjionkknnajjgaaGreatDoor

namespace Go.Plim
set_option linter.unusedVariables false
def tz:Nat→Nat→Nat
 | 0,_=>0
 | k+1,x=>if x % 2=1 then 0 else tz k (x / 2)+1
theorem tz_odd (k x:Nat) (h:x % 2=1):tz k x=0:=by cases k<;>simp[tz,h]
theorem tz_spec:∀(k x:Nat),0<x→x<2^k→tz k x<k∧x=2^tz k x*(x / 2^tz k x)∧(x / 2^tz k x) % 2=1:=by
 intro k;induction k with
 | zero=>intro x h0 h1;simp at h1;omega
 | succ k ih =>
  intro x h0 h1;by_cases h:x % 2=1
  ·rw[tz_odd (k+1) x h];simp[h]
  ·have e:tz (k+1) x=tz k (x / 2)+1:=by simp[tz,h]
   rw[Nat.pow_succ] at h1;obtain ⟨a1,a2,a3⟩:=ih (x / 2) (by omega) (by omega);rw[e,Nat.pow_succ,Nat.mul_comm (2^tz k (x / 2)) 2,←Nat.div_div_eq_div_mul];refine ⟨by omega,?_,a3⟩;rw[Nat.mul_assoc,←a2];omega
def bl:Nat→Nat→Nat
 | 0,_=>0
 | k+1,x=>if x=0 then 0 else bl k (x / 2)+1
theorem c2w (k:Nat):bl k 0=0:=by cases k<;>simp[bl]
theorem s0i:∀(k x:Nat),x<2^k→x<2^bl k x∧(0<x→0<bl k x∧2^(bl k x-1)≤x)∧bl k x≤k:=by
 intro k;induction k with
 | zero=>intro x h;simp[bl] at *;omega
 | succ k ih =>
  intro x h;by_cases h0:x=0
  ·subst h0;rw[c2w];simp
  ·have e:bl (k+1) x=bl k (x / 2)+1:=by simp[bl,h0]
   rw[Nat.pow_succ] at h;obtain ⟨a1,a2,a3⟩:=ih (x / 2) (by omega);rw[e];refine ⟨by rw[Nat.pow_succ];omega,fun _=>⟨by omega,?_⟩,by omega⟩;rw[Nat.add_sub_cancel];by_cases h1:x / 2=0
   ·rw[h1,c2w];simp;omega
   ·obtain ⟨b1,b2⟩:=a2 (by omega);have:2^bl k (x / 2)=2^(bl k (x / 2)-1)*2:=by rw[←Nat.pow_succ];congr 1;omega
    omega
theorem c2x {k x b:Nat} (h:x<2^k) (h0:0<x) (h1:2^b≤x) (h2:x<2^(b+1)):bl k x=b+1:=by
 obtain ⟨a1,a2,_⟩:=s0i k x h;obtain ⟨c1,c2⟩:=a2 h0;have d1:b<bl k x:=by
  rcases Nat.lt_or_ge b (bl k x) with q | q
  ·exact q
  ·have:=Nat.pow_le_pow_right (show 0<2 by decide) q;omega
 have d2:bl k x-1<b+1:=by
  rcases Nat.lt_or_ge (bl k x-1) (b+1) with q | q
  ·exact q
  ·have:=Nat.pow_le_pow_right (show 0<2 by decide) q;omega
 omega
end Go.Plim

namespace Go.Plim
set_option linter.unusedVariables false
def ndF:Nat→Nat→Nat
 | 0,_=>1
 | f+1,u=>if u<10 then 1 else ndF f (u / 10)+1
def ndg (u:Nat):Nat:=ndF 64 u
def dgs:Nat→Nat→List Int
 | _,0=>[]
 | u,k+1=>dgs (u / 10) k++[((48+u % 10:Nat):Int)]
def decI (u:Nat):List Int:=dgs u (ndg u)
def itoI (z:Int):List Int:=if z<0 then 45::decI z.natAbs else decI z.toNat
theorem l0m:∀(k u:Nat),(dgs u k).length=k:=by
 intro k;induction k with
 | zero=>intro u;rfl
 | succ k ih=>intro u;simp[dgs,ih]
theorem dgs_get:∀(k u j:Nat),j<k→(dgs u k)[j]? = some ((48+u / 10^(k-1-j) % 10:Nat):Int):=by
 intro k;induction k with
 | zero=>intro u j h;omega
 | succ k ih =>
  intro u j h;simp only[dgs];by_cases hj:j<k
  ·rw[List.getElem?_append_left (by rw[l0m];exact hj),ih _ _ hj,Nat.div_div_eq_div_mul];have:k+1-1-j=k-1-j+1:=by omega
   rw[this,Nat.pow_succ,Nat.mul_comm]
  ·have:j=k:=by omega
   subst this;rw[List.getElem?_append_right (by rw[l0m];exact Nat.le_refl _),l0m];simp
theorem dgs_of {l:List Int} {u k:Nat} (hl:l.length=k) (h:∀j,j<k→l[j]? = some ((48+u / 10^(k-1-j) % 10:Nat):Int)):l=dgs u k:=by
 apply List.ext_getElem?;intro j;by_cases hj:j<k
 ·rw[h j hj,dgs_get k u j hj]
 ·rw[List.getElem?_eq_none (by omega),List.getElem?_eq_none (by rw[l0m];omega)]
theorem b2z:∀(k u:Nat),∀x∈dgs u k,48≤x∧x≤57:=by
 intro k;induction k with
 | zero=>intro u x hx;cases hx
 | succ k ih =>
  intro u x hx;simp only[dgs,List.mem_append,List.mem_singleton] at hx;rcases hx with hx | hx
  ·exact ih _ x hx
  ·subst hx;omega
theorem ndF_of:∀(d f u:Nat),d<f→(0<d→10^d≤u)→u<10^(d+1)→ndF f u=d+1:=by
 intro d;induction d with
 | zero =>
  intro f u hf _ h;obtain ⟨g,rfl⟩:∃g,f=g+1:=⟨f-1,by omega⟩;simp only[ndF];rw[if_pos (by simpa using h)]
 | succ d ih =>
  intro f u hf h1 h2;obtain ⟨g,rfl⟩:∃g,f=g+1:=⟨f-1,by omega⟩;have h1:=h1 (by omega);have hp:1≤10^d:=Nat.one_le_pow _ _ (by omega);have e:10^(d+1)=10*10^d:=by rw[Nat.pow_succ,Nat.mul_comm]
  have e2:10^(d+1+1)=10*10^(d+1):=by rw[Nat.pow_succ,Nat.mul_comm]
  simp only[ndF];rw[if_neg (by omega),ih g (u / 10) (by omega) (fun _=>by rw[Nat.le_div_iff_mul_le (by omega)];omega) (by rw[Nat.div_lt_iff_lt_mul (by omega)];omega)]
theorem z1m {d u:Nat} (hd:d<64) (h1:0<d→10^d≤u) (h2:u<10^(d+1)):ndg u=d+1:=ndF_of d 64 u hd h1 h2
def lgt (b:Nat):Nat:=b*78913 / 262144
theorem lgt_all:((List.range 65).all fun b=>decide (b=0)||(decide (2^b≤10^(lgt b+1))&&(decide (lgt b=0)||decide (10^(lgt b-1)≤2^(b-1)))))=true:=by decide +kernel
theorem lgt_at {b:Nat} (h:b≤64) (h0:0<b):2^b≤10^(lgt b+1)∧(0<lgt b→10^(lgt b-1)≤2^(b-1)):=by
 have:=List.all_eq_true.1 lgt_all b (List.mem_range.2 (by omega));simp only[Bool.or_eq_true,Bool.and_eq_true,decide_eq_true_eq] at this;rcases this with h1 | ⟨h1,h2⟩
 ·omega
 ·exact ⟨h1,fun h3=>h2.resolve_left (by omega)⟩
theorem z1y {b:Nat} (h:b≤64):lgt b<20:=by
 unfold lgt;omega
theorem z1o {u:Nat} (h0:0<u) (h:u<18446744073709551616):ndg u=lgt (bl 64 u)+if 10^lgt (bl 64 u)≤u then 1 else 0:=by
 obtain ⟨b1,b2,b3⟩:=s0i 64 u h;obtain ⟨b2,b4⟩:=b2 h0;obtain ⟨l1,l2⟩:=lgt_at b3 b2;have l3:=z1y b3;split
 ·rename_i hle;exact z1m (by omega) (fun _=>hle) (by omega)
 ·rename_i hle;have hpos:0<lgt (bl 64 u):=by
   rcases Nat.eq_zero_or_pos (lgt (bl 64 u)) with e | e
   ·rw[e] at hle;simp at hle;omega
   ·exact e
  have:=l2 hpos;have e:lgt (bl 64 u)-1+1=lgt (bl 64 u):=by omega
  have:=z1m (d:=lgt (bl 64 u)-1) (u:=u) (by omega) (fun _=>by omega) (by rw[e];omega);omega
theorem z1l {u:Nat} (h:u<10):ndg u=1:=z1m (by omega) (fun h=>by omega) (by simpa using h)
theorem ndF_up:∀(f u:Nat),u<10^(f+1)→∀g,f≤g→ndF g u=ndF f u:=by
 intro f;induction f with
 | zero=>intro u h g _;cases g with
  | zero=>rfl
  | succ g=>simp only[ndF];rw[if_pos (by simpa using h)]
 | succ f ih =>
  intro u h g hg;obtain ⟨k,rfl⟩:∃k,g=k+1:=⟨g-1,by omega⟩;simp only[ndF];split
  ·rfl
  ·rw[ih (u / 10) (by rw[Nat.div_lt_iff_lt_mul (by omega)];rw[Nat.pow_succ] at h;exact h) k (by omega)]
theorem ndg_step {u:Nat} (h:10≤u) (hu:u<10^63):ndg u=ndg (u / 10)+1:=by
 unfold ndg
 conv=>lhs;unfold ndF
 rw[if_neg (by omega),ndF_up 63 (u / 10) (Nat.lt_of_le_of_lt (Nat.div_le_self _ _) (Nat.lt_of_lt_of_le hu (Nat.pow_le_pow_right (by omega) (by omega)))) 64 (by omega)]
theorem e1o {u:Nat} (h:u<10):decI u=[((48+u:Nat):Int)]:=by
 unfold decI;rw[z1l h];simp only[dgs,List.nil_append];rw[Nat.mod_eq_of_lt h]
theorem c2b {u:Nat} (h:10≤u) (hu:u<10^63):decI u=decI (u / 10)++[((48+u % 10:Nat):Int)]:=by
 unfold decI;rw[ndg_step h hu];rfl
theorem l1f {u:Nat} (h:u<18446744073709551616):ndg u≤20:=by
 rcases Nat.eq_zero_or_pos u with e | e
 ·subst e;decide
 ·rw[z1o e h];have:=z1y (s0i 64 u h).2.2;split<;>omega
theorem ndg_hi {u:Nat} (h:u<18446744073709551616):u<10^ndg u:=by
 rcases Nat.eq_zero_or_pos u with e | e
 ·subst e;exact Nat.pow_pos (by omega)
 ·obtain ⟨b1,b2,b3⟩:=s0i 64 u h;obtain ⟨b2,b4⟩:=b2 e;obtain ⟨l1,l2⟩:=lgt_at b3 b2;rw[z1o e h];split
  ·omega
  ·rename_i hle;simpa using hle
theorem ndg_pos (u:Nat):0<ndg u:=by
 unfold ndg ndF;split<;>omega
theorem w0h (u:Nat):∀x∈decI u,48≤x∧x≤57:=b2z _ _
end Go.Plim

namespace Go.Plim
set_option linter.unusedVariables false
def ofN (x:Nat):Wd:=(((x / 18446744073709551616:Nat):Int),((x % 18446744073709551616:Nat):Int))
end Go.Plim

namespace Go.Plim
set_option linter.unusedVariables false
theorem bl_shift {k x s:Nat} (h:x<2^k) (hs:2^s≤x):bl k x=s+bl k (x / 2^s):=by
 have hp:=Nat.two_pow_pos s;have h0:0<x / 2^s:=Nat.div_pos hs hp;have h1:x / 2^s<2^k:=Nat.lt_of_le_of_lt (Nat.div_le_self _ _) h;obtain ⟨a1,a2,a3⟩:=s0i k (x / 2^s) h1;obtain ⟨b1,b2⟩:=a2 h0;obtain ⟨c,hc⟩:∃c,bl k (x / 2^s)=c+1:=⟨bl k (x / 2^s)-1,by omega⟩;rw[hc] at a1 b2 ⊢;rw[Nat.add_sub_cancel] at b2;rw[←Nat.add_assoc];refine c2x h (by omega) ?_ ?_
 ·rw[Nat.pow_add,Nat.mul_comm];exact (Nat.le_div_iff_mul_le hp).1 b2
 ·rw[Nat.add_assoc,Nat.pow_add,Nat.mul_comm];exact (Nat.div_lt_iff_lt_mul hp).1 a1
end Go.Plim

namespace Go.Proofs.YtjionkknnajjgaaGreatDoor
open Go.Flat Go.Plim
set_option linter.unusedVariables false
set_option linter.unusedSimpArgs false
theorem shrN (x k:Nat) (hk:k≤64):shrI .u64 (x:Int) (k:Int)=((x / 2^k:Nat):Int):=by
 rw[y1f _ _ hk];simp
end Go.Proofs.YtjionkknnajjgaaGreatDoor
namespace Go.Proofs.YtjionkknnajjgaaGreatDoor
open Go.Flat Go.Plim
set_option linter.unusedVariables false
def lenT:List UInt8 :=
 f0p
theorem v1d (n:Nat) (x:Int):g0u (n+1) x =
 tif ((decide ((4294967296:Int)≤x))) (
 tif ((decide ((65536:Int)≤(shrI .u64 x (32:Int))))) (
 tif ((decide ((256:Int)≤(shrI .u64 (shrI .u64 x (32:Int)) (16:Int))))) (
 a0a (at? lenT (IntKind.wrap .u8 (shrI .u64 (shrI .u64 (shrI .u64 x (32:Int)) (16:Int)) (8:Int)))) fun r0 =>
 some (IntKind.wrap .i64 ((56:Int)+(IntKind.wrap .i64 (((UInt8.toNat r0):Nat):Int))))) (
 a0a (at? lenT (IntKind.wrap .u8 (shrI .u64 (shrI .u64 x (32:Int)) (16:Int)))) fun r1 =>
 some (IntKind.wrap .i64 ((48:Int)+(IntKind.wrap .i64 (((UInt8.toNat r1):Nat):Int)))))) (
 tif ((decide ((256:Int)≤(shrI .u64 x (32:Int))))) (
 a0a (at? lenT (IntKind.wrap .u8 (shrI .u64 (shrI .u64 x (32:Int)) (8:Int)))) fun r2 =>
 some (IntKind.wrap .i64 ((40:Int)+(IntKind.wrap .i64 (((UInt8.toNat r2):Nat):Int))))) (
 a0a (at? lenT (IntKind.wrap .u8 (shrI .u64 x (32:Int)))) fun r3 =>
 some (IntKind.wrap .i64 ((32:Int)+(IntKind.wrap .i64 (((UInt8.toNat r3):Nat):Int))))))) (
 tif ((decide ((65536:Int)≤x))) (
 tif ((decide ((256:Int)≤(shrI .u64 x (16:Int))))) (
 a0a (at? lenT (IntKind.wrap .u8 (shrI .u64 (shrI .u64 x (16:Int)) (8:Int)))) fun r4 =>
 some (IntKind.wrap .i64 ((24:Int)+(IntKind.wrap .i64 (((UInt8.toNat r4):Nat):Int))))) (
 a0a (at? lenT (IntKind.wrap .u8 (shrI .u64 x (16:Int)))) fun r5 =>
 some (IntKind.wrap .i64 ((16:Int)+(IntKind.wrap .i64 (((UInt8.toNat r5):Nat):Int)))))) (
 tif ((decide ((256:Int)≤x))) (
 a0a (at? lenT (IntKind.wrap .u8 (shrI .u64 x (8:Int)))) fun r6 =>
 some (IntKind.wrap .i64 ((8:Int)+(IntKind.wrap .i64 (((UInt8.toNat r6):Nat):Int))))) (
 a0a (at? lenT (IntKind.wrap .u8 x)) fun r7 =>
 some (IntKind.wrap .i64 ((0:Int)+(IntKind.wrap .i64 (((UInt8.toNat r7):Nat):Int))))))):=u0d n x
theorem lenT_all:((List.range 256).all fun z=>match lenT[z]? with | some r=>decide (r.toNat=bl 64 z) | none=>false)=true:=by decide +kernel
end Go.Proofs.YtjionkknnajjgaaGreatDoor
namespace Go.Proofs.YtjionkknnajjgaaGreatDoor
open Go.Flat Go.Plim
set_option linter.unusedVariables false
set_option linter.unusedSimpArgs false
theorem lenT_at {z:Nat} (h:z<256):∃r,at? lenT (z:Int)=some r∧r.toNat=bl 64 z:=by
 have h1:=List.all_eq_true.1 lenT_all z (List.mem_range.2 h);split at h1
 ·rename_i r hr;refine ⟨r,?_,of_decide_eq_true h1⟩;unfold at?;rw[decide_eq_true (by omega)];exact hr
 ·cases h1
theorem k0y {x s K:Nat} {I S:Int} (hK:K=2^s) (hI:I=((x / K:Nat):Int)) (hS:S=s) (h2:x / K<256) (h1:K≤x∨s=0) (hx:x<18446744073709551616) (hs:s≤56) :
  (a0a (at? lenT (IntKind.wrap .u8 I)) fun r=>some (IntKind.wrap .i64 (S+IntKind.wrap .i64 (((UInt8.toNat r):Nat):Int))))=some ((bl 64 x:Nat):Int):=by
 obtain ⟨r,hr,hb⟩:=lenT_at h2;have hle:=(s0i 64 (x / K) (Nat.lt_of_le_of_lt (Nat.div_le_self _ _) hx)).2.2;have e:bl 64 x=s+bl 64 (x / K):=by
  rcases h1 with h1 | rfl
  ·rw[hK] at h1 ⊢;exact bl_shift hx h1
  ·subst hK;simp
 rw[hI,e];generalize x / K=z at *
 rw[wu8 (by omega) (by omega),hr,obs,hb,w64 (x:=((bl 64 z:Nat):Int)) (by omega) (by omega),hS,w64 (by omega) (by omega)];congr 1
theorem z1z (n:Nat) {x:Nat} (h:x<18446744073709551616):g0u (n+1) (x:Int)=some ((bl 64 x:Nat):Int):=by
 have s32:∀z:Nat,shrI .u64 (z:Int) (32:Int)=((z / 4294967296:Nat):Int):=fun z=>shrN z 32 (by decide)
 have s16:∀z:Nat,shrI .u64 (z:Int) (16:Int)=((z / 65536:Nat):Int):=fun z=>shrN z 16 (by decide)
 have s8:∀z:Nat,shrI .u64 (z:Int) (8:Int)=((z / 256:Nat):Int):=fun z=>shrN z 8 (by decide)
 have h':=h;rw[v1d];simp only[s32,s16,s8,tfd];by_cases c5:4294967296≤x
 ·rw[if_pos (by omega)];by_cases c4:65536≤x / 4294967296
  ·rw[if_pos (by omega)];by_cases c3:256≤x / 4294967296 / 65536
   ·rw[if_pos (by omega)];exact k0y (s:=56) (K:=72057594037927936) rfl (by omega) rfl (by omega) (.inl (by omega)) h (by decide)
   ·rw[if_neg (by omega)];exact k0y (s:=48) (K:=281474976710656) rfl (by omega) rfl (by omega) (.inl (by omega)) h (by decide)
  ·rw[if_neg (by omega)];by_cases c3:256≤x / 4294967296
   ·rw[if_pos (by omega)];exact k0y (s:=40) (K:=1099511627776) rfl (by omega) rfl (by omega) (.inl (by omega)) h (by decide)
   ·rw[if_neg (by omega)];exact k0y (s:=32) (K:=4294967296) rfl (by omega) rfl (by omega) (.inl (by omega)) h (by decide)
 ·rw[if_neg (by omega)];by_cases c4:65536≤x
  ·rw[if_pos (by omega)];by_cases c3:256≤x / 65536
   ·rw[if_pos (by omega)];exact k0y (s:=24) (K:=16777216) rfl (by omega) rfl (by omega) (.inl (by omega)) h (by decide)
   ·rw[if_neg (by omega)];exact k0y (s:=16) (K:=65536) rfl (by omega) rfl (by omega) (.inl (by omega)) h (by decide)
  ·rw[if_neg (by omega)];by_cases c3:256≤x
   ·rw[if_pos (by omega)];exact k0y (s:=8) (K:=256) rfl (by omega) rfl (by omega) (.inl (by omega)) h (by decide)
   ·rw[if_neg (by omega)];exact k0y (s:=0) (K:=1) rfl (by omega) rfl (by omega) (.inr rfl) h (by decide)
theorem sm_all:((List.range 100).all fun x=>decide (at? b0h ((2*x:Nat):Int)=some (UInt8.ofNat (48+x / 10)))&&decide (at? b0h ((2*x+1:Nat):Int)=some (UInt8.ofNat (48+x % 10))))=true:=by decide +kernel
theorem wu32 {x:Nat} (h:x<4294967296):IntKind.wrap .u32 (x:Int)=x:=by
 rw[IntKind.wrap_u32];omega
theorem sm_hi {x:Nat} (h:x<100):at? b0h (IntKind.wrap .u32 ((x:Int)*(2:Int)))=some (UInt8.ofNat (48+x / 10)):=by
 have:=List.all_eq_true.1 sm_all x (List.mem_range.2 h);simp only[Bool.and_eq_true,decide_eq_true_eq] at this;rw[show ((x:Int)*(2:Int))=((2*x:Nat):Int) by omega,wu32 (by omega)];exact this.1
theorem sm_lo {x:Nat} (h:x<100):at? b0h (IntKind.wrap .u32 ((IntKind.wrap .u32 ((x:Int)*(2:Int)))+(1:Int)))=some (UInt8.ofNat (48+x % 10)):=by
 have:=List.all_eq_true.1 sm_all x (List.mem_range.2 h);simp only[Bool.and_eq_true,decide_eq_true_eq] at this;rw[show ((x:Int)*(2:Int))=((2*x:Nat):Int) by omega,wu32 (by omega),show ((2*x:Nat):Int)+1=((2*x+1:Nat):Int) by omega,wu32 (by omega)];exact this.2
theorem u8d {d:Nat} (h:d<10):((UInt8.toNat (UInt8.ofNat (48+d)):Nat):Int)=((48+d:Nat):Int):=by
 rw[UInt8.toNat_ofNat',Nat.mod_eq_of_lt (by simp;omega)]
theorem a0k {α β:Type} {o:Option α} (h:∃y,o=some y) (z:Option β):(a0a o fun _=>z)=z:=by
 obtain ⟨y,rfl⟩:=h;rfl
theorem p0p {X:List Int} {len i:Nat} (h:i<len) (hX:len≤X.length):∃y,at? (List.take len (List.drop 0 X)) (i:Int)=some y:=by
 refine ⟨X[i]'(by omega),?_⟩;unfold at?;simp only[Int.natCast_nonneg,decide_true,cond_true,Int.toNat_natCast,List.drop_zero,List.getElem?_take,if_pos h];exact List.getElem?_eq_getElem (by omega)
theorem m0l {X:List Int} {i:Nat} (h:i<X.length):∃y,X[0+i]? = some y:=⟨X[i],by rw[Nat.zero_add];exact List.getElem?_eq_getElem h⟩
theorem tm100 (a:Nat):Int.tmod (a:Int) (100:Int)=((a % 100:Nat):Int):=by rw[j0z (by omega)];omega
theorem x1h (a:Nat):Int.tmod (a:Int) (10000:Int)=((a % 10000:Nat):Int):=by rw[j0z (by omega)];omega
theorem tm8 (a:Nat):Int.tmod (a:Int) (100000000:Int)=((a % 100000000:Nat):Int):=by rw[j0z (by omega)];omega
theorem x1l (a:Nat):Int.tdiv (a:Int) (100:Int)=((a / 100:Nat):Int):=by rw[n0g (by omega)];omega
theorem x1k (a:Nat):Int.tdiv (a:Int) (10000:Int)=((a / 10000:Nat):Int):=by rw[n0g (by omega)];omega
theorem td8 (a:Nat):Int.tdiv (a:Int) (100000000:Int)=((a / 100000000:Nat):Int):=by rw[n0g (by omega)];omega
theorem q0s {k c:Nat} {z:Int} (hz:z=(c:Int)) (h:c≤k) (hk:k<1000):IntKind.wrap .i64 ((k:Int)-z)=((k-c:Nat):Int):=by
 subst hz;rw[w64 (by omega) (by omega)];omega
theorem dig_at (U:Nat) {len k i:Nat} (hk:k≤len) (hi:i<k):U / 10^(len-1-(k-1-i))=U / 10^(len-k) / 10^i:=by
 rw[Nat.div_div_eq_div_mul,←Nat.pow_add];congr 2;omega
theorem d0v {a b:Nat} (h:a=b):(some ((48+a:Nat):Int))=some ((48+b:Nat):Int):=by rw[h]
theorem fb_l1 (n:Nat) {U len:Nat} (hlen:len≤24) (hU:U<18446744073709551616):∀(m f k:Nat) (L:List Int),k / 8=m→m<f→k≤len→len≤L.length →
  (∀j,k≤j→j<len→L[j]? = some ((48+U / 10^(len-1-j) % 10:Nat):Int)) →
  ∃L',b0y n f ((L,(0,len)),(((U / 10^(len-k):Nat):Int),((k:Int),())))=some (.inl ((L',(0,len)),(((U / 10^(len-k % 8):Nat):Int),(((k % 8:Nat):Int),())))) ∧
   L'.length=L.length∧∀j,k % 8≤j→j<len→L'[j]? = some ((48+U / 10^(len-1-j) % 10:Nat):Int):=by
 intro m;induction m with
 | zero =>
  intro f k L hm hf hk hL hfill;obtain ⟨g,rfl⟩:∃g,f=g+1:=⟨f-1,by omega⟩;refine ⟨L,?_,rfl,?_⟩
  ·rw[f0r];simp only[tfd];rw[if_neg (by omega),show k % 8=k by omega]
  ·rw[show k % 8=k by omega];exact hfill
 | succ m ih =>
  intro f k L hm hf hk hL hfill;obtain ⟨g,rfl⟩:∃g,f=g+1:=⟨f-1,by omega⟩;have hk8:8≤k:=by omega
  have hv:U / 10^(len-k)<18446744073709551616:=Nat.lt_of_le_of_lt (Nat.div_le_self _ _) hU;have hnext:U / 10^(len-(k-8))=U / 10^(len-k) / 100000000:=by
   rw[Nat.div_div_eq_div_mul,show len-(k-8)=len-k+8 by omega,Nat.pow_add]
  have hdig:∀i,i<k→U / 10^(len-1-(k-1-i))=U / 10^(len-k) / 10^i:=fun i hi=>dig_at U hk hi
  have IH:=fun L=>ih g (k-8) L (by omega) (by omega) (by omega)
  rw[hnext] at IH;generalize hvv:U / 10^(len-k)=v at *
  rw[f0r];simp only[tfd];rw[if_pos (by omega)];have e1:IntKind.wrap .u32 (Int.tmod (v:Int) (100000000:Int))=((v % 100000000:Nat):Int):=by rw[tm8,wu32 (by omega)]
  rw[e1];generalize hx:v % 100000000=x;have hx8:x<100000000:=by omega
  have e2:IntKind.wrap .u32 (Int.tdiv (x:Int) (10000:Int))=((x / 10000:Nat):Int):=by rw[x1k,wu32 (by omega)]
  rw[x1h,e2];generalize hx10:x % 10000=x10;generalize hx32:x / 10000=x32;have e3:IntKind.wrap .u32 (Int.tdiv (x10:Int) (100:Int))=((x10 / 100:Nat):Int):=by rw[x1l,wu32 (by omega)]
  have e4:IntKind.wrap .u32 (Int.tdiv (x32:Int) (100:Int))=((x32 / 100:Nat):Int):=by rw[x1l,wu32 (by omega)]
  rw[e3,e4,tm100,tm100,td8,wu64 (x:=((v / 100000000:Nat):Int)) (by omega) (by omega)];have w1:=q0s (k:=k) (c:=1) (z:=1) rfl (by omega) (by omega);have w2:=q0s (k:=k) (c:=2) (z:=2) rfl (by omega) (by omega);have w3:=q0s (k:=k) (c:=3) (z:=3) rfl (by omega) (by omega);have w4:=q0s (k:=k) (c:=4) (z:=4) rfl (by omega) (by omega);have w5:=q0s (k:=k) (c:=5) (z:=5) rfl (by omega) (by omega);have w6:=q0s (k:=k) (c:=6) (z:=6) rfl (by omega) (by omega);have w7:=q0s (k:=k) (c:=7) (z:=7) rfl (by omega) (by omega);have w8:=q0s (k:=k) (c:=8) (z:=8) rfl (by omega) (by omega)
  simp only[w1,w2,w3,w4,w5,w6,w7,w8,Int.toNat_natCast];rw[d0x (sm_lo (x:=x10 % 100) (by omega)),d0x (sm_hi (x:=x10 % 100) (by omega))];rw[a0k (p0p (by omega) (by first | omega | (simp only[List.length_set];omega))),a0k (m0l (by first | omega | (simp only[List.length_set];omega)))];rw[a0k (p0p (by omega) (by first | omega | (simp only[List.length_set];omega))),a0k (m0l (by first | omega | (simp only[List.length_set];omega)))];rw[d0x (sm_lo (x:=x10 / 100) (by omega)),d0x (sm_hi (x:=x10 / 100) (by omega))]
  rw[a0k (p0p (by omega) (by first | omega | (simp only[List.length_set];omega))),a0k (m0l (by first | omega | (simp only[List.length_set];omega)))];rw[a0k (p0p (by omega) (by first | omega | (simp only[List.length_set];omega))),a0k (m0l (by first | omega | (simp only[List.length_set];omega)))];rw[d0x (sm_lo (x:=x32 % 100) (by omega)),d0x (sm_hi (x:=x32 % 100) (by omega))];rw[a0k (p0p (by omega) (by first | omega | (simp only[List.length_set];omega))),a0k (m0l (by first | omega | (simp only[List.length_set];omega)))]
  rw[a0k (p0p (by omega) (by first | omega | (simp only[List.length_set];omega))),a0k (m0l (by first | omega | (simp only[List.length_set];omega)))];rw[d0x (sm_lo (x:=x32 / 100) (by omega)),d0x (sm_hi (x:=x32 / 100) (by omega))];rw[a0k (p0p (by omega) (by first | omega | (simp only[List.length_set];omega))),a0k (m0l (by first | omega | (simp only[List.length_set];omega)))];rw[a0k (p0p (by omega) (by first | omega | (simp only[List.length_set];omega))),a0k (m0l (by first | omega | (simp only[List.length_set];omega)))]
  simp only[Nat.zero_add];rw[u8d (d:=x10 % 100 % 10) (by omega),u8d (d:=x10 % 100 / 10) (by omega),u8d (d:=x10 / 100 % 10) (by omega),u8d (d:=x10 / 100 / 10) (by omega),u8d (d:=x32 % 100 % 10) (by omega),u8d (d:=x32 % 100 / 10) (by omega),u8d (d:=x32 / 100 % 10) (by omega),u8d (d:=x32 / 100 / 10) (by omega)]
  obtain ⟨L',h1,h2,h3⟩:=IH ((((((((L.set (k-1) ((48+x10 % 100 % 10:Nat):Int)).set (k-2) ((48+x10 % 100 / 10:Nat):Int)).set (k-3) ((48+x10 / 100 % 10:Nat):Int)).set (k-4) ((48+x10 / 100 / 10:Nat):Int)).set (k-5) ((48+x32 % 100 % 10:Nat):Int)).set (k-6) ((48+x32 % 100 / 10:Nat):Int)).set (k-7) ((48+x32 / 100 % 10:Nat):Int)).set (k-8) ((48+x32 / 100 / 10:Nat):Int)) (by simp only[List.length_set];exact hL) (fun j hj hj2=>by
   by_cases hjk:k≤j
   ·repeat rw[List.getElem?_set_ne (by omega)]
    exact hfill j hjk hj2
   ·have hc:j=k-1∨j=k-2∨j=k-3∨j=k-4∨j=k-5∨j=k-6∨j=k-7∨j=k-8:=by omega
    rcases hc with hc | hc | hc | hc | hc | hc | hc | hc
    ·rw[hc,show U / 10^(len-1-(k-1))=v / 10^0 by have:=hdig 0 (by omega);rwa [show k-1-0=k-1 by omega] at this,List.getElem?_set_ne (by omega),List.getElem?_set_ne (by omega),List.getElem?_set_ne (by omega),List.getElem?_set_ne (by omega),List.getElem?_set_ne (by omega),List.getElem?_set_ne (by omega),List.getElem?_set_ne (by omega),List.getElem?_set_self (by first | omega | (simp only[List.length_set];omega))];congr 2;simp only[Nat.reducePow];omega
    ·rw[hc,show U / 10^(len-1-(k-2))=v / 10^1 by have:=hdig 1 (by omega);rwa [show k-1-1=k-2 by omega] at this,List.getElem?_set_ne (by omega),List.getElem?_set_ne (by omega),List.getElem?_set_ne (by omega),List.getElem?_set_ne (by omega),List.getElem?_set_ne (by omega),List.getElem?_set_ne (by omega),List.getElem?_set_self (by first | omega | (simp only[List.length_set];omega))];congr 2;simp only[Nat.reducePow];omega
    ·rw[hc,show U / 10^(len-1-(k-3))=v / 10^2 by have:=hdig 2 (by omega);rwa [show k-1-2=k-3 by omega] at this,List.getElem?_set_ne (by omega),List.getElem?_set_ne (by omega),List.getElem?_set_ne (by omega),List.getElem?_set_ne (by omega),List.getElem?_set_ne (by omega),List.getElem?_set_self (by first | omega | (simp only[List.length_set];omega))];congr 2;simp only[Nat.reducePow];omega
    ·rw[hc,show U / 10^(len-1-(k-4))=v / 10^3 by have:=hdig 3 (by omega);rwa [show k-1-3=k-4 by omega] at this,List.getElem?_set_ne (by omega),List.getElem?_set_ne (by omega),List.getElem?_set_ne (by omega),List.getElem?_set_ne (by omega),List.getElem?_set_self (by first | omega | (simp only[List.length_set];omega))];congr 2;simp only[Nat.reducePow];omega
    ·rw[hc,show U / 10^(len-1-(k-5))=v / 10^4 by have:=hdig 4 (by omega);rwa [show k-1-4=k-5 by omega] at this,List.getElem?_set_ne (by omega),List.getElem?_set_ne (by omega),List.getElem?_set_ne (by omega),List.getElem?_set_self (by first | omega | (simp only[List.length_set];omega))];congr 2;simp only[Nat.reducePow];omega
    ·rw[hc,show U / 10^(len-1-(k-6))=v / 10^5 by have:=hdig 5 (by omega);rwa [show k-1-5=k-6 by omega] at this,List.getElem?_set_ne (by omega),List.getElem?_set_ne (by omega),List.getElem?_set_self (by first | omega | (simp only[List.length_set];omega))];congr 2;simp only[Nat.reducePow];omega
    ·rw[hc,show U / 10^(len-1-(k-7))=v / 10^6 by have:=hdig 6 (by omega);rwa [show k-1-6=k-7 by omega] at this,List.getElem?_set_ne (by omega),List.getElem?_set_self (by first | omega | (simp only[List.length_set];omega))];congr 2;simp only[Nat.reducePow];omega
    ·rw[hc,show U / 10^(len-1-(k-8))=v / 10^7 by have:=hdig 7 (by omega);rwa [show k-1-7=k-8 by omega] at this,List.getElem?_set_self (by first | omega | (simp only[List.length_set];omega))]
     congr 2;simp only[Nat.reducePow];omega)
  refine ⟨L',?_,by rw[h2];simp only[List.length_set],?_⟩
  ·rw[show k % 8=(k-8) % 8 by omega];exact h1
  ·rw[show k % 8=(k-8) % 8 by omega];exact h3
theorem shr64 (v k:Nat) (hk:k≤64):shrI .i64 (v:Int) (k:Int)=((v / 2^k:Nat):Int):=shrN v k hk
theorem pow10_at {t:Nat} (h:t<20):at? ((1:Int)::((10:Int)::((100:Int)::((1000:Int)::((10000:Int)::((100000:Int)::((1000000:Int)::((10000000:Int)::((100000000:Int)::((1000000000:Int)::((10000000000:Int)::((100000000000:Int)::((1000000000000:Int)::((10000000000000:Int)::((100000000000000:Int)::((1000000000000000:Int)::((10000000000000000:Int)::((100000000000000000:Int)::((1000000000000000000:Int)::((10000000000000000000:Int)::[])))))))))))))))))))) (t:Int)=some ((10^t:Nat):Int):=by
 have:=List.all_eq_true.1 (show ((List.range 20).all fun t=>decide (at? ((1:Int)::((10:Int)::((100:Int)::((1000:Int)::((10000:Int)::((100000:Int)::((1000000:Int)::((10000000:Int)::((100000000:Int)::((1000000000:Int)::((10000000000:Int)::((100000000000:Int)::((1000000000000:Int)::((10000000000000:Int)::((100000000000000:Int)::((1000000000000000:Int)::((10000000000000000:Int)::((100000000000000000:Int)::((1000000000000000000:Int)::((10000000000000000000:Int)::[])))))))))))))))))))) (t:Int)=some ((10^t:Nat):Int)))=true by decide +kernel) t (List.mem_range.2 h);exact of_decide_eq_true this
theorem g1q (n:Nat) {u:Nat} (h0:0<u) (h:u<18446744073709551616):h0f (n+2) (u:Int)=some ((ndg u:Nat):Int):=by
 have hb:=(s0i 64 u h).2.2;have hl:=z1y hb;rw[q0u,z1z n h,obs,q0v,obs];have e:shrI .i64 (IntKind.wrap .i64 (((bl 64 u:Nat):Int)*(78913:Int))) (18:Int)=((lgt (bl 64 u):Nat):Int):=by
  rw[show ((bl 64 u:Nat):Int)*(78913:Int)=((bl 64 u*78913:Nat):Int) by omega,w64 (by omega) (by omega),show (18:Int)=((18:Nat):Int) from rfl,shr64 _ _ (by omega)];rfl
 rw[e,pow10_at hl,obs,q0w,tfd,z1o h0 h];by_cases hle:10^lgt (bl 64 u)≤u
 ·rw[if_pos (by exact_mod_cast hle),if_pos hle,obs,w64 (by omega) (by omega)];rfl
 ·rw[if_neg (fun k=>hle (by exact_mod_cast k)),if_neg hle,obs,w64 (by omega) (by omega)];rfl
theorem y1a (n:Nat):((List.range 100).all fun x=>match j0h (n+1) (x:Int) with | some r=>decide (r=toB (decI x)) | none=>false)=true:=by kernel_rfl
theorem x1z (n:Nat) {x:Nat} (h:x<100):j0h (n+1) (x:Int)=some (toB (decI x)):=by
 have:=List.all_eq_true.1 (y1a n) x (List.mem_range.2 h);cases hs:j0h (n+1) (x:Int) with
 | none=>simp only[hs] at this;cases this
 | some r=>simp only[hs,decide_eq_true_eq] at this;rw[this]
end Go.Proofs.YtjionkknnajjgaaGreatDoor
